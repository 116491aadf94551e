/- SailNoOthers holds of the given program, for every book and step. -/
import Derived.Test.YtiffpgohclmlmaaGreatDoorZv
import Derived.LaidMore
import Derived.Conc.LeavingOf
import Derived.Deep.SlicePairs
import Derived.Deep.Strs
import Derived.OpenShut
import Derived.Test.YtiffpgohclmlmaaGreatDoorTie
import Derived.Test.YtiffpgohclmlmaaGreatDoorCards
set_option maxRecDepth 100000
set_option maxHeartbeats 4000000
set_option linter.all false
noncomputable section
open Go renaming World->Cl,undef->D,World->H,execOp->Hn,Frame->Kf,Oper->Kp,TypeId->Lk,stepG->Lq,Value->M,Calls->PH,Program->Ps,Goroutine->QP,heap_alloc_old->QR,heap_alloc_new->Sp,resolve->ab,Operand->ae,MemOp->al,yielded->aw,FuncId->ba,bodyPost_ret->bd
open Go.Proofs.Tryz renaming prog->F,prog->Hb
open Go.RowKit renaming Below->Hd,Below->X
open Option renaming none->I,some->Y
namespace Go
def pD{p:Prop}(h:p:=by
 first|have _:=ø;(rcases hp h with c|⟨a,J,r,n,K,L,S,T,U,V,c,a3,G⟩)|have _:=å;(rcases open_slice Tryz.underlying29 h with⟨c,-⟩|⟨a,J,r,m,n,D,a5,c, -, a3, -, Q, -, G⟩)|(rcases open_slice1 Tryz.underlying24 kr h with⟨c,-⟩|⟨a,J,r,m,n,b1,D,a5,c, -, a3, -, Q, -, G⟩)
 .simp only[np,lL,and_true]at c;exact⟨[],⟨c.2.1,qT _,qT _,λh=>mi h (dj 0)⟩,J9 g λa u=>by rw[c.1]at u;cases u⟩
 .simp only[np,lL,and_true]at c;obtain⟨O,rfl,rfl⟩:=c;obtain⟨w,P, -,-⟩:=g a O
  first
  |have _:=ø
   have f:∀i,i<s.n->∃z d:Int,W (a.block,a.off+i*2)=Y (.int .i64 z)/\W (a.block,a.off+i*2+1)=Y (.int .i64 d):=λi hi=>by
    obtain⟨h2,a1,y,a6⟩:=G i zz;obtain⟨z,A, -,-⟩:=DataW.trod_int Tryz.underlying3 y;obtain⟨d,a2, -,-⟩:=DataW.trod_int Tryz.underlying3 a6;simp only[np,and_true]at A a2;rw[xe w,A]at h2;rw[xe w,a2]at a1;exact⟨z,d,h2,a1⟩
   refine⟨(List.range s.n).map λi=>(Fh (W.cell? ⟨a.block,a.off+i*2,I⟩),Fh (W.cell? ⟨a.block,a.off+i*2+1,I⟩)),⟨by simp,by simpa using E,by simp;omega,λ_=>⟨a.block,a.off,?_,tA.1 P,λk hk=>?_⟩⟩,J9 g λN u j C=>?_⟩
  |have _:=æ
   simp only[if_true]at Q;have f:∀i,i<s.n->∃z:Int,W (a.block,a.off+i)=Y (.int .i64 z):=λi hi=>by
    obtain⟨h2,y⟩:=G i zz;obtain⟨z,A, -,-⟩:=DataW.trod_int Tryz.underlying3 y;simp only[np,and_true]at A;rw[xe w,A]at h2;exact⟨z,h2⟩
   refine⟨(List.range s.n).map λi=>Fh (W.cell? ⟨a.block,a.off+i,I⟩),⟨by simp,by simpa using E,by simp;omega,λ_=>⟨a.block,a.off,?_,tA.1 P,λk hk=>?_⟩⟩,J9 g λN u j C=>?_⟩
  |simp only[if_true]at Q
   have a9:F.cellsOf 77=3:=by kernel_rfl
   have a7:F.cellsOf 3=1:=by kernel_rfl
   have a8:F.cellsOf 4=1:=by kernel_rfl
   have f:∀i,i<s.n->∃(z d:Int) (q:Bool),W (a.block,a.off+i*3)=Y (.int .i64 z)/\W (a.block,a.off+i*3+1)=Y (.int .i64 d)/\W (a.block,a.off+i*3+2)=Y (.bool q):=λi hi=>by
    obtain⟨dp,h2,y⟩:=G i zz;rw[a9]at h2;obtain⟨-, a0,B⟩:=Cl.cells?_some h2;obtain⟨y0,y1,y2,k, -, -, Z,g1,g2⟩:=trod_struct3 Tryz.underlying77 y
    match dp,a0,B with
    | [c0,c1,c2],_,B=>
     simp only[a7,a8,List.drop_zero,List.drop_succ_cons,List.take_succ_cons,List.take_zero]at Z g1 g2;obtain⟨z0,q0, -,-⟩:=DataW.trod_int Tryz.underlying3 Z;obtain⟨z1,q1, -,-⟩:=DataW.trod_int Tryz.underlying3 g1;obtain⟨z2,q2,-⟩:=DataW.trod_bool Tryz.underlying4 g2;simp only[np,and_true]at q0 q1 q2;subst q0 q1 q2;have k0:=B 0 zz;have k1:=B 1 zz;have k2:=B 2 zz;rw[xe w]at k0 k1 k2;exact⟨z0,z1,z2,k0,k1,k2⟩
   refine⟨(List.range s.n).map λi=>(Fh (W.cell? ⟨a.block,a.off+i*3,I⟩),Fh (W.cell? ⟨a.block,a.off+i*3+1,I⟩),VW (W.cell? ⟨a.block,a.off+i*3+2,I⟩)),⟨by simp,by simpa using E,by simp;omega,λ_=>⟨a.block,a.off,?_,tA.1 P,λk hk=>?_⟩⟩,J9 g λN u j C=>?_⟩
  .rw[O];obtain⟨b2,b3,b4⟩:=a;simp only at w;rw[w]
  .have v:k<s.n:=by simpa using hk
   first|have _:=ø;obtain⟨z,d,b,o⟩:=f k v;simp[List.getD,v,b,o,Fh]|have _:=å;obtain⟨z,d,q,b,o,R⟩:=f k v;simp[List.getD,v,b,o,R,Fh,VW]|obtain⟨z,b⟩:=f k v;simp[List.getD,v,b,Fh]
  .obtain rfl:a=N:=km (O.symm.tn u)
   first
   |have _:=æ
    obtain⟨z,b⟩:=f j (by simpa using C);exact⟨_,b,cR _ _⟩
   |have _:=ø
    have a':j<s.n*2:=by simpa using C
    obtain⟨z,d,b,o⟩:=f (j/2) zz;rcases(show j=j/2*2\/j=j/2*2+1 from zz)with e|e
    .rw[e];exact⟨_,b,cR _ _⟩
    .rw[e];exact⟨_,o,cR _ _⟩
   |have a':j<s.n*3:=by simpa using C
    obtain⟨z,d,q,b,o,R⟩:=f (j/3) zz;rcases(show j=j/3*3\/j=j/3*3+1\/j=j/3*3+2 from zz)with e|e|e
    .rw[e];exact⟨_,b,cR _ _⟩
    .rw[e];exact⟨_,o,cR _ _⟩
    .rw[e];exact⟨_,R,sN _⟩):p:=h
def dE{p:Prop}(h:p:=by exact WalkE.enter rfl (az rfl rfl zz rfl) hk (λbj=>(kJ rfl ss rfl λ_=>⟨rfl,rfl⟩).1) (λbj=>(kJ (args:= #[]) rfl ss rfl λ_=>⟨rfl,rfl⟩).2) (next _ rfl)):p:=h
def dA{p:Prop}(h:p:=by
 have hk:=Ca 3;refine WalkE.reg rfl (wss ?_);exact dE):p:=h
def xa{p:Prop}(h:p:=by
 have n:=(List.getElem?_eq_some_iff.1 e).1;refine⟨h.1,h.2.1,h.2.2.1,λi=>?_⟩;obtain⟨b,off,d,m,hc⟩:=h.2.2.2 i;first|have _:=ø;have g:jz s (l.length*2)=(b,off,l.length*2):=by unfold jz;rw[d]|have _:=å;have g:jz s (l.length*3)=(b,off,l.length*3):=by unfold jz;rw[d]|have g:jz s l.length=(b,off,l.length):=by unfold jz;rw[d]
 rw[g]at e;refine⟨w.heap.size+j,0,by unfold MH;rw[d];rfl,by rw[qK];omega,λk hk=>?_⟩;rw[kx];first|have _:=ø;exact⟨(nZ e (f _ d).2 (by show k*2<l.length*2;omega) c a).tn (hc k hk).1,(nZ e (f _ d).2 (by show k*2+1<l.length*2;omega) c a).tn (hc k hk).2⟩|have _:=å;exact⟨(nZ e (f _ d).2 (by show k*3<l.length*3;omega) c a).tn (hc k hk).1,(nZ e (f _ d).2 (by show k*3+1<l.length*3;omega) c a).tn (hc k hk).2.1,(nZ e (f _ d).2 (by show k*3+2<l.length*3;omega) c a).tn (hc k hk).2.2⟩|exact(nZ e (f _ d).2 hk c a).tn (hc k hk)):p:=h
def tw{p:Prop}(h:p:=by
 have hk:=Ca 3;refine WalkE.reg rfl ?_;refine wss ?_;exact WalkE.aT (next _ (λi hi=>QA) rfl)):p:=h
def xaS{p:Prop}(h:p:=by
 refine⟨h.1,h.2.1,h.2.2.1,λe=>?_⟩;obtain⟨a,off,f,j,hc⟩:=h.2.2.2 e;have d:=(g _ f).2.1;first|have _:=ø;have b:=λk c=>i.intro (aV (hk a d) (hc k c).1) (aV (hk a d) (hc k c).2);exact⟨a,off,f,wY (b 0 e).1,b⟩|have _:=å;have b:=λk c=>i.intro (aV (hk a d) (hc k c).1) (i.intro (aV (hk a d) (hc k c).2.1) (aV (hk a d) (hc k c).2.2));exact⟨a,off,f,wY (b 0 e).1,b⟩|have b:=λk c=>aV (hk a d) (hc k c);exact⟨a,off,f,wY (b 0 e),b⟩):p:=h
def vP{p:Prop}(h:p:=by
 obtain⟨⟨u,K, -, V⟩,L⟩:=QC hc o y;rw[K]at m;dsimp only at m
 first
 |have _:=ø
  subst m;obtain⟨q,-⟩:=V d;rw[qWB rfl]at q;refine TS k j hc A G e1 z λf1 w1 h=>abW (r:=9) (PP:=λ_ B=>B=bI) h hc y o K (λw k j=>(TT b l p w k j hc L d (M0 hc o d)).mono λe w' ⟨B,s,n,N⟩=>?_) λf2 w2 g B h e6 a2 a3 a4 T i t hB=>?_
  .rw[q]at s n;exact⟨_,s,B,rfl,N,λ_ _=>n⟩
  .subst hB;exact IA h zz (ac3 h d) λf3 w3 v k3 h=>IA h zz (adg qM qM) λP w4 x k4 h=>Dc ⟨rfl,P,rfl,g,qM,qM,qM,T,blk (blk i v) x,qM⟩
 |obtain⟨q,J⟩:=V d
  rw[qVB m]at q;obtain⟨J,a6⟩:=J m;obtain⟨t1,t2,t3,t4,t5,t6,t7,t8,t9,b1,Z⟩:=cS (bP hc).1;have a7:l.C.length<=12:=by have:=uO Z zz;omega
  have a8:(l.C++[(p:Int)]).Nodup:=by
   rw[List.nodup_append];exact⟨(M1 Z).2.imp λh=>zz,by simp,λa a5 c S e=>by
    rw[q8A]at S;subst S;exact d (e▸a5)⟩
  refine TS k j hc A G e1 z λf1 w1 h=>abW (r:=0) (PP:=λa1 B=>(∃C U E W:Sl,B= {b with C:=C,U:=U,E:=E,W:=W})/\aI a1 B (iY l p)) h hc y o K (λw k j=>(TT b l p w k j hc L d (M0 hc o d)).mono λe w' ⟨B,s,n,N⟩=>?_) λf2 w2 g B h e6 a2 a3 a4 T i t hB=>?_
  .rw[q]at s n;rw[qWB rfl]at n;exact⟨_,s,B,rfl,N,λa1 hk=>⟨n.1,(l5.stay n.2 hk _ _).book⟩⟩
  .refine IA h zz (ac3 h d) λf3 w3 v k3 h=>?_;have i:=blk i v;have R:=hB.2.below v;refine IA h zz (adh h a8 a7 m qM qM qM i ⟨hB.1,R⟩) λP w4 x k4 h=>IA h zz (adO qM) λf5 w5 Q k5 h=>?_;obtain⟨⟨C,U,E,W,rfl⟩,-⟩:=hB;have i:=blk (blk i x) Q;have a9:cP ({b with C:=C,U:=U,E:=E,W:=W}:aC) (iY l p) (ax (p:Int) 0 (b.S-1))=0:=by rw[L];exact a6
   have a':vH ({b with C:=C,U:=U,E:=E,W:=W}:aC) (iY l p) p=(2,0):=J;refine E5 h (adP (B:= {b with C:=C,U:=U,E:=E,W:=W}) h.ck i ((R.below x).below Q) a9 h.e5 qM) λf6 w6 a0 k6 h ⟨O,t⟩=>?_;rw[a']at O t;exact Dc ⟨rfl,f6,rfl,qM,qM,t,O⟩):p:=h
def wZ{p:Prop}(h:p:=by
 first|have _:=ø;refine WalkE.value v r u hk (λbj a=>?_) (λbj a e c=>?_) (by rw[q,cw m];exact next)|have z:=λbj (a:aH V w bj)=>Ml λi x hi=>bu a l (h i x hi);refine WalkE.value bk.v r u hk (λbj a=>?_) (λbj a e c=>?_) (by rw[q,cw m];exact next)
 .unfold Hn;simp only[s,y];first|have _:=å;simp[(z bj a).1]|have:=(h1 bj ad v (bu a l hc)).1;simp[this]
 .unfold Hn at c;simp only[s,y]at c;first|have _:=ø;have h2:=(h1 bj ad v (bu a l hc));simp[h2.1,h2.2]at c;subst c|have h2:=z bj a;simp[h2.1]at c;obtain⟨j,rfl⟩:=h2.2 e c
  exact⟨rfl,l,λh=>by cases h⟩):p:=h
def oO{p:Prop}(h:p:=by
 rcases iq k h with⟨j,h2⟩|⟨j,h2,l⟩
 first
 |have _:=ø
  .exact a.vv _ (d.see c c' s h2)
 |·omega
 .cases l;obtain rfl:c=N:=zz;rw[Nat.sub_self];first|have _:=ø;exact B|exact⟨A,t⟩):p:=h
def Z2{p:Prop}(h:p:=by
 generalize(fa n f).tmps=A at e;unfold results;simp[d,e]):p:=h
end Go
namespace Go.Proofs.YtiffpgohclmlmaaGreatDoor
open Go.RowKit Go.Co Go.Conc
variable{V V' O:Nat->Prop}{w bj:H}{x:Nat×Nat×Nat}{m j i n:Nat}{l d' ds:List Int}{T:gq}{a v a':M}{s' s:Sl}{κ:Nat->Kd}{Z:Ren}{e0:Lk}{ws:List (Nat×Nat×Nat)}{sh:Int}{main:Bool}{Stop:(Nat->Prop)->(Nat->Prop)->QP->H->Prop}{k:List Item}{cs:List Kf}{ops:Array Kp}{rest:List Nat}{o:Kp}{f:Nat->M}{fn:ba}{xs:Array ae}{ts:Array Lk}{args eQ:Array M}{bk:aC}
def jz(s:Sl)(m:Nat):Nat×Nat×Nat:=match s.A with|some a=>(a.block,a.off,m)|none=>(0,0,0)
def MH(N:Nat)(s:Sl):Sl:=⟨s.A.map λ_=>(N,0),s.n,s.c⟩
def jb(V:Nat->Prop)(w:H)(s:Sl)(m:Nat):Prop:=∀a,s.A=Y a->a.spot=I/\sr V w (a.block,a.off,m)
def _root_.Go.Co.sr.mono{V V':Nat->Prop}{w bj:Cl}{x:Nat×Nat×Nat}(h:sr V w x)(hV:∀x,V x->V' x)(hk:∀x,V x->bj.heap[x]?=w.heap[x]?):sr V' bj x:=
 ⟨hV _ h.1,let⟨c,e,z,h1,h2⟩:=h.2;⟨c,e,z,(hk _ h.1).tn h1,h2⟩⟩
def jb.mono{s:Sl}(h:jb V w s m)(c:∀x,V x->V' x)(hk:∀x,V x->bj.heap[x]?=w.heap[x]?):jb V' bj s m:=λa b=>⟨(h a b).1,(h a b).2.mono c hk⟩
def qJ(hB:Base TA V w e0)(h:jb V w s m):sr V w (jz s m):=by
 unfold jz
 cases b:s.A with
 | some a=>exact(h a b).2
 | none=>exact⟨hB.v0,let⟨c,z,x⟩:=hB.cells;⟨c,e0,z,x,λj d=>mi d (Nat.not_lt_zero _)⟩⟩
def nZ{i:Nat}(d:ws[j]?=Y x)(g:sr V w x)(hi:i<x.2.2)(h:Nat->Question->Nat)(a:Nat):(tp (wK TA V e0 w ws) h a).cell? ⟨w.heap.size+j,i,I⟩=w.cell? ⟨x.1,x.2.1+i,I⟩:=by
 obtain⟨-, c,e,z,hc,f⟩:=g;show(wK TA V e0 w ws).cell? _=_;unfold H.cell?;rw[IY d,IZ hc,hc];show(c.extract x.2.1 (x.2.1+x.2.2))[i]?=c[x.2.1+i]?;obtain⟨v,b,-⟩:=f i hi;have k:=(ec.1 b).1;rw[Array.getElem?_extract,qWB zz]
def qK(b:Nat->Question->Nat)(a:Nat):(tp (wK TA V e0 w ws) b a).heap.size=w.heap.size+ws.length:=qf
def EO(h:eC w s l)(f:jb V w s l.length)(e:ws[j]?=Y (jz s l.length))(c:Nat->Question->Nat)(a:Nat):eC (tp (wK TA V e0 w ws) c a) (MH (w.heap.size+j) s) l:=xa
def AV{l:List (Int×Int)}(h:bp w s l)(f:jb V w s (l.length*2))(e:ws[j]?=Y (jz s (l.length*2)))(c:Nat->Question->Nat)(a:Nat):bp (tp (wK TA V e0 w ws) c a) (MH (w.heap.size+j) s) l:=by
 have ø:=0;exact xa
def PZ{l:List (Int×Int×Bool)}(h:fL w s l)(f:jb V w s (l.length*3))(e:ws[j]?=Y (jz s (l.length*3)))(c:Nat->Question->Nat)(a:Nat):fL (tp (wK TA V e0 w ws) c a) (MH (w.heap.size+j) s) l:=by
 have å:=0;exact xa
def yV{hB:Base T V w e0}(d:jb V w s m)(c:ws[j]?=Y (jz s m)):VR (Bj hB ws) (.slice (MH (w.heap.size+j) s).A s.n s.c) (.slice s.A s.n s.c):=by
 unfold MH
 cases b:s.A with
 | none=>exact .nilSlice _ _
 | some a=>
  have e:jz s m=(a.block,a.off,m):=by unfold jz;rw[b]
  rw[e]at c;exact .slice _ _ ⟨rfl,(d a b).1,a.off,I0 c,by simp,rfl⟩
def mh(h:dJ TA V w)(hB:Base TA V w e0)(b:Nat->Question->Nat)(a:Nat):aD (tp (wK TA V e0 w ws) b a):=by
 obtain⟨k,h2,c,d,e,g⟩:=h.gw b a;have j:=hB.shown.lt;have f:∀i,(tp (wK TA V e0 w ws) b a).cell? ⟨0,i,I⟩=(tp (gw TA V e0 w) b a).cell? ⟨0,i,I⟩:=λi=>by
  show(wK TA V e0 w ws).cell? _=(gw TA V e0 w).cell? _;unfold H.cell?;rw[IX j]
 exact⟨by rw[qK];omega,(f _).tn h2,(f _).tn c,(f _).tn d,(f _).tn e,(f _).tn g⟩
structure uD(V:Nat->Prop)(w:H)(b:aC)(l:pK)(s:Sl)(d:List Int):Prop where
 at_:aI w b l
 dt:eC w s d
 C:jb V w b.C l.C.length
 U:jb V w b.U (l.U.length*2)
 E:jb V w b.E (l.E.length*2)
 W:jb V w b.W (l.W.length*3)
 D:jb V w s d.length
def mA(b:aC)(l:pK)(s:Sl)(d:List Int):List (Nat×Nat×Nat):=[jz b.C l.C.length,jz b.U (l.U.length*2),jz b.E (l.E.length*2),jz b.W (l.W.length*3),jz s d.length]
def bX(N:Nat)(b:aC):aC:= {b with C:=MH (N+0) b.C,U:=MH (N+1) b.U,E:=MH (N+2) b.E,W:=MH (N+3) b.W}
def sX(N:Nat)(s:Sl):Sl:=MH (N+4) s
def wY{a:Addr}(h:w.cell? a=Y v):a.block<w.heap.size:=by
 unfold H.cell? at h
 cases b:w.heap[a.block]? with
 | none=>rw[b]at h;simp at h
 | some o=>exact(ec.1 b).1
section
variable{b:aC}{l:pK}{d:List Int}
def jb.ints{l:List Int}(g:jb V w s l.length)(h:eC w s l)(hk:∀x,V x->bj.heap[x]?=w.heap[x]?):eC bj s l:=by
 refine⟨h.1,h.2.1,h.2.2.1,λb=>?_⟩;obtain⟨a,off,c,i,hc⟩:=h.2.2.2 b;have e:=(g _ c).2.1;have d:=λk f=>aV (hk a e) (hc k f);exact⟨a,off,c,wY (d 0 b),d⟩
def jb.pairs{l:List (Int×Int)}(g:jb V w s m)(h:bp w s l)(hk:∀x,V x->bj.heap[x]?=w.heap[x]?):bp bj s l:=by
 refine⟨h.1,h.2.1,h.2.2.1,λb=>?_⟩;obtain⟨a,off,c,i,hc⟩:=h.2.2.2 b;have d:=(g _ c).2.1;have e:=λk f=>And.intro (aV (hk a d) (hc k f).1) (aV (hk a d) (hc k f).2);exact⟨a,off,c,wY (e 0 b).1,e⟩
def jb.abd{l:List (Int×Int×Bool)}(hw:jb V w s m)(h:fL w s l)(hk:∀x,V x->bj.heap[x]?=w.heap[x]?):fL bj s l:=by
 refine⟨h.1,h.2.1,h.2.2.1,λh0=>?_⟩;obtain⟨bb,off,hA,hb,hc⟩:=h.2.2.2 h0;have hV:=(hw _ hA).2.1;have hc':=λk hk'=>And.intro (aV (hk bb hV) (hc k hk').1) (And.intro (aV (hk bb hV) (hc k hk').2.1) (aV (hk bb hV) (hc k hk').2.2));exact⟨bb,off,hA,wY (hc' 0 h0).1,hc'⟩
def uD.mono(h:uD V w b l s d)(a:∀x,V x->V' x)(hk:∀x,V x->bj.heap[x]?=w.heap[x]?):uD V' bj b l s d:=
 ⟨⟨h.C.ints h.at_.C hk,h.U.pairs h.at_.U hk,h.E.pairs h.at_.E hk,h.W.abd h.at_.W hk⟩,h.D.ints h.dt hk,h.C.mono a hk,h.U.mono a hk,h.E.mono a hk,h.W.mono a hk,h.D.mono a hk⟩
def uD.bH{bm bo:Nat->Prop}(h:uD V w b l s d)(a:dU V O w bm bo bj):uD bm bj b l s d:=h.mono a.vv a.rely.keep
def uD.okD(h:uD V w b l s d)(hB:Base TA V w e0)(c:jb V w s' d'.length):∀x∈mA b l s' d',sr V w x:=by
 intro x a;simp only[mA,dq,fp,or_false]at a;rcases a with rfl|rfl|rfl|rfl|rfl
 .exact qJ hB h.C
 .exact qJ hB h.U
 .exact qJ hB h.E
 .exact qJ hB h.W
 .exact qJ hB c
def uD.ok(h:uD V w b l s d)(hB:Base TA V w e0):∀x∈mA b l s d,sr V w x:=h.okD hB h.D
def uD.book(h:uD V w b l s d)(c:Nat->Question->Nat)(a:Nat):aI (tp (wK TA V e0 w (mA b l s' d')) c a) (bX w b) l:=
 ⟨EO h.at_.C h.C rfl c a,AV h.at_.U h.U rfl c a,AV h.at_.E h.E rfl c a,PZ h.at_.W h.W rfl c a⟩
def uD.lone(h:uD V w b l s d)(c:Nat->Question->Nat)(a:Nat):aI (tp (wK TA V e0 w (mA b l s d)) c a) (bX w b) l/\eC (tp (wK TA V e0 w (mA b l s d)) c a) (sX w s) d:=
 ⟨h.book c a,EO h.dt h.D rfl c a⟩
def uD.RH(h:uD V w b l s d){hB:Base T V w e0}:VR (Bj hB (mA b l s' d')) (bX w b).v b.v:=by
 refine .agg rfl λi x y a c=>?_
 match i,a,c with
 | 0,a,c|1,a,c|2,a,c|3,a,c|4,a,c|6,a,c|7,a,c|8,a,c|9,a,c=>cases a;cases c;exact .int _ _
 | 5,a,c=>cases a;cases c;exact yV h.C rfl
 | 10,a,c=>cases a;cases c;exact yV h.U rfl
 | 11,a,c=>cases a;cases c;exact yV h.E rfl
 | 12,a,c=>cases a;cases c;exact yV h.W rfl
end
section
variable{b:Kf}{n d:Nat}{l:pK}
def cr.Vf{R:M->H->Prop}(g:cr V O w)(C:uD V w bk l s ds)(q:ops[i]?=Y o)(r:o.op=.call {callee:=.value (.func fn),args:=xs,argTypes:=ts})(m:xs.map (fa n f).eval=eQ)(A:o.dst=Y d)(z:d<n)(J:Region.wanted o (aw ops (fa n f).tmps)=true)(hk:b.kind≠.early)
  (p:∀w,(callFunc fn eQ).run F w=.ok (.enter fn eQ) w/\(callFunc fn eQ).events F w #[]= #[])(B:TA.has fn=true)(G:TA.ret fn=.val)(y:∀e0 (hB:Base TA V w e0),KR (TA.kind fn) (Bj hB (mA bk l s ds)) args eQ)
  (hc:∀e0 (_:Base TA V w e0) L,PH F fn args (tp (wK TA V e0 w (mA bk l s ds)) L w.drawn) λe W=>∃v,e=.returned v/\R v W)
  (next:∀e0 (hB:Base TA V w e0) Z v W v' bj a c,R v W->VR Z v v'->ir TA F (w.heap.size+(mA bk l s ds).length) V O w (Bj hB (mA bk l s ds)) Z W bj a c->cr a c bj->dU V O w a c bj->WO main Stop a c b n (ah f d v') ops rest k cs bj):WO main Stop V O b n f ops (i::rest) k cs w:=by
 obtain⟨e0,hB⟩:=g.base;refine WalkE.enter q J hk (λbj=>(kJ r m rfl p).1) (λbj=>(kJ r m rfl p).2) ?_;refine NU (T:=TA) (I1 .skip) B (Sc (C.ok hB) g.cX) rfl (y e0 hB) (hc e0 hB) (λe W h=>⟨h.choose,h.choose_spec.1⟩) (λZ K u v' bj a c E t j=>?_);obtain⟨v,e1,x⟩:=E;cases e1;rw[G]at t;rw[Kf.finish_at];rw[show(ops[i]?).bind (·.dst)=Y d by rw[q];exact A,cw z];exact next e0 hB Z K u v' bj a c x t j (g.bH j.bH) j.bH
def cr.qL(j:cr V O w)(B:uD V w bk l s ds)(C:ops[i]?=Y o)(E:o.op=.call {callee:=.value (.func fn),args:=xs,argTypes:=ts})(q:xs.map (fa n f).eval=eQ)(y:o.dst=Y d)(x:d<n)(L:Region.wanted o (aw ops (fa n f).tmps)=true)(hk:b.kind≠.early)
  (t:∀w,(callFunc fn eQ).run F w=.ok (.enter fn eQ) w/\(callFunc fn eQ).events F w #[]= #[])(z:TA.has fn=true)(G:TA.ret fn=.val)(r:∀e0 (hB:Base TA V w e0),KR (TA.kind fn) (Bj hB (mA bk l s ds)) args eQ)
  (J:eR v)(hc:∀e0 (_:Base TA V w e0) g,PH F fn args (tp (wK TA V e0 w (mA bk l s ds)) g w.drawn) λe _=>e=.returned v)
  (next:∀bj a c,cr a c bj->dU V O w a c bj->WO main Stop a c b n (ah f d v) ops rest k cs bj):WO main Stop V O b n f ops (i::rest) k cs w:=
 j.Vf B (R:=λu _=>u=v) C E q y x L hk t z G r (λe0 hB g=>(hc e0 hB g).mono λe W h=>⟨v,h,rfl⟩) λe0 hB Z u W v' bj a c p K N m A=>by
  subst p;rw[J Z v' K];exact next bj a c m A
def acm{a b a' b':M}(e:dM Z (κ 0) a a')(f:dM Z (κ 1) b b'):KR κ Z #[a,b] #[a',b']:=⟨rfl,λi x y c d=>by
 match i,c,d with
 | 0,c,d=>cases c;cases d;exact e
 | 1,c,d=>cases c;cases d;exact f⟩
def vg(d:dM Z (κ 0) a a'):KR κ Z #[a] #[a']:=⟨rfl,λi x y b c=>by
 match i,b,c with
 | 0,b,c=>cases b;cases c;exact d⟩
end
variable{x:ae}{d d0 d1:Nat}{bm bo:Nat->Prop}{o0 o1:Kp}
section
variable{b:Kf}
def WalkE.pJ{t:Lk}(ad:Addr)(v:M)(h1:OneCell F t)(r:ops[i]?=Y o)(s:o.op=.load t x)(y:(fa n f).eval x=.pointer (Y ad))(l:V ad.block)(hc:w.cell? ad=Y v)(q:o.dst=Y d)(m:d<n)(u:Region.wanted o (aw ops (fa n f).tmps)=true)(hk:b.kind≠.early)
  (next:WO main Stop V O b n (ah f d v) ops rest k cs w):WO main Stop V O b n f ops (i::rest) k cs w:=by
 have ø:=0;exact wZ
theorem Rl{bk:aC}(b:o.op=.box 31 x)(a:(fa n f).eval x=bk.v):(Hn (fa n f).eval o).events F w #[]= #[]:=by
 unfold aC.v at a;unfold Hn;simp only[b,a];simp[go_sem]
end
theorem acU:OneCell F 24:=λw ad v h=>⟨by go_simp,by simp[go_sem,h]⟩
def Nk(V:Nat->Prop)(w:H)(s:Sl):Prop:=cM TA V w s 0
structure Um(V:Nat->Prop)(w:H)(b:aC):Prop where
 C:Nk V w b.C
 U:Nk V w b.U
 E:Nk V w b.E
 W:Nk V w b.W
section
variable{b:aC}
def Um.mono(h:Um V w b)(a:∀x,V x->V' x)(hk:∀x,V x->bj.heap[x]?=w.heap[x]?):Um V' bj b:=⟨cM.mono h.C a hk,cM.mono h.U a hk,cM.mono h.E a hk,cM.mono h.W a hk⟩
def Um.vr(h:Um V w b){hB:Base TA V w e0}:VR (gr hB) b.v b.v:=by
 have c:VR (gr hB) (.slice b.C.A b.C.n b.C.c) (.slice b.C.A b.C.n b.C.c):=jg (cM.flat h.C);have f:VR (gr hB) (.slice b.U.A b.U.n b.U.c) (.slice b.U.A b.U.n b.U.c):=jg (cM.flat h.U);have d:VR (gr hB) (.slice b.E.A b.E.n b.E.c) (.slice b.E.A b.E.n b.E.c):=jg (cM.flat h.E);have g:VR (gr hB) (.slice b.W.A b.W.n b.W.c) (.slice b.W.A b.W.n b.W.c):=jg (cM.flat h.W);refine .agg rfl λi x y a j=>?_;have e:Y x=Y y:=a.symm.tn j;cases e
 match i,a with
 | 0,a=>cases a;exact .int _ _
 | 1,a=>cases a;exact .int _ _
 | 2,a=>cases a;exact .int _ _
 | 3,a=>cases a;exact .int _ _
 | 4,a=>cases a;exact .int _ _
 | 5,a=>cases a;exact c
 | 6,a=>cases a;exact .int _ _
 | 7,a=>cases a;exact .int _ _
 | 8,a=>cases a;exact .int _ _
 | 9,a=>cases a;exact .int _ _
 | 10,a=>cases a;exact f
 | 11,a=>cases a;exact d
 | 12,a=>cases a;exact g
end
def Uo{w:H}{g:Nat}{b:aC}(h:aK w g 31 b):∀i v,(wE b)[i]?=Y v->w.cell? ⟨g,i,I⟩=Y v:=λi v a=>by
 unfold H.cell?;rw[h];exact a
section
variable{b:Kf}
end
variable{b:Kf}{l:pK}
structure Fg(V O:Nat->Prop)(w:H)(g:Nat)(b:aC):Prop where
 co:cr V O w
 gV:V g
 box:∀(i:Nat) v,(wE b)[i]?=Y v->w (g,i)=Y v
def Fg.bH{V O bm bo:Nat->Prop}{w bj:H}{g:Nat}{b:aC}(h:Fg V O w g b)(a:dU V O w bm bo bj):Fg bm bo bj g b:=
 ⟨h.co.bH a,a.vv _ h.gV,λi v c=>aV (a.rely.keep _ h.gV) (h.box i v c)⟩
def qS(V:Nat->Prop)(w:H)(b:aC)(l:pK):Prop:=uD V w b l iy []
def B9(w:H):eC w iy []:=⟨rfl,qN _,qT _,λh=>mi h (dj 0)⟩
def Gx(V:Nat->Prop)(w:H)(m:Nat):jb V w iy m:=λa b=>by cases b
def aaL{T:gq}{V0 O0 V O:Nat->Prop}{w0 w:H}{N:Nat}{ρ0:Ren}{W0:H}{g:Nat}{b b3:aC}(d:ir T F N V0 O0 w0 ρ0 ρ0 W0 w0 V0 O0)(n:W0.heap.size=N)(a:dU V0 O0 w0 V O w)(B:V g)(A:O g)(t:w0.heap.size<=g)(z:aK w g 31 b)(E:VR ρ0 b3.v b.v):
  ir T F N V0 O0 w0 ρ0 (ρ0.ext N g (N+1) false) (W0.alloc (aE b3 31)) w V O:=by
 have k:∀c x,ρ0 c=Y x->c<N:=λc x h=>n▸d.mem.dom c x h;have C:=d.mem.rely d.see a.rely;have y:=IP (n':=g) (n1:=N+1) (m:=false) k 0 zz;refine⟨⟨λc x h=>?_,λc c' s h=>?_,by rw[aa];omega,IQ k d.mem.sep λc c' s h=>qP (d.mem.cod c c' s h) t,λc o f=>?_,d.mem.tab⟩,NI,λc c' s h=>?_,λc c' s hc h=>?_,
  λx=>⟨λh=>(a.vo x h).imp id λq=>⟨h,q.1,q.2⟩,λh=>h.elim (a.vv x) (·.1)⟩,λx=>⟨λh=>(a.ov x h).imp id λq=>⟨q.1,h,q.2⟩,λh=>h.elim (a.oo x) (·.2.1)⟩,
  d.vb,a.rely.size,a.rely.tape,a.rely.os,a.rely.output,a.rely.keep,a.cX⟩
 .rw[aa];rcases iq k h with⟨j,h2⟩|⟨j,h2,l⟩<;>omega
 .rcases iq k h with⟨j,h2⟩|⟨j,h2,l⟩
  .exact qP (d.mem.cod c c' s h2) a.rely.size
  .cases l;have:=z.lt;omega
 .by_cases hc:c<N
  .rw[QR _ _ zz]at f;exact HR.mono NI C.hr c o f
  .have e:c=N:=by
    have:=(ec.1 f).1;rw[aa]at this;omega
   rw[e]at f|-;rw[<- n]at f;rw[Sp]at f;cases f;refine⟨g,0,_,y.1,z,?_,λh=>mi h (dj _)⟩;rw[show(ρ0.ext N g (N+1) false).cls N=false from y.2];refine .plain (.cells (λi v hi=>?_) λi _ _ h=>mi h (Nat.not_lt_zero _));obtain⟨J,hc⟩:=eH.cellsOf E;have u:b3.v.cells[i]?=Y v:=hi;have G:=(ec.1 u).1;have r:b.v.cells[i]?=Y b.v.cells[i]:=fi zz;exact⟨_,r,(hc i v _ u r).mono NI⟩
 .have ø:=0;exact oO
 .exact oO
section
variable{fn n r:Nat}{F:Func}
section
variable{K:List Item}
end
def XX(fn n r:Nat)(g:QP):Prop:=∃f k,g=G { (bs .normal fn).at (fa n f) k with mode:=.returning} []/\f r=.bool true
def Tx(hF:Hb.funcs[fn]?=Y F)(d:F.results= #[.tmp r])(i:r<n)(g:2≠fn){f:Nat->M}{k:List Item}(h:f r=.bool true)(w:H):Lq Hb true (G { (bs .normal fn).at (fa n f) k with mode:=.returning} []) w=.ended (.done (.bool true)) w #[]:=by
 have e:(fa n f).tmps[r]?=Y (.bool true):=by rw[ej i,h]
 have b:(results F (fa n f).tmps).run Hb w=.ok (.bool true) w:=by
  exact Z2
 have h2:(results F (fa n f).tmps).events Hb w #[]= #[]:=by
  exact Z2
 have c:(fa n f).defers=[]:=rfl;generalize fa n f=a at b h2 c|-;simp[c,G,Lq,unwind,doReturn,Kf.at,bs,hF,b,h2,seen,GStep.after,g];done
def Ie(fn n r:Nat)(c0:Kf):Prop:=∀(a c:Nat->Prop) (b:H),WalkE Hb true (λd _ e f=>XX fn n r e/\(∀x,a x->d x)/\aH a b f) a c (G (c0.finish (.bool true)) []) b
def MO(fn n r:Nat)(V:Nat->Prop)(w:H)(V' a:Nat->Prop)(g':QP)(w':H):Prop:=
 ∃c0,g'=G (Kf.enter Hb 5 #[] .normal) [c0]/\cr V' a w'/\(∀x,V x->V' x)/\aH V w w'/\Ie fn n r c0
def QB(hF:Hb.funcs[fn]?=Y F)(t:F.results= #[.tmp r])(A:r<n)(y:2≠fn){post:M->H->Prop}{J:Gh}{w:H}{fr:Kf}(o:Main J w)
  (walk:WalkE Hb true (MO fn n r (J.V 0) w) (J.V 0) (J.O 0) (G fr []) w)
  (v:∀w',aH (J.V 0) w w'->post (.bool true) w'):aQ fI Hb post (G fr []) J w:=by
 refine aQ.walk walk (λ_=>il) (λ_=>il) (λi P S V σ1 a d s hk=>?_);obtain⟨c0,rfl,l,e,B,m⟩:=a;have p:=l.mn o hk d s;obtain rfl:i=σ1.V 0:=funext λb=>propext (d b).symm;refine Rj p λσ2 O q L C=>?_;refine aQ.walk (m (σ2.V 0) (σ2.O 0) O) (λ_=>il) (λ_=>il) (λR Q T W Z a u U z=>?_);obtain⟨⟨f,k,rfl,j⟩,N,E⟩:=a;refine aQ.Zi (z.md.tn q.idle.md) λh K=>⟨_,Tx hF t A y j h,v h ?_⟩;have g:∀x,J.V 0 x->σ2.V 0 x:=λx c=>L x (e x c);exact((B.tn (C.mono e)).tn (E.mono g)).tn (K.mono λx c=>(u x).2 (N x (g x c)))
end
theorem WalkE.Ur{x:ae}{s z g off kk:Nat}(a:(ZK s)[kk]?=Y z)(m:ops[i]?=Y o)(c:o.op=.fieldAddr s x kk)(e:(fa n f).eval x=.pointer (Y (g,off)))(l:o.dst=Y d)(j:d<n)(p:Region.wanted o (aw ops (fa n f).tmps)=true)(hk:b.kind≠.early)
  (next:WO main Stop V O b n (ah f d (.pointer (Y (g,off+z)))) ops rest k cs w):WO main Stop V O b n f ops (i::rest) k cs w:=
 WalkE.pv _ m l j p hk (λbj=>TH c a e ⟨rfl⟩) (λbj=>by
  unfold Hn;simp only[c,e];unfold ZK at a;repeat' split at a
  .subst s;iterate 10 (rcases kk with _|kk; · cases a;simp[go_sem])
   cases a
  .subst s;iterate 3 (rcases kk with _|kk; · cases a;simp[go_sem])
   cases a
  .rename_i h;iterate 2 (rcases kk with _|kk; · cases a;rcases h with rfl|rfl|rfl|rfl|rfl<;>simp[go_sem])
   cases a
  .cases a) next
section
variable{b:aC}{N g:Nat}
def MM{κ:Nat->Kd}{Z:Ren}{n d:Nat}{f f':Nat->M}{v v':M}(h:KR κ Z (fa n f).tmps (fa n f').tmps)(c:dM Z (κ d) v v'):KR κ Z (fa n (ah f d v)).tmps (fa n (ah f' d v')).tmps:=by
 refine⟨by simp[fa],λi x y a b=>?_⟩;have hi:i<n:=by
  have:=(ec.1 a).1;simpa[fa]using this
 rw[ej hi]at a b;cases a;cases b;unfold ah;by_cases e:i=d
 .subst e;rw[qWB rfl,qWB rfl];exact c
 .rw[qVB e,qVB e];exact h.2 i _ _ (ej hi) (ej hi)
def Qv{l:pK}:ay (bX N b) l=ay b l:=rfl
def Qw:mX (bX N b)=mX b:=rfl
section
variable{T:gq}{P:Ps}{N:Nat}{V0 O0 V O:Nat->Prop}{w0 w W:H}{ρ0 Z:Ren}
def Ro{C:Array M}{t:Lk}{y:M}(c:ir T P N V0 O0 w0 ρ0 Z W w V O)(k:N<=g)(m:W.heap[g]?=Y (.cells C t (0,0)))(l:dM Z .addr (.pointer (Y (g,0))) y):∃g',y=.pointer (Y (g',0))/\V g'/\∀(i:Nat) (v:M),C[i]?=Y v->∃v',w (g',i)=Y v'/\VR Z v v':=by
 cases l with
 | @ptr _ j h=>
  obtain⟨-, h2,s,a,b,d⟩:=h;dsimp only at a b d;obtain rfl:=(c.mem.sep g _ s k a).1;obtain⟨o,s',q,e,f,n,-⟩:=c.mem.hr.plain m d;rw[a]at e;cases e;obtain⟨g',r,u⟩:=j;simp only at h2 b f;subst h2 b
  cases n with
  | @cells _ _ c' _ _ x hc p=>exact⟨g',by rw[kx],c.see _ _ _ a,λi v hi=>let⟨v',e1,e2⟩:=hc i v hi;⟨v',(show _=_ by unfold H.cell?;dsimp only;rw[f];rfl).tn e1,e2⟩⟩
end
section
variable{b:Kf}{n d:Nat}
def WalkE.adi{x:ae}{bk:aC}(h:∀(i:Nat) x,(wE bk)[i]?=Y x->w (g,i)=Y x)(l:V g)(r:ops[i]?=Y o)(s:o.op=.load 31 x)(y:(fa n f).eval x=.pointer (Y (g,0)))(q:o.dst=Y d)(m:d<n)(u:Region.wanted o (aw ops (fa n f).tmps)=true)(hk:b.kind≠.early)
  (next:WO main Stop V O b n (ah f d bk.v) ops rest k cs w):WO main Stop V O b n f ops (i::rest) k cs w:=by
 have å:=0;exact wZ
end
end
variable{K:List Item}{g p:Nat}{b:aC}
def ad8(b:f 9=(9:Int))(next:∀f',(∀i,i<23->f' i=f i)->f' 63=.bool true->WalkE F main Stop V O (G ((bs .normal 3).at (fa 230 f') (K)) cs) w):
  WalkE F main Stop V O (G ((bs .normal 3).at (fa 230 f) (.code (.region 9 ab2 false)::K)) cs) w:=tw
def adS(g:f 8=.slice I 0 0)(i:f 9=(9:Int))(next:∀f',f' 71=.bool true->WalkE F main Stop V O (G (Kf.enter F 5 #[] .normal) ((bs .normal 3).at (fa 230 f') (.inRegion Uq [8,9,10]::K)::cs)) w):
  WalkE F main Stop V O (G ((bs .normal 3).at (fa 230 f) (.code (.region 10 Uq false)::K)) cs) w:=dA
def adT(h:cr V O w)(hi:qS V w b l)(t:f 2=(g,0))(k:V g)(m:w (g,5)=Y (.slice b.C.A b.C.n b.C.c))(u:f 5=p)(n:(p:Int)∈l.C)
  (next:∀f' bj a c,cr a c bj->dU V O w a c bj->(∀i,i<23->f' i=f i)->f' 161=.bool true->WalkE F main Stop a c (G ((bs .normal 3).at (fa 230 f') (K)) cs) bj):
  WalkE F main Stop V O (G ((bs .normal 3).at (fa 230 f) (.code (.region 25 abh false)::K)) cs) w:=by
 have hk:=Ca 3;refine WalkE.reg rfl ?_;refine WalkE.Ur rfl rfl rfl pL rfl zz wnn hk ?_;refine WalkE.pJ ⟨g,0+5,I⟩ (.slice b.C.A b.C.n b.C.c) acU rfl rfl pL k (by rw[kx];exact m) rfl zz wnn hk ?_;refine wss ?_;refine cr.qL h hi rfl rfl (oh (Ls rfl) (Ls rfl)) rfl zz wnn hk (λ_=>⟨rfl,rfl⟩) rfl rfl (λe0 hB=>acm (yV hi.C rfl) (.int _ _)) (dQ _) (λe0 hB o=>(ze p (bX w.heap.size b).C l.C _ (hi.lone o w.drawn).1.C).mono λe W q=>by rw[decide_eq_true n]at q;exact q.1) λv s r j d=>?_;exact WalkE.aT (next _ _ _ _ j d (λi hi=>QA) rfl)
def adU(c:f 6=n)(d:f 10=(2:Int))(a:f 12=n)(b:f 21=(5:Int))(next:∀f',f' 173=.bool true->WalkE F main Stop V O (G (Kf.enter F 5 #[] .normal) ((bs .normal 3).at (fa 230 f') (.inRegion Ut [12,13,14]::K)::cs)) w):
  WalkE F main Stop V O (G ((bs .normal 3).at (fa 230 f) (.code (.region 26 Ut false)::K)) cs) w:=by
 have hk:=Ca 3;refine WalkE.reg rfl (wss ?_);refine WalkE.Hr true rfl rfl pL pL ss rfl zz wnn hk (wss ?_);exact dE
def adV(a:f 21=(9:Int))(next:∀f',(∀i,i<23->f' i=f i)->f' 198=.bool true->WalkE F main Stop V O (G ((bs .normal 3).at (fa 230 f') (K)) cs) w):
  WalkE F main Stop V O (G ((bs .normal 3).at (fa 230 f) (.code (.region 29 abk false)::K)) cs) w:=tw
def acH{Z:Ren}:VR Z bI.v bI.v:=.agg rfl λi x y a b=>by
 match i,a,b with
 | 0,a,b|1,a,b|2,a,b|3,a,b|4,a,b|6,a,b|7,a,b|8,a,b|9,a,b=>cases a;cases b;exact .int _ _
 | 5,a,b|10,a,b|11,a,b|12,a,b=>cases a;cases b;exact .nilSlice _ _
def adW(d:cr V O w)(r:f 6=n)(o:f 12=n)(p:f 20=(g,0))(j:V g)(k:∀(i:Nat) x,(wE bI)[i]?=Y x->w (g,i)=Y x)
  (next:∀f' bj a b,cr a b bj->dU V O w a b bj->f' 207=.bool true->WalkE F main Stop a b (G (Kf.enter F 5 #[] .normal) ((bs .normal 3).at (fa 230 f') (.inRegion Uu [9,10,11]::K)::cs)) bj):
  WalkE F main Stop V O (G ((bs .normal 3).at (fa 230 f) (.code (.region 30 Uu false)::K)) cs) w:=by
 have hk:=Ca 3;refine WalkE.reg rfl (wss ?_);refine WalkE.Hr true rfl rfl pL pL ss rfl zz wnn hk (wss ?_);refine WalkE.adi k j rfl rfl pL rfl zz (az rfl rfl zz rfl) hk ?_;refine WalkE.pv bI.v rfl rfl zz (az rfl rfl zz rfl) hk (λbj=>ac0 rfl) (λbj=>adb rfl) ?_;refine cr.jZ d rfl rfl (oh (Ls rfl) (Ls rfl)) rfl zz (az rfl rfl zz rfl) hk (λ_=>⟨rfl,rfl⟩) rfl rfl (λe0 hB=>acm acH acH) (dQ _) (λe0 t=>(Ov bI iy iy iy iy _ _ (TO _) (TO _)).mono λe W q=>q.1) λs m l h c=>?_;refine wss ?_;exact WalkE.enter rfl (az rfl rfl zz rfl) hk (λbj=>(kJ rfl ss rfl λ_=>⟨rfl,rfl⟩).1) (λbj=>(kJ (args:= #[]) rfl ss rfl λ_=>⟨rfl,rfl⟩).2) (next _ _ _ _ h c rfl)
def adX(c:f 6=n)(a:f 12=n)(b:f 21=(0:Int))(e:f 22=(2:Int))(next:∀f',f' 227=.bool true->WalkE F main Stop V O (G (Kf.enter F 5 #[] .normal) ((bs .normal 3).at (fa 230 f') (.inRegion Uv [12,13,14]::K)::cs)) w):
  WalkE F main Stop V O (G ((bs .normal 3).at (fa 230 f) (.code (.region 32 Uv false)::K)) cs) w:=by
 have hk:=Ca 3;refine WalkE.reg rfl (wss ?_);refine WalkE.Hr true rfl rfl pL pL ss rfl zz (az rfl rfl zz rfl) hk (wss ?_);exact dE
def acM(f:Nat->M)(h:f 71=true):Ie 3 230 4 ((bs .normal 3).at (fa 230 f) (.inRegion Uq [8,9,10]::.code .ret::K)):=λc b d=>by
 have hk:=Ca 3;rw[Kf.finish_at,show(Uq[8]?).bind (·.dst)=Y 72 from rfl,cw zz];refine wss ?_;exact WalkE.aT (WalkE.ret (WalkE.stop λe a=>⟨⟨_,_,rfl,rfl⟩,λ_=>id,a⟩))
def acN(f:Nat->M)(h:f 173=true):Ie 3 230 4 ((bs .normal 3).at (fa 230 f) (.inRegion Ut [12,13,14]::.code .ret::K)):=λc b d=>by
 have hk:=Ca 3;rw[Kf.finish_at,show(Ut[12]?).bind (·.dst)=Y 174 from rfl,cw zz];refine wss ?_;exact WalkE.aT (WalkE.ret (WalkE.stop λe a=>⟨⟨_,_,rfl,rfl⟩,λ_=>id,a⟩))
def acO(f:Nat->M)(h:f 207=true):Ie 3 230 4 ((bs .normal 3).at (fa 230 f) (.inRegion Uu [9,10,11]::.code .ret::K)):=λc b d=>by
 have hk:=Ca 3;rw[Kf.finish_at,show(Uu[9]?).bind (·.dst)=Y 208 from rfl,cw zz];refine wss ?_;exact WalkE.aT (WalkE.ret (WalkE.stop λe a=>⟨⟨_,_,rfl,rfl⟩,λ_=>id,a⟩))
def acP(f:Nat->M)(h:f 227=true):Ie 3 230 4 ((bs .normal 3).at (fa 230 f) (.inRegion Uv [12,13,14]::.code .ret::K)):=λc b d=>by
 have hk:=Ca 3;rw[Kf.finish_at,show(Uv[12]?).bind (·.dst)=Y 228 from rfl,cw zz];refine wss ?_;exact WalkE.aT (WalkE.ret (WalkE.stop λe a=>⟨⟨_,_,rfl,rfl⟩,λ_=>id,a⟩))
def acQ(f:Nat->M):Ie 3 230 4 ((bs .normal 3).at (fa 230 f) (.inRegion Yo [0,1]::.code .ret::K)):=λc b d=>by
 have hk:=Ca 3;rw[Kf.finish_at,show(Yo[0]?).bind (·.dst)=Y 26 from rfl,cw zz];exact WalkE.av (.bool true) rfl (.inr rfl) pL rfl zz wnn hk (WalkE.aT (WalkE.ret (WalkE.stop λe a=>⟨⟨_,_,rfl,rfl⟩,λ_=>id,a⟩)))
variable{stp:Int}
def E7(b:aC)(stp:Int):Array M:= #[b.v,.int .u8 stp]
def slN(b:aC)(stp:Int):Nat->M:=λi=>(E7 b stp).getD i D
def frN(s:Nat->M)(v:M)(g:Nat):Nat->M:=ah (ah (ah (ah (ah s 2 (.pointer (Y (g,0)))) 4 (.bool false)) 23 v) 24 (.bool true)) 25 (.bool false)
def aN:List Bool:=[false,false,false,false,true]
def bN:List Bool:=[false,false,false,false,true,true,false,false,false]
def cN:List Bool:=[false,false,false,false,true,true,false,false,false,true,true]
def dN:List Bool:=[false,false,false,false,true,true,false,false,false,true,true,true,false]
def adj:P5 (TR (RI 5 MZ)) F (xO 3) aN MZ=true:=xd
def adk:P5 (TR (RI 9 MZ)) F (xO 3) bN MZ=true:=xd
def adl:P5 (TR (RI 11 MZ)) F (xO 3) cN MZ=true:=xd
def adm:P5 (TR (RI 13 MZ)) F (xO 3) dN MZ=true:=xd
def acR{A:Option Addr}{n c:Nat}{v v':M}(h:VR Z (.slice A n c) v)(a:VR Z (.slice A n c) v'):v=v':=by
 cases h with
 | nilSlice=>cases a;rfl
 | @slice _ _ k _ _ m=>
  cases a with
  | @slice _ _ a2 _ _ h2=>
   obtain⟨-, b,s,d,f,-⟩:=m;obtain⟨-, g,z,i,j,-⟩:=h2;obtain⟨o,q,t⟩:=k;obtain⟨p,r,s2⟩:=a2;dsimp only at b g d f i j;have e:=d.symm.tn i;simp only[fg,Prod.mk.injEq]at e;obtain⟨e1,l⟩:=e;subst b g e1 l f j;rfl
def adn{b3 b:aC}{g g':Nat}(e:VR Z b3.v b.v)(d:Z g=Y (g',0)/\Z.cls g=false)(k:κ 2=.addr)(k0:κ 0=.val)(l:κ 23=.val):
  KR κ Z (fa 230 (frN (slN b3 stp) b3.v g)).tmps (fa 230 (frN (slN b stp) b.v g')).tmps:=by
 have j:dM Z .addr (.pointer (Y (g,0))) (.pointer (Y (g',0))):=.ptr ⟨rfl,rfl,0,d.1,rfl,d.2⟩;have f:KR κ Z (E7 b3 stp) (E7 b stp):=⟨rfl,λi x y a c=>by
  match i,a,c with
  | 0,a,c=>cases a;cases c;rw[k0];exact e
  | 1,a,c=>cases a;cases c;exact .int _ _⟩
 have h:KR κ Z (fa 230 (slN b3 stp)).tmps (fa 230 (slN b stp)).tmps:=by
  have:=NM f 230;rw[iu rfl,iu rfl]at this;exact this
 unfold frN;exact MM (MM (MM (MM (MM h (by rw[k];exact j)) (.bool _)) (by rw[l];exact e)) (.bool _)) (.bool _)
def sn{n i:Nat}{F f:Nat->M}(k:Kd)(h:KR κ Z (fa n F).tmps (fa n f).tmps)(e:F i=v)(hi:i<n:=by omega)(hk:κ i=k:=by kernel_rfl):dM Z k v (f i):=by
 have:=h.2 i _ _ (ej hi) (ej hi);rw[e,hk]at this;exact this
def Qx{L:List Bool}{E:Nat->(Nat->M)->H->Prop}(U:P5 (TR (RI L.length MZ)) F (xO 3) L MZ=true)(p:cr V O w)(hi:qS V w b l)
  (lone:∀(w0:H) (f:Nat->M),aI w0 (bX w b) l->aD w0->f 1=.int .u8 stp->f 2=(w0.heap.size,0)->nA F (P3 L MZ) (λ_ _=>False) (λa W=>a.defers=[]/\∃f,a.tmps=(fa 230 f).tmps/\E w0 f W) (fa 230 f) (w0.alloc (aE (bX w b) 31)))
  {bm bo:Nat->Prop}{bj:H}(Q:dU V O w bm bo bj)(K:bm g)(J:bo g)(R:w.heap.size<=g)(a2:aK bj g 31 b)
  (next:∀N w0 z Z o W f' i e d,VR z (.slice (bX w b).C.A (bX w b).C.n (bX w b).C.c) (.slice b.C.A b.C.n b.C.c)->E N o W->KR (xO 3) Z (fa 230 o).tmps (fa 230 f').tmps->ir (TR (RI L.length MZ)) F N V O w0 z Z W i e d->cr e d i->dU V O w e d i->WalkE F main Stop e d (G ((bs .normal 3).at (fa 230 f') [.code (RI L.length MZ)]) cs) i):
  WalkE F main Stop bm bo (G ((bs .normal 3).at (fa 230 (frN (slN b stp) b.v g)) [.code MZ]) cs) bj:=by
 obtain⟨e0,hB⟩:=p.base;have q:=Sc (T:=TR (RI L.length MZ)) (P:=F) (hB:=hB.tr) (O:=O) (hi.ok hB) p.cX;have t:=hi.RH (hB:=hB.tr (r:=RI L.length MZ)) (s':=iy) (d':=[]);have y:=yV (hB:=hB.tr (r:=RI L.length MZ)) (ws:=mA b l iy []) (j:=0) hi.C rfl;have hk:=λk B=>(hi.lone (e0:=e0) k B).1;generalize mA b l iy []=ws at q t hk y;have C:=aaL q qf Q K J R a2 t;have S:=IP (n':=g) (n1:=w.heap.size+ws.length+1) (m:=false) (λc x h=>by have:=q.mem.dom c x h;rw[qf]at this;exact this) 0 zz;refine aal (T:=TR (RI L.length MZ)) (Q1:=λtm W=>∃f,tm=(fa 230 f).tmps/\E (wK TA V e0 w ws).heap.size f W) (I1 _) (abV U rfl) C (adn (g:=w.heap.size+ws.length) (t.mono NI) S kr kr kr) (λk=>?_) λZ a4 A a3 i e d a1 v s=>?_
 .exact lone (tp (wK TA V e0 w ws) k ((wK TA V e0 w ws).alloc (aE (bX w.heap.size b) 31)).drawn) (frN (slN (bX w.heap.size b) stp) (bX w.heap.size b).v (w.heap.size+ws.length)) (hk k _) (mh p.checks hB k _) rfl (by rw[qK];rfl)
 .obtain⟨o,rfl,u⟩:=a1;rw[qf]at u;obtain⟨f',rfl,-⟩:=qd (n:=230) (by rw[<- v.1];simp[fa]);exact next _ _ _ _ o A f' i e d y u v s (p.bH s.bH) s.bH
variable{w0:H}
def Ea(_:Nat)(f:Nat->M)(_:H):Prop:=f 8=.slice I 0 0/\f 9=(9:Int)
def Eb(b:aC)(p n:Nat)(N:Nat)(f:Nat->M)(W:H):Prop:=f 2=(N,0)/\aK W N 31 b/\f 5=p/\f 6=n/\f 10=(2:Int)/\f 12=n/\f 21=(5:Int)
def Ec(n:Nat)(N:Nat)(f:Nat->M)(W:H):Prop:=∃g,f 6=n/\f 12=n/\f 20=(g,0)/\N<=g/\aK W g 31 bI/\f 21=(9:Int)
def Ed(n:Nat)(_:Nat)(f:Nat->M)(_:H):Prop:=f 6=n/\f 12=n/\f 21=(0:Int)/\f 22=(2:Int)
def ado(k:aI w0 b l)(j:aD w0)(hc:ay b l=0)(i:0<=stp/\stp<=255)(n:stp%b.S=p)(o:(p:Int)<b.S)(m:aJ b l b.D.toNat=[])(e1:f 1=.int .u8 stp)(c:f 2=(w0.heap.size,0)):
  nA F (P3 aN MZ) (λ_ _=>False) (λa W=>a.defers=[]/\∃f,a.tmps=(fa 230 f).tmps/\Ea w0 f W) (fa 230 f) (w0.alloc (aE b 31)):=by
 exact TS k j hc i n e1 c λf1 q h=>adR h hc o m λg r d e=>Dc ⟨rfl,g,rfl,d,e⟩
def adp(d:aI w0 b l)(c:aD w0)(hc:ay b l=0)(x:0<=stp/\stp<=255)(y:stp%b.S=p)(k:(p:Int)<b.S)(j:aJ b l b.D.toNat≠[])(i:(p:Int)∈l.C)(e1:f 1=.int .u8 stp)(r:f 2=(w0.heap.size,0)):
  nA F (P3 bN MZ) (λ_ _=>False) (λa W=>a.defers=[]/\∃f,a.tmps=(fa 230 f).tmps/\Eb b p (aJ b l b.D.toNat).length w0 f W) (fa 230 f) (w0.alloc (aE b 31)):=by
 obtain⟨⟨u,m,z,-⟩,A⟩:=QC hc k j;rw[z i]at m;exact TS d c hc x y e1 r λf1 J h=>abW (PP:=λ_ _=>True) h hc j k m (λw d c=>(abr b l p w d c hc A i).mono λe w' q=>⟨_,q.1,bI,rfl,q.2,λ_ _=>trivial⟩) λv K g B h t n o C G E s _=>Dc ⟨rfl,v,rfl,h.e2,h.bx,h.e5,t,n,o,s⟩
def adq(k:aI w0 b l)(j:aD w0)(hc:ay b l=0)(A:0<=stp/\stp<=255)(G:stp%b.S=p)(o:(p:Int)<b.S)(y:aJ b l b.D.toNat≠[])(d:(p:Int)∉l.C)(m:(vH b l p).1=1)(e1:f 1=.int .u8 stp)(z:f 2=(w0.heap.size,0)):
  nA F (P3 cN MZ) (λ_ _=>False) (λa W=>a.defers=[]/\∃f,a.tmps=(fa 230 f).tmps/\Ec (aJ b l b.D.toNat).length w0 f W) (fa 230 f) (w0.alloc (aE b 31)):=by
 have ø:=0;exact vP
def adr(k:aI w0 b l)(j:aD w0)(hc:ay b l=0)(A:0<=stp/\stp<=255)(G:stp%b.S=p)(o:(p:Int)<b.S)(y:aJ b l b.D.toNat≠[])(d:(p:Int)∉l.C)(m:(vH b l p).1≠1)(e1:f 1=.int .u8 stp)(z:f 2=(w0.heap.size,0)):
  nA F (P3 dN MZ) (λ_ _=>False) (λa W=>a.defers=[]/\∃f,a.tmps=(fa 230 f).tmps/\Ed (aJ b l b.D.toNat).length w0 f W) (fa 230 f) (w0.alloc (aE b 31)):=vP
def acS(b:aC)(stp:Int):Kf.enter F 3 (E7 b stp) .normal=(bs .normal 3).at (fa 230 (slN b stp)) [.code r7]:=by
 rw[enter_at (E7 b stp) Tryz.func3 rfl];have:E7 b stp++Array.replicate (Tryz.f3.ntmps-(E7 b stp).size) D=(Array.range 230).map (slN b stp):=iu rfl;rw[this];rfl
def UY:r7=.seq (.region 0 adw false) (.seq (.seq (.region 1 acW false) (.cond (.tmp 25) (.seq (.region 2 Yo false) .ret) .skip)) MZ):=rfl
def acT(y:cr V O w)(u:Um V w b)(Q:mX b=false->∃l,qS V w b l)
  (L:∀f' bj a c,cr a c bj->dU V O w a c bj->WalkE F main Stop a c (G (Kf.enter F 5 #[] .normal) ((bs .normal 3).at (fa 230 f') (.inRegion Yo [0,1]::[.code .ret,.code MZ])::cs)) bj)
  (N:∀l,qS V w b l->ay b l=0->∀bj a c g,cr a c bj->dU V O w a c bj->a g->c g->w.heap.size<=g->aK bj g 31 b->WalkE F main Stop a c (G ((bs .normal 3).at (fa 230 (frN (slN b stp) b.v g)) [.code MZ]) cs) bj):
  WalkE F main Stop V O (G (Kf.enter F 3 (E7 b stp) .normal) cs) w:=by
 have hk:=Ca 3;rw[acS,UY];refine WalkE.seq (WalkE.reg (l:=[0,1]) rfl (WalkE.oa (aE b 31) (λg=>.pointer (Y ⟨g,0,I⟩)) rfl rfl zz rfl hk (λbj _=>B8 rfl (ag (t:=0) zz rfl)) (λbj _ e h=>by rw[Rl rfl (ag (t:=0) zz rfl)]at h;simp at h) λm C=>?_));have d:=((dU.refl (O:=O) y.cX).step C).make (aE b 31);have o:aK (m.alloc (aE b 31)) m 31 b:=Sp _ _;have i:Fg _ _ _ m b:=⟨y.bH d,.inr rfl,Uo o⟩;have A:=C.size;generalize n:m.heap.size=g at d o i A|-;generalize(λx=>V x\/x=g)=V1 at d i|-;generalize(λx=>O x\/x=g)=O1 at d i|-;generalize m.alloc (aE b 31)=p at d o i|-;have u:=u.mono d.vv d.rely.keep;refine WalkE.av (.bool false) rfl (.inr rfl) rfl rfl zz wnn hk (WalkE.aT (WalkE.seq (WalkE.seq (WalkE.reg (l:=[0,1,2]) rfl (WalkE.dV i.box i.gV rfl rfl (ft rfl) rfl zz rfl hk ?_)))));have go:∀(q:Bool) bj a c,cr a c bj->dU V1 O1 p a c bj->(q=true->∃l,ay b l=0/\qS V w b l)->WalkE F main Stop a c (G ((bs .normal 3).at (fa 230 (ah (ah (ah (ah (slN b stp) 2 (.pointer (Y (g,0)))) 4 (.bool false)) 23 b.v) 24 (.bool q))) (.inRegion acW [2]::[.code (.cond (.tmp 25) (.seq (.region 2 Yo false) .ret) .skip),.code MZ])) cs) bj:=by
  intro q bj a c z j k;refine(WalkE.BS (!q) rfl rfl (ft rfl) rfl rfl zz wnn hk (WalkE.aT ?_));cases q
  .refine WalkE.cond (t:=true) (ft rfl) ?_;rw[qWB rfl];exact WalkE.seq (WalkE.reg (l:=[0,1]) rfl (WalkE.enter (f:=5) (args:= #[]) rfl wnn hk (λbj=>(kJ (args:= #[]) rfl ss rfl λ_=>⟨rfl,rfl⟩).1) (λbj=>(kJ (args:= #[]) rfl ss rfl λ_=>⟨rfl,rfl⟩).2) (L _ _ _ _ z (d.tn j))))
  .refine WalkE.cond (t:=false) (ft rfl) ?_;rw[qVB ss];obtain⟨l,P,h2⟩:=k rfl;have s:=i.bH j;exact WalkE.skip (N l h2 P bj a c g z (d.tn j) s.gV ((s.co.vo g).1 s.gV) A ((j.rely.keep g i.gV).tn o))
 cases n:mX b
 .obtain⟨l,B⟩:=Q n;have hi:=B.bH d;refine cr.qL (args:= #[(bX p.heap.size b).v]) (v:=.bool (ay b l==0)) i.co hi rfl rfl (mY (ft rfl)) rfl zz wnn hk (λ_=>⟨rfl,rfl⟩) rfl rfl (λe0 hB=>vg (by exact hi.RH)) (dQ _) (λe0 hB E=>(Qu (bX p.heap.size b) l _ (Qw.tn n) (hi.lone (e0:=e0) E p.drawn).1).mono λe W q=>by rw[Qv]at q;exact q.1) λR K J r j=>go _ _ _ _ r j λk=>⟨l,by simpa using k,B⟩
 .exact cr.jZ (args:= #[b.v]) (v:=.bool false) i.co rfl rfl (mY (ft rfl)) rfl zz wnn hk (λ_=>⟨rfl,rfl⟩) rfl rfl (λe0 hB=>jy (by exact u.vr)) (dQ _) (λe0 E=>(Qt b _ n).mono λe W q=>q.1) λR K J r j=>go _ _ _ _ r j λk=>by cases k
def acV{i:Nat}{x:M}(h:(wE bI)[i]?=Y x):x=.int .i64 0\/x=.slice I 0 0:=by
 match i,h with
 | 0,h|1,h|2,h|3,h|4,h|6,h|7,h|8,h|9,h=>cases h;exact .inl rfl
 | 5,h|10,h|11,h|12,h=>cases h;exact .inr rfl
def nr5:RI aN.length MZ=.seq (.seq (.region 9 ab2 false) (.cond (.tmp 63) (.seq (.region 10 Uq false) .ret) .skip)) (RI 6 MZ):=rfl
def nr9:RI bN.length MZ=.seq (.seq (.region 25 abh false) (.cond (.tmp 161) (.seq (.region 26 Ut false) .ret) .skip)) (RI 10 MZ):=rfl
def ad9:RI cN.length MZ=.seq (.seq (.region 29 abk false) (.cond (.tmp 198) (.seq (.region 30 Uu false) .ret) .skip)) (RI 12 MZ):=rfl
def aea:RI dN.length MZ=.seq (.region 32 Uv false) .ret:=rfl
def aaM{post:M->H->Prop}{J:Gh}{w:H}{b:aC}{stp:Int}(C:0<=stp/\stp<=255)(A:Main J w)(b6:Um (J.V 0) w b)
  (b8:mX b=false->∃l,qS (J.V 0) w b l)(b5:∀w',aH (J.V 0) w w'->post (.bool true) w'):aQ fI Hb post (G (Kf.enter Hb 3 (E7 b stp) .normal) []) J w:=by
 refine QB (n:=230) Tryz.func3 rfl zz zz A (acT A.co b6 b8 (λf w1 V1 O1 a0 c=>WalkE.stop λK d=>⟨_,rfl,a0.rely d,c.vv,(c.step d).rely,acQ f⟩) λl hi hc w1 V1 O1 g b0 O Q P S u=>?_) b5;obtain⟨t1,t2,-⟩:=cS (bP hc).1;obtain⟨p,V,a1⟩:∃p:Nat,stp%b.S=p/\(p:Int)<b.S:=by
  have C:=Int.emod_nonneg stp (b:=b.S) zz;have h2:=Int.emod_lt_of_pos stp (b:=b.S) zz;exact⟨(stp%b.S).toNat,zz,zz⟩
 have R:ay (bX w b) l=0:=Qv.tn hc;by_cases U:aJ b l b.D.toNat=[]
 .refine Qx (L:=aN) adj A.co hi (λw0 f s r e1 e=>ado s r R C V a1 U e1 e) O Q P S u λN w0 a5 Z F W B K V2 O2 a2 a7 a z q c=>?_;have e8:B 8=.slice I 0 0:=by have h:=sn .val a a7.1;generalize B 8=v at h |-; cases h;rfl
  have e9:=aG _ _ Z _ (sn .val a a7.2);rw[nr5];refine WalkE.seq (WalkE.seq (ad8 e9 λf3 k3 E=>WalkE.cond (t:=true) (ft E) ?_));rw[qWB rfl];exact WalkE.seq (adS qM qM λo y=>WalkE.stop λw3 d=>⟨_,rfl,q.rely d,c.vv,(c.step d).rely,acM o y⟩)
 by_cases T:(p:Int)∈l.C
 .refine Qx (L:=bN) adk A.co hi (λw0 f s r e1 e=>adp s r R C V a1 U T e1 e) O Q P S u λN w0 a5 Z F W B K V2 O2 a2 ⟨e,a3,e5,m,a6,k,j⟩ a z q c=>?_;obtain⟨g',y2,V',a4⟩:=Ro z (qN N) a3 (sn .addr a e);obtain⟨v5,b4,b9⟩:=a4 5 _ rfl;obtain rfl:=acR (a2.mono z.le) b9;have e5:=aG _ _ Z _ (sn .val a e5);have m:=aG _ _ Z _ (sn .val a m);have a6:=aG _ _ Z _ (sn .val a a6);have k:=aG _ _ Z _ (sn .val a k);have j:=aG _ _ Z _ (sn .val a j);rw[nr9];refine WalkE.seq (WalkE.seq (adT q (hi.bH c) y2 V' b4 e5 T λf3 w3 V3 O3 b1 g3 k3 E=>WalkE.cond (t:=true) (ft E) ?_));rw[qWB rfl];exact WalkE.seq (adU qM qM qM qM λo y=>WalkE.stop λw4 d=>⟨_,rfl,b1.rely d,(c.tn g3).vv,((c.tn g3).step d).rely,acN o y⟩)
 by_cases a8:(vH b l p).1=1
 .refine Qx (L:=cN) adl A.co hi (λw0 f s r e1 e=>adq s r R C V a1 U T a8 e1 e) O Q P S u λN w0 a5 Z F W B K V2 O2 a2 ⟨b',m,k,a9,b7,a3,j⟩ a z q c=>?_;obtain⟨g',c1,V',a4⟩:=Ro z b7 a3 (sn .addr a a9);have m:=aG _ _ Z _ (sn .val a m);have k:=aG _ _ Z _ (sn .val a k);have j:=aG _ _ Z _ (sn .val a j);have b3:∀(i:Nat) x,(wE bI)[i]?=Y x->K (g',i)=Y x:=λi x u=>by
   obtain⟨v',h2,h3⟩:=a4 i x u;rcases acV u with rfl|rfl<;>(cases h3;exact h2)
  rw[ad9];refine WalkE.seq (WalkE.seq (adV j λf3 k3 E=>WalkE.cond (t:=true) (ft E) ?_));rw[qWB rfl];exact WalkE.seq (adW q qM qM qM V' b3 λo w4 V4 O4 b2 g4 y=>WalkE.stop λw5 d=>⟨_,rfl,b2.rely d,(c.tn g4).vv,((c.tn g4).step d).rely,acO o y⟩)
 .refine Qx (L:=dN) adm A.co hi (λw0 f s r e1 e=>adr s r R C V a1 U T a8 e1 e) O Q P S u λN w0 a5 Z F W B K V2 O2 a2 ⟨m,k,j,a'⟩ a z q c=>?_;rw[aea];exact WalkE.seq (adX (aG _ _ Z _ (sn .val a m)) (aG _ _ Z _ (sn .val a k)) (aG _ _ Z _ (sn .val a j)) (aG _ _ Z _ (sn .val a a')) λo y=>WalkE.stop λw3 d=>⟨_,rfl,q.rely d,c.vv,(c.step d).rely,acP o y⟩)
end Go.Proofs.YtiffpgohclmlmaaGreatDoor
namespace Go.Proofs.YtiffpgohclmlmaaGreatDoor
open Go.RowKit Go.Co Go.Conc Go.ChangeShapes Go.WideShapes Go.ChangeAt Go.Deep
section
variable{W:Cl}{t:Nat}
abbrev V0(W:Cl):Nat->Prop:=(Go.Co.start W).V 0
def tA{b:Nat}:V0 W b↔b<W.heap.size:=⟨λh=>h.2,λh=>⟨rfl,h⟩⟩
def mq{base t e:Nat}{v:M}(g:F.underlying t=Y (.slice e))(h:Cell.okWide F W .any base t v):∃s:Sl,v=.slice s.A s.n s.c/\Nk (V0 W) W s/\(s.A=I->s.n=0)/\s.n<=s.c:=by
 unfold Cell.okWide at h;rw[g]at h;unfold Cell.ok at h;rw[g]at h
 cases v with
 | slice A n c=>
  cases A with
  | none=>
   cases n with
   | zero=>
    cases c with
    | zero=>exact⟨⟨I,0,0⟩,rfl,(λa f=>(by cases f)),λ_=>rfl,qN _⟩
    | succ c=>simp at h
   | succ n=>simp at h
  | some a=>
   simp only at h;obtain⟨j, -, k⟩:=h;obtain⟨-, l,row,cells,b,-⟩:=k;refine⟨⟨Y a,n,c⟩,rfl,λi f=>?_,λe=>(by cases e),j⟩;obtain rfl:a=i:=km f;unfold Cl.shape? at b
   cases d:W.heap[a.block]? with
   | none=>rw[d]at b;cases b
   | some o=>
    rw[d]at b
    cases o with
    | cells c e z=>exact⟨l,tA.2 (ec.1 d).1,⟨c,e,z,d⟩,λh=>mi h (dj 0)⟩
    | _=>cases b
 | _=>simp at h
def Fh:Option M->Int
 | some (.int _ n)=>n
 | _=>0
def VW:Option M->Bool
 | some (.bool b)=>b
 | _=>false
def J9{s:Sl}{m:Nat}(i:Nk (V0 W) W s)(hc:∀a,s.A=Y a->∀j,j<m->∃v,W (a.block,a.off+j)=Y v/\jU v):jb (V0 W) W s m:=λa f=>by
 obtain⟨g,h2,⟨c,e,z,d⟩,-⟩:=i a f;refine⟨g,h2,c,e,z,d,λj k=>?_⟩;obtain⟨v,b,h⟩:=hc a f j k;unfold Cl.cell? at b;dsimp only at b;rw[d]at b;exact⟨v,b,h⟩
section
variable{H:Type}{enc:Lk×M->H}{W:Cl}{s:Sl}{fuel:Nat}{x:DataW H×List MemPlace}
abbrev TD(enc:Lk×M->H)(W:Cl)(fuel:Nat)(t:Lk)(cs:List M):Option (DataW H×List MemPlace):=DataW.trod enc F W 0 (λ_=>true) true fuel t cs
def xe{a:Addr}(h:a.spot=I)(i:Nat):a.add i=⟨a.block,a.off+i,I⟩:=by
 obtain⟨b,o,c⟩:=a;simp only at h;subst h;simp[Addr.add]
def Ka(g:Nk (V0 W) W s)(E:s.n<=s.c)(a4:s.n<=20)(h:TD enc W fuel 24 [.slice s.A s.n s.c]=Y x):∃l,eC W s l/\jb (V0 W) W s l.length:=by
 have æ:=0;exact pD
def Fi(hp:∀{fuel x},TD enc W fuel t [.slice s.A s.n s.c]=Y x->([M.slice s.A s.n s.c]=[.slice I 0 0])\/∃(a:Addr) (J r n:Nat) (K L:Nat->M) (S T:Nat->DataW H) (U V:Nat->List MemPlace),[M.slice s.A s.n s.c]=[.slice (Y a) J r]/\J<=r/\
   ∀i,i<r->W.cell? (a.add (i*2))=Y (K i)/\W.cell? (a.add (i*2+1))=Y (L i)/\TD enc W n 3 [K i]=Y (S i,U i)/\TD enc W n 3 [L i]=Y (T i,V i))
  (g:Nk (V0 W) W s)(E:s.n<=s.c)(a4:s.n<=20)(h:TD enc W fuel t [.slice s.A s.n s.c]=Y x):∃l,bp W s l/\jb (V0 W) W s (l.length*2):=by
 have ø:=0;exact pD
def Iy(k:Nk (V0 W) W s)(p:s.n<=s.c)(q:s.n<=20)(h:TD enc W fuel 27 [.slice s.A s.n s.c]=Y x):∃l,bp W s l/\jb (V0 W) W s (l.length*2):=
 Fi (λh=>by
  rcases open_slice_pairs Tryz.underlying27 Tryz.underlying101 kr rfl rfl kr kr h with⟨b,-⟩|⟨a,t,u,m,n,i,j,d,e,f,g,b, -, o, -, c, -, r⟩
  .exact .inl b
  .simp only[if_true]at c;subst c;exact .inr ⟨a,t,_,n,i,j,d,e,f,g,b,o,r⟩) k p q h
def Iz(k:Nk (V0 W) W s)(p:s.n<=s.c)(q:s.n<=20)(h:TD enc W fuel 28 [.slice s.A s.n s.c]=Y x):∃l,bp W s l/\jb (V0 W) W s (l.length*2):=
 Fi (λh=>by
  rcases open_slice_pairs Tryz.underlying28 Tryz.underlying103 kr rfl rfl kr kr h with⟨b,-⟩|⟨a,t,u,m,n,i,j,d,e,f,g,b, -, o, -, c, -, r⟩
  .exact .inl b
  .simp only[if_true]at c;subst c;exact .inr ⟨a,t,_,n,i,j,d,e,f,g,b,o,r⟩) k p q h
def Uz(g:Nk (V0 W) W s)(E:s.n<=s.c)(a4:s.n<=20)(h:TD enc W fuel 29 [.slice s.A s.n s.c]=Y x):∃l,fL W s l/\jb (V0 W) W s (l.length*3):=by
 have å:=0;exact pD
end
end
def UB:F.cellTypes F.depth 31=Y [3,3,3,3,3,24,3,3,3,3,27,28,29]:=xd
def Ys:F.cellsOf 31=13:=xd
def Kb:F.cellsOf 3=1:=xd
def Yu:F.cellsOf 23=2:=xd
def Yv:F.cellsOf 26=2:=xd
def Rr:F.cellsOf 24=1:=xd
def Yw:F.cellsOf 27=1:=xd
def Yx:F.cellsOf 28=1:=xd
def Yy:F.cellsOf 29=1:=xd
section
variable{H:Type}{enc:Lk×M->H}{W:Cl}{base:Nat}{v:M}{d:DataW H}{p:List MemPlace}
def zv{t fuel:Nat}{f0 f1:Field}{c0 c1:M}{x:DataW H×List MemPlace}(g:F.underlying t=Y (.struct #[f0,f1]))(i:f0.offset=0)(j:f1.offset=1)(k:f0.type=3)(l:f1.type=3)(h:TD enc W fuel t [c0,c1]=Y x):∃a b:Int,c0=.int .i64 a/\c1=.int .i64 b:=by
 obtain⟨m,o,n, -, -, c,d⟩:=trod_struct2 g h;rw[i,k,Kb]at c;rw[j,l,Kb]at d;obtain⟨a,e, -,-⟩:=DataW.trod_int Tryz.underlying3 c;obtain⟨b,f, -,-⟩:=DataW.trod_int Tryz.underlying3 d;simp at e f;exact⟨a,b,e,f⟩
def M4(J:M.okWide F W .any base 31 v)(a4:DataW.Trod enc F W 0 (λ_=>true) true 31 v d p):∃b:aC,v=b.v/\Um (V0 W) W b/\(mX b=false->∃l,aI W b l/\jb (V0 W) W b.C l.C.length/\jb (V0 W) W b.U (l.U.length*2)/\jb (V0 W) W b.E (l.E.length*2)/\jb (V0 W) W b.W (l.W.length*3)):=by
 unfold M.okWide at J;rw[Tryz.underlying31]at J;obtain⟨⟨cs⟩,rfl,Z,a',a3, -, m⟩:=J;rw[Ys]at Z;rw[UB]at a3;cases a3
 match cs,Z with
 | [c0,e,c2,c3,c4,P,f,g,j,k,K,N,O],_=>
  obtain⟨fuel,h⟩:=a4;replace h:TD enc W fuel 31 [c0,e,c2,c3,c4,P,f,g,j,k,K,N,O]=Y (d,p):=h;obtain⟨xs,n, -, -, -, a5,a⟩:=DataW.trod_struct Tryz.underlying31 h;have get:∀i,i<10->∃y,xs[i]?=Y y:=λi hi=>⟨_,iv (by rw[a5];exact hi)⟩;obtain⟨u,c,hc⟩:=m 5 P rfl;cases c;obtain⟨C,rfl,Q, -, lC⟩:=mq Tryz.underlying24 hc;obtain⟨u,c,hc⟩:=m 10 K rfl;cases c;obtain⟨U,rfl,T, -, a6⟩:=mq Tryz.underlying27 hc;obtain⟨u,c,hc⟩:=m 11 N rfl;cases c;obtain⟨E,rfl,R, -, lE⟩:=mq Tryz.underlying28 hc;obtain⟨u,c,hc⟩:=m 12 O rfl;cases c;obtain⟨X,rfl,V, -, a7⟩:=mq Tryz.underlying29 hc;have o:TD enc W n 3 ((List.drop 0 [c0,e,c2,c3,c4,.slice C.A C.n C.c,f,g,j,k,.slice U.A U.n U.c,.slice E.A E.n E.c,.slice X.A X.n X.c]).take (F.cellsOf 3))=xs[0]?:=a 0 _ rfl;have q:TD enc W n 3 ((List.drop 1 [c0,e,c2,c3,c4,.slice C.A C.n C.c,f,g,j,k,.slice U.A U.n U.c,.slice E.A E.n E.c,.slice X.A X.n X.c]).take (F.cellsOf 3))=xs[1]?:=a 1 _ rfl;have r:TD enc W n 3 ((List.drop 2 [c0,e,c2,c3,c4,.slice C.A C.n C.c,f,g,j,k,.slice U.A U.n U.c,.slice E.A E.n E.c,.slice X.A X.n X.c]).take (F.cellsOf 3))=xs[2]?:=a 2 _ rfl;have s:TD enc W n 23 ((List.drop 3 [c0,e,c2,c3,c4,.slice C.A C.n C.c,f,g,j,k,.slice U.A U.n U.c,.slice E.A E.n E.c,.slice X.A X.n X.c]).take (F.cellsOf 23))=xs[3]?:=a 3 _ rfl;have t:TD enc W n 24 ((List.drop 5 [c0,e,c2,c3,c4,.slice C.A C.n C.c,f,g,j,k,.slice U.A U.n U.c,.slice E.A E.n E.c,.slice X.A X.n X.c]).take (F.cellsOf 24))=xs[4]?:=a 4 _ rfl;have w:=a 5 _ rfl;have x:=a 6 _ rfl;have z:=a 7 _ rfl;have A:=a 8 _ rfl;have B:=a 9 _ rfl;simp only[Kb,Yu,Rr,Yv,Yw,Yx,Yy,List.drop_zero,List.drop_succ_cons,List.take_succ_cons,List.take_zero]at o q r s t w x z A B;obtain⟨y0,e0⟩:=get 0 zz;obtain⟨y1,e1⟩:=get 1 zz;obtain⟨y2,e2⟩:=get 2 zz;obtain⟨y3,e3⟩:=get 3 zz;obtain⟨y4,e4⟩:=get 4 zz;obtain⟨y5,e5⟩:=get 5 zz;obtain⟨y6,e6⟩:=get 6 zz;obtain⟨y7,e7⟩:=get 7 zz;obtain⟨y8,e8⟩:=get 8 zz;obtain⟨y9,e9⟩:=get 9 zz;rw[e0]at o;rw[e1]at q;rw[e2]at r;rw[e3]at s;rw[e4]at t;rw[e5]at w;rw[e6]at x;rw[e7]at z;rw[e8]at A;rw[e9]at B;obtain⟨S,q0, -,-⟩:=DataW.trod_int Tryz.underlying3 o;obtain⟨D,q1, -,-⟩:=DataW.trod_int Tryz.underlying3 q;obtain⟨L,q2, -,-⟩:=DataW.trod_int Tryz.underlying3 r;obtain⟨lo,hi,q3,q4⟩:=zv Tryz.underlying23 rfl rfl rfl rfl s;obtain⟨rf,rh,q6,q7⟩:=zv Tryz.underlying26 rfl rfl rfl rfl w;obtain⟨cf,ch,q8,q9⟩:=zv Tryz.underlying26 rfl rfl rfl rfl x;simp only[np,and_true]at q0 q1 q2;subst q0 q1 q2 q3 q4 q6 q7 q8 q9;refine⟨⟨S,D,L,lo,hi,C,rf,rh,cf,ch,U,E,X⟩,rfl,⟨Q,T,R,V⟩,λG=>?_⟩;unfold mX at G;simp only[Bool.or_eq_false_iff,decide_eq_false_iff_not]at G;obtain⟨⟨⟨n1,n2⟩,n3⟩,n4⟩:=G;obtain⟨a8,a1,a2⟩:=Ka Q lC zz t;obtain⟨a9,b1,b2⟩:=Iy T a6 zz z;obtain⟨le,d1,d2⟩:=Iz R lE zz A;obtain⟨lx,f1,f2⟩:=Uz V a7 zz B;exact⟨⟨a8,a9,le,lx⟩,⟨a1,b1,d1,f1⟩,a2,b2,d2,f2⟩
end
abbrev zy:List (String×DataW Unit):=[("velarium/sail.checks", Rows.laid_velarium_sail_checks)]
def UD:F.globalNamed "velarium/sail.checks" = Y 0:=xd
def UE:(F.globals[0]?).map (·.type)=Y 149:=xd
def Yz:F.cellsOf 148=1:=xd
def YA:F.cellsOf 149=5:=xd
def UF{W:Cl}(h:laidMetH F zy W):aD W:=by
 obtain⟨g,t,cs,fuel,p,o,y,c,w⟩:=h.funcs (q8A.2 rfl);obtain rfl:=km (UD.symm.tn o);obtain rfl:=km (UE.symm.tn y);obtain⟨xs,m, -, z,q,x,a⟩:=DataW.trod_array Tryz.underlying149 w;rw[YA]at q;obtain⟨l⟩:=cs
 match l,q,a,c with
 | [c0,Q,c2,c3,c4],_,a,c=>
  have b:xs.map (·.1)=[.held [40,118,101,108,97,114,105,117,109,47,115,97,105,108,46,104,97,108,108,41,46,103,108,97,115,115],.held [40,118,101,108,97,114,105,117,109,47,115,97,105,108,46,104,97,108,108,41,46,99,108,111,116,104,115],.held [40,118,101,108,97,114,105,117,109,47,115,97,105,108,46,104,97,108,108,41,46,115,117,110,115],.held [40,118,101,108,97,114,105,117,109,47,115,97,105,108,46,104,97,108,108,41,46,101,121,101,115],.held [40,118,101,108,97,114,105,117,109,47,115,97,105,108,46,104,97,108,108,41,46,119,97,116,99,104,101,115]]:=by
   have:=cd Prod.fst z;injection this with h
   exact h.symm
  match xs,x,b,a with
  | [A,B,y2,C,y4],_,b,a=>
   simp only[zM,np,and_true]at b;obtain⟨r,n1,s,u,v⟩:=b;have d:=a 0 zz;have e:=a 1 zz;have f:=a 2 zz;have j:=a 3 zz;have k:=a 4 zz;simp only[Yz,Nat.mul_one,List.drop_zero,List.drop_succ_cons,List.take_succ_cons,List.take_zero,zQ]at d e f j k;obtain⟨a0,b0⟩:=A;obtain⟨E,L⟩:=B;obtain⟨G,N⟩:=y2;obtain⟨J,O⟩:=C;obtain⟨K,P⟩:=y4;simp only at r n1 s u v;subst r n1 s u v;obtain rfl:=func_of_trod (f0:=156) Tryz.underlying148 kr d;obtain rfl:=func_of_trod (f0:=157) Tryz.underlying148 kr e;obtain rfl:=func_of_trod (f0:=158) Tryz.underlying148 kr f;obtain rfl:=func_of_trod (f0:=159) Tryz.underlying148 kr j;obtain rfl:=func_of_trod (f0:=160) Tryz.underlying148 kr k;have hc:=λi=>Cl.var?_cell o c i;have n:W (0,0)=_:=hc 0;exact⟨wY n,n,hc 1,hc 2,hc 3,hc 4⟩
def UG(g:Nat)(h:TA.glob g=true):g=0:=Sd .skip g h
def UH{W:H}(h:aD W):Main (Go.Co.start W) W:=by
 have k:=tA.2 h.1;obtain⟨c,e,z,hc⟩:∃c e z,W.heap[0]?=Y (.cells c e z):=by
  have b:=h.2.1;unfold H.cell? at b;dsimp only at b
  cases l:W.heap[0]? with
  | none=>rw[l]at b;simp at b
  | some o=>
   rw[l]at b
   cases o with
   | cells c e z=>exact⟨c,e,z,rfl⟩
   | _=>simp at b
 have g:∀(i:Nat) v,W (0,i)=Y v->c[i]?=Y v:=λi v a=>by
  unfold H.cell? at a;dsimp only at a;rw[hc]at a;exact a
 obtain⟨-, c0,n,p,q,r⟩:=id h;have y:=g _ _ c0;have A:=g _ _ n;have B:=g _ _ p;have C:=g _ _ q;have m:=g _ _ r;have d:∀{j f:Nat} {v:M},c[j]?=Y (.func (.func f) #[] #[])->c[j]?=Y v->TA.has f=true->TA.ret f=.val->Flat TA (V0 W) W v:=λb h2 s t=>by
  cases b.symm.tn h2;exact .inr (.inr (.inr ⟨_,rfl,s,t⟩))
 refine⟨⟨rfl,rfl,rfl,λx=>il,λx w=>tA.1 w⟩,⟨h,k,c,e,z,hc,?_,λj v u a=>?_⟩,e,k,⟨c,z,hc⟩,UG⟩
 .have:=(ec.1 m).1;omega
 .match j,u,a with
  | 0,_,a=>exact d y a rfl rfl
  | 1,_,a=>exact d A a rfl rfl
  | 2,_,a=>exact d B a rfl rfl
  | 3,_,a=>exact d C a rfl rfl
  | 4,_,a=>exact d m a rfl rfl
def aaP:ownKnob F.godebug=I:=xd
def laidOut:laidOutB F=true:=xd
def Rt(os:Os)(args:Array M):laidMetH F zy ((H.doorLaid F 100 os).forCall (λ_ _=>0) ⟨#[],args,[]⟩).memory:=
 laidMetH_of_parts3 (fuel:=8) (laidMet_of_run' 8 kr kr) kr kr
abbrev YB:aC:=⟨0,0,0,0,0,⟨I,0,0⟩,0,0,0,0,⟨I,0,0⟩,⟨I,0,0⟩,⟨I,0,0⟩⟩
def Ru{W w:H}(h:aH (V0 W) W w):X W W w:=⟨h.os,h.tape,h.output,h.size,λk hk=>h.keep k (tA.2 hk)⟩
def acI(os:Os)(P:os.Started)(H:Type)(enc:Lk×M->H):
  ReturnsInLeavingWide {} Tryz.checked os 3 .any (λw args=>(Rows.sailNoOthersSpec.pre enc F Tryz.f3 [] false w args/\laidMetH F zy w)/\sizedMet enc F Tryz.f3 (OpenSpec.ofChange Rows.sailNoOthersSpec) false w args)
   (Rows.sailNoOthersSpec.post enc F Tryz.f3 false true false false):=by
 refine returnsInLeavingWide_of_good aaP P (ChangeSpec.witness_shaped (X:=λw _=>laidMetH F zy w) false (Cl.doorLaid F 100 os) (E7 YB 0) 4 rfl (Cl.shaped_of_RefB kr kr) kr kr kr (Rt os _)) ?_;intro w tape i _ _ _ hok hpre _;obtain⟨_,_,_,u,C,_,_,_,_,c⟩:=hok;obtain rfl:u=Tryz.f3:=km (C.symm.tn Tryz.func3);obtain⟨⟨⟨ds,gs,Q,a,hc⟩,d⟩,N⟩:=hpre;have a:=DataW.Whole.of_heap (w':=w.forCall tape i) (by rfl) a;have d:laidMetH F zy (w.forCall tape i):=laidMetH.of_heap (by rfl) d;clear hc N;generalize w.forCall tape i=W at c a d|-;generalize i.args=args at c a|-;have g:=a;obtain⟨p,q,f,y,rfl, -,-⟩:=a;rw[Tryz.params3]at f c;obtain⟨j,a1,R,T,V,q0,z,rfl,rfl,e,J⟩:=trodAll_cons f;obtain⟨k,a2,S,U,Z,q1,rfl,rfl,rfl,v,K⟩:=trodAll_cons J;obtain⟨rfl,rfl,rfl⟩:=trodAll_nil K;obtain rfl:args= #[j,k]:=by
  obtain⟨l⟩:=args;exact cd Array.mk z
 obtain⟨rfl,rfl⟩:=trodVars_none y;obtain⟨b,rfl,B,A⟩:=M4 (c 0 31 j rfl rfl) e;have O:∀{n},(Lit.int .u8 n).wf=true->0<=n/\n<=255:=λh=>by simp only[Lit.wf,du,decide_eq_true_eq]at h;exact h
 obtain⟨n1,rfl,rfl,rfl,m⟩:=open_int Tryz.underlying5 (c 1 5 k rfl rfl) v;refine Vy ua rfl (L0 W) rfl rfl (aaM (O m) (UH (UF d)) B (λE=>?_) λw' G=>ChangeSpec.post_blind ?_)
 .obtain⟨l,e1,o,r,s,t⟩:=A E;exact⟨l,e1,B9 _,o,r,s,t,Gx _ _ _⟩
 .have hB:=Ru G;have a0:=Hd.trod laidOut kr (of_decide_eq_true kr) e hB λx L=>g.lt x (by simp[L]);exact⟨_,_,_,[],_,[],g,trodAll_mk1 (shut_bool Tryz.underlying4 _),trodAll_cons_mk a0 (trodAll_mk1 (shut_int Tryz.underlying5 m)),rfl,hB.frame _,λh=>by cases h⟩
open Go
def sailNoOthers_holds:Rows.SailNoOthersSaid:=
 OpenClaim.holds_of_wide_leaving 3 Tryz.f3 rfl rfl rfl rfl rfl rfl rfl ⟨rfl,rfl,rfl,rfl,rfl⟩ rfl rfl rfl rfl rfl kr Tryz.func3 kr
  (of_decide_eq_true kr) (by unfold Func.isWrapper;first|(rw[qWB (by decide +kernel)];kernel_rfl)|(rw[qVB (by decide +kernel)];exact⟨rfl,rfl⟩))
  (λos a H enc _=>acI os a H enc)
def sailNoOthers_card:Rows.SailNoOthersCardSaid:=
 ⟨Claim7.tied_new_at .later [.funcs] true (Claim7.new_of_sixth sailNoOthers_holds (true, "05e43384fa55cd915aa9f61dbdb663aecdfa3420ca1e9381af3b489547c0c10d") false rfl ⟨rfl,rfl⟩ kr rfl λf fn c d=>by
  obtain rfl:f=3:=km ((show F.funcNamed "velarium/velariumlaw05.SailNoOthers" = Y 3 by kernel_rfl).symm.tn c) |>.symm;obtain rfl:fn=Tryz.f3:=(km (Tryz.func3.symm.tn d)).symm;exact⟨by kernel_rfl,λj t a=>by
   rw[Tryz.params3]at a;have b:t=31\/t=5:=by
    rcases j with _|_|j
    .exact .inl (by simpa using a.symm)
    .exact .inr (by simpa using a.symm)
    .simp at a
   rcases b with rfl|rfl
   .exact(show F.wantsStandIn 31=false by kernel_rfl)
   .exact(show F.wantsStandIn 5=false by kernel_rfl)⟩) kr,(λ_ h=>by cases h),sailNoOthers_row_tie,(λh=>by cases h),by kernel_rfl⟩
