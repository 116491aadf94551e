/- SailWider holds of the given program, for every book, every eye and all numbers, with no further condition. -/
import Derived.Test.YtfcgpihkimpkcaaGreatDoorZv
import Derived.Test.YtfcgpihkimpkcaaGreatDoorRows
import Derived.ProofKit
import Derived.LaidMore
import Derived.Conc.LeavingOf
import Derived.Deep.SlicePairs
import Derived.Deep.Slices
import Derived.Deep.Strs
import Derived.OpenShut
import Derived.Conc.Holds
import Derived.Stop.Joined
import Derived.Test.YtfcgpihkimpkcaaGreatDoorTie
import Derived.Test.YtfcgpihkimpkcaaGreatDoorCards
import Derived.SevenTiedAt
set_option maxRecDepth 100000
set_option maxHeartbeats 4000000
set_option linter.all false
noncomputable section
open Go renaming World->Cl,undef->D,World->H,execOp->Hn,Frame->Kf,Oper->Kp,TypeId->Lk,stepG->Lq,Code->Ly,Value->M,Calls->PH,Program->Ps,Goroutine->QP,heap_alloc_old->QR,heap_alloc_new->Sp,resolve->ab,Operand->ae,MemOp->al,yielded->aw,FuncId->ba,bodyPost_ret->bd
open Go.Proofs.Tryz renaming prog->F,prog->Hb
open Option renaming none->I,some->Y
open Go.RowKit renaming Below->X
namespace Go
def pD{p:Prop}(h:p:=by
 first|have _:=ø;(rcases hp h with c|⟨a,J,r,n,K,L,S,T,U,V,c,a3,G⟩)|have _:=å;(rcases open_slice Tryz.underlying29 h with⟨c,-⟩|⟨a,J,r,m,n,D,a5,c, -, a3, -, Q, -, G⟩)|(rcases open_slice1 Tryz.underlying24 kr h with⟨c,-⟩|⟨a,J,r,m,n,b1,D,a5,c, -, a3, -, Q, -, G⟩)
 .simp only[ll,lA,and_true]at c;exact⟨[],⟨c.2.1,fi _,fi _,λh=>dC h (kq 0)⟩,vl g λa u=>by rw[c.1]at u;cases u⟩
 .simp only[ll,lA,and_true]at c;obtain⟨O,rfl,rfl⟩:=c;obtain⟨w,P, -,-⟩:=g a O
  first
  |have _:=ø
   have f:∀i,i<s.n->∃z d:Int,W (a.block,a.off+i*2)=Y (.int .i64 z)/\W (a.block,a.off+i*2+1)=Y (.int .i64 d):=λi hi=>by
    obtain⟨h2,a1,y,a6⟩:=G i zz;obtain⟨z,A, -,-⟩:=DataW.trod_int Tryz.underlying3 y;obtain⟨d,a2, -,-⟩:=DataW.trod_int Tryz.underlying3 a6;simp only[ll,and_true]at A a2;rw[xe w,A]at h2;rw[xe w,a2]at a1;exact⟨z,d,h2,a1⟩
   refine⟨(List.range s.n).map λi=>(Fh (W.cell? ⟨a.block,a.off+i*2,I⟩),Fh (W.cell? ⟨a.block,a.off+i*2+1,I⟩)),⟨by simp,by simpa using E,by simp;omega,λ_=>⟨a.block,a.off,?_,tA.1 P,λk hk=>?_⟩⟩,vl g λN u j C=>?_⟩
  |have _:=æ
   simp only[if_true]at Q;have f:∀i,i<s.n->∃z:Int,W (a.block,a.off+i)=Y (.int .i64 z):=λi hi=>by
    obtain⟨h2,y⟩:=G i zz;obtain⟨z,A, -,-⟩:=DataW.trod_int Tryz.underlying3 y;simp only[ll,and_true]at A;rw[xe w,A]at h2;exact⟨z,h2⟩
   refine⟨(List.range s.n).map λi=>Fh (W.cell? ⟨a.block,a.off+i,I⟩),⟨by simp,by simpa using E,by simp;omega,λ_=>⟨a.block,a.off,?_,tA.1 P,λk hk=>?_⟩⟩,vl g λN u j C=>?_⟩
  |simp only[if_true]at Q
   have a9:F.cellsOf 80=3:=by kernel_rfl
   have a7:F.cellsOf 3=1:=by kernel_rfl
   have a8:F.cellsOf 4=1:=by kernel_rfl
   have f:∀i,i<s.n->∃(z d:Int) (q:Bool),W (a.block,a.off+i*3)=Y (.int .i64 z)/\W (a.block,a.off+i*3+1)=Y (.int .i64 d)/\W (a.block,a.off+i*3+2)=Y (.bool q):=λi hi=>by
    obtain⟨dp,h2,y⟩:=G i zz;rw[a9]at h2;obtain⟨-, a0,B⟩:=Cl.cells?_some h2;obtain⟨y0,y1,y2,k, -, -, Z,g1,g2⟩:=trod_struct3 Tryz.underlying80 y
    match dp,a0,B with
    | [c0,c1,c2],_,B=>
     simp only[a7,a8,List.drop_zero,List.drop_succ_cons,List.take_succ_cons,List.take_zero]at Z g1 g2;obtain⟨z0,q0, -,-⟩:=DataW.trod_int Tryz.underlying3 Z;obtain⟨z1,q1, -,-⟩:=DataW.trod_int Tryz.underlying3 g1;obtain⟨z2,q2,-⟩:=DataW.trod_bool Tryz.underlying4 g2;simp only[ll,and_true]at q0 q1 q2;subst q0 q1 q2;have k0:=B 0 zz;have k1:=B 1 zz;have k2:=B 2 zz;rw[xe w]at k0 k1 k2;exact⟨z0,z1,z2,k0,k1,k2⟩
   refine⟨(List.range s.n).map λi=>(Fh (W.cell? ⟨a.block,a.off+i*3,I⟩),Fh (W.cell? ⟨a.block,a.off+i*3+1,I⟩),VW (W.cell? ⟨a.block,a.off+i*3+2,I⟩)),⟨by simp,by simpa using E,by simp;omega,λ_=>⟨a.block,a.off,?_,tA.1 P,λk hk=>?_⟩⟩,vl g λN u j C=>?_⟩
  .rw[O];obtain⟨b2,b3,b4⟩:=a;simp only at w;rw[w]
  .have v:k<s.n:=by simpa using hk
   first|have _:=ø;obtain⟨z,d,b,o⟩:=f k v;simp[List.getD,v,b,o,Fh]|have _:=å;obtain⟨z,d,q,b,o,R⟩:=f k v;simp[List.getD,v,b,o,R,Fh,VW]|obtain⟨z,b⟩:=f k v;simp[List.getD,v,b,Fh]
  .obtain rfl:a=N:=jx (O.symm.tn u)
   first
   |have _:=æ
    obtain⟨z,b⟩:=f j (by simpa using C);exact⟨_,b,cR _ _⟩
   |have _:=ø
    have a':j<s.n*2:=by simpa using C
    obtain⟨z,d,b,o⟩:=f (j/2) zz;rcases(show j=j/2*2\/j=j/2*2+1 from zz)with e|e
    .rw[e];exact⟨_,b,cR _ _⟩
    .rw[e];exact⟨_,o,cR _ _⟩
   |have a':j<s.n*3:=by simpa using C
    obtain⟨z,d,q,b,o,R⟩:=f (j/3) zz;rcases(show j=j/3*3\/j=j/3*3+1\/j=j/3*3+2 from zz)with e|e|e
    .rw[e];exact⟨_,b,cR _ _⟩
    .rw[e];exact⟨_,o,cR _ _⟩
    .rw[e];exact⟨_,R,sN _⟩):p:=h
def xa{p:Prop}(h:p:=by
 have n:=(List.getElem?_eq_some_iff.1 e).1;refine⟨h.1,h.2.1,h.2.2.1,λi=>?_⟩;obtain⟨b,off,d,m,hc⟩:=h.2.2.2 i;first|have _:=ø;have g:jz s (l.length*2)=(b,off,l.length*2):=by unfold jz;rw[d]|have _:=å;have g:jz s (l.length*3)=(b,off,l.length*3):=by unfold jz;rw[d]|have g:jz s l.length=(b,off,l.length):=by unfold jz;rw[d]
 rw[g]at e;refine⟨w.heap.size+j,0,by unfold MH;rw[d];rfl,by rw[qK];omega,λk hk=>?_⟩;rw[kl];first|have _:=ø;exact⟨(nZ e (f _ d).2 (by show k*2<l.length*2;omega) c a).tn (hc k hk).1,(nZ e (f _ d).2 (by show k*2+1<l.length*2;omega) c a).tn (hc k hk).2⟩|have _:=å;exact⟨(nZ e (f _ d).2 (by show k*3<l.length*3;omega) c a).tn (hc k hk).1,(nZ e (f _ d).2 (by show k*3+1<l.length*3;omega) c a).tn (hc k hk).2.1,(nZ e (f _ d).2 (by show k*3+2<l.length*3;omega) c a).tn (hc k hk).2.2⟩|exact(nZ e (f _ d).2 hk c a).tn (hc k hk)):p:=h
def xaS{p:Prop}(h:p:=by
 refine⟨h.1,h.2.1,h.2.2.1,λe=>?_⟩;obtain⟨a,off,f,j,hc⟩:=h.2.2.2 e;have d:=(g _ f).2.1;first|have _:=ø;have b:=λk c=>i.intro (aV (hk a d) (hc k c).1) (aV (hk a d) (hc k c).2);exact⟨a,off,f,wY (b 0 e).1,b⟩|have _:=å;have b:=λk c=>i.intro (aV (hk a d) (hc k c).1) (i.intro (aV (hk a d) (hc k c).2.1) (aV (hk a d) (hc k c).2.2));exact⟨a,off,f,wY (b 0 e).1,b⟩|have b:=λk c=>aV (hk a d) (hc k c);exact⟨a,off,f,wY (b 0 e),b⟩):p:=h
def xbO{p:Prop}(h:p:=by
 have hk:(bs .normal 6).kind≠.early:=by simp[bs]
 first|have _:=ø;refine WalkE.reg (l:=[0,1,2]) rfl ?_|refine WalkE.reg (l:=[0,1,2,3,4,5,6,7,8]) rfl ?_
 refine WalkE.dV b.box b.gV rfl rfl (ft m) rfl zz rfl hk ?_;first|have _:=ø;refine cr.qL (args:= #[(bX w.heap.size o).v]) (v:=.int .i64 (ay o l)) b.co a rfl rfl (mY (ft rfl)) rfl zz wnn hk (λ_=>⟨rfl,rfl⟩) rfl rfl (λe0 hB=>vg (by exact a.RH)) (aG _ _) (λe0 hB j=>(mm (bX w.heap.size o) l _ (a.lone (e0:=e0) j w.drawn).1).mono λe W q=>by rw[Qv]at q;exact q.1) λt r n s k=>?_;refine WalkE.pK (ay o l != 0) rfl rfl rfl (ft rfl) rfl rfl rfl zz wnn hk ?_;exact WalkE.aT (next _ _ _ _ k (λi hi=>wkp) rfl)|refine cr.qL (args:= #[(bX w.heap.size o).v,.int .i64 0]) (v:=.tuple #[.bool (sv o l 0).1,.bool (sv o l 0).2.1,.int .i64 (sv o l 0).2.2]) b.co a rfl rfl (oh (ft rfl) rfl) rfl zz wnn hk (λ_=>⟨rfl,rfl⟩) rfl rfl (λe0 hB=>P3 (by exact a.RH) (by exact .int _ _)) (aas (dQ _) (dQ _) (aG _ _)) (λe0 hB j=>(Cb (bX w.heap.size o) l 0 _ (a.lone (e0:=e0) j w.drawn).1 (mh b.co.checks hB j w.drawn)).mono λe W q=>q.1) λt r n s k=>?_;refine wss ?_;exact WalkE.aT (next _ _ _ _ k (λi hi=>wkp) rfl rfl rfl)):p:=h
def xbQ{p:Prop}(h:p:=by
 rcases iq k h with⟨j,h2⟩|⟨j,h2,l⟩
 first
 |have _:=ø
  .exact a.vv _ (d.see c c' s h2)
 |·omega
 .cases l;obtain rfl:c=N:=zz;rw[Nat.sub_self];first|have _:=ø;exact B|exact⟨A,t⟩):p:=h
def Z2{p:Prop}(h:p:=by
 generalize(fa n f).tmps=A at e;unfold results;simp[d,e]):p:=h
end Go
namespace Go.Proofs.YtfcgpihkimpkcaaGreatDoor
open Go.RowKit Go.Co Go.Conc
variable{V V' O:Nat->Prop}{w bj:H}{x:Nat×Nat×Nat}{m j i n:Nat}{l ds:List Int}{a v a':M}{κ:Nat->Kd}{Z:Ren}{e0:Lk}{ws:List (Nat×Nat×Nat)}{s:Sl}{sh:Int}{main:Bool}{Stop:(Nat->Prop)->(Nat->Prop)->QP->H->Prop}{k:List Item}{cs:List Kf}{ops:Array Kp}{rest:List Nat}{o:Kp}{f:Nat->M}{fn:ba}{xs:Array ae}{ts:Array Lk}{args eQ:Array M}{bk:aC}
def jz(s:Sl)(m:Nat):Nat×Nat×Nat:=match s.A with|some a=>(a.block,a.off,m)|none=>(0,0,0)
def MH(N:Nat)(s:Sl):Sl:=⟨s.A.map λ_=>(N,0),s.n,s.c⟩
def jb(V:Nat->Prop)(w:H)(s:Sl)(m:Nat):Prop:=∀a,s.A=Y a->a.spot=I/\sr V w (a.block,a.off,m)
end Go.Proofs.YtfcgpihkimpkcaaGreatDoor
open Go in
open Go.Proofs.YtfcgpihkimpkcaaGreatDoor in
open Go.RowKit Go.Co Go.Conc in
variable{n:Nat} in
variable{o:Kp} in
def Go.Co.sr.mono{V V':Nat->Prop}{w bj:Cl}{x:Nat×Nat×Nat}(h:sr V w x)(hV:∀x,V x->V' x)(hk:∀x,V x->bj.heap[x]?=w.heap[x]?):sr V' bj x:=
 ⟨hV _ h.1,let⟨c,e,z,h1,h2⟩:=h.2;⟨c,e,z,(hk _ h.1).tn h1,h2⟩⟩
namespace Go.Proofs.YtfcgpihkimpkcaaGreatDoor
open Go.RowKit Go.Co Go.Conc
variable{V V' O:Nat->Prop}{w bj:H}{x:Nat×Nat×Nat}{m j i n:Nat}{l ds:List Int}{a v a':M}{κ:Nat->Kd}{Z:Ren}{e0:Lk}{ws:List (Nat×Nat×Nat)}{s:Sl}{sh:Int}{main:Bool}{Stop:(Nat->Prop)->(Nat->Prop)->QP->H->Prop}{k:List Item}{cs:List Kf}{ops:Array Kp}{rest:List Nat}{o:Kp}{f:Nat->M}{fn:ba}{xs:Array ae}{ts:Array Lk}{args eQ:Array M}{bk:aC}
def jb.mono{s:Sl}(h:jb V w s m)(c:∀x,V x->V' x)(hk:∀x,V x->bj.heap[x]?=w.heap[x]?):jb V' bj s m:=λa b=>⟨(h a b).1,(h a b).2.mono c hk⟩
def qJ(hB:Base TA V w e0)(h:jb V w s m):sr V w (jz s m):=by
 unfold jz
 cases b:s.A with
 | some a=>exact(h a b).2
 | none=>exact⟨hB.v0,let⟨c,z,x⟩:=hB.cells;⟨c,e0,z,x,λj d=>dC d (Nat.not_lt_zero _)⟩⟩
def nZ{i:Nat}(d:ws[j]?=Y x)(g:sr V w x)(hi:i<x.2.2)(h:Nat->Question->Nat)(a:Nat):(tp (wK TA V e0 w ws) h a).cell? (w.heap.size+j,i)=w (x.1,x.2.1+i):=by
 obtain⟨-, c,e,z,hc,f⟩:=g;show(wK TA V e0 w ws).cell? _=_;unfold H.cell?;dsimp only;rw[IY d,IZ hc,hc];show(c.extract x.2.1 (x.2.1+x.2.2))[i]?=c[x.2.1+i]?;obtain⟨v,b,-⟩:=f i hi;have k:=(du.1 b).1;rw[Array.getElem?_extract,dE zz]
def qK(b:Nat->Question->Nat)(a:Nat):(tp (wK TA V e0 w ws) b a).heap.size=w.heap.size+ws.length:=qf
def EO(h:aN w s l)(f:jb V w s l.length)(e:ws[j]?=Y (jz s l.length))(c:Nat->Question->Nat)(a:Nat):aN (tp (wK TA V e0 w ws) c a) (MH (w.heap.size+j) s) l:=xa
def AV{l:List (Int×Int)}(h:bp w s l)(f:jb V w s (l.length*2))(e:ws[j]?=Y (jz s (l.length*2)))(c:Nat->Question->Nat)(a:Nat):bp (tp (wK TA V e0 w ws) c a) (MH (w.heap.size+j) s) l:=by
 have ø:=0;exact xa
def PZ{l:List (Int×Int×Bool)}(h:fL w s l)(f:jb V w s (l.length*3))(e:ws[j]?=Y (jz s (l.length*3)))(c:Nat->Question->Nat)(a:Nat):fL (tp (wK TA V e0 w ws) c a) (MH (w.heap.size+j) s) l:=by
 have å:=0;exact xa
def yV{hB:Base TA V w e0}(d:jb V w s m)(c:ws[j]?=Y (jz s m)):VR (Bj hB ws) (.slice (MH (w.heap.size+j) s).A s.n s.c) (.slice s.A s.n s.c):=by
 unfold MH
 cases b:s.A with
 | none=>exact .nilSlice _ _
 | some a=>
  have e:jz s m=(a.block,a.off,m):=by unfold jz;rw[b]
  rw[e]at c;exact .slice _ _ ⟨rfl,(d a b).1,a.off,I0 c,by simp,rfl⟩
def mh(h:dJ TA V w)(hB:Base TA V w e0)(b:Nat->Question->Nat)(a:Nat):aD (tp (wK TA V e0 w ws) b a):=by
 obtain⟨k,h2,c,d,e,g⟩:=h.gw (e0:=e0) b a;have j:=hB.shown.lt;have f:∀i,(tp (wK TA V e0 w ws) b a).cell? ⟨0,i,I⟩=(tp (gw TA V e0 w) b a).cell? ⟨0,i,I⟩:=λi=>by
  show(wK TA V e0 w ws).cell? _=(gw TA V e0 w).cell? _;unfold H.cell?;dsimp only;rw[IX j]
 exact⟨by rw[qK];omega,(f _).tn h2,(f _).tn c,(f _).tn d,(f _).tn e,(f _).tn g⟩
structure uD(V:Nat->Prop)(w:H)(b:aC)(l:bN)(s:Sl)(d:List Int):Prop where
 at_:aI w b l
 dt:aN w s d
 C:jb V w b.C l.C.length
 U:jb V w b.U (l.U.length*2)
 E:jb V w b.E (l.E.length*2)
 W:jb V w b.W (l.W.length*3)
 D:jb V w s d.length
def mA(b:aC)(l:bN)(s:Sl)(d:List Int):List (Nat×Nat×Nat):=[jz b.C l.C.length,jz b.U (l.U.length*2),jz b.E (l.E.length*2),jz b.W (l.W.length*3),jz s d.length]
def bX(N:Nat)(b:aC):aC:= {b with C:=MH (N+0) b.C,U:=MH (N+1) b.U,E:=MH (N+2) b.E,W:=MH (N+3) b.W}
def sX(N:Nat)(s:Sl):Sl:=MH (N+4) s
def wY{a:Addr}(h:w.cell? a=Y v):a.block<w.heap.size:=by
 unfold H.cell? at h
 cases b:w.heap[a.block]? with
 | none=>rw[b]at h;simp at h
 | some o=>exact(du.1 b).1
section
variable{b:aC}{l:bN}{d:List Int}
def jb.ints{l:List Int}(g:jb V w s l.length)(h:aN w s l)(hk:∀x,V x->bj.heap[x]?=w.heap[x]?):aN bj s l:=by
 refine⟨h.1,h.2.1,h.2.2.1,λb=>?_⟩;obtain⟨a,off,c,i,hc⟩:=h.2.2.2 b;have e:=(g _ c).2.1;have d:=λk f=>aV (hk a e) (hc k f);exact⟨a,off,c,wY (d 0 b),d⟩
def jb.pairs{l:List (Int×Int)}(g:jb V w s m)(h:bp w s l)(hk:∀x,V x->bj.heap[x]?=w.heap[x]?):bp bj s l:=by
 refine⟨h.1,h.2.1,h.2.2.1,λb=>?_⟩;obtain⟨a,off,c,i,hc⟩:=h.2.2.2 b;have d:=(g _ c).2.1;have e:=λk f=>And.intro (aV (hk a d) (hc k f).1) (aV (hk a d) (hc k f).2);exact⟨a,off,c,wY (e 0 b).1,e⟩
def jb.abd{l:List (Int×Int×Bool)}(hw:jb V w s m)(h:fL w s l)(hk:∀x,V x->bj.heap[x]?=w.heap[x]?):fL bj s l:=by
 refine⟨h.1,h.2.1,h.2.2.1,λh0=>?_⟩;obtain⟨bb,off,hA,hb,hc⟩:=h.2.2.2 h0;have hV:=(hw _ hA).2.1;have hc':=λk hk'=>And.intro (aV (hk bb hV) (hc k hk').1) (And.intro (aV (hk bb hV) (hc k hk').2.1) (aV (hk bb hV) (hc k hk').2.2));exact⟨bb,off,hA,wY (hc' 0 h0).1,hc'⟩
def uD.mono(h:uD V w b l s d)(a:∀x,V x->V' x)(hk:∀x,V x->bj.heap[x]?=w.heap[x]?):uD V' bj b l s d:=
 ⟨⟨h.C.ints h.at_.C hk,h.U.pairs h.at_.U hk,h.E.pairs h.at_.E hk,h.W.abd h.at_.W hk⟩,h.D.ints h.dt hk,h.C.mono a hk,h.U.mono a hk,h.E.mono a hk,h.W.mono a hk,h.D.mono a hk⟩
def uD.bH{bm bo:Nat->Prop}(h:uD V w b l s d)(a:dU V O w bm bo bj):uD bm bj b l s d:=h.mono a.vv a.rely.keep
def uD.ok(h:uD V w b l s d)(hB:Base TA V w e0):∀x∈mA b l s d,sr V w x:=by
 intro x a;simp only[mA,fc,hZ,or_false]at a;rcases a with rfl|rfl|rfl|rfl|rfl
 .exact qJ hB h.C
 .exact qJ hB h.U
 .exact qJ hB h.E
 .exact qJ hB h.W
 .exact qJ hB h.D
def uD.lone(h:uD V w b l s d)(c:Nat->Question->Nat)(a:Nat):aI (tp (wK TA V e0 w (mA b l s d)) c a) (bX w b) l/\aN (tp (wK TA V e0 w (mA b l s d)) c a) (sX w s) d:=
 ⟨⟨EO h.at_.C h.C rfl c a,AV h.at_.U h.U rfl c a,AV h.at_.E h.E rfl c a,PZ h.at_.W h.W rfl c a⟩,EO h.dt h.D rfl c a⟩
def uD.RH(h:uD V w b l s d){hB:Base TA V w e0}:VR (Bj hB (mA b l s d)) (bX w b).v b.v:=by
 refine .agg rfl λi x y a c=>?_
 match i,a,c with
 | 0,a,c|1,a,c|2,a,c|3,a,c|4,a,c|6,a,c|7,a,c|8,a,c|9,a,c=>cases a;cases c;exact .int _ _
 | 5,a,c=>cases a;cases c;exact yV (j:=0) h.C rfl
 | 10,a,c=>cases a;cases c;exact yV (j:=1) h.U rfl
 | 11,a,c=>cases a;cases c;exact yV (j:=2) h.E rfl
 | 12,a,c=>cases a;cases c;exact yV (j:=3) h.W rfl
end
section
variable{b:Kf}{n d:Nat}{l:bN}
def cr.Vf{R:M->H->Prop}(g:cr V O w)(C:uD V w bk l s ds)(q:ops[i]?=Y o)(r:o.op=.call {callee:=.value (.func fn),args:=xs,argTypes:=ts})(m:xs.map (fa n f).eval=eQ)(A:o.dst=Y d)(z:d<n)(K:Region.wanted o (aw ops (fa n f).tmps)=true)(hk:b.kind≠.early)
  (p:∀w,(callFunc fn eQ).run F w=.ok (.enter fn eQ) w/\(callFunc fn eQ).events F w #[]= #[])(B:TA.has fn=true)(J:TA.ret fn=.val)(y:∀e0 (hB:Base TA V w e0),KR (TA.kind fn) (Bj hB (mA bk l s ds)) args eQ)
  (hc:∀e0 (_:Base TA V w e0) N,PH F fn args (tp (wK TA V e0 w (mA bk l s ds)) N w.drawn) λe W=>∃v,e=.returned v/\R v W)
  (next:∀e0 (hB:Base TA V w e0) Z v W v' bj a c,R v W->VR Z v v'->ir TA F (w.heap.size+(mA bk l s ds).length) V O w (Bj hB (mA bk l s ds)) Z W bj a c->cr a c bj->dU V O w a c bj->WalkE F main Stop a c (G (b.at (fa n (ah f d v')) (.inRegion ops rest::k)) cs) bj):WalkE F main Stop V O (G (b.at (fa n f) (.inRegion ops (i::rest)::k)) cs) w:=by
 obtain⟨e0,hB⟩:=g.base;refine WalkE.enter q K hk (λbj=>(kJ r m rfl p).1) (λbj=>(kJ r m rfl p).2) ?_;refine NU (T:=TA) (I1 .skip) B (Sc (hB:=hB) (C.ok hB) g.cX) rfl (y e0 hB) (hc e0 hB) (λe W h=>⟨h.choose,h.choose_spec.1⟩) (λZ L u v' bj a c E t j=>?_);obtain⟨v,e1,x⟩:=E;cases e1;rw[J]at t;rw[Kf.finish_at];rw[show(ops[i]?).bind (·.dst)=Y d by rw[q];exact A,cw z];exact next e0 hB Z L u v' bj a c x t j (g.bH j.bH) j.bH
def cr.qL(j:cr V O w)(B:uD V w bk l s ds)(C:ops[i]?=Y o)(E:o.op=.call {callee:=.value (.func fn),args:=xs,argTypes:=ts})(q:xs.map (fa n f).eval=eQ)(y:o.dst=Y d)(x:d<n)(N:Region.wanted o (aw ops (fa n f).tmps)=true)(hk:b.kind≠.early)
  (t:∀w,(callFunc fn eQ).run F w=.ok (.enter fn eQ) w/\(callFunc fn eQ).events F w #[]= #[])(z:TA.has fn=true)(J:TA.ret fn=.val)(r:∀e0 (hB:Base TA V w e0),KR (TA.kind fn) (Bj hB (mA bk l s ds)) args eQ)
  (K:eR v)(hc:∀e0 (_:Base TA V w e0) g,PH F fn args (tp (wK TA V e0 w (mA bk l s ds)) g w.drawn) λe _=>e=.returned v)
  (next:∀bj a c,cr a c bj->dU V O w a c bj->WalkE F main Stop a c (G (b.at (fa n (ah f d v)) (.inRegion ops rest::k)) cs) bj):WalkE F main Stop V O (G (b.at (fa n f) (.inRegion ops (i::rest)::k)) cs) w:=
 j.Vf B (R:=λu _=>u=v) C E q y x N hk t z J r (λe0 hB g=>(hc e0 hB g).mono λe W h=>⟨v,h,rfl⟩) λe0 hB Z u W v' bj a c p L P m A=>by
  subst p;rw[K Z v' L];exact next bj a c m A
def P3{κ:Nat->Kd}{Z:Ren}{a b a' b':M}(e:dM Z (κ 0) a a')(f:dM Z (κ 1) b b'):KR κ Z #[a,b] #[a',b']:=⟨rfl,λi x y c d=>by
 match i,c,d with
 | 0,c,d=>cases c;cases d;exact e
 | 1,c,d=>cases c;cases d;exact f⟩
def vg(d:dM Z (κ 0) a a'):KR κ Z #[a] #[a']:=⟨rfl,λi x y b c=>by
 match i,b,c with
 | 0,b,c=>cases b;cases c;exact d⟩
end
variable{g d d0 d1:Nat}{x:ae}{bm bo:Nat->Prop}{o0 o1:Kp}
section
variable{b:Kf}
def eC{j g:Nat}{t:Bool}(b:o.guard=Y (j,t))(c:(ops[j]?).bind (·.dst)=Y g)(d:g<n)(a:f g=.bool (!t)):Region.wanted o (aw ops (fa n f).tmps)=false:=jc b c d a
def WalkE.E8(e:ops[i]?=Y o)(c:o.dst=Y d)(a:d<n)(g:Region.wanted o (aw ops (fa n f).tmps)=false)
  (next:WalkE F main Stop V O (G (b.at (fa n (ah f d D)) (.inRegion ops rest::k)) cs) w):WalkE F main Stop V O (G (b.at (fa n f) (.inRegion ops (i::rest)::k)) cs) w:=
 WalkE.ctl (λ_=>stepG_unwanted e g) (by rw[c,cw a];exact next)
def WalkE.pJ{t:Lk}(ad:Addr)(v:M)(j:OneCell F t)(r:ops[i]?=Y o)(l:o.op=.load t x)(m:(fa n f).eval x=.pointer (Y ad))(c:V ad.block)(hc:w.cell? ad=Y v)(q:o.dst=Y d)(p:d<n)(s:Region.wanted o (aw ops (fa n f).tmps)=true)(hk:b.kind≠.early)
  (next:WalkE F main Stop V O (G (b.at (fa n (ah f d v)) (.inRegion ops rest::k)) cs) w):WalkE F main Stop V O (G (b.at (fa n f) (.inRegion ops (i::rest)::k)) cs) w:=by
 refine WalkE.value v r s hk (λbj g=>?_) (λbj g e a=>?_) (by rw[q,cw p];exact next)
 .unfold Hn;simp only[l,m];have:=(j bj ad v (bu g c hc)).1;simp[this]
 .unfold Hn at a;simp only[l,m]at a;have h2:=(j bj ad v (bu g c hc));simp[h2.1,h2.2]at a;subst a;exact⟨rfl,c,λh=>by cases h⟩
theorem Rl{bk:aC}(b:o.op=.box 31 x)(a:(fa n f).eval x=bk.v):(Hn (fa n f).eval o).events F w #[]= #[]:=by
 unfold aC.v at a;unfold Hn;simp only[b,a];simp[go_sem]
end
def Nk(V:Nat->Prop)(w:H)(s:Sl):Prop:=cM TA V w s 0
structure Um(V:Nat->Prop)(w:H)(b:aC):Prop where
 C:Nk V w b.C
 U:Nk V w b.U
 E:Nk V w b.E
 W:Nk V w b.W
section
variable{b:aC}
def Um.mono(h:Um V w b)(a:∀x,V x->V' x)(hk:∀x,V x->bj.heap[x]?=w.heap[x]?):Um V' bj b:=⟨cM.mono h.C a hk,cM.mono h.U a hk,cM.mono h.E a hk,cM.mono h.W a hk⟩
def Um.vr(h:Um V w b){hB:Base TA V w e0}:VR (gr hB) b.v b.v:=by
 have c:VR (gr hB) (.slice b.C.A b.C.n b.C.c) (.slice b.C.A b.C.n b.C.c):=jg (cM.flat h.C);have f:VR (gr hB) (.slice b.U.A b.U.n b.U.c) (.slice b.U.A b.U.n b.U.c):=jg (cM.flat h.U);have d:VR (gr hB) (.slice b.E.A b.E.n b.E.c) (.slice b.E.A b.E.n b.E.c):=jg (cM.flat h.E);have g:VR (gr hB) (.slice b.W.A b.W.n b.W.c) (.slice b.W.A b.W.n b.W.c):=jg (cM.flat h.W);refine .agg rfl λi x y a j=>?_;have e:Y x=Y y:=a.symm.tn j;cases e
 match i,a with
 | 0,a=>cases a;exact .int _ _
 | 1,a=>cases a;exact .int _ _
 | 2,a=>cases a;exact .int _ _
 | 3,a=>cases a;exact .int _ _
 | 4,a=>cases a;exact .int _ _
 | 5,a=>cases a;exact c
 | 6,a=>cases a;exact .int _ _
 | 7,a=>cases a;exact .int _ _
 | 8,a=>cases a;exact .int _ _
 | 9,a=>cases a;exact .int _ _
 | 10,a=>cases a;exact f
 | 11,a=>cases a;exact d
 | 12,a=>cases a;exact g
end
def Uo{w:H}{b:aC}(h:aK w g 31 b):∀i v,(wE b)[i]?=Y v->w.cell? ⟨g,i,I⟩=Y v:=λi v a=>by
 unfold H.cell?;dsimp only;rw[show w.heap[g]?=_ from h];exact a
section
variable{b:Kf}
end
variable{b:Kf}{l:bN}
structure Fg(V O:Nat->Prop)(w:H)(g:Nat)(b:aC):Prop where
 co:cr V O w
 gV:V g
 box:∀(i:Nat) v,(wE b)[i]?=Y v->w (g,i)=Y v
def Fg.bH{V O bm bo:Nat->Prop}{w bj:H}{g:Nat}{b:aC}(h:Fg V O w g b)(a:dU V O w bm bo bj):Fg bm bo bj g b:=
 ⟨h.co.bH a,a.vv _ h.gV,λi v c=>aV (a.rely.keep _ h.gV) (h.box i v c)⟩
def qS(V:Nat->Prop)(w:H)(b:aC)(l:bN):Prop:=uD V w b l iy []
def B9(w:H):aN w iy []:=⟨rfl,dj _,fi _,λh=>dC h (kq 0)⟩
def Gx(V:Nat->Prop)(w:H)(m:Nat):jb V w iy m:=λa b=>by cases b
def VB{T:gq}{V0 O0 V O:Nat->Prop}{w0 w:H}{N:Nat}{ρ0:Ren}{W0:H}{g:Nat}{b b3:aC}(d:ir T F N V0 O0 w0 ρ0 ρ0 W0 w0 V0 O0)(n:W0.heap.size=N)(a:dU V0 O0 w0 V O w)(B:V g)(A:O g)(t:w0.heap.size<=g)(z:aK w g 31 b)(E:VR ρ0 b3.v b.v):
  ir T F N V0 O0 w0 ρ0 (ρ0.ext N g (N+1) false) (W0.alloc (aE b3 31)) w V O:=by
 have k:∀c x,ρ0 c=Y x->c<N:=λc x h=>n▸d.mem.dom c x h;have C:=d.mem.rely d.see a.rely;have y:=IP (n':=g) (n1:=N+1) (m:=false) k 0 zz;refine⟨⟨λc x h=>?_,λc c' s h=>?_,by rw[aa];omega,IQ k d.mem.sep λc c' s h=>iv (d.mem.cod c c' s h) t,λc o f=>?_,d.mem.tab⟩,NI,λc c' s h=>?_,λc c' s hc h=>?_,
  λx=>⟨λh=>(a.vo x h).imp id λq=>⟨h,q.1,q.2⟩,λh=>h.elim (a.vv x) (·.1)⟩,λx=>⟨λh=>(a.ov x h).imp id λq=>⟨q.1,h,q.2⟩,λh=>h.elim (a.oo x) (·.2.1)⟩,
  d.vb,a.rely.size,a.rely.tape,a.rely.os,a.rely.output,a.rely.keep,a.cX⟩
 .rw[aa];rcases iq k h with⟨j,h2⟩|⟨j,h2,l⟩<;>omega
 .rcases iq k h with⟨j,h2⟩|⟨j,h2,l⟩
  .exact iv (d.mem.cod c c' s h2) a.rely.size
  .cases l;have:=z.lt;omega
 .by_cases hc:c<N
  .rw[QR _ _ zz]at f;exact HR.mono NI C.hr c o f
  .have e:c=N:=by
    have:=(du.1 f).1;rw[aa]at this;omega
   rw[e]at f|-;rw[<- n]at f;rw[Sp]at f;cases f;refine⟨g,0,_,y.1,z,?_,λh=>dC h (kq _)⟩;rw[show(ρ0.ext N g (N+1) false).cls N=false from y.2];refine .plain (.cells (λi v hi=>?_) λi _ _ h=>dC h (Nat.not_lt_zero _));obtain⟨J,hc⟩:=eH.cellsOf E;have u:b3.v.cells[i]?=Y v:=hi;have G:=(du.1 u).1;have r:b.v.cells[i]?=Y b.v.cells[i]:=km zz;exact⟨_,r,(hc i v _ u r).mono NI⟩
 .have ø:=0;exact xbQ
 .exact xbQ
section
variable{Z:Ren}{A:Option Addr}{n c g:Nat}{y:M}{w:H}{b b3:aC}
def aaJ{y z:M}(h:VR Z (.slice A n c) y)(b:VR Z (.slice A n c) z):y=z:=by
 cases h with
 | nilSlice l c=>cases b;rfl
 | @slice _ a j l c h=>
  cases b with
  | @slice _ _ k _ _ b=>
   obtain⟨q,h2,s,g,i,-⟩:=h;obtain⟨-, e,u,d,f,-⟩:=b;obtain⟨o,r,v⟩:=j;obtain⟨p,t,s2⟩:=k;dsimp only at h2 g i e d f;rw[g]at d;obtain⟨e1,m⟩:=Prod.mk.inj (jx d);rw[h2,e,i,f,e1,m]
def yS(w:H)(g:Nat)(b:aC):Prop:=∃c z,w.heap[g]?=Y (.cells c 31 z)/\∀i v,(wE b)[i]?=Y v->c[i]?=Y v/\¬(z.1<=i/\i<z.2)
def yS.cell(h:yS w g b)(i:Nat)(v:M)(hi:(wE b)[i]?=Y v):w (g,i)=Y v:=by
 obtain⟨c,z,a,h2⟩:=h;exact(cell_of a).tn (h2 i v hi).1
section
variable{T:gq}{P:Ps}{N:Nat}{V0 O0 V O:Nat->Prop}{w0 w W:H}{ρ0 Z:Ren}
def Rm(b:ir T P N V0 O0 w0 ρ0 Z W w V O)(e:N<=g)(p:aK W g 31 b3)(n:dM Z .addr (.pointer (Y (g,0))) y):∃g' c' c,y=.pointer (Y (g',0))/\Z g=Y (g',0)/\V g'/\O g'/\w0.heap.size<=g'/\w.heap[g']?=Y (.cells c' 31 c)/\(∀(i:Nat) (v:M),(wE b3)[i]?=Y v->∃v',c'[i]?=Y v'/\VR Z v v')/\∀i,i<13->¬(c.1<=i/\i<c.2):=by
 cases n with
 | @ptr _ m h=>
  obtain⟨-, h2,s,a,d,f⟩:=h;dsimp only at a d f;obtain rfl:=(b.mem.sep g _ s e a).1;obtain⟨r,x,t,k,l,q,-⟩:=b.mem.hr.plain p f;rw[a]at k;cases k;obtain⟨g',u,z⟩:=m;simp only at h2 d l;subst h2 d
  cases q with
  | @cells _ _ c' _ _ c hc o=>exact⟨g',c',c,by rw[kl],a,b.see _ _ _ a,(b.own _ _ _ e a).1,(b.own _ _ _ e a).2,l,hc,λi hi j=>by have:=o i hi j.1 j.2;omega⟩
def Xq{B:Nat}{s:Sl}{L:List (Int×Int)}(u:ir T P N V0 O0 w0 ρ0 Z W w V O)(U:ze W B s L)(a2:VR Z (.slice s.A s.n s.c) y):∃b,y=.slice b.A b.n b.c/\bp w b L/\jb V w b (L.length*2)/\∀a,b.A=Y a->∃g z,B<=g/\Z g=Y (a.block,z):=by
 obtain⟨g,c,r,rfl,h2,Q,R,S,t⟩:=U
 cases a2 with
 | @slice _ _ p _ _ h=>
  obtain⟨-, C,z,l,E,G⟩:=h;dsimp only at l E G;obtain⟨c',z',f,r2⟩:=u.block Q l G;have hc:∀j,j<L.length*2->∃n,c'[p.off+j]?=Y (.int .i64 n)/\r[j]?=Y (.int .i64 n):=λj v=>by
   obtain⟨n,x⟩:∃n,r[j]?=Y (.int .i64 n):=by
    obtain⟨e1,d⟩:=t (j/2) zz;rcases(show j=j/2*2\/j=j/2*2+1 by omega)with e|e
    .rw[<- e]at e1;exact⟨_,e1⟩
    .rw[<- e]at d;exact⟨_,d⟩
   obtain⟨v',m,i⟩:=r2 j _ x;cases i;refine⟨n,?_,x⟩;rw[E,kl,Nat.add_comm];exact m
  obtain⟨q,A,b⟩:=p;simp only at C hc f;subst C;have a1:=(du.1 f).1;refine⟨⟨Y ⟨q,A,I⟩,L.length,c⟩,rfl,⟨rfl,R,S,λ_=>⟨q,A,rfl,a1,λk hk=>?_⟩⟩,λa o=>?_,λa o=>by cases o;exact⟨g,z,h2,l⟩⟩
  .obtain⟨n1,e1,d⟩:=hc (k*2) zz;obtain⟨n2,m,i⟩:=hc (k*2+1) zz;obtain⟨J,K⟩:=t k hk;rw[J]at d;rw[K]at i;rw[cell_of f,cell_of f,e1,Nat.add_assoc,m];exact⟨d.symm,i.symm⟩
  .cases o;exact⟨rfl,u.see _ _ _ l,c',_,z',f,λj v=>let⟨n,e,_⟩:=hc j v;⟨_,e,cR _ _⟩⟩
end
def yS.of{c':Array M}{z':Nat×Nat}(h:w.heap[g]?=Y (.cells c' 31 z'))(hc:∀(i:Nat) (v:M),(wE b3)[i]?=Y v->∃v',c'[i]?=Y v'/\VR Z v v')(j:∀i,i<13->¬(z'.1<=i/\i<z'.2))
  (f:b3.S=b.S/\b3.D=b.D/\b3.L=b.L/\b3.lo=b.lo/\b3.hi=b.hi/\b3.rf=b.rf/\b3.rh=b.rh/\b3.cf=b.cf/\b3.ch=b.ch)
  (k:VR Z (.slice b3.C.A b3.C.n b3.C.c) (.slice b.C.A b.C.n b.C.c))(m:VR Z (.slice b3.U.A b3.U.n b3.U.c) (.slice b.U.A b.U.n b.U.c))(l:VR Z (.slice b3.E.A b3.E.n b3.E.c) (.slice b.E.A b.E.n b.E.c))(n:VR Z (.slice b3.W.A b3.W.n b3.W.c) (.slice b.W.A b.W.n b.W.c)):yS w g b:=by
 refine⟨c',z',h,λi v hi=>?_⟩;have d:i<13:=(du.1 hi).1;refine⟨?_,j i d⟩;obtain⟨c,a⟩:∃c,(wE b3)[i]?=Y c:=⟨_,km (show i<(wE b3).size from d)⟩;obtain⟨v',e,h2⟩:=hc i c a;rw[e];obtain⟨n1,o,p,q,r,s,t,u,y⟩:=f
 match i,hi,a with
 | 0,hi,a|1,hi,a|2,hi,a|3,hi,a|4,hi,a|6,hi,a|7,hi,a|8,hi,a|9,hi,a=>cases hi;cases a;cases h2;exact eh (λx=>Y (M.int .i64 x)) (by assumption)
 | 5,hi,a|10,hi,a|11,hi,a|12,hi,a=>cases hi;cases a;exact eh Y (aaJ h2 (by assumption))
def aaK{Z ρ':Ren}(h:∀b,Z b=ρ' b)(hc:∀b,Z.cls b=ρ'.cls b)(i:VR Z (.slice A n c) y):VR ρ' (.slice A n c) y:=by
 cases i with
 | nilSlice=>exact .nilSlice _ _
 | slice _ _ g=>
  obtain⟨a,h2,s,d,e,f⟩:=g;exact .slice _ _ ⟨a,h2,s,(h _).symm.tn d,e,(hc _).symm.tn f⟩
def ab2(d:b3.S=b.S/\b3.D=b.D/\b3.L=b.L/\b3.lo=b.lo/\b3.hi=b.hi/\b3.rf=b.rf/\b3.rh=b.rh/\b3.cf=b.cf/\b3.ch=b.ch)
  (n:VR Z (.slice b3.C.A b3.C.n b3.C.c) (.slice b.C.A b.C.n b.C.c))(p:VR Z (.slice b3.U.A b3.U.n b3.U.c) (.slice b.U.A b.U.n b.U.c))(o:VR Z (.slice b3.E.A b3.E.n b3.E.c) (.slice b.E.A b.E.n b.E.c))(q:VR Z (.slice b3.W.A b3.W.n b3.W.c) (.slice b.W.A b.W.n b.W.c)):VR Z b3.v b.v:=by
 obtain⟨n1,e,f,g,h,j,k,l,m⟩:=d;unfold aC.v;rw[n1,e,f,g,h,j,k,l,m];refine .agg rfl λi x y a c=>?_
 match i,a,c with
 | 0,a,c|1,a,c|2,a,c|3,a,c|4,a,c|6,a,c|7,a,c|8,a,c|9,a,c=>cases a;cases c;exact .int _ _
 | 5,a,c|10,a,c|11,a,c|12,a,c=>cases a;cases c;assumption
def qR{κ:Nat->Kd}{n d:Nat}{f f':Nat->M}{v v':M}(h:KR κ Z (fa n f).tmps (fa n f').tmps)(c:dM Z (κ d) v v'):KR κ Z (fa n (ah f d v)).tmps (fa n (ah f' d v')).tmps:=by
 refine⟨by simp[fa],λi x y a b=>?_⟩;have hi:i<n:=by
  have:=(du.1 a).1;simpa[fa]using this
 rw[ej hi]at a b;cases a;cases b;unfold ah;by_cases e:i=d
 .subst e;rw[dE rfl,dE rfl];exact c
 .rw[cd e,cd e];exact h.2 i _ _ (ej hi) (ej hi)
end
section
variable{fn n r:Nat}{F:Func}
section
variable{main:Bool}{Stop:(Nat->Prop)->(Nat->Prop)->QP->H->Prop}{V O:Nat->Prop}{w:H}{b:Kf}{K:List Item}{cs:List Kf}{ops:Array Kp}{n:Nat}{f:Nat->M}{rest:List Nat}
end
def XX(fn n r:Nat)(g:QP):Prop:=∃f k,g=G { (bs .normal fn).at (fa n f) k with mode:=.returning} []/\f r=.bool true
def Tx(hF:Hb.funcs[fn]?=Y F)(d:F.results= #[.tmp r])(i:r<n)(g:2≠fn){f:Nat->M}{k:List Item}(h:f r=.bool true)(w:H):Lq Hb true (G { (bs .normal fn).at (fa n f) k with mode:=.returning} []) w=.ended (.done (.bool true)) w #[]:=by
 have e:(fa n f).tmps[r]?=Y (.bool true):=by rw[ej i,h]
 have b:(results F (fa n f).tmps).run Hb w=.ok (.bool true) w:=by
  exact Z2
 have h2:(results F (fa n f).tmps).events Hb w #[]= #[]:=by
  exact Z2
 have c:(fa n f).defers=[]:=rfl;generalize fa n f=a at b h2 c|-;simp[c,G,Lq,unwind,doReturn,Kf.at,bs,hF,b,h2,seen,GStep.after,g];done
def Ie(fn n r:Nat)(c0:Kf):Prop:=∀(a c:Nat->Prop) (b:H),WalkE Hb true (λd _ e f=>XX fn n r e/\(∀x,a x->d x)/\aH a b f) a c (G (c0.finish (.bool true)) []) b
def MO(fn n r:Nat)(V:Nat->Prop)(w:H)(V' a:Nat->Prop)(g':QP)(w':H):Prop:=
 ∃c0,g'=G (Kf.enter Hb 8 #[] .normal) [c0]/\cr V' a w'/\(∀x,V x->V' x)/\aH V w w'/\Ie fn n r c0
def QB(hF:Hb.funcs[fn]?=Y F)(t:F.results= #[.tmp r])(A:r<n)(y:2≠fn){post:M->H->Prop}{J:Gh}{w:H}{fr:Kf}(o:Main J w)
  (walk:WalkE Hb true (MO fn n r (J.V 0) w) (J.V 0) (J.O 0) (G fr []) w)
  (v:∀w',aH (J.V 0) w w'->post (.bool true) w'):aQ fI Hb post (G fr []) J w:=by
 refine aQ.walk walk (λ_=>dq) (λ_=>dq) (λi P S V σ1 a d s hk=>?_);obtain⟨c0,rfl,l,e,B,m⟩:=a;have p:=l.main o hk d s;obtain rfl:i=σ1.V 0:=funext λb=>propext (d b).symm;refine Rj p λσ2 O q L C=>?_;refine aQ.walk (m (σ2.V 0) (σ2.O 0) O) (λ_=>dq) (λ_=>dq) (λR Q T W Z a u U z=>?_);obtain⟨⟨f,k,rfl,j⟩,N,E⟩:=a;refine aQ.Zi (z.md.tn q.idle.md) λh K=>⟨_,Tx hF t A y j h,v h ?_⟩;have g:∀x,J.V 0 x->σ2.V 0 x:=λx c=>L x (e x c);exact((B.tn (C.mono e)).tn (E.mono g)).tn (K.mono λx c=>(u x).2 (N x (g x c)))
end
variable{t:Lk}
theorem WalkE.pK{op:BinOp}{F:Int->Int->Bool}{x y:ae}{t t':Lk}{a c:Int}(r:Bool)(hF:TG op=Y F)(m:ops[i]?=Y o)(e:o.op=.binOp op t x y t')(g:(fa n f).eval x=.int .i64 a)(h:(fa n f).eval y=.int .i64 c)(p:F a c=r)(l:o.dst=Y d)(j:d<n)(q:Region.wanted o (aw ops (fa n f).tmps)=true)(hk:b.kind≠.early)
  (next:WalkE Hb main Stop V O (G (b.at (fa n (ah f d (.bool r))) (.inRegion ops rest::k)) cs) w):WalkE Hb main Stop V O (G (b.at (fa n f) (.inRegion ops (i::rest)::k)) cs) w:=
 WalkE.pv _ m l j q hk (λbj=>Sr e hF g h p ⟨rfl⟩) (λbj=>by
  unfold Hn;simp only[e,g,h];cases op<;>cases hF<;>simp[go_sem]) next
theorem WalkE.Ur{s z g off kk:Nat}(a:(ZK s)[kk]?=Y z)(j:ops[i]?=Y o)(c:o.op=.fieldAddr s x kk)(e:(fa n f).eval x=.pointer (Y (g,off)))(p:o.dst=Y d)(m:d<n)(l:Region.wanted o (aw ops (fa n f).tmps)=true)(hk:b.kind≠.early)
  (next:WalkE F main Stop V O (G (b.at (fa n (ah f d (.pointer (Y (g,off+z))))) (.inRegion ops rest::k)) cs) w):WalkE F main Stop V O (G (b.at (fa n f) (.inRegion ops (i::rest)::k)) cs) w:=
 WalkE.pv _ j p m l hk (λbj=>TH c a e ⟨rfl⟩) (λbj=>by
  unfold Hn;simp only[c,e];clear c e j l next;unfold ZK at a;repeat' split at a
  .subst s;iterate 10 (rcases kk with _|kk; · cases a;simp[go_sem])
   cases a
  .subst s;iterate 3 (rcases kk with _|kk; · cases a;simp[go_sem])
   cases a
  .rename_i h;iterate 2 (rcases kk with _|kk; · cases a;rcases h with rfl|rfl|rfl|rfl|rfl<;>simp[go_sem])
   cases a
  .cases a) next
theorem WalkE.IA{A:Option Addr}{m c:Nat}(a:[24,27,28,29].contains t=true)(p:ops[i]?=Y o)(e:o.op=.call {callee:=.builtin .len,args:= #[x],argTypes:= #[t]})(h:(fa n f).eval x=.slice A m c)(g:o.type=3)(l:o.dst=Y d)(j:d<n)(q:Region.wanted o (aw ops (fa n f).tmps)=true)(hk:b.kind≠.early)
  (next:WalkE F main Stop V O (G (b.at (fa n (ah f d (.int .i64 m))) (.inRegion ops rest::k)) cs) w):WalkE F main Stop V O (G (b.at (fa n f) (.inRegion ops (i::rest)::k)) cs) w:=
 WalkE.pv _ p l j q hk (λbj=>SF e a g h ⟨rfl⟩) (λbj=>by
  unfold Hn;simp only[e,ab,zM,h,g];simp at a;rcases a with rfl|rfl|rfl|rfl<;>simp[go_sem]) next
variable{b:aC}{N:Nat}{K:List Item}{eye:Int}
def aaj:∀(E:List (Int×Int)) (uB:Int),qG (bX N b) uB E=qG b uB E
 | [],_=>rfl
 | e::r,uB=>by rw[qG,qG];exact aaj r _
def aak{l:bN}:ve (bX N b) l=ve b l:=by
 unfold ve;rw[aaj];rfl
def Qv{l:bN}:ay (bX N b) l=ay b l:=rfl
def Qw:mX (bX N b)=mX b:=rfl
theorem Ov:OneCell F 28:=λw ad v h=>⟨by go_simp,by simp[go_sem,h]⟩
variable{a2 a3 a4:Int}
def jJ2(b:aC)(eye a2 a3 a4:Int):Array M:= #[b.v,.int .u8 eye,.int .u8 a2,.int .u8 a3,.int .u8 a4]
def Vu(b:aC)(eye a2 a3 a4:Int):Nat->M:=λi=>(jJ2 b eye a2 a3 a4).getD i D
def aaL(b:aC)(eye a2 a3 a4:Int):Kf.enter F 6 (jJ2 b eye a2 a3 a4) .normal=(bs .normal 6).at (fa 257 (Vu b eye a2 a3 a4)) [.code mO]:=by
 rw[enter_at (c:=mO) (jJ2 b eye a2 a3 a4) Tryz.func6 rfl];have:jJ2 b eye a2 a3 a4++Array.replicate (Tryz.f6.ntmps-(jJ2 b eye a2 a3 a4).size) D=(Array.range 257).map (Vu b eye a2 a3 a4):=iu (A:=jJ2 b eye a2 a3 a4) (k:=252) (n:=257) rfl;rw[this];rfl
def Wd0:mO=.seq (.region 0 abp false) (.seq (.seq (.region 1 XL false) (.cond (.tmp 33) (.seq (.region 2 IB false) .ret) .skip)) Vz):=rfl
def frW(s:Nat->M)(v:M)(g:Nat)(A:Option Addr)(n c:Nat):Nat->M:=
 ah (ah (ah (ah (ah (ah (ah (ah (ah (ah (ah s 5 (.pointer (Y (g,0)))) 10 (.bool false)) 25 v) 26 (.bool true)) 27 (.bool false)) 28 (.bool false)) 29 (.pointer (Y (g,0+11)))) 30 (.slice A n c)) 31 (.int .i64 n)) 32 (.bool false)) 33 (.bool false)
def Xr(E:cr V O w)(B:Um V w b)(a6:mX b=false->∃l,qS V w b l)
  (T:∀f' bj c d,cr c d bj->dU V O w c d bj->WalkE F main Stop c d (G (Kf.enter F 8 #[] .normal) ((bs .normal 6).at (fa 257 f') (.inRegion IB [0,1]::[.code .ret,.code Vz])::cs)) bj)
  (Z:∀l,qS V w b l->ay b l=0->0<b.E.n->∀bj c d g,cr c d bj->dU V O w c d bj->c g->d g->w.heap.size<=g->aK bj g 31 b->WalkE F main Stop c d (G ((bs .normal 6).at (fa 257 (frW (Vu b eye a2 a3 a4) b.v g b.E.A b.E.n b.E.c)) [.code Vz]) cs) bj):
  WalkE F main Stop V O (G (Kf.enter F 6 (jJ2 b eye a2 a3 a4) .normal) cs) w:=by
 have hk:(bs .normal 6).kind≠.early:=by simp[bs]
 rw[aaL,Wd0];refine WalkE.seq (WalkE.reg (l:=[0,1]) rfl ?_);refine WalkE.oa (aE b 31) (λg=>.pointer (Y ⟨g,0,I⟩)) rfl rfl zz rfl hk (λbj _=>B8 rfl (ag (t:=0) zz rfl)) (λbj _ e h=>by rw[Rl rfl (ag (t:=0) zz rfl)]at h;simp at h) λp L=>?_;have j:=((dU.refl (O:=O) E.cX).step L).make (aE b 31);have u:aK (p.alloc (aE b 31)) p 31 b:=Sp _ _;have k:Fg _ _ _ p b:=⟨E.bH j,.inr rfl,Uo u⟩;have J:=L.size;generalize s:p.heap.size=g at j u k J|-;generalize(λx=>V x\/x=g)=V1 at j k|-;generalize(λx=>O x\/x=g)=O1 at j k|-;generalize p.alloc (aE b 31)=r at j u k|-;have B:=B.mono j.vv j.rely.keep;refine WalkE.av (.bool false) rfl (.inr rfl) rfl rfl zz wnn hk (WalkE.aT ?_);have y:ah (ah (Vu b eye a2 a3 a4) 5 (.pointer (Y (g,0)))) 10 (.bool false) 5=.pointer (Y (g,0)):=rfl;generalize a5:ah (ah (Vu b eye a2 a3 a4) 5 (.pointer (Y ⟨g,0,I⟩))) 10 (.bool false)=U at y|-;refine WalkE.seq (WalkE.seq (WalkE.reg (l:=[0,1,2,3,4,5,6,7,8]) rfl ?_));refine WalkE.dV k.box k.gV rfl rfl (ft y) rfl zz rfl hk ?_;have P:∀{f':Nat->M} bj c d,cr c d bj->dU V1 O1 r c d bj->f' 33=.bool true->WalkE F main Stop c d (G ((bs .normal 6).at (fa 257 f') (.code (.cond (.tmp 33) (.seq (.region 2 IB false) .ret) .skip)::[.code Vz])) cs) bj:=by
  intro f' bj c d m i a1;refine WalkE.cond (t:=true) (ft a1) ?_;rw[dE rfl];refine WalkE.seq (WalkE.reg (l:=[0,1]) rfl ?_);refine WalkE.enter (f:=8) (args:= #[]) rfl wnn hk (λbj=>(kJ (args:= #[]) rfl ss rfl λ_=>⟨rfl,rfl⟩).1) (λbj=>(kJ (args:= #[]) rfl ss rfl λ_=>⟨rfl,rfl⟩).2) ?_;exact T _ _ _ _ m (j.tn i)
 have C:∀(q:Bool) bj c d,cr c d bj->dU V1 O1 r c d bj->(q=true->∃l,ay b l=0/\qS V w b l)->WalkE F main Stop c d (G ((bs .normal 6).at (fa 257 (ah (ah U 25 b.v) 26 (.bool q))) (.inRegion XL [2,3,4,5,6,7,8]::[.code (.cond (.tmp 33) (.seq (.region 2 IB false) .ret) .skip),.code Vz])) cs) bj:=by
  intro q bj c d m i o;refine WalkE.BS (!q) rfl rfl (ft rfl) rfl rfl zz wnn hk ?_;refine WalkE.av (.bool (!q)) rfl (.inl rfl) (ft rfl) rfl zz wnn hk ?_;cases q
  .iterate 4 refine WalkE.E8 rfl rfl zz (eC rfl rfl zz rfl) ?_
   refine WalkE.cj (a:=true) (.bool true) rfl rfl (ft rfl) ((dE rfl).tn rfl) rfl zz wnn hk (WalkE.aT ?_);exact P _ _ _ m i rfl
  .have n:=k.bH i;refine WalkE.Ur rfl rfl rfl (ft (nt (nt (nt (nt y))))) rfl zz (az rfl rfl zz rfl) hk ?_;refine WalkE.pJ ⟨g,0+11,I⟩ (.slice b.E.A b.E.n b.E.c) Ov rfl rfl (ft rfl) n.gV (n.box 11 _ rfl) rfl zz (az rfl rfl zz rfl) hk ?_;refine WalkE.IA rfl rfl rfl (ft rfl) rfl rfl zz (az rfl rfl zz rfl) hk ?_;obtain⟨z,N⟩:∃z,((b.E.n:Int)==0)=z:=⟨_,rfl⟩;refine WalkE.pK z rfl rfl rfl (ft rfl) rfl N rfl zz (az rfl rfl zz rfl) hk ?_;refine WalkE.cj (a:=false) (.bool z) rfl rfl (ft rfl) ((cd Bool.false_ne_true).tn (ft rfl)) rfl zz wnn hk (WalkE.aT ?_);cases z
   .refine WalkE.cond (t:=false) (ft rfl) ?_;rw[cd ss];obtain⟨l,h1,h2⟩:=o rfl;have a7:0<b.E.n:=by simp at N;omega
    have:=Z l h2 h1 a7 bj c d g m (j.tn i) n.gV ((n.co.vo g).1 n.gV) J ((i.rely.keep g k.gV).tn u);unfold frW at this;rw[a5]at this;exact WalkE.skip this
   .exact P _ _ _ m i rfl
 cases s:mX b
 .obtain⟨l,K⟩:=a6 s;have hi:=K.bH j;refine cr.qL (args:= #[(bX r.heap.size b).v]) (v:=.bool (ay b l==0)) k.co hi rfl rfl (mY (ft rfl)) rfl zz wnn hk (λ_=>⟨rfl,rfl⟩) rfl rfl (λe0 hB=>vg (by exact hi.RH)) (dQ _) (λe0 hB Q=>(Qu (bX r.heap.size b) l _ (Qw.tn s) (hi.lone (e0:=e0) Q r.drawn).1).mono λe W q=>by rw[Qv]at q;exact q.1) λw3 S R A i=>C _ _ _ _ A i λo=>⟨l,by simpa using o,K⟩
 .exact cr.jZ (args:= #[b.v]) (v:=.bool false) k.co rfl rfl (mY (ft rfl)) rfl zz wnn hk (λ_=>⟨rfl,rfl⟩) rfl rfl (λe0 hB=>jy (by exact B.vr)) (dQ _) (λe0 Q=>(Qt b _ s).mono λe W q=>q.1) λw3 S R A i=>C _ _ _ _ A i λo=>by cases o
def MN:Ly:=JH 19 Vz
def ab3:Ro (TR MN) F (xO 6) 19 Vz=true:=xbR
def aaN{κ:Nat->Kd}{Z:Ren}{b3 b:aC}{g g':Nat}(j:VR Z b3.v b.v)(d:VR Z (.slice b3.E.A b3.E.n b3.E.c) (.slice b.E.A b.E.n b.E.c))(f:Z g=Y (g',0)/\Z.cls g=false)(h:b3.E.n=b.E.n)(r:κ 5=.addr)(p:κ 29=.addr)(k0:κ 0=.val)(o:κ 25=.val)(q:κ 30=.val):
  KR κ Z (fa 257 (frW (Vu b3 eye a2 a3 a4) b3.v g b3.E.A b3.E.n b3.E.c)).tmps (fa 257 (frW (Vu b eye a2 a3 a4) b.v g' b.E.A b.E.n b.E.c)).tmps:=by
 have e:∀{x:Nat},dM Z .addr (.pointer (Y (g,x))) (.pointer (Y (g',x))):=.ptr ⟨rfl,rfl,0,f.1,rfl,f.2⟩;have l:KR κ Z (jJ2 b3 eye a2 a3 a4) (jJ2 b eye a2 a3 a4):=⟨rfl,λi x y a c=>by
  match i,a,c with
  | 0,a,c=>cases a;cases c;rw[k0];exact j
  | 1,a,c|2,a,c|3,a,c|4,a,c=>cases a;cases c;exact .int _ _⟩
 have m:KR κ Z (fa 257 (Vu b3 eye a2 a3 a4)).tmps (fa 257 (Vu b eye a2 a3 a4)).tmps:=by
  have:=NM l 257;rw[iu (A:=jJ2 b3 eye a2 a3 a4) (k:=257-(jJ2 b3 eye a2 a3 a4).size) (n:=257) rfl,iu (A:=jJ2 b eye a2 a3 a4) (k:=257-(jJ2 b eye a2 a3 a4).size) (n:=257) rfl]at this;exact this
 unfold frW;rw[h];rw[h]at d;refine qR (qR (qR (qR (qR (qR (qR (qR (qR (qR (qR m (by rw[r];exact e)) (.bool _)) (by rw[o];exact j)) (.bool _)) (.bool _)) (.bool _)) (by rw[p];exact e)) (by rw[q];exact d)) (.int _ _)) (.bool _)) (.bool _)
def Vv(v:cr V O w)(hi:qS V w b l)(hc:ay b l=0){m:Nat}(c9:m<l.E.length)(h1:0<=eye/\eye<=255)(h2:0<=a2/\a2<=255)(h3:0<=a3/\a3<=255)(h4:0<=a4/\a4<=255)(c6:eye%b.E.n=m)
  {bm bo:Nat->Prop}{bj:H}{g:Nat}(c7:dU V O w bm bo bj)(b':bm g)(b7:bo g)(c8:w.heap.size<=g)(d3:aK bj g 31 b)
  (next:∀f' d p t u k s,cr p t d->dU V O w p t d->f' 5=.pointer (Y (u,0))->f' 15=.pointer (Y (k,0))->p u->yS d u b->p k->w.heap.size<=k->yS d k {b with E:=s,rf:=b.rf-a3%8}->k≠u->(∀a,s.A=Y a->a.block≠k)->qS p d {b with E:=s,rf:=b.rf-a3%8} {l with E:=[l.E.getD m (0,0)]}->WalkE Hb main Stop p t (G ((bs .normal 6).at (fa 257 f') [.code MN]) cs) d):
  WalkE Hb main Stop bm bo (G ((bs .normal 6).at (fa 257 (frW (Vu b eye a2 a3 a4) b.v g b.E.A b.E.n b.E.c)) [.code Vz]) cs) bj:=by
 obtain⟨e0,hB⟩:=v.base;have a1:=Sc (T:=TR MN) (P:=Hb) (hB:=hB.tr) (O:=O) (hi.ok hB) v.cX;have C:∀{A n c y},VR (Bj hB (mA b l iy [])) (.slice A n c) y->VR (Bj (hB.tr (r:=MN)) (mA b l iy [])) (.slice A n c) y:=λh=>aaK (Z:=Bj hB (mA b l iy [])) (ρ':=Bj (hB.tr (r:=MN)) (mA b l iy [])) (λ_=>rfl) (λ_=>rfl) h;have J:=C (yV (j:=0) hi.C rfl);have L:=C (yV (j:=1) hi.U rfl);have K:=C (yV (j:=2) hi.E rfl);have N:=C (yV (j:=3) hi.W rfl);have a6:=ab2 (b3:=bX w.heap.size b) (b:=b) ⟨rfl,rfl,rfl,rfl,rfl,rfl,rfl,rfl,rfl⟩ J L K N;have b6:=VB a1 qf c7 b' b7 c8 d3 a6;have c4:∀c x,(Bj (hB.tr (r:=MN)) (mA b l iy [])) c=Y x->c<w.heap.size+(mA b l iy []).length:=λc x h=>by have:=a1.mem.dom c x h;rw[qf]at this;exact this
 have c':=IP (n':=g) (n1:=w.heap.size+(mA b l iy []).length+1) (m:=false) c4 0 zz;refine VA (T:=TR MN) (Q1:=ab1 (wK TA V e0 w (mA b l iy [])) (bX w.heap.size b) (l.E.getD m (0,0)) (b.rf-a3%8)) (I1 _) (QC ab3 rfl) b6 (aaN (g:=w.heap.size+(mA b l iy []).length) (a6.mono NI) (K.mono NI) c' rfl kr kr kr kr kr) (λQ=>?_) λZ d' W1 d9 d p t d2 a5 o=>?_
 .have:=Qy (b:=bX w.heap.size b) (w0:=tp (wK TA V e0 w (mA b l iy [])) Q ((wK TA V e0 w (mA b l iy [])).alloc (aE (bX w.heap.size b) 31)).drawn) (hi.lone Q _).1 (mh v.checks hB Q _) (Qv.tn hc) c9 h1 h2 h3 h4 c6 (f:=frW (Vu (bX w.heap.size b) eye a2 a3 a4) (bX w.heap.size b).v (w.heap.size+(mA b l iy []).length) (bX w.heap.size b).E.A (bX w.heap.size b).E.n (bX w.heap.size b).E.c) rfl rfl rfl rfl (by rw[qK];rfl);exact this
 .obtain⟨F,k,s,rfl,S,b4,B,a8,d4,b9⟩:=d2;rw[qf]at B a8 S;obtain⟨f',rfl,-⟩:=qd (n:=257) (by rw[<- a5.1];simp[fa]);have a':∀i,i<257->dM Z (xO 6 i) (F i) (f' i):=λi hi=>a5.2 i _ _ (ej hi) (ej (f:=f') hi);have s5:=a' 5 zz;have a9:=a' 15 zz;rw[S,show xO 6 5=.addr by kernel_rfl]at s5;rw[b4,show xO 6 15=.addr by kernel_rfl]at a9;obtain⟨W,c5,z5,y5,r5,V5,O5,d5,b2,a0,Z5⟩:=Rm o (dj _) a8 s5;obtain⟨U,c2,z2,y2,r2,V2,d6,G2,b1,R,Z2⟩:=Rm o (q9A B) d4 a9;obtain⟨v',d8,a7⟩:=R 11 _ rfl;obtain⟨s',rfl,b8,b0,b5⟩:=Xq o b9 a7;have up:∀{x y},VR (Bj (hB.tr (r:=MN)) (mA b l iy [])) x y->VR Z x y:=λh=>h.mono o.le;have c3:yS d W b:=yS.of b2 a0 Z5 ⟨rfl,rfl,rfl,rfl,rfl,rfl,rfl,rfl,rfl⟩ (up J) (up L) (up K) (up N);have d1:yS d U {b with E:=s',rf:=b.rf-a3%8}:=yS.of b1 R Z2 ⟨rfl,rfl,rfl,rfl,rfl,rfl,rfl,rfl,rfl⟩ (up J) (up L) a7 (up N);have q:=hi.bH o.bH;refine next f' d p t W U s' (v.bH o.bH) o.bH y5 y2 V5 c3 V2 G2 d1 (λe=>?_) (λa c1 e=>?_) ⟨⟨q.at_.C,q.at_.U,b8,q.at_.W⟩,q.dt,q.C,q.U,b0,q.W,q.D⟩
  .subst e;have:=(o.mem.sep k _ _ (q9A B) r2).2 _ _ r5;omega
  .obtain⟨d7,z,q1,q2⟩:=b5 a c1;rw[e]at q2;have:=(o.mem.sep k _ _ (q9A B) r2).2 _ _ q2;omega
variable{o:aC}
def Yq{p:Prop}(h:p:=by first|(refine Ls ?_;(repeat (first|exact au _ _ _|assumption|refine Oh ?_));done)|exact rfl):p:=h
def wkp{p:Prop}(h:p:=by(repeat (refine(cu _ _ ?_).tn ?_;omega));exact rfl):p:=h
def ab4(b:Fg V O w g o)(a:qS V w o l)(m:f 15=(g,0))
  (next:∀f' bj c d,dU V O w c d bj->(∀i,i<25->f' i=f i)->f' 201=.bool (ay o l != 0)->WalkE F main Stop c d (G ((bs .normal 6).at (fa 257 f') K) cs) bj):
  WalkE F main Stop V O (G ((bs .normal 6).at (fa 257 f) (.code (.region 26 Us false)::K)) cs) w:=by
 have ø:=0;exact xbO
def ab5(b:Fg V O w g o)(a:qS V w o l)(m:f 15=(g,0))
  (next:∀f' bj c d,dU V O w c d bj->(∀i,i<18->f' i=f i)->f' 19=.bool (sv o l 0).1->f' 20=.bool (sv o l 0).2.1->f' 18=.int .i64 (sv o l 0).2.2->WalkE F main Stop c d (G ((bs .normal 6).at (fa 257 f') K) cs) bj):
  WalkE F main Stop V O (G ((bs .normal 6).at (fa 257 f) (.code (.region 28 Ut false)::K)) cs) w:=xbO
def Ni{r c:Nat}{ops:Array Kp}(n:(r=29/\ops=Uu/\c=21)\/(r=31/\ops=Uw/\c=23))(a:Fg V O w g o)(b:qS V w o l)(k:f 15=(g,0))
  (next:∀f' bj d h,dU V O w d h bj->(∀i,i<c->f' i=f i)->f' c=.int .i64 (ve o l).1->f' (c+1)=.int .i64 (ve o l).2->WalkE F main Stop d h (G ((bs .normal 6).at (fa 257 f') K) cs) bj):
  WalkE F main Stop V O (G ((bs .normal 6).at (fa 257 f) (.code (.region r ops false)::K)) cs) w:=by
 have hk:(bs .normal 6).kind≠.early:=by simp[bs]
 rcases n with⟨rfl,rfl,rfl⟩|⟨rfl,rfl,rfl⟩
 all_goals
  refine WalkE.reg (l:=[0,1,2,3,4,5,6]) rfl ?_;refine WalkE.dV a.box a.gV rfl rfl (ft k) rfl zz rfl hk ?_;refine cr.qL (args:= #[(bX w.heap.size o).v]) (v:=.tuple #[.int .i64 (ve o l).1,.int .i64 (ve o l).2]) a.co b rfl rfl (mY (ft rfl)) rfl zz wnn hk (λ_=>⟨rfl,rfl⟩) rfl rfl (λe0 hB=>vg (by exact b.RH)) (zg (aG _ _) (aG _ _)) (λe0 hB j=>(qT (bX w.heap.size o) l _ (b.lone (e0:=e0) j w.drawn).1 (mh a.co.checks hB j w.drawn)).mono λe W q=>by rw[aak]at q;exact q.1) λu s p t m=>?_;refine wss ?_;exact WalkE.aT (next _ _ _ _ m (λi hi=>wkp) rfl rfl)
section
variable{w:H}{g i:Nat}{b:aC}
def Rn{p:Prop}(h:p:=by repeat (first|exact au _ _ _|assumption|refine Oh ?_)):p:=h
theorem aaQ{Z:ae->M}{o:Kp}{x y:ae}{a:Int}{v:M}(c:o.op=.store 3 x y)(e:Z x=.pointer (Y (g,i)))(f:Z y=.int .i64 a)(d:w (g,i)=Y v)(b:w.frozen? (g,i)=false):(Hn Z o).events F w #[]= #[⟨.cell (g,i),true,false⟩]:=by
 unfold Hn;simp only[c,e,f];simp[go_sem,d,b]
def yS.keep{w bj:H}(h:yS w g b)(hk:bj.heap[g]?=w.heap[g]?):yS bj g b:=by
 obtain⟨c,z,a,h2⟩:=h;exact⟨c,z,hk.tn a,h2⟩
def yS.free(h:yS w g b)(hi:i<13):w.frozen? (g,i)=false:=by
 obtain⟨c,z,a,h2⟩:=h;have:=(h2 i _ (km (show i<(wE b).size from hi))).2;unfold H.frozen?;dsimp only;rw[a];simp;omega
def yS.rf(h:yS w g b)(x:Int):yS (w.setCell (g,6) (.int .i64 x)) g {b with rf:=x}:=by
 obtain⟨c,z,a,h2⟩:=h;have d:(w.setCell (g,6) (.int .i64 x)).heap[g]?=Y (.cells (c.setIfInBounds 6 (.int .i64 x)) 31 z):=by simp[H.setCell,ml,a]
 have j:=(du.1 (h2 6 _ rfl).1).1;refine⟨_,z,d,λi v hi=>?_⟩;rw[ma];by_cases e:6=i
 .subst e;cases hi;exact⟨by rw[dE rfl,dE j];rfl,(h2 6 _ rfl).2⟩
 .rw[cd e];have:(wE b)[i]?=Y v:=by
   have f:i<13:=(du.1 hi).1
   match i,f,hi,e with
   | 0,_,hi,_|1,_,hi,_|2,_,hi,_|3,_,hi,_|4,_,hi,_|5,_,hi,_|7,_,hi,_|8,_,hi,_|9,_,hi,_|10,_,hi,_|11,_,hi,_|12,_,hi,_=>exact hi
   | 6,_,_,e=>exact dC rfl e
  exact h2 i v this
section
variable{main:Bool}{Stop:(Nat->Prop)->(Nat->Prop)->QP->H->Prop}{V O V0 O0:Nat->Prop}{w w0:H}{K:List Item}{cs:List Kf}{g5 g2:Nat}{b o:aC}{f:Nat->M}
def ab6(t:∀x,V0 x->x<w0.heap.size)(s:dU V0 O0 w0 V O w)(u:w0.heap.size<=g2)(v:g2≠g5)(h:V g2)(m:O g2)(n:V g5)(k:yS w g5 b)(h2:yS w g2 o)(r:f 5=(g5,0))(q:f 15=(g2,0))
  (next:∀f' bj,dU V0 O0 w0 V O bj->yS bj g5 b->yS bj g2 {o with rf:=b.rf}->(∀x,V x/\x≠g2->bj.heap[x]?=w.heap[x]?)->(∀i,i<25->f' i=f i)->WalkE F main Stop V O (G ((bs .normal 6).at (fa 257 f') K) cs) bj):
  WalkE F main Stop V O (G ((bs .normal 6).at (fa 257 f) (.code (.region 30 Uv false)::K)) cs) w:=by
 have hk:(bs .normal 6).kind≠.early:=by simp[bs]
 refine WalkE.reg (l:=[0,1,2,3,4,5]) rfl ?_;refine WalkE.Ur rfl rfl rfl (ft r) rfl zz wnn hk ?_;refine WalkE.Ur rfl rfl rfl (ft rfl) rfl zz wnn hk ?_;refine WalkE.pJ ⟨g5,0+6+0,I⟩ (.int .i64 b.rf) aa9 rfl rfl (ft rfl) n (k.cell 6 _ rfl) rfl zz wnn hk ?_;refine WalkE.Ur rfl rfl rfl (ft (nt (nt (nt q)))) rfl zz wnn hk ?_;refine WalkE.Ur rfl rfl rfl (ft rfl) rfl zz wnn hk ?_;have d:∀{bj},aH V w bj->yS bj g2 o:=λc=>h2.keep (c.keep _ h);refine WalkE.xN ⟨g2,6,I⟩ (.int .i64 b.rf) m h rfl rfl rfl hk (λbj c=>MZ (.inl rfl) rfl (ft rfl) (ft rfl) (.inl ⟨_,rfl⟩) ((d c).cell 6 _ rfl) ((d c).free zz)) (λbj c e j=>?_) λbj c=>?_
 .rw[aaQ (g:=g2) (i:=6) (a:=b.rf) rfl (ft rfl) (ft rfl) ((d c).cell 6 _ rfl) ((d c).free zz)]at j;simp at j;subst j;exact⟨rfl,h,λ_=>m⟩
 .refine WalkE.aT (next _ _ ((s.step c).set u t _) ((k.keep (c.keep _ n)).keep (X.heap_setCell bj _ _ g5 (Ne.symm v))) ((d c).rf b.rf) (λx p=>(X.heap_setCell bj _ _ x p.2).tn (c.keep x p.1)) (λi hi=>?_));exact wkp
def ab7{uB was:Int}{u v:Bool}(m:V g5)(k:yS w g5 b)(i:f 5=(g5,0))(o:f 18=(0:Int))(r:f 22=(0:Int))(t:f 24=(0:Int))(d:f 21=uB)(s:f 23=was)(p:f 19=u)(q:f 20=v)(j:uB<=was)(h2:u=true\/v=true->b.cf<uB)
  (next:∀f',f' 254=.bool true->WalkE F main Stop V O (G (Kf.enter F 8 #[] .normal) ((bs .normal 6).at (fa 257 f') (.inRegion Cf [31,32,33]::K)::cs)) w):
  WalkE F main Stop V O (G ((bs .normal 6).at (fa 257 f) (.code (.region 32 Cf false)::K)) cs) w:=by
 have hk:(bs .normal 6).kind≠.early:=by simp[bs]
 refine WalkE.reg (l:=List.range 34) rfl ?_;refine wss ?_;refine WalkE.pK true rfl rfl rfl (ft rfl) (ft rfl) (decide_eq_true j) rfl zz (az rfl rfl zz rfl) hk ?_;refine wss ?_;have tail:∀(z:Bool) (f':Nat->M),f' 246=.bool z->f' 239=.bool true->f' 5=.pointer (Y (g5,0))->f' 21=.int .i64 uB->(z=false->b.cf<uB)->WalkE F main Stop V O (G ((bs .normal 6).at (fa 257 f') (.inRegion Cf [23,24,25,26,27,28,29,30,31,32,33]::K)) cs) w:=by
  intro z f' x e i d n;have c:∀f',f' 239=.bool true->f' 252=.bool true->WalkE F main Stop V O (G ((bs .normal 6).at (fa 257 f') (.inRegion Cf [29,30,31,32,33]::K)) cs) w:=λf' e y=>by
   refine wss ?_;refine WalkE.enter rfl (az rfl rfl zz rfl) hk (λbj=>(kJ (fn:=8) (args:= #[]) rfl ss rfl λ_=>⟨rfl,rfl⟩).1) (λbj=>(kJ (fn:=8) (args:= #[]) rfl ss rfl λ_=>⟨rfl,rfl⟩).2) ?_;exact next _ rfl
  cases z
  .refine WalkE.av (.int .i64 uB) rfl (.inl rfl) Yq rfl zz (az rfl rfl zz Rn) hk ?_;refine WalkE.Ur (g:=g5) (off:=0) rfl rfl rfl Yq rfl zz (az rfl rfl zz Rn) hk ?_;refine WalkE.Ur rfl rfl rfl (ft rfl) rfl zz (az rfl rfl zz Rn) hk ?_;refine WalkE.pJ ⟨g5,0+8+0,I⟩ (.int .i64 b.cf) aa9 rfl rfl (ft rfl) m (k.cell 8 _ rfl) rfl zz (az rfl rfl zz Rn) hk ?_;refine WalkE.pK true rfl rfl rfl (ft rfl) (ft rfl) (decide_eq_true (n rfl)) rfl zz (az rfl rfl zz Rn) hk ?_;refine(WalkE.cj (a:=false) (.bool true) rfl rfl Yq ((cd Bool.false_ne_true).tn Yq) rfl zz (az rfl rfl zz Rn) hk ?_);exact c _ Rn rfl
  .iterate 5 refine WalkE.E8 rfl rfl zz (eC rfl rfl zz Rn) ?_
   refine(WalkE.cj (a:=true) (.bool true) rfl rfl Yq ((dE rfl).tn rfl) rfl zz (az rfl rfl zz Rn) hk ?_);exact c _ Rn rfl
 refine(WalkE.BS (!u) rfl rfl Yq rfl rfl zz (az rfl rfl zz rfl) hk ?_);refine wss ?_;cases u
 .refine WalkE.av (.bool v) rfl (.inl rfl) Yq rfl zz (az rfl rfl zz rfl) hk ?_;refine(WalkE.BS (!v) rfl rfl Yq rfl rfl zz (az rfl rfl zz rfl) hk ?_);refine wss ?_;exact tail (!v) _ rfl rfl Rn Rn λh=>h2 (.inr (by simpa using h))
 .iterate 2 refine WalkE.E8 rfl rfl zz (eC rfl rfl zz rfl) ?_
  refine(WalkE.cj (a:=false) (.bool false) rfl rfl Yq ((cd Bool.false_ne_true).tn rfl) rfl zz (az rfl rfl zz rfl) hk ?_);refine(WalkE.av (.bool false) rfl (.inl rfl) Yq rfl zz (az rfl rfl zz rfl) hk ?_);exact tail false _ rfl rfl Rn Rn λ_=>h2 (.inl rfl)
end
end
def Xu:MN=.seq (.seq (.region 26 Us false) (.cond (.tmp 201) (.seq (.region 27 P5 false) .ret) .skip)) (.seq (.region 28 Ut false) (.seq (.region 29 Uu false) (.seq (.region 30 Uv false) (.seq (.region 31 Uw false) (.seq (.region 32 Cf false) .ret))))):=rfl
def Vw{ops:Array Kp}{d:Nat}(h:ops=IB/\d=34\/ops=P5/\d=202)(f:Nat->M):Ie 6 257 10 ((bs .normal 6).at (fa 257 f) (.inRegion ops [0,1]::.code .ret::K)):=λe c g=>by
 have hk:(bs .normal 6).kind≠.early:=by simp[bs]
 rcases h with⟨rfl,rfl⟩|⟨rfl,rfl⟩
 .rw[Kf.finish_at,show(IB[0]?).bind (·.dst)=Y 34 from rfl,cw zz];exact WalkE.av (d:=10) (.bool true) rfl (.inr rfl) (ft rfl) rfl zz wnn hk (WalkE.aT (WalkE.ret (WalkE.stop λb a=>⟨⟨_,_,rfl,rfl⟩,λ_=>id,a⟩)))
 .rw[Kf.finish_at,show(P5[0]?).bind (·.dst)=Y 202 from rfl,cw zz];exact WalkE.av (d:=10) (.bool true) rfl (.inr rfl) (ft rfl) rfl zz wnn hk (WalkE.aT (WalkE.ret (WalkE.stop λb a=>⟨⟨_,_,rfl,rfl⟩,λ_=>id,a⟩)))
def Vx(f:Nat->M)(h:f 254=true):Ie 6 257 10 ((bs .normal 6).at (fa 257 f) (.inRegion Cf [31,32,33]::.code .ret::K)):=λe c g=>by
 have hk:(bs .normal 6).kind≠.early:=by simp[bs]
 rw[Kf.finish_at,show(Cf[31]?).bind (·.dst)=Y 255 from rfl,cw zz];refine WalkE.cj (d:=256) (a:=true) (.bool true) rfl rfl (ft h) ((dE rfl).tn (ft rfl)) rfl zz wnn hk ?_;exact WalkE.av (d:=10) (.bool true) rfl (.inr rfl) (ft rfl) rfl zz wnn hk (WalkE.aT (WalkE.ret (WalkE.stop λi b=>⟨⟨_,_,rfl,rfl⟩,λ_=>id,b⟩)))
def Vy{post:M->H->Prop}{J:Gh}{w:H}{b:aC}{eye a2 a3 a4:Int}(h1:0<=eye/\eye<=255)(h2:0<=a2/\a2<=255)(h3:0<=a3/\a3<=255)(h4:0<=a4/\a4<=255)(p:Main J w)(c9:Um (J.V 0) w b)
  (d1:mX b=false->∃l,qS (J.V 0) w b l)
  (b0:∀w',aH (J.V 0) w w'->post (.bool true) w'):aQ fI F post (G (Kf.enter F 6 (jJ2 b eye a2 a3 a4) .normal) []) J w:=by
 refine QB (n:=257) (r:=10) Tryz.func6 rfl zz zz p ?_ b0;refine Xr p.co c9 d1 (λf w1 V1 O1 b5 c=>WalkE.stop λw2 v=>⟨_,rfl,b5.rely v,c.vv,(c.step v).rely,Vw (.inl ⟨rfl,rfl⟩) f⟩) λl hi hc e4 w1 V1 O1 g e1 g1 b9 b8 c' d9=>?_;have e3:b.E.n=l.E.length:=hi.at_.E.1;obtain⟨m,d2,R⟩:∃m:Nat,eye%b.E.n=m/\m<l.E.length:=by
  have h1:=Int.emod_nonneg eye (b:=b.E.n) zz;have h2:=Int.emod_lt_of_pos eye (b:=b.E.n) zz;exact⟨(eye%b.E.n).toNat,zz,zz⟩
 refine Vv p.co hi hc R h1 h2 h3 h4 d2 g1 b9 b8 c' d9 λf2 w2 V2 O2 g5 g2 s b6 c e5 a' j u d G2 i d5 d8 L=>?_;obtain⟨e2,b7⟩:=Iv hc;have a1:l.E.getD m (0,0)∈l.E:=by rw[show l.E.getD m (0,0)=l.E[m] by simp[List.getD,fg R]];exact List.getElem_mem R
 generalize l.E.getD m (0,0)=e at a1 L;obtain⟨x,d'⟩:∃x,b.rf-a3%8=x:=⟨_,rfl⟩;rw[d']at L i;have hk:(bs .normal 6).kind≠.early:=by simp[bs]
 rw[Xu];refine WalkE.seq (WalkE.seq (ab4 ⟨b6,d,i.cell⟩ L a' λf3 w3 V3 O3 z k q=>?_));have c:=c.tn z;refine WalkE.cond (ft q) ?_;by_cases C:ay {b with E:=s,rf:=x} {l with E:=[e]}=0;rotate_left
 .rw[dE (by simpa using C)];refine WalkE.seq (WalkE.reg (l:=[0,1]) rfl ?_);refine WalkE.enter (f:=8) (args:= #[]) rfl wnn hk (λbj=>(kJ (fn:=8) (args:= #[]) rfl ss rfl λ_=>⟨rfl,rfl⟩).1) (λbj=>(kJ (fn:=8) (args:= #[]) rfl ss rfl λ_=>⟨rfl,rfl⟩).2) ?_;exact WalkE.stop λw2 v=>⟨_,rfl,(p.co.bH c).rely v,c.vv,(c.step v).rely,Vw (.inr ⟨rfl,rfl⟩) f3⟩
 rw[cd (by simp[C])];have S:=ES (m:=0) C ss;have S:sv {b with E:=s,rf:=x} {l with E:=[e]} 0=(jC {b with E:=s,rf:=x} e (-1),jC {b with E:=s,rf:=x} e 1,0):=S;have d3:=M0 C;have d0:ay {b with E:=s} {l with E:=[e]}=0:=MM hc ss λy T=>by
  obtain rfl:=ib.1 T;exact b7 _ a1
 have d4:=M0 d0;obtain⟨-, b', -, -,-⟩:=bP C;obtain⟨c1,c2,c3,c4,V,c6,c7,c8,O⟩:=wL b';dsimp only at c1 V O;have a8:Qs {b with E:=s,rf:=x} e:=by
  obtain⟨q1,q2,q3,q4,q5⟩:=(Iv C).2 e ss;exact⟨q1,q2,q5⟩
 have c5:qG {b with E:=s,rf:=x} 0 [e]<=qG {b with E:=s} 0 [e]:=Qx (b:= {b with E:=s}) (by show x<=b.rf;omega) zz O a8;have d6:=QD (b:= {b with E:=s,rf:=x}) (E:=[e]) V O λy T=>by
  obtain rfl:=ib.1 T;exact a8
 have d7:jC {b with E:=s,rf:=x} e (-1)=true\/jC {b with E:=s,rf:=x} e 1=true->b.cf<qG {b with E:=s,rf:=x} 0 [e]:=λh=>d6.1 ⟨e,by simp,by unfold Ve;rw[nd];exact h⟩;have a5:=L.bH z;have i:=i.keep (z.rely.keep _ d);have u:=u.keep (z.rely.keep _ j);have d:=z.vv _ d;have j:=z.vv _ j;refine WalkE.skip (WalkE.seq (ab5 ⟨p.co.bH c,d,i.cell⟩ a5 ek λf4 w4 V4 O4 A k b1 b2 a0=>?_));rw[S]at b1 b2 a0;have c:=c.tn A;have a6:=a5.bH A;have i:=i.keep (A.rely.keep _ d);have u:=u.keep (A.rely.keep _ j);have d:=A.vv _ d;have j:=A.vv _ j;refine WalkE.seq (Ni (.inl ⟨rfl,rfl,rfl⟩) ⟨p.co.bH c,d,i.cell⟩ a6 ek λf5 w5 U O6 B k b3 b4=>?_);rw[d3]at b3 b4;have c:=c.tn B;have N:=a6.bH B;have i:=i.keep (B.rely.keep _ d);have u:=u.keep (B.rely.keep _ j);have d:=B.vv _ d;have j:=B.vv _ j;refine WalkE.seq (ab6 p.co.cX c G2 d5 d (((p.co.bH c).vo _).1 d) j u i ek ek λf6 w6 Q u i a7 k=>?_);have t:=hi.bH Q;have a9:jb (λx=>U x/\x≠g2) w5 s (1*2):=λa K=>⟨(N.E a K).1,⟨(N.E a K).2.1,d8 a K⟩,(N.E a K).2.2⟩;have t:qS U w6 {b with E:=s} {l with E:=[e]}:=⟨⟨t.at_.C,t.at_.U,a9.pairs N.at_.E a7,t.at_.W⟩,t.dt,t.C,t.U,a9.mono (λ_ h=>h.1) a7,t.W,t.D⟩;refine WalkE.seq (Ni (o:= {b with E:=s}) (.inr ⟨rfl,rfl,rfl⟩) ⟨p.co.bH Q,d,i.cell⟩ t ek λf7 w7 V7 O7 P k W Z=>?_);rw[d4]at W Z;have c:=Q.tn P;exact WalkE.seq (ab7 (P.vv _ j) (u.keep (P.rely.keep _ j)) ek ek ek Z ek W ek ek c5 d7 λf8 q=>WalkE.stop λw8 v=>⟨_,rfl,(p.co.bH c).rely v,c.vv,(c.step v).rely,Vx f8 q⟩)
end Go.Proofs.YtfcgpihkimpkcaaGreatDoor
namespace Go.Proofs.YtfcgpihkimpkcaaGreatDoor
open Go.RowKit Go.Co Go.Conc Go.ChangeShapes Go.WideShapes Go.ChangeAt Go.Deep
section
variable{W:Cl}{t:Nat}
abbrev V0(W:Cl):Nat->Prop:=(Go.Co.start W).V 0
def tA{b:Nat}:V0 W b↔b<W.heap.size:=⟨λh=>h.2,λh=>⟨rfl,h⟩⟩
def mq{base t e:Nat}{v:M}(g:F.underlying t=Y (.slice e))(h:Cell.okWide F W .any base t v):∃s:Sl,v=.slice s.A s.n s.c/\Nk (V0 W) W s/\(s.A=I->s.n=0)/\s.n<=s.c:=by
 unfold Cell.okWide at h;rw[g]at h;unfold Cell.ok at h;rw[g]at h
 cases v with
 | slice A n c=>
  cases A with
  | none=>
   cases n with
   | zero=>
    cases c with
    | zero=>exact⟨⟨I,0,0⟩,rfl,(λa f=>(by cases f)),λ_=>rfl,dj _⟩
    | succ c=>simp at h
   | succ n=>simp at h
  | some a=>
   simp only at h;obtain⟨j, -, k⟩:=h;obtain⟨-, l,row,cells,b,-⟩:=k;refine⟨⟨Y a,n,c⟩,rfl,λi f=>?_,λe=>(by cases e),j⟩;obtain rfl:a=i:=jx f;unfold Cl.shape? at b
   cases d:W.heap[a.block]? with
   | none=>rw[d]at b;cases b
   | some o=>
    rw[d]at b
    cases o with
    | cells c e z=>exact⟨l,tA.2 (du.1 d).1,⟨c,e,z,d⟩,λh=>dC h (kq 0)⟩
    | _=>cases b
 | _=>simp at h
def Fh:Option M->Int
 | some (.int _ n)=>n
 | _=>0
def VW:Option M->Bool
 | some (.bool b)=>b
 | _=>false
def vl{s:Sl}{m:Nat}(i:Nk (V0 W) W s)(hc:∀a,s.A=Y a->∀j,j<m->∃v,W (a.block,a.off+j)=Y v/\jU v):jb (V0 W) W s m:=λa f=>by
 obtain⟨g,h2,⟨c,e,z,d⟩,-⟩:=i a f;refine⟨g,h2,c,e,z,d,λj k=>?_⟩;obtain⟨v,b,h⟩:=hc a f j k;unfold Cl.cell? at b;dsimp only at b;rw[d]at b;exact⟨v,b,h⟩
section
variable{H:Type}{enc:Lk×M->H}{W:Cl}{s:Sl}{fuel:Nat}{x:DataW H×List MemPlace}
abbrev TD(enc:Lk×M->H)(W:Cl)(fuel:Nat)(t:Lk)(cs:List M):Option (DataW H×List MemPlace):=DataW.trod enc F W 0 (λ_=>true) true fuel t cs
def xe{a:Addr}(h:a.spot=I)(i:Nat):a.add i=⟨a.block,a.off+i,I⟩:=by
 obtain⟨b,o,c⟩:=a;simp only at h;subst h;simp[Addr.add]
def Ka(g:Nk (V0 W) W s)(E:s.n<=s.c)(a4:s.n<=20)(h:TD enc W fuel 24 [.slice s.A s.n s.c]=Y x):∃l,aN W s l/\jb (V0 W) W s l.length:=by
 have æ:=0;exact pD
def Fi(hp:∀{fuel x},TD enc W fuel t [.slice s.A s.n s.c]=Y x->([M.slice s.A s.n s.c]=[.slice I 0 0])\/∃(a:Addr) (J r n:Nat) (K L:Nat->M) (S T:Nat->DataW H) (U V:Nat->List MemPlace),[M.slice s.A s.n s.c]=[.slice (Y a) J r]/\J<=r/\
   ∀i,i<r->W.cell? (a.add (i*2))=Y (K i)/\W.cell? (a.add (i*2+1))=Y (L i)/\TD enc W n 3 [K i]=Y (S i,U i)/\TD enc W n 3 [L i]=Y (T i,V i))
  (g:Nk (V0 W) W s)(E:s.n<=s.c)(a4:s.n<=20)(h:TD enc W fuel t [.slice s.A s.n s.c]=Y x):∃l,bp W s l/\jb (V0 W) W s (l.length*2):=by
 have ø:=0;exact pD
def Iy(k:Nk (V0 W) W s)(p:s.n<=s.c)(q:s.n<=20)(h:TD enc W fuel 27 [.slice s.A s.n s.c]=Y x):∃l,bp W s l/\jb (V0 W) W s (l.length*2):=
 Fi (t:=27) (λh=>by
  rcases open_slice_pairs Tryz.underlying27 Tryz.underlying100 kr rfl rfl kr kr h with⟨b,-⟩|⟨a,u,v,m,n,i,j,d,e,f,g,b, -, o, -, c, -, r⟩
  .exact .inl b
  .simp only[if_true]at c;subst c;exact .inr ⟨a,u,_,n,i,j,d,e,f,g,b,o,r⟩) k p q h
def Iz(k:Nk (V0 W) W s)(p:s.n<=s.c)(q:s.n<=20)(h:TD enc W fuel 28 [.slice s.A s.n s.c]=Y x):∃l,bp W s l/\jb (V0 W) W s (l.length*2):=
 Fi (t:=28) (λh=>by
  rcases open_slice_pairs Tryz.underlying28 Tryz.underlying55 kr rfl rfl kr kr h with⟨b,-⟩|⟨a,u,v,m,n,i,j,d,e,f,g,b, -, o, -, c, -, r⟩
  .exact .inl b
  .simp only[if_true]at c;subst c;exact .inr ⟨a,u,_,n,i,j,d,e,f,g,b,o,r⟩) k p q h
def Uz(g:Nk (V0 W) W s)(E:s.n<=s.c)(a4:s.n<=20)(h:TD enc W fuel 29 [.slice s.A s.n s.c]=Y x):∃l,fL W s l/\jb (V0 W) W s (l.length*3):=by
 have å:=0;exact pD
end
end
def UB:F.cellTypes F.depth 31=Y [3,3,3,3,3,24,3,3,3,3,27,28,29]:=xbR
def Ys:F.cellsOf 31=13:=xbR
def Kb:F.cellsOf 3=1:=xbR
def Yu:F.cellsOf 23=2:=xbR
def Yv:F.cellsOf 26=2:=xbR
def Rr:F.cellsOf 24=1:=xbR
def Yw:F.cellsOf 27=1:=xbR
def Yx:F.cellsOf 28=1:=xbR
def Yy:F.cellsOf 29=1:=xbR
section
variable{H:Type}{enc:Lk×M->H}{W:Cl}{base:Nat}{v:M}{d:DataW H}{p:List MemPlace}
def zv{t fuel:Nat}{f0 f1:Field}{c0 c1:M}{x:DataW H×List MemPlace}(g:F.underlying t=Y (.struct #[f0,f1]))(i:f0.offset=0)(j:f1.offset=1)(k:f0.type=3)(l:f1.type=3)(h:TD enc W fuel t [c0,c1]=Y x):∃a b:Int,c0=.int .i64 a/\c1=.int .i64 b:=by
 obtain⟨m,o,n, -, -, c,d⟩:=trod_struct2 g h;rw[i,k,Kb]at c;rw[j,l,Kb]at d;obtain⟨a,e, -,-⟩:=DataW.trod_int Tryz.underlying3 c;obtain⟨b,f, -,-⟩:=DataW.trod_int Tryz.underlying3 d;simp at e f;exact⟨a,b,e,f⟩
def M4(J:M.okWide F W .any base 31 v)(a':DataW.Trod enc F W 0 (λ_=>true) true 31 v d p):∃b:aC,v=b.v/\Um (V0 W) W b/\(mX b=false->∃l,aI W b l/\jb (V0 W) W b.C l.C.length/\jb (V0 W) W b.U (l.U.length*2)/\jb (V0 W) W b.E (l.E.length*2)/\jb (V0 W) W b.W (l.W.length*3)):=by
 unfold M.okWide at J;rw[Tryz.underlying31]at J;obtain⟨⟨cs⟩,rfl,a7,b6,a8, -, m⟩:=J;rw[Ys]at a7;rw[UB]at a8;cases a8
 match cs,a7 with
 | [c0,a,c2,c3,c4,P,c,e,f,g,K,N,O],_=>
  obtain⟨fuel,h⟩:=a';replace h:TD enc W fuel 31 [c0,a,c2,c3,c4,P,c,e,f,g,K,N,O]=Y (d,p):=h;obtain⟨xs,n, -, -, -, a9,j⟩:=DataW.trod_struct Tryz.underlying31 h;have get:∀i,i<10->∃y,xs[i]?=Y y:=λi hi=>⟨_,fg (by rw[a9];exact hi)⟩;obtain⟨u,k,hc⟩:=m 5 P rfl;cases k;obtain⟨C,rfl,a3, -, lC⟩:=mq Tryz.underlying24 hc;obtain⟨u,k,hc⟩:=m 10 K rfl;cases k;obtain⟨U,rfl,a5, -, a0⟩:=mq Tryz.underlying27 hc;obtain⟨u,k,hc⟩:=m 11 N rfl;cases k;obtain⟨E,rfl,a4, -, lE⟩:=mq Tryz.underlying28 hc;obtain⟨u,k,hc⟩:=m 12 O rfl;cases k;obtain⟨X,rfl,a6, -, b3⟩:=mq Tryz.underlying29 hc;clear m hc;have o:TD enc W n 3 ((List.drop 0 [c0,a,c2,c3,c4,.slice C.A C.n C.c,c,e,f,g,.slice U.A U.n U.c,.slice E.A E.n E.c,.slice X.A X.n X.c]).take (F.cellsOf 3))=xs[0]?:=j 0 _ rfl;have q:TD enc W n 3 ((List.drop 1 [c0,a,c2,c3,c4,.slice C.A C.n C.c,c,e,f,g,.slice U.A U.n U.c,.slice E.A E.n E.c,.slice X.A X.n X.c]).take (F.cellsOf 3))=xs[1]?:=j 1 _ rfl;have r:TD enc W n 3 ((List.drop 2 [c0,a,c2,c3,c4,.slice C.A C.n C.c,c,e,f,g,.slice U.A U.n U.c,.slice E.A E.n E.c,.slice X.A X.n X.c]).take (F.cellsOf 3))=xs[2]?:=j 2 _ rfl;have s:TD enc W n 23 ((List.drop 3 [c0,a,c2,c3,c4,.slice C.A C.n C.c,c,e,f,g,.slice U.A U.n U.c,.slice E.A E.n E.c,.slice X.A X.n X.c]).take (F.cellsOf 23))=xs[3]?:=j 3 _ rfl;have t:TD enc W n 24 ((List.drop 5 [c0,a,c2,c3,c4,.slice C.A C.n C.c,c,e,f,g,.slice U.A U.n U.c,.slice E.A E.n E.c,.slice X.A X.n X.c]).take (F.cellsOf 24))=xs[4]?:=j 4 _ rfl;have w:TD enc W n 26 ((List.drop 6 [c0,a,c2,c3,c4,.slice C.A C.n C.c,c,e,f,g,.slice U.A U.n U.c,.slice E.A E.n E.c,.slice X.A X.n X.c]).take (F.cellsOf 26))=xs[5]?:=j 5 _ rfl;have x:TD enc W n 26 ((List.drop 8 [c0,a,c2,c3,c4,.slice C.A C.n C.c,c,e,f,g,.slice U.A U.n U.c,.slice E.A E.n E.c,.slice X.A X.n X.c]).take (F.cellsOf 26))=xs[6]?:=j 6 _ rfl;have z:TD enc W n 27 ((List.drop 10 [c0,a,c2,c3,c4,.slice C.A C.n C.c,c,e,f,g,.slice U.A U.n U.c,.slice E.A E.n E.c,.slice X.A X.n X.c]).take (F.cellsOf 27))=xs[7]?:=j 7 _ rfl;have A:TD enc W n 28 ((List.drop 11 [c0,a,c2,c3,c4,.slice C.A C.n C.c,c,e,f,g,.slice U.A U.n U.c,.slice E.A E.n E.c,.slice X.A X.n X.c]).take (F.cellsOf 28))=xs[8]?:=j 8 _ rfl;have B:TD enc W n 29 ((List.drop 12 [c0,a,c2,c3,c4,.slice C.A C.n C.c,c,e,f,g,.slice U.A U.n U.c,.slice E.A E.n E.c,.slice X.A X.n X.c]).take (F.cellsOf 29))=xs[9]?:=j 9 _ rfl;clear j;simp only[Kb,Yu,Rr,Yv,Yw,Yx,Yy,List.drop_zero,List.drop_succ_cons,List.take_succ_cons,List.take_zero]at o q r s t w x z A B;obtain⟨y0,e0⟩:=get 0 zz;obtain⟨y1,e1⟩:=get 1 zz;obtain⟨y2,Q⟩:=get 2 zz;obtain⟨y3,R⟩:=get 3 zz;obtain⟨y4,T⟩:=get 4 zz;obtain⟨y5,V⟩:=get 5 zz;obtain⟨y6,Z⟩:=get 6 zz;obtain⟨y7,e7⟩:=get 7 zz;obtain⟨y8,e8⟩:=get 8 zz;obtain⟨y9,e9⟩:=get 9 zz;rw[e0]at o;rw[e1]at q;rw[Q]at r;rw[R]at s;rw[T]at t;rw[V]at w;rw[Z]at x;rw[e7]at z;rw[e8]at A;rw[e9]at B;clear get e0 e1 Q R T V Z e7 e8 e9 a9;obtain⟨S,q0, -,-⟩:=DataW.trod_int Tryz.underlying3 o;obtain⟨D,q1, -,-⟩:=DataW.trod_int Tryz.underlying3 q;obtain⟨L,q2, -,-⟩:=DataW.trod_int Tryz.underlying3 r;obtain⟨lo,hi,q3,q4⟩:=zv Tryz.underlying23 rfl rfl rfl rfl s;obtain⟨rf,rh,q6,q7⟩:=zv Tryz.underlying26 rfl rfl rfl rfl w;obtain⟨cf,ch,q8,q9⟩:=zv Tryz.underlying26 rfl rfl rfl rfl x;simp only[ll,and_true]at q0 q1 q2;subst q0 q1 q2 q3 q4 q6 q7 q8 q9;refine⟨⟨S,D,L,lo,hi,C,rf,rh,cf,ch,U,E,X⟩,rfl,⟨a3,a5,a4,a6⟩,λG=>?_⟩;unfold mX at G;simp only[Bool.or_eq_false_iff,decide_eq_false_iff_not]at G;obtain⟨⟨⟨n1,n2⟩,n3⟩,n4⟩:=G;obtain⟨b4,a1,a2⟩:=Ka a3 lC zz t;obtain⟨b5,b1,b2⟩:=Iy a5 a0 zz z;obtain⟨le,d1,d2⟩:=Iz a4 lE zz A;obtain⟨lx,f1,f2⟩:=Uz a6 b3 zz B;exact⟨⟨b4,b5,le,lx⟩,⟨a1,b1,d1,f1⟩,a2,b2,d2,f2⟩
end
abbrev zy:List (String×DataW Unit):=[("velarium/sail.checks", Rows.laid_velarium_sail_checks)]
def UD:F.globalNamed "velarium/sail.checks" = Y 0:=xbR
def UE:(F.globals[0]?).map (·.type)=Y 98:=xbR
def Yz:F.cellsOf 97=1:=xbR
def YA:F.cellsOf 98=5:=xbR
def UF{W:Cl}(h:laidMetH F zy W):aD W:=by
 obtain⟨g,t,cs,fuel,p,o,y,c,w⟩:=h.funcs (ib.2 rfl);obtain rfl:=jx (UD.symm.tn o);obtain rfl:=jx (UE.symm.tn y);obtain⟨xs,m, -, z,q,x,a⟩:=DataW.trod_array Tryz.underlying98 w;rw[YA]at q;obtain⟨l⟩:=cs
 match l,q,a,c with
 | [c0,P,c2,c3,c4],_,a,c=>
  have b:xs.map (·.1)=[.held [40,118,101,108,97,114,105,117,109,47,115,97,105,108,46,104,97,108,108,41,46,103,108,97,115,115],.held [40,118,101,108,97,114,105,117,109,47,115,97,105,108,46,104,97,108,108,41,46,99,108,111,116,104,115],.held [40,118,101,108,97,114,105,117,109,47,115,97,105,108,46,104,97,108,108,41,46,115,117,110,115],.held [40,118,101,108,97,114,105,117,109,47,115,97,105,108,46,104,97,108,108,41,46,101,121,101,115],.held [40,118,101,108,97,114,105,117,109,47,115,97,105,108,46,104,97,108,108,41,46,119,97,116,99,104,101,115]]:=by
   have:=eh Prod.fst z;injection this with h
   exact h.symm
  match xs,x,b,a with
  | [A,B,y2,C,y4],_,b,a=>
   simp only[zM,ll,and_true]at b;obtain⟨r,n1,s,u,v⟩:=b;have d:=a 0 zz;have e:=a 1 zz;have f:=a 2 zz;have j:=a 3 zz;have k:=a 4 zz;simp only[Yz,Nat.mul_one,List.drop_zero,List.drop_succ_cons,List.take_succ_cons,List.take_zero,zQ]at d e f j k;obtain⟨a0,b0⟩:=A;obtain⟨E,L⟩:=B;obtain⟨G,N⟩:=y2;obtain⟨J,b3⟩:=C;obtain⟨K,O⟩:=y4;simp only at r n1 s u v;subst r n1 s u v;obtain rfl:=func_of_trod (f0:=165) Tryz.underlying97 kr d;obtain rfl:=func_of_trod (f0:=166) Tryz.underlying97 kr e;obtain rfl:=func_of_trod (f0:=167) Tryz.underlying97 kr f;obtain rfl:=func_of_trod (f0:=168) Tryz.underlying97 kr j;obtain rfl:=func_of_trod (f0:=169) Tryz.underlying97 kr k;have hc:=λi=>Cl.var?_cell o c i;have n:W (0,0)=_:=hc 0;exact⟨wY n,n,hc 1,hc 2,hc 3,hc 4⟩
def UG(g:Nat)(h:TA.glob g=true):g=0:=Sd .skip g h
def UH{W:H}(h:aD W):Main (Go.Co.start W) W:=by
 have k:V0 W 0:=tA.2 h.1;obtain⟨c,e,z,hc⟩:∃c e z,W.heap[0]?=Y (.cells c e z):=by
  have b:=h.2.1;unfold H.cell? at b;dsimp only at b
  cases l:W.heap[0]? with
  | none=>rw[l]at b;simp at b
  | some o=>
   rw[l]at b
   cases o with
   | cells c e z=>exact⟨c,e,z,rfl⟩
   | _=>simp at b
 have g:∀(i:Nat) v,W (0,i)=Y v->c[i]?=Y v:=λi v a=>by
  unfold H.cell? at a;dsimp only at a;rw[hc]at a;exact a
 obtain⟨-, c0,n,p,q,r⟩:=id h;have y:=g _ _ c0;have A:=g _ _ n;have B:=g _ _ p;have C:=g _ _ q;have m:=g _ _ r;have d:∀{j f:Nat} {v:M},c[j]?=Y (.func (.func f) #[] #[])->c[j]?=Y v->TA.has f=true->TA.ret f=.val->Flat TA (V0 W) W v:=λb h2 s t=>by
  cases b.symm.tn h2;exact .inr (.inr (.inr ⟨_,rfl,s,t⟩))
 refine⟨⟨rfl,rfl,rfl,λx=>dq,λx w=>tA.1 w⟩,⟨h,k,c,e,z,hc,?_,λj v u a=>?_⟩,e,k,⟨c,z,hc⟩,UG⟩
 .have:=(du.1 m).1;omega
 .match j,u,a with
  | 0,_,a=>exact d y a rfl rfl
  | 1,_,a=>exact d A a rfl rfl
  | 2,_,a=>exact d B a rfl rfl
  | 3,_,a=>exact d C a rfl rfl
  | 4,_,a=>exact d m a rfl rfl
def aaP:ownKnob F.godebug=I:=xbR
def laidOut:laidOutB F=true:=xbR
def Rt(os:Os)(args:Array M):laidMetH F zy ((H.doorLaid F 100 os).forCall (λ_ _=>0) ⟨#[],args,[]⟩).memory:=
 laidMetH_of_parts3 (fuel:=8) (laidMet_of_run' 8 kr kr) kr kr
abbrev YB:aC:=⟨0,0,0,0,0,⟨I,0,0⟩,0,0,0,0,⟨I,0,0⟩,⟨I,0,0⟩,⟨I,0,0⟩⟩
def Ru{W w:H}(h:aH (V0 W) W w):X W W w:=⟨h.os,h.tape,h.output,h.size,λk hk=>h.keep k (tA.2 hk)⟩
variable{W:H}
def QA{post:M->H->Prop}{b:aC}{eye a2 a3 a4:Int}(a:0<=eye/\eye<=255)(h2:0<=a2/\a2<=255)(c:0<=a3/\a3<=255)(d:0<=a4/\a4<=255)(e:aD W)(g:Um (V0 W) W b)
  (h:mX b=false->∃l,qS (V0 W) W b l)(f:∀w',aH (V0 W) W w'->post (.bool true) w'):
  ∃n last o w' t',runNT F (n+1) (solo (G (Kf.enter F 6 (jJ2 b eye a2 a3 a4) .normal) []) W) #[]=(.ended o w',t')/\runN F n (solo (G (Kf.enter F 6 (jJ2 b eye a2 a3 a4) .normal) []) W)=.next last/\step F last=.ended o w'/\Go.Conc.Good F post last o w' t':=
 LX (Q:=fI) ua (J:=Go.Co.start W) rfl (L0 W) rfl rfl (Vy a h2 c d (UH e) g h f)
def aci(os:Os)(H:Type)(enc:Lk×M->H):∃(w:Cl) (tape:Tape) (i:Input),w.os=os/\(w.forCall tape i).Shaped F/\i.vars=[]/\Input.okWide F (w.forCall tape i) .any w 6 i/\
   ((Rows.sailWiderSpec.pre enc F Tryz.f6 [] false (w.forCall tape i).memory i.args/\laidMetH F zy (w.forCall tape i).memory)/\sizedMet enc F Tryz.f6 (OpenSpec.ofChange Rows.sailWiderSpec) false (w.forCall tape i).memory i.args)/\({}:Assume).holds F (lone (Kf.enter F 6 i.args .normal) [] (w.forCall tape i)):=
 ChangeSpec.witness_shaped (enc:=enc) (C:=Tryz.checked) (os:=os) (X:=λw _=>laidMetH F zy w) false (Cl.doorLaid F 100 os) (jJ2 YB 0 0 0 0) 8 rfl (Cl.shaped_of_RefB kr kr) kr kr kr (Rt os _)
def ab8{H:Type}{enc:Lk×M->H}{base:Nat}{args:Array M}{ds gs:List (DataW H)}{before:List MemPlace}
  (a:∀(j:Nat) t v,Tryz.f6.params[j]?=Y t->args[j]?=Y v->M.okWide F W .any base t v)
  (g:DataW.Whole enc F Tryz.f6.params.toList Rows.sailWiderSpec.vars false W args.toList ds gs before)(P:laidMetH F zy W):
  ∃n last o w' t',runNT F (n+1) (solo (G (Kf.enter F 6 args .normal) []) W) #[]=(.ended o w',t')/\runN F n (solo (G (Kf.enter F 6 args .normal) []) W)=.next last/\step F last=.ended o w'/\
   Go.Conc.Good F (λv B=>Rows.sailWiderSpec.post enc F Tryz.f6 false true false false W args v B) last o w' t':=by
 have i:=g;obtain⟨p,q,f,Q,rfl, -,-⟩:=g;have e:DataW.TrodAll enc F W 0 (λ_=>true) true Tryz.f6.params.toList args.toList ds p:=f;rw[Tryz.params6]at e a;obtain⟨k,b2,d0,a7,p0,q0,R,rfl,rfl,d,a1⟩:=trodAll_cons e;obtain⟨m,b3,d1,a8,p1,q1,rfl,rfl,rfl,L,a2⟩:=trodAll_cons a1;obtain⟨r,b4,d2,a9,p2,q2,rfl,rfl,rfl,h2,a3⟩:=trodAll_cons a2;obtain⟨s,b5,d3,a',p3,q3,rfl,rfl,rfl,N,a4⟩:=trodAll_cons a3;obtain⟨u,b6,d4,b1,p4,q4,rfl,rfl,rfl,O,a5⟩:=trodAll_cons a4;obtain⟨rfl,rfl,rfl⟩:=trodAll_nil a5;obtain rfl:args= #[k,m,r,s,u]:=by
  obtain⟨l⟩:=args;exact eh Array.mk R
 obtain⟨rfl,rfl⟩:=trodVars_none Q;obtain⟨b,rfl,T,S⟩:=M4 (a 0 31 k rfl rfl) d;have c:∀{n},(Lit.int .u8 n).wf=true->0<=n/\n<=255:=λh=>by simp only[Lit.wf,ed,decide_eq_true_eq]at h;exact h
 obtain⟨n1,rfl,rfl,rfl,w⟩:=open_int Tryz.underlying5 (a 1 5 m rfl rfl) L;obtain⟨n2,rfl,rfl,rfl,y⟩:=open_int Tryz.underlying5 (a 2 5 r rfl rfl) h2;obtain⟨n3,rfl,rfl,rfl,z⟩:=open_int Tryz.underlying5 (a 3 5 s rfl rfl) N;obtain⟨n4,rfl,rfl,rfl,A⟩:=open_int Tryz.underlying5 (a 4 5 u rfl rfl) O;clear f;have V:∀x∈p0,x.block<W.heap.size:=λx a6=>i.lt x (by simp[a6]);refine QA (c w) (c y) (c z) (c A) (UF P) T (λU=>?_) (λw' Z=>?_)
 .obtain⟨l,e1,C,E,J,K⟩:=S U;exact⟨l,e1,B9 _,C,E,J,K,Gx _ _ _⟩
 .have hB:=Ru Z;have a0:=X.trod laidOut kr (of_decide_eq_true kr) d hB V;refine⟨_,_,_,[],_,[],i,trodAll_mk1 (shut_bool Tryz.underlying4 _),trodAll_cons_mk a0 (trodAll_cons_mk (shut_int Tryz.underlying5 w) (trodAll_cons_mk (shut_int Tryz.underlying5 y) (trodAll_mk2 (shut_int Tryz.underlying5 z) (shut_int Tryz.underlying5 A)))),rfl,hB.frame _,λh=>by cases h⟩
def Xv(os:Os)(n:os.Started)(H:Type)(enc:Lk×M->H):
  ReturnsInLeavingWide {} Tryz.checked os 6 .any (λw args=>(Rows.sailWiderSpec.pre enc F Tryz.f6 [] false w args/\laidMetH F zy w)/\sizedMet enc F Tryz.f6 (OpenSpec.ofChange Rows.sailWiderSpec) false w args)
   (Rows.sailWiderSpec.post enc F Tryz.f6 false true false false):=by
 refine returnsInLeavingWide_of_good (C:=Tryz.checked) aaP n (aci os H enc) ?_;intro w tape i _ _ _ hok hpre _;obtain⟨_,_,_,b,h,_,_,_,_,k⟩:=hok;obtain rfl:b=Tryz.f6:=jx (h.symm.tn Tryz.func6);obtain⟨⟨⟨ds,gs,p,l,hc⟩,f⟩,q⟩:=hpre;have m:=DataW.Whole.of_heap (w':=w.forCall tape i) (by rfl) l;have g:laidMetH F zy (w.forCall tape i):=laidMetH.of_heap (by rfl) f;obtain⟨a,last,o,w',t',c,h2,d,e⟩:=ab8 k m g;exact⟨a,last,o,w',t',c,h2,d,e.mono λv j=>ChangeSpec.post_blind j⟩
open Go
def sailWider_holds:Rows.SailWiderSaid:=
 OpenClaim.holds_of_wide_leaving 6 Tryz.f6 rfl rfl rfl rfl rfl rfl rfl ⟨rfl,rfl,rfl,rfl,rfl⟩ rfl rfl rfl rfl rfl kr Tryz.func6 kr
  (of_decide_eq_true kr) (by unfold Func.isWrapper;first|(rw[dE (by decide +kernel)];kernel_rfl)|(rw[cd (by decide +kernel)];exact⟨rfl,rfl⟩))
  (λos a H enc _=>Xv os a H enc)
def sailWider_card:Rows.SailWiderCardSaid:=by
 have g:∀f fn,Tryz.pinned.checked.prog.funcNamed Rows.sailWiderRow.func=Y f->Tryz.pinned.checked.prog.funcs[f]?=Y fn->false=Tryz.pinned.checked.prog.looks []/\∀(j:Nat) t,fn.params[j]?=Y t->Tryz.pinned.checked.prog.wantsStandIn t=false:=λf fn c d=>by
  obtain rfl:f=6:=jx ((show F.funcNamed "velarium/velariumlaw05.SailWider" = Y 6 by kernel_rfl).symm.tn c) |>.symm;obtain rfl:fn=Tryz.f6:=(jx (Tryz.func6.symm.tn d)).symm;exact⟨by kernel_rfl,λj t a=>by
   rw[Tryz.params6]at a;have b:t=31\/t=5:=by
    rcases j with _|_|_|_|_|j
    .exact .inl (by simpa using a.symm)
    .exact .inr (by simpa using a.symm)
    .exact .inr (by simpa using a.symm)
    .exact .inr (by simpa using a.symm)
    .exact .inr (by simpa using a.symm)
    .simp at a
   rcases b with rfl|rfl
   .exact(show F.wantsStandIn 31=false by kernel_rfl)
   .exact(show F.wantsStandIn 5=false by kernel_rfl)⟩
 have k:Rows.sailWiderRow.wfByText (OpenSpec.ofChange Rows.sailWiderSpec)=true:=by kernel_rfl
 have e:true=Rows.sailWiderRow.goesBy Tryz.pinned.checked.prog:=by kernel_rfl
 have i:Tryz.pinned.checked.prog.mainIs=Y (true, "7e8dca03d4ec6397f0c053951ad34d508ceb2857f2d23a6e02e229dc371baeec".toList):=by kernel_rfl
 exact⟨Claim7.tied_new_at .later [.funcs] true (Claim7.new_of_sixth sailWider_holds (true, "7e8dca03d4ec6397f0c053951ad34d508ceb2857f2d23a6e02e229dc371baeec") false rfl ⟨rfl,rfl⟩ i rfl g) k,(λ_ h=>by cases h),sailWider_row_tie,(λh=>by cases h),e⟩
end Go.Proofs.YtfcgpihkimpkcaaGreatDoor
