/- SailAsked holds of the given program: it hands out true for every book, hour and step. -/
import Derived.Test.YtfhdnnmilenklaaGreatDoorZv
import Derived.Test.YtfhdnnmilenklaaGreatDoorRows
import Derived.ProofKit
import Derived.LaidMore
import Derived.Conc.LeavingOf
import Derived.Deep.SlicePairs
import Derived.Deep.Slices
import Derived.Deep.Strs
import Derived.OpenShut
import Derived.Conc.Holds
import Derived.Stop.Joined
import Derived.Test.YtfhdnnmilenklaaGreatDoorTie
import Derived.Test.YtfhdnnmilenklaaGreatDoorCards
import Derived.SevenTiedAt
set_option maxRecDepth 100000
set_option maxHeartbeats 4000000
set_option linter.all false
noncomputable section
open Go renaming World->Cl,undef->D,World->H,undef->Hc,execOp->Hn,Frame->Kf,Oper->Kp,TypeId->Lk,stepG->Lq,Code->Ly,Value->M,Calls->PH,Goroutine->QP,heap_alloc_new->Sp,resolve->ab,Operand->ae,MemOp->al,yielded->aw,FuncId->ba,bodyPost_ret->bd
open Go.Proofs.Tryz renaming prog->F,prog->Hb
open Option renaming none->I,some->Y
open Go.RowKit renaming Below->X
namespace Go
def vh{p:Prop}(h:p:=by
 have hk:(bs .normal 4).kind≠.early:=by simp[bs]
 first|have _:=ø;refine WalkE.reg (l:=List.range 11) rfl ?_;refine WalkE.dV hb.box hb.gV rfl rfl pL rfl zz rfl hk ?_;refine cr.qL (fn:=25) (args:= #[(bX w.heap.size b).v]) (v:=.tuple #[.int .i64 ((vL b l).1),.int .i64 ((vL b l).2.1),.int .i64 ((vL b l).2.2.1),.int .i64 ((vL b l).2.2.2)]) hb.co hin rfl rfl (mY (ft rfl)) rfl zz wnn hk (λ_=>⟨rfl,rfl⟩) rfl rfl (λe0 hB=>vg (by exact hin.RH)) (abw (aG _ _) (aG _ _) (aG _ _) (aG _ _)) (λe0 hB d=>(Qx (bX w.heap.size b) l _ (hin.lone (e0:=e0) d w.drawn).1 (mh hb.co.checks hB d w.drawn) ((Qv).tn hc)).mono λe W q=>by rw[Rq]at q;exact q.1) λt o m s j=>?_;refine wss ?_;exact WalkE.aT (next _ _ _ _ j (λi hi=>QA) rfl rfl rfl rfl)|have _:=å;refine WalkE.reg (l:=List.range 7) rfl ?_;refine WalkE.dV hb.box hb.gV rfl rfl pL rfl zz rfl hk ?_;refine cr.qL (fn:=11) (args:= #[(bX w.heap.size b).v]) (v:=.tuple #[.int .i64 (((aJ b l b.D.toNat).length:Int)),.int .i64 0]) hb.co hin rfl rfl (mY (ft rfl)) rfl zz wnn hk (λ_=>⟨rfl,rfl⟩) rfl rfl (λe0 hB=>vg (by exact hin.RH)) (zg (aG _ _) (aG _ _)) (λe0 hB d=>(Ni (bX w.heap.size b) l _ (hin.lone (e0:=e0) d w.drawn).1 (mh hb.co.checks hB d w.drawn) ((Qv).tn hc)).mono λe W q=>by rw[M3]at q;exact q.1) λt o m s j=>?_;refine wss ?_;exact WalkE.aT (next _ _ _ _ j (λi hi=>QA) rfl rfl)|have _:=æ;refine WalkE.reg (l:=List.range 9) rfl ?_;refine wss ?_;refine WalkE.pK (decide (0<n)) rfl rfl rfl pL rfl hr rfl zz (az rfl rfl zz rfl) hk ?_;refine wss ?_;refine WalkE.pK (decide (0<n)) rfl rfl rfl pL rfl rfl rfl zz (az rfl rfl zz rfl) hk ?_;refine WalkE.TN false rfl rfl pL pL ss rfl zz (az rfl rfl zz rfl) hk ?_;refine wss ?_;exact WalkE.aT (next _ (λi hi=>QA) rfl)|refine WalkE.reg (l:=List.range 9) rfl ?_;refine WalkE.dV hb.box hb.gV rfl rfl pL rfl zz rfl hk ?_;refine wss ?_;refine cr.qL (fn:=26) (args:= #[(bX w.heap.size b).v,.int .i64 x,.int .i64 y]) (v:=.tuple #[.int .i64 (lS b l x y),.bool true]) hb.co hin rfl rfl (Is (ft rfl) (ft rfl) (ft rfl)) rfl zz wnn hk (λ_=>⟨rfl,rfl⟩) rfl rfl (λe0 hB=>QC (by exact hin.RH) (by exact .int _ _) (by exact .int _ _)) (zg (aG _ _) (dQ _)) (λe0 hB d=>(E3 (bX w.heap.size b) l _ (hin.lone (e0:=e0) d w.drawn).1 (mh hb.co.checks hB d w.drawn) ((Qv).tn hc) h4 hx hy).mono λe W q=>by rw[IB]at q;exact q.1) λt o m s j=>?_;refine wss ?_;exact WalkE.aT (next _ _ _ _ j (λi hi=>QA) rfl rfl)):p:=h
def vZ{p:Prop}(h:p:=by
 first|have _:=ø;refine WalkE.pK false rfl rfl rfl pL rfl (decide_eq_false b) rfl zz (az rfl rfl zz rfl) hk ?_|have _:=å;refine WalkE.pK false rfl rfl rfl pL pL (beq_eq_false_iff_ne.2 c) rfl zz (az rfl rfl zz rfl) hk ?_|refine WalkE.pK false rfl rfl rfl pL pL (beq_eq_false_iff_ne.2 a) rfl zz (az rfl rfl zz rfl) hk ?_;refine wss ?_;refine WalkE.E8 rfl rfl zz (eC rfl rfl zz rfl) ?_;refine WalkE.E8 rfl rfl zz (eC rfl rfl zz rfl) ?_
 refine wss ?_;refine WalkE.E8 rfl rfl zz (eC rfl rfl zz rfl) ?_;refine WalkE.E8 rfl rfl zz (eC rfl rfl zz rfl) ?_;first|have _:=å;skip|refine WalkE.E8 rfl rfl zz (eC rfl rfl zz rfl) ?_;refine WalkE.E8 rfl rfl zz (eC rfl rfl zz rfl) ?_;refine WalkE.E8 rfl rfl zz (Vy rfl rfl zz rfl) ?_;refine WalkE.E8 rfl rfl zz (Vy rfl rfl zz rfl) ?_;refine WalkE.E8 rfl rfl zz (Vy rfl rfl zz rfl) ?_;refine WalkE.E8 rfl rfl zz (Vy rfl rfl zz rfl) ?_;refine WalkE.E8 rfl rfl zz (Vy rfl rfl zz rfl) ?_;refine WalkE.E8 rfl rfl zz (Vy rfl rfl zz rfl) ?_;refine WalkE.E8 rfl rfl zz (Vy rfl rfl zz rfl) ?_;refine WalkE.E8 rfl rfl zz (Vy rfl rfl zz rfl) ?_
 refine WalkE.E8 rfl rfl zz (eC rfl rfl zz rfl) ?_;refine wss ?_;exact WalkE.aT (next _ (λi hi=>QA) rfl)):p:=h
def pD{p:Prop}(h:p:=by
 first|have _:=ø;(rcases hp h with c|⟨a,J,r,n,K,L,S,T,U,V,c,a3,G⟩)|have _:=å;(rcases open_slice Tryz.underlying29 h with⟨c,-⟩|⟨a,J,r,m,n,D,a5,c, -, a3, -, Q, -, G⟩)|(rcases open_slice1 Tryz.underlying24 kr h with⟨c,-⟩|⟨a,J,r,m,n,b1,D,a5,c, -, a3, -, Q, -, G⟩)
 .simp only[ml,ma,and_true]at c;exact⟨[],⟨c.2.1,iv _,iv _,λh=>dE h (fi 0)⟩,vl g λa u=>by rw[c.1]at u;cases u⟩
 .simp only[ml,ma,and_true]at c;obtain⟨O,rfl,rfl⟩:=c;obtain⟨w,P, -,-⟩:=g a O
  first
  |have _:=ø
   have f:∀i,i<s.n->∃z d:Int,W (a.block,a.off+i*2)=Y (.int .i64 z)/\W (a.block,a.off+i*2+1)=Y (.int .i64 d):=λi hi=>by
    obtain⟨h2,a1,y,a6⟩:=G i zz;obtain⟨z,A, -,-⟩:=DataW.trod_int Tryz.underlying3 y;obtain⟨d,a2, -,-⟩:=DataW.trod_int Tryz.underlying3 a6;simp only[ml,and_true]at A a2;rw[xe w,A]at h2;rw[xe w,a2]at a1;exact⟨z,d,h2,a1⟩
   refine⟨(List.range s.n).map λi=>(Fh (W.cell? ⟨a.block,a.off+i*2,I⟩),Fh (W.cell? ⟨a.block,a.off+i*2+1,I⟩)),⟨by simp,by simpa using E,by simp;omega,λ_=>⟨a.block,a.off,?_,tA.1 P,λk hk=>?_⟩⟩,vl g λN u j C=>?_⟩
  |have _:=æ
   simp only[if_true]at Q;have f:∀i,i<s.n->∃z:Int,W (a.block,a.off+i)=Y (.int .i64 z):=λi hi=>by
    obtain⟨h2,y⟩:=G i zz;obtain⟨z,A, -,-⟩:=DataW.trod_int Tryz.underlying3 y;simp only[ml,and_true]at A;rw[xe w,A]at h2;exact⟨z,h2⟩
   refine⟨(List.range s.n).map λi=>Fh (W.cell? ⟨a.block,a.off+i,I⟩),⟨by simp,by simpa using E,by simp;omega,λ_=>⟨a.block,a.off,?_,tA.1 P,λk hk=>?_⟩⟩,vl g λN u j C=>?_⟩
  |simp only[if_true]at Q
   have a9:F.cellsOf 89=3:=by kernel_rfl
   have a7:F.cellsOf 3=1:=by kernel_rfl
   have a8:F.cellsOf 4=1:=by kernel_rfl
   have f:∀i,i<s.n->∃(z d:Int) (q:Bool),W (a.block,a.off+i*3)=Y (.int .i64 z)/\W (a.block,a.off+i*3+1)=Y (.int .i64 d)/\W (a.block,a.off+i*3+2)=Y (.bool q):=λi hi=>by
    obtain⟨dp,h2,y⟩:=G i zz;rw[a9]at h2;obtain⟨-, a0,B⟩:=Cl.cells?_some h2;obtain⟨y0,y1,y2,k, -, -, Z,g1,g2⟩:=trod_struct3 Tryz.underlying89 y
    match dp,a0,B with
    | [c0,c1,c2],_,B=>
     simp only[a7,a8,List.drop_zero,List.drop_succ_cons,List.take_succ_cons,List.take_zero]at Z g1 g2;obtain⟨z0,q0, -,-⟩:=DataW.trod_int Tryz.underlying3 Z;obtain⟨z1,q1, -,-⟩:=DataW.trod_int Tryz.underlying3 g1;obtain⟨z2,q2,-⟩:=DataW.trod_bool Tryz.underlying4 g2;simp only[ml,and_true]at q0 q1 q2;subst q0 q1 q2;have k0:=B 0 zz;have k1:=B 1 zz;have k2:=B 2 zz;rw[xe w]at k0 k1 k2;exact⟨z0,z1,z2,k0,k1,k2⟩
   refine⟨(List.range s.n).map λi=>(Fh (W.cell? ⟨a.block,a.off+i*3,I⟩),Fh (W.cell? ⟨a.block,a.off+i*3+1,I⟩),VW (W.cell? ⟨a.block,a.off+i*3+2,I⟩)),⟨by simp,by simpa using E,by simp;omega,λ_=>⟨a.block,a.off,?_,tA.1 P,λk hk=>?_⟩⟩,vl g λN u j C=>?_⟩
  .rw[O];obtain⟨b2,b3,b4⟩:=a;simp only at w;rw[w]
  .have v:k<s.n:=by simpa using hk
   first|have _:=ø;obtain⟨z,d,b,o⟩:=f k v;simp[List.getD,v,b,o,Fh]|have _:=å;obtain⟨z,d,q,b,o,R⟩:=f k v;simp[List.getD,v,b,o,R,Fh,VW]|obtain⟨z,b⟩:=f k v;simp[List.getD,v,b,Fh]
  .obtain rfl:a=N:=fp (O.symm.tn u)
   first
   |have _:=æ
    obtain⟨z,b⟩:=f j (by simpa using C);exact⟨_,b,cR _ _⟩
   |have _:=ø
    have a':j<s.n*2:=by simpa using C
    obtain⟨z,d,b,o⟩:=f (j/2) zz;rcases(show j=j/2*2\/j=j/2*2+1 from zz)with e|e
    .rw[e];exact⟨_,b,cR _ _⟩
    .rw[e];exact⟨_,o,cR _ _⟩
   |have a':j<s.n*3:=by simpa using C
    obtain⟨z,d,q,b,o,R⟩:=f (j/3) zz;rcases(show j=j/3*3\/j=j/3*3+1\/j=j/3*3+2 from zz)with e|e|e
    .rw[e];exact⟨_,b,cR _ _⟩
    .rw[e];exact⟨_,o,cR _ _⟩
    .rw[e];exact⟨_,R,sN _⟩):p:=h
def Ce{p:Prop}(h:p:=by
 first
 |have _:=ø
  have hk:(bs .normal 4).kind≠.early:=by simp[bs]
  refine WalkE.reg (l:=List.range 18) rfl ?_
 |have _:=å
  refine WalkE.pK false rfl rfl rfl pL rfl (decide_eq_false q1) rfl zz (az rfl rfl zz rfl) hk ?_;refine wss ?_;refine WalkE.pK true rfl rfl rfl pL pL (ll.2 (h zz)) rfl zz (az rfl rfl zz rfl) hk ?_
 |refine WalkE.pK true rfl rfl rfl pL rfl (decide_eq_true q1) rfl zz (az rfl rfl zz rfl) hk ?_
  refine wss ?_;refine WalkE.E8 rfl rfl zz (eC rfl rfl zz rfl) ?_;refine WalkE.E8 rfl rfl zz (eC rfl rfl zz rfl) ?_;refine WalkE.E8 rfl rfl zz (eC rfl rfl zz rfl) ?_
 refine wss ?_;exact WalkE.enter (f:=7) (args:= #[]) rfl (az rfl rfl zz rfl) hk (λbj=>(kJ (args:= #[]) rfl ss rfl λ_=>⟨rfl,rfl⟩).1) (λbj=>(kJ (args:= #[]) rfl ss rfl λ_=>⟨rfl,rfl⟩).2) (next _ rfl)):p:=h
def xa{p:Prop}(h:p:=by
 have n:=(List.getElem?_eq_some_iff.1 e).1;refine⟨h.1,h.2.1,h.2.2.1,λi=>?_⟩;obtain⟨b,off,d,m,hc⟩:=h.2.2.2 i;first|have _:=ø;have g:jz s (l.length*2)=(b,off,l.length*2):=by unfold jz;rw[d]|have _:=å;have g:jz s (l.length*3)=(b,off,l.length*3):=by unfold jz;rw[d]|have g:jz s l.length=(b,off,l.length):=by unfold jz;rw[d]
 rw[g]at e;refine⟨w.heap.size+j,0,by unfold MH;rw[d];rfl,by rw[qK];omega,λk hk=>?_⟩;rw[nn];first|have _:=ø;exact⟨(nZ e (f _ d).2 (by show k*2<l.length*2;omega) c a).tn (hc k hk).1,(nZ e (f _ d).2 (by show k*2+1<l.length*2;omega) c a).tn (hc k hk).2⟩|have _:=å;exact⟨(nZ e (f _ d).2 (by show k*3<l.length*3;omega) c a).tn (hc k hk).1,(nZ e (f _ d).2 (by show k*3+1<l.length*3;omega) c a).tn (hc k hk).2.1,(nZ e (f _ d).2 (by show k*3+2<l.length*3;omega) c a).tn (hc k hk).2.2⟩|exact(nZ e (f _ d).2 hk c a).tn (hc k hk)):p:=h
def Io{p:Prop}(h:p:=by
 have hk:(bs .normal 4).kind≠.early:=by simp[bs]
 refine WalkE.reg (l:=List.range 2) rfl ?_;refine wss ?_;first|have _:=ø;refine WalkE.pK (r != 0) rfl rfl rfl pL rfl rfl rfl zz wnn hk ?_|refine WalkE.pK (decide (0<=at_)) rfl rfl rfl pL rfl rfl rfl zz wnn hk ?_
 exact WalkE.aT (next _ (λi hi=>QA) rfl)):p:=h
def Qs{p:Prop}(h:p:=by
 exact WalkE.Ur rfl rfl rfl (Ls ((e 3 zz).tn r)) rfl zz wnn hk (next _ _ _ a a.refl)):p:=h
def xaS{p:Prop}(h:p:=by
 refine⟨h.1,h.2.1,h.2.2.1,λe=>?_⟩;obtain⟨a,off,f,j,hc⟩:=h.2.2.2 e;have d:=(g _ f).2.1;first|have _:=ø;have b:=λk c=>i.intro (aV (hk a d) (hc k c).1) (aV (hk a d) (hc k c).2);exact⟨a,off,f,wY (b 0 e).1,b⟩|have _:=å;have b:=λk c=>i.intro (aV (hk a d) (hc k c).1) (i.intro (aV (hk a d) (hc k c).2.1) (aV (hk a d) (hc k c).2.2));exact⟨a,off,f,wY (b 0 e).1,b⟩|have b:=λk c=>aV (hk a d) (hc k c);exact⟨a,off,f,wY (b 0 e),b⟩):p:=h
def Z2{p:Prop}(h:p:=by
 generalize(fa n f).tmps=A at e;unfold results;simp[d,e]):p:=h
end Go
namespace Go.Proofs.YtfhdnnmilenklaaGreatDoor
open Go.RowKit Go.Co Go.Conc
variable{V V' O:Nat->Prop}{w bj:H}{x:Nat×Nat×Nat}{m j i n:Nat}{l ds:List Int}{a v a':M}{κ:Nat->Kd}{Z:Ren}{e0:Lk}{ws:List (Nat×Nat×Nat)}{s:Sl}{sh:Int}{main:Bool}{Stop:(Nat->Prop)->(Nat->Prop)->QP->H->Prop}{k:List Item}{cs:List Kf}{ops:Array Kp}{rest:List Nat}{o:Kp}{f:Nat->M}{fn:ba}{xs:Array ae}{ts:Array Lk}{args eQ:Array M}{bk:aC}
def jz(s:Sl)(m:Nat):Nat×Nat×Nat:=match s.A with|some a=>(a.block,a.off,m)|none=>(0,0,0)
def MH(N:Nat)(s:Sl):Sl:=⟨s.A.map λ_=>(N,0),s.n,s.c⟩
def jb(V:Nat->Prop)(w:H)(s:Sl)(m:Nat):Prop:=∀a,s.A=Y a->a.spot=I/\sr V w (a.block,a.off,m)
end Go.Proofs.YtfhdnnmilenklaaGreatDoor
open Go in
open Go.Proofs.YtfhdnnmilenklaaGreatDoor in
open Go.RowKit Go.Co Go.Conc in
variable{n:Nat} in
variable{o:Kp} in
def Go.Co.sr.mono{V V':Nat->Prop}{w bj:Cl}{x:Nat×Nat×Nat}(h:sr V w x)(hV:∀x,V x->V' x)(hk:∀x,V x->bj.heap[x]?=w.heap[x]?):sr V' bj x:=
 ⟨hV _ h.1,let⟨c,e,z,h1,h2⟩:=h.2;⟨c,e,z,(hk _ h.1).tn h1,h2⟩⟩
namespace Go.Proofs.YtfhdnnmilenklaaGreatDoor
open Go.RowKit Go.Co Go.Conc
variable{V V' O:Nat->Prop}{w bj:H}{x:Nat×Nat×Nat}{m j i n:Nat}{l ds:List Int}{a v a':M}{κ:Nat->Kd}{Z:Ren}{e0:Lk}{ws:List (Nat×Nat×Nat)}{s:Sl}{sh:Int}{main:Bool}{Stop:(Nat->Prop)->(Nat->Prop)->QP->H->Prop}{k:List Item}{cs:List Kf}{ops:Array Kp}{rest:List Nat}{o:Kp}{f:Nat->M}{fn:ba}{xs:Array ae}{ts:Array Lk}{args eQ:Array M}{bk:aC}
def jb.mono{s:Sl}(h:jb V w s m)(c:∀x,V x->V' x)(hk:∀x,V x->bj.heap[x]?=w.heap[x]?):jb V' bj s m:=λa b=>⟨(h a b).1,(h a b).2.mono c hk⟩
def qJ(hB:Base TA V w e0)(h:jb V w s m):sr V w (jz s m):=by
 unfold jz
 cases b:s.A with
 | some a=>exact(h a b).2
 | none=>exact⟨hB.v0,let⟨c,z,x⟩:=hB.cells;⟨c,e0,z,x,λj d=>dE d (Nat.not_lt_zero _)⟩⟩
def nZ{i:Nat}(d:ws[j]?=Y x)(g:sr V w x)(hi:i<x.2.2)(h:Nat->Question->Nat)(a:Nat):(tp (wK TA V e0 w ws) h a).cell? (w.heap.size+j,i)=w (x.1,x.2.1+i):=by
 obtain⟨-, c,e,z,hc,f⟩:=g;show(wK TA V e0 w ws).cell? _=_;unfold H.cell?;dsimp only;rw[IY d,IZ hc,hc];show(c.extract x.2.1 (x.2.1+x.2.2))[i]?=c[x.2.1+i]?;obtain⟨v,b,-⟩:=f i hi;have k:=(kq.1 b).1;rw[Array.getElem?_extract,cd zz]
def qK(b:Nat->Question->Nat)(a:Nat):(tp (wK TA V e0 w ws) b a).heap.size=w.heap.size+ws.length:=qf
def EO(h:aN w s l)(f:jb V w s l.length)(e:ws[j]?=Y (jz s l.length))(c:Nat->Question->Nat)(a:Nat):aN (tp (wK TA V e0 w ws) c a) (MH (w.heap.size+j) s) l:=xa
def AV{l:List (Int×Int)}(h:bp w s l)(f:jb V w s (l.length*2))(e:ws[j]?=Y (jz s (l.length*2)))(c:Nat->Question->Nat)(a:Nat):bp (tp (wK TA V e0 w ws) c a) (MH (w.heap.size+j) s) l:=by
 have ø:=0;exact xa
def PZ{l:List (Int×Int×Bool)}(h:fL w s l)(f:jb V w s (l.length*3))(e:ws[j]?=Y (jz s (l.length*3)))(c:Nat->Question->Nat)(a:Nat):fL (tp (wK TA V e0 w ws) c a) (MH (w.heap.size+j) s) l:=by
 have å:=0;exact xa
def yV{hB:Base TA V w e0}(d:jb V w s m)(c:ws[j]?=Y (jz s m)):VR (Bj hB ws) (.slice (MH (w.heap.size+j) s).A s.n s.c) (.slice s.A s.n s.c):=by
 unfold MH
 cases b:s.A with
 | none=>exact .nilSlice _ _
 | some a=>
  have e:jz s m=(a.block,a.off,m):=by unfold jz;rw[b]
  rw[e]at c;exact .slice _ _ ⟨rfl,(d a b).1,a.off,I0 c,by simp,rfl⟩
def mh(h:dJ TA V w)(hB:Base TA V w e0)(b:Nat->Question->Nat)(a:Nat):aD (tp (wK TA V e0 w ws) b a):=by
 obtain⟨k,h2,c,d,e,g⟩:=h.gw (e0:=e0) b a;have j:=hB.shown.lt;have f:∀i,(tp (wK TA V e0 w ws) b a).cell? ⟨0,i,I⟩=(tp (gw TA V e0 w) b a).cell? ⟨0,i,I⟩:=λi=>by
  show(wK TA V e0 w ws).cell? _=(gw TA V e0 w).cell? _;unfold H.cell?;dsimp only;rw[IX j]
 exact⟨by rw[qK];omega,(f _).tn h2,(f _).tn c,(f _).tn d,(f _).tn e,(f _).tn g⟩
structure uD(V:Nat->Prop)(w:H)(b:aC)(l:bN)(s:Sl)(d:List Int):Prop where
 at_:aI w b l
 dt:aN w s d
 C:jb V w b.C l.C.length
 U:jb V w b.U (l.U.length*2)
 E:jb V w b.E (l.E.length*2)
 W:jb V w b.W (l.W.length*3)
 D:jb V w s d.length
def mA(b:aC)(l:bN)(s:Sl)(d:List Int):List (Nat×Nat×Nat):=[jz b.C l.C.length,jz b.U (l.U.length*2),jz b.E (l.E.length*2),jz b.W (l.W.length*3),jz s d.length]
def bX(N:Nat)(b:aC):aC:= {b with C:=MH (N+0) b.C,U:=MH (N+1) b.U,E:=MH (N+2) b.E,W:=MH (N+3) b.W}
def sX(N:Nat)(s:Sl):Sl:=MH (N+4) s
def wY{a:Addr}(h:w.cell? a=Y v):a.block<w.heap.size:=by
 unfold H.cell? at h
 cases b:w.heap[a.block]? with
 | none=>rw[b]at h;simp at h
 | some o=>exact(kq.1 b).1
section
variable{b:aC}{l:bN}{d:List Int}
def jb.ints{l:List Int}(g:jb V w s l.length)(h:aN w s l)(hk:∀x,V x->bj.heap[x]?=w.heap[x]?):aN bj s l:=by
 refine⟨h.1,h.2.1,h.2.2.1,λb=>?_⟩;obtain⟨a,off,c,i,hc⟩:=h.2.2.2 b;have e:=(g _ c).2.1;have d:=λk f=>aV (hk a e) (hc k f);exact⟨a,off,c,wY (d 0 b),d⟩
def jb.pairs{l:List (Int×Int)}(g:jb V w s m)(h:bp w s l)(hk:∀x,V x->bj.heap[x]?=w.heap[x]?):bp bj s l:=by
 refine⟨h.1,h.2.1,h.2.2.1,λb=>?_⟩;obtain⟨a,off,c,i,hc⟩:=h.2.2.2 b;have d:=(g _ c).2.1;have e:=λk f=>And.intro (aV (hk a d) (hc k f).1) (aV (hk a d) (hc k f).2);exact⟨a,off,c,wY (e 0 b).1,e⟩
def jb.abd{l:List (Int×Int×Bool)}(hw:jb V w s m)(h:fL w s l)(hk:∀x,V x->bj.heap[x]?=w.heap[x]?):fL bj s l:=by
 refine⟨h.1,h.2.1,h.2.2.1,λh0=>?_⟩;obtain⟨bb,off,hA,hb,hc⟩:=h.2.2.2 h0;have hV:=(hw _ hA).2.1;have hc':=λk hk'=>And.intro (aV (hk bb hV) (hc k hk').1) (And.intro (aV (hk bb hV) (hc k hk').2.1) (aV (hk bb hV) (hc k hk').2.2));exact⟨bb,off,hA,wY (hc' 0 h0).1,hc'⟩
def uD.mono(h:uD V w b l s d)(a:∀x,V x->V' x)(hk:∀x,V x->bj.heap[x]?=w.heap[x]?):uD V' bj b l s d:=
 ⟨⟨h.C.ints h.at_.C hk,h.U.pairs h.at_.U hk,h.E.pairs h.at_.E hk,h.W.abd h.at_.W hk⟩,h.D.ints h.dt hk,h.C.mono a hk,h.U.mono a hk,h.E.mono a hk,h.W.mono a hk,h.D.mono a hk⟩
def uD.bH{bm bo:Nat->Prop}(h:uD V w b l s d)(a:dU V O w bm bo bj):uD bm bj b l s d:=h.mono a.vv a.rely.keep
def uD.ok(h:uD V w b l s d)(hB:Base TA V w e0):∀x∈mA b l s d,sr V w x:=by
 intro x a;simp only[mA,lO,fx,or_false]at a;rcases a with rfl|rfl|rfl|rfl|rfl
 .exact qJ hB h.C
 .exact qJ hB h.U
 .exact qJ hB h.E
 .exact qJ hB h.W
 .exact qJ hB h.D
def uD.lone(h:uD V w b l s d)(c:Nat->Question->Nat)(a:Nat):aI (tp (wK TA V e0 w (mA b l s d)) c a) (bX w b) l/\aN (tp (wK TA V e0 w (mA b l s d)) c a) (sX w s) d:=
 ⟨⟨EO h.at_.C h.C rfl c a,AV h.at_.U h.U rfl c a,AV h.at_.E h.E rfl c a,PZ h.at_.W h.W rfl c a⟩,EO h.dt h.D rfl c a⟩
def uD.RH(h:uD V w b l s d){hB:Base TA V w e0}:VR (Bj hB (mA b l s d)) (bX w b).v b.v:=by
 refine .agg rfl λi x y a c=>?_
 match i,a,c with
 | 0,a,c|1,a,c|2,a,c|3,a,c|4,a,c|6,a,c|7,a,c|8,a,c|9,a,c=>cases a;cases c;exact .int _ _
 | 5,a,c=>cases a;cases c;exact yV (j:=0) h.C rfl
 | 10,a,c=>cases a;cases c;exact yV (j:=1) h.U rfl
 | 11,a,c=>cases a;cases c;exact yV (j:=2) h.E rfl
 | 12,a,c=>cases a;cases c;exact yV (j:=3) h.W rfl
end
section
variable{b:Kf}{n d:Nat}{l:bN}
def cr.Vf{R:M->H->Prop}(g:cr V O w)(C:uD V w bk l s ds)(q:ops[i]?=Y o)(r:o.op=.call {callee:=.value (.func fn),args:=xs,argTypes:=ts})(m:xs.map (fa n f).eval=eQ)(A:o.dst=Y d)(z:d<n)(K:Region.wanted o (aw ops (fa n f).tmps)=true)(hk:b.kind≠.early)
  (p:∀w,(callFunc fn eQ).run F w=.ok (.enter fn eQ) w/\(callFunc fn eQ).events F w #[]= #[])(B:TA.has fn=true)(J:TA.ret fn=.val)(y:∀e0 (hB:Base TA V w e0),KR (TA.kind fn) (Bj hB (mA bk l s ds)) args eQ)
  (hc:∀e0 (_:Base TA V w e0) N,PH F fn args (tp (wK TA V e0 w (mA bk l s ds)) N w.drawn) λe W=>∃v,e=.returned v/\R v W)
  (next:∀e0 (hB:Base TA V w e0) Z v W v' bj a c,R v W->VR Z v v'->ir TA F (w.heap.size+(mA bk l s ds).length) V O w (Bj hB (mA bk l s ds)) Z W bj a c->cr a c bj->dU V O w a c bj->WalkE F main Stop a c (G (b.at (fa n (ah f d v')) (.inRegion ops rest::k)) cs) bj):WalkE F main Stop V O (G (b.at (fa n f) (.inRegion ops (i::rest)::k)) cs) w:=by
 obtain⟨e0,hB⟩:=g.base;refine WalkE.enter q K hk (λbj=>(kJ r m rfl p).1) (λbj=>(kJ r m rfl p).2) ?_;refine NU (T:=TA) (I1 .skip) B (Sc (hB:=hB) (C.ok hB) g.cX) rfl (y e0 hB) (hc e0 hB) (λe W h=>⟨h.choose,h.choose_spec.1⟩) (λZ L u v' bj a c E t j=>?_);obtain⟨v,e1,x⟩:=E;cases e1;rw[J]at t;rw[Kf.finish_at];rw[show(ops[i]?).bind (·.dst)=Y d by rw[q];exact A,cw z];exact next e0 hB Z L u v' bj a c x t j (g.bH j.bH) j.bH
def cr.qL(j:cr V O w)(B:uD V w bk l s ds)(C:ops[i]?=Y o)(E:o.op=.call {callee:=.value (.func fn),args:=xs,argTypes:=ts})(q:xs.map (fa n f).eval=eQ)(y:o.dst=Y d)(x:d<n)(N:Region.wanted o (aw ops (fa n f).tmps)=true)(hk:b.kind≠.early)
  (t:∀w,(callFunc fn eQ).run F w=.ok (.enter fn eQ) w/\(callFunc fn eQ).events F w #[]= #[])(z:TA.has fn=true)(J:TA.ret fn=.val)(r:∀e0 (hB:Base TA V w e0),KR (TA.kind fn) (Bj hB (mA bk l s ds)) args eQ)
  (K:eR v)(hc:∀e0 (_:Base TA V w e0) g,PH F fn args (tp (wK TA V e0 w (mA bk l s ds)) g w.drawn) λe _=>e=.returned v)
  (next:∀bj a c,cr a c bj->dU V O w a c bj->WalkE F main Stop a c (G (b.at (fa n (ah f d v)) (.inRegion ops rest::k)) cs) bj):WalkE F main Stop V O (G (b.at (fa n f) (.inRegion ops (i::rest)::k)) cs) w:=
 j.Vf B (R:=λu _=>u=v) C E q y x N hk t z J r (λe0 hB g=>(hc e0 hB g).mono λe W h=>⟨v,h,rfl⟩) λe0 hB Z u W v' bj a c p L P m A=>by
  subst p;rw[K Z v' L];exact next bj a c m A
def vg(d:dM Z (κ 0) a a'):KR κ Z #[a] #[a']:=⟨rfl,λi x y b c=>by
 match i,b,c with
 | 0,b,c=>cases b;cases c;exact d⟩
def QC{a b c a' b' c':M}(f:dM Z (κ 0) a a')(g:dM Z (κ 1) b b')(h2:dM Z (κ 2) c c'):KR κ Z #[a,b,c] #[a',b',c']:=⟨rfl,λi x y d e=>by
 match i,d,e with
 | 0,d,e=>cases d;cases e;exact f
 | 1,d,e=>cases d;cases e;exact g
 | 2,d,e=>cases d;cases e;exact h2⟩
end
variable{g d d0 d1:Nat}{x:ae}{bm bo:Nat->Prop}{o0 o1:Kp}
section
variable{b:Kf}
def eC{j g:Nat}{t:Bool}(b:o.guard=Y (j,t))(c:(ops[j]?).bind (·.dst)=Y g)(d:g<n)(a:f g=.bool (!t)):Region.wanted o (aw ops (fa n f).tmps)=false:=jc b c d a
def WalkE.E8(e:ops[i]?=Y o)(c:o.dst=Y d)(a:d<n)(g:Region.wanted o (aw ops (fa n f).tmps)=false)
  (next:WalkE F main Stop V O (G (b.at (fa n (ah f d D)) (.inRegion ops rest::k)) cs) w):WalkE F main Stop V O (G (b.at (fa n f) (.inRegion ops (i::rest)::k)) cs) w:=
 WalkE.ctl (λ_=>stepG_unwanted e g) (by rw[c,cw a];exact next)
def WalkE.pJ{t:Lk}(ad:Addr)(v:M)(j:OneCell F t)(r:ops[i]?=Y o)(l:o.op=.load t x)(m:(fa n f).eval x=.pointer (Y ad))(c:V ad.block)(hc:w.cell? ad=Y v)(q:o.dst=Y d)(p:d<n)(s:Region.wanted o (aw ops (fa n f).tmps)=true)(hk:b.kind≠.early)
  (next:WalkE F main Stop V O (G (b.at (fa n (ah f d v)) (.inRegion ops rest::k)) cs) w):WalkE F main Stop V O (G (b.at (fa n f) (.inRegion ops (i::rest)::k)) cs) w:=by
 refine WalkE.value v r s hk (λbj g=>?_) (λbj g e a=>?_) (by rw[q,cw p];exact next)
 .unfold Hn;simp only[l,m];have:=(j bj ad v (bu g c hc)).1;simp[this]
 .unfold Hn at a;simp only[l,m]at a;have h2:=(j bj ad v (bu g c hc));simp[h2.1,h2.2]at a;subst a;exact⟨rfl,c,λh=>by cases h⟩
theorem Rl{bk:aC}(b:o.op=.box 31 x)(a:(fa n f).eval x=bk.v):(Hn (fa n f).eval o).events F w #[]= #[]:=by
 unfold aC.v at a;unfold Hn;simp only[b,a];simp[go_sem]
end
def Nk(V:Nat->Prop)(w:H)(s:Sl):Prop:=cM TA V w s 0
structure Um(V:Nat->Prop)(w:H)(b:aC):Prop where
 C:Nk V w b.C
 U:Nk V w b.U
 E:Nk V w b.E
 W:Nk V w b.W
section
variable{b:aC}
def Um.mono(h:Um V w b)(a:∀x,V x->V' x)(hk:∀x,V x->bj.heap[x]?=w.heap[x]?):Um V' bj b:=⟨cM.mono h.C a hk,cM.mono h.U a hk,cM.mono h.E a hk,cM.mono h.W a hk⟩
def Um.vr(h:Um V w b){hB:Base TA V w e0}:VR (gr hB) b.v b.v:=by
 have c:VR (gr hB) (.slice b.C.A b.C.n b.C.c) (.slice b.C.A b.C.n b.C.c):=jg (cM.flat h.C);have f:VR (gr hB) (.slice b.U.A b.U.n b.U.c) (.slice b.U.A b.U.n b.U.c):=jg (cM.flat h.U);have d:VR (gr hB) (.slice b.E.A b.E.n b.E.c) (.slice b.E.A b.E.n b.E.c):=jg (cM.flat h.E);have g:VR (gr hB) (.slice b.W.A b.W.n b.W.c) (.slice b.W.A b.W.n b.W.c):=jg (cM.flat h.W);refine .agg rfl λi x y a j=>?_;have e:Y x=Y y:=a.symm.tn j;cases e
 match i,a with
 | 0,a=>cases a;exact .int _ _
 | 1,a=>cases a;exact .int _ _
 | 2,a=>cases a;exact .int _ _
 | 3,a=>cases a;exact .int _ _
 | 4,a=>cases a;exact .int _ _
 | 5,a=>cases a;exact c
 | 6,a=>cases a;exact .int _ _
 | 7,a=>cases a;exact .int _ _
 | 8,a=>cases a;exact .int _ _
 | 9,a=>cases a;exact .int _ _
 | 10,a=>cases a;exact f
 | 11,a=>cases a;exact d
 | 12,a=>cases a;exact g
end
def Uo{w:H}{b:aC}(h:aK w g 31 b):∀i v,(wE b)[i]?=Y v->w.cell? ⟨g,i,I⟩=Y v:=λi v a=>by
 unfold H.cell?;dsimp only;rw[show w.heap[g]?=_ from h];exact a
section
variable{b:Kf}
end
variable{b:Kf}{l:bN}
structure Fg(V O:Nat->Prop)(w:H)(g:Nat)(b:aC):Prop where
 co:cr V O w
 gV:V g
 box:∀(i:Nat) v,(wE b)[i]?=Y v->w (g,i)=Y v
def Fg.bH{V O bm bo:Nat->Prop}{w bj:H}{g:Nat}{b:aC}(h:Fg V O w g b)(a:dU V O w bm bo bj):Fg bm bo bj g b:=
 ⟨h.co.bH a,a.vv _ h.gV,λi v c=>aV (a.rely.keep _ h.gV) (h.box i v c)⟩
def qS(V:Nat->Prop)(w:H)(b:aC)(l:bN):Prop:=uD V w b l iy []
def B9(w:H):aN w iy []:=⟨rfl,qT _,iv _,λh=>dE h (fi 0)⟩
def Gx(V:Nat->Prop)(w:H)(m:Nat):jb V w iy m:=λa b=>by cases b
def cr.XN{t:Nat}(l:cr V O w)(q:t<n)(j:f t=bk.v)(v:ops[i]?=Y o)(p:o.op=.box 31 (.tmp t))(s:o.dst=Y d)(r:d<n)(u:o.guard=I)(hk:b.kind≠.early)
  (next:∀bj a c g,Fg a c bj g bk->dU V O w a c bj->WalkE F main Stop a c (G (b.at (fa n (ah f d (.pointer (Y (g,0))))) (.inRegion ops rest::k)) cs) bj):WalkE F main Stop V O (G (b.at (fa n f) (.inRegion ops (i::rest)::k)) cs) w:=by
 refine WalkE.make (aE bk 31) (λg=>.pointer (Y ⟨g,0,I⟩)) v (bY u) hk (λbj _=>B8 p (ag q j)) (λbj _ e h=>by rw[Rl p (ag q j)]at h;simp at h) λbj x=>?_;rw[s,cw r];have m:=((dU.refl (O:=O) l.cX).step x).make (aE bk 31);have y:aK (bj.alloc (aE bk 31)) bj 31 bk:=Sp _ _;exact next _ _ _ bj.heap.size ⟨l.bH m,.inr rfl,Uo y⟩ m
section
variable{fn n r:Nat}{F:Func}
section
variable{main:Bool}{Stop:(Nat->Prop)->(Nat->Prop)->QP->H->Prop}{V O:Nat->Prop}{w:H}{b:Kf}{K:List Item}{cs:List Kf}{ops:Array Kp}{n:Nat}{f:Nat->M}{rest:List Nat}
end
def XX(fn n r:Nat)(g:QP):Prop:=∃f k,g=G { (bs .normal fn).at (fa n f) k with mode:=.returning} []/\f r=.bool true
def Tx(hF:Hb.funcs[fn]?=Y F)(d:F.results= #[.tmp r])(i:r<n)(g:2≠fn){f:Nat->M}{k:List Item}(h:f r=.bool true)(w:H):Lq Hb true (G { (bs .normal fn).at (fa n f) k with mode:=.returning} []) w=.ended (.done (.bool true)) w #[]:=by
 have e:(fa n f).tmps[r]?=Y (.bool true):=by rw[ej i,h]
 have b:(results F (fa n f).tmps).run Hb w=.ok (.bool true) w:=by
  exact Z2
 have h2:(results F (fa n f).tmps).events Hb w #[]= #[]:=by
  exact Z2
 have c:(fa n f).defers=[]:=rfl;generalize fa n f=a at b h2 c|-;simp[c,G,Lq,unwind,doReturn,Kf.at,bs,hF,b,h2,seen,GStep.after,g];done
def Ie(fn n r:Nat)(c0:Kf):Prop:=∀(a c:Nat->Prop) (b:H),WalkE Hb true (λd _ e f=>XX fn n r e/\(∀x,a x->d x)/\aH a b f) a c (G (c0.finish (.bool true)) []) b
def MO(fn n r:Nat)(V:Nat->Prop)(w:H)(V' a:Nat->Prop)(g':QP)(w':H):Prop:=
 ∃c0,g'=G (Kf.enter Hb 7 #[] .normal) [c0]/\cr V' a w'/\(∀x,V x->V' x)/\aH V w w'/\Ie fn n r c0
def QB(hF:Hb.funcs[fn]?=Y F)(t:F.results= #[.tmp r])(A:r<n)(y:2≠fn){post:M->H->Prop}{J:Gh}{w:H}{fr:Kf}(o:Main J w)
  (walk:WalkE Hb true (MO fn n r (J.V 0) w) (J.V 0) (J.O 0) (G fr []) w)
  (v:∀w',aH (J.V 0) w w'->post (.bool true) w'):aQ fI Hb post (G fr []) J w:=by
 refine aQ.walk walk (λ_=>jx) (λ_=>jx) (λi P S V σ1 a d s hk=>?_);obtain⟨c0,rfl,l,e,B,m⟩:=a;have p:=l.main o hk d s;obtain rfl:i=σ1.V 0:=funext λb=>propext (d b).symm;refine Rj p λσ2 O q L C=>?_;refine aQ.walk (m (σ2.V 0) (σ2.O 0) O) (λ_=>jx) (λ_=>jx) (λR Q T W Z a u U z=>?_);obtain⟨⟨f,k,rfl,j⟩,N,E⟩:=a;refine aQ.Zi (z.md.tn q.idle.md) λh K=>⟨_,Tx hF t A y j h,v h ?_⟩;have g:∀x,J.V 0 x->σ2.V 0 x:=λx c=>L x (e x c);exact((B.tn (C.mono e)).tn (E.mono g)).tn (K.mono λx c=>(u x).2 (N x (g x c)))
end
variable{y:ae}{t:Lk}{a c:Int}
theorem WalkE.pK{op:BinOp}{F:Int->Int->Bool}{t t':Lk}(r:Bool)(hF:TG op=Y F)(m:ops[i]?=Y o)(e:o.op=.binOp op t x y t')(g:(fa n f).eval x=.int .i64 a)(h:(fa n f).eval y=.int .i64 c)(p:F a c=r)(l:o.dst=Y d)(j:d<n)(q:Region.wanted o (aw ops (fa n f).tmps)=true)(hk:b.kind≠.early)
  (next:WalkE Hb main Stop V O (G (b.at (fa n (ah f d (.bool r))) (.inRegion ops rest::k)) cs) w):WalkE Hb main Stop V O (G (b.at (fa n f) (.inRegion ops (i::rest)::k)) cs) w:=
 WalkE.pv _ m l j q hk (λbj=>Sr e hF g h p ⟨rfl⟩) (λbj=>by
  unfold Hn;simp only[e,g,h];cases op<;>cases hF<;>simp[go_sem]) next
def WalkE.TN{a c:Bool}(r:Bool)(m:ops[i]?=Y o)(e:o.op=.binOp .neq 4 x y 4)(g:(fa n f).eval x=.bool a)(h:(fa n f).eval y=.bool c)(p:(a != c)=r)(l:o.dst=Y d)(j:d<n)(q:Region.wanted o (aw ops (fa n f).tmps)=true)(hk:b.kind≠.early)
  (next:WalkE F main Stop V O (G (b.at (fa n (ah f d (.bool r))) (.inRegion ops rest::k)) cs) w):WalkE F main Stop V O (G (b.at (fa n f) (.inRegion ops (i::rest)::k)) cs) w:=
 WalkE.pv _ m l j q hk (λbj=>Vh e g h p ⟨rfl⟩) (λbj=>by
  unfold Hn;simp only[e,g,h];cases a<;>cases c<;>rfl) next
theorem WalkE.Ur{s z g off kk:Nat}(a:(ZK s)[kk]?=Y z)(j:ops[i]?=Y o)(c:o.op=.fieldAddr s x kk)(e:(fa n f).eval x=.pointer (Y (g,off)))(p:o.dst=Y d)(m:d<n)(l:Region.wanted o (aw ops (fa n f).tmps)=true)(hk:b.kind≠.early)
  (next:WalkE F main Stop V O (G (b.at (fa n (ah f d (.pointer (Y (g,off+z))))) (.inRegion ops rest::k)) cs) w):WalkE F main Stop V O (G (b.at (fa n f) (.inRegion ops (i::rest)::k)) cs) w:=
 WalkE.pv _ j p m l hk (λbj=>TH c a e ⟨rfl⟩) (λbj=>by
  unfold Hn;simp only[c,e];clear c e j l next;unfold ZK at a;repeat' split at a
  .subst s;iterate 10 (rcases kk with _|kk; · cases a;simp[go_sem])
   cases a
  .subst s;iterate 3 (rcases kk with _|kk; · cases a;simp[go_sem])
   cases a
  .rename_i h;iterate 2 (rcases kk with _|kk; · cases a;rcases h with rfl|rfl|rfl|rfl|rfl<;>simp[go_sem])
   cases a
  .cases a) next
theorem WalkE.IA{A:Option Addr}{m c:Nat}(a:[24,27,28,29].contains t=true)(p:ops[i]?=Y o)(e:o.op=.call {callee:=.builtin .len,args:= #[x],argTypes:= #[t]})(h:(fa n f).eval x=.slice A m c)(g:o.type=3)(l:o.dst=Y d)(j:d<n)(q:Region.wanted o (aw ops (fa n f).tmps)=true)(hk:b.kind≠.early)
  (next:WalkE F main Stop V O (G (b.at (fa n (ah f d (.int .i64 m))) (.inRegion ops rest::k)) cs) w):WalkE F main Stop V O (G (b.at (fa n f) (.inRegion ops (i::rest)::k)) cs) w:=
 WalkE.pv _ p l j q hk (λbj=>SF e a g h ⟨rfl⟩) (λbj=>by
  unfold Hn;simp only[e,ab,zM,h,g];simp at a;rcases a with rfl|rfl|rfl|rfl<;>simp[go_sem]) next
theorem WalkE.Yn(p:ops[i]?=Y o)(e:o.op=.binOp .sub 3 x y 3)(g:(fa n f).eval x=.int .i64 a)(j:(fa n f).eval y=.int .i64 c)(h:Sm (a-c))(m:o.dst=Y d)(l:d<n)(q:Region.wanted o (aw ops (fa n f).tmps)=true)(hk:b.kind≠.early)
  (next:WalkE F main Stop V O (G (b.at (fa n (ah f d (.int .i64 (a-c)))) (.inRegion ops rest::k)) cs) w):WalkE F main Stop V O (G (b.at (fa n f) (.inRegion ops (i::rest)::k)) cs) w:=
 WalkE.pv _ p m l q hk (λbj=>AW e g j h ⟨rfl⟩) (λbj=>by
  unfold Hn;simp only[e,g,j];simp[go_sem]) next
theorem WalkE.VB(l:ops[i]?=Y o)(c:o.op=.convert 5 3 x)(e:(fa n f).eval x=.int .u8 a)(h:0<=a/\a<=255)(j:o.dst=Y d)(g:d<n)(m:Region.wanted o (aw ops (fa n f).tmps)=true)(hk:b.kind≠.early)
  (next:WalkE F main Stop V O (G (b.at (fa n (ah f d (.int .i64 a))) (.inRegion ops rest::k)) cs) w):WalkE F main Stop V O (G (b.at (fa n f) (.inRegion ops (i::rest)::k)) cs) w:=
 WalkE.pv _ l j g m hk (λbj=>by
  unfold Hn;simp only[c,e];go_simp;rw[Go.IntWalk.i64_in _ zz]) (λbj=>by
  unfold Hn;simp only[c,e];simp[go_sem]) next
theorem WalkE.Yo(p:ops[i]?=Y o)(e:o.op=.binOp .rem 3 x y 3)(g:(fa n f).eval x=.int .i64 a)(h:(fa n f).eval y=.int .i64 c)(j:0<=a/\a<=1000)(hc:0<c/\c<=1000)(m:o.dst=Y d)(l:d<n)(q:Region.wanted o (aw ops (fa n f).tmps)=true)(hk:b.kind≠.early)
  (next:WalkE F main Stop V O (G (b.at (fa n (ah f d (.int .i64 (a%c)))) (.inRegion ops rest::k)) cs) w):WalkE F main Stop V O (G (b.at (fa n f) (.inRegion ops (i::rest)::k)) cs) w:=
 WalkE.pv _ p m l q hk (λbj=>by
  unfold Hn;simp only[e,g,h];go_simp;rw[qYB zz,Int.tmod_eq_emod_of_nonneg j.1]) (λbj=>by
  unfold Hn;simp only[e,g,h];simp[go_sem]) next
section
variable{m i n:Nat}{D:List (List Nat)}
def Ym(D:List (List Nat))(m:Nat):Prop:=∀i,m.testBit i=true->∀j∈D.getD i [],m.testBit j=true
def mO{m i j:Nat}:(m ||| 1 <<< i).testBit j=(m.testBit j||decide (i=j)):=by
 rw[Nat.testBit_or,Nat.one_shiftLeft,Nat.testBit_two_pow]
def Iw(n m:Nat):Nat:=((List.range n).filter λi=> !m.testBit i).length
def Tu(hi:i<n)(h:m.testBit i=false):Iw n (m ||| 1 <<< i)+1=Iw n m:=by
 unfold Iw
 induction n with
 | zero=>omega
 | succ n c=>
  rw[List.range_succ,nc,nc,ln,ln];by_cases b:i=n
  .subst b;have e:(List.range i).filter (λj=> !(m ||| 1 <<< i).testBit j)=(List.range i).filter λj=> !m.testBit j:=List.filter_congr λj a=>by
    have:i≠j:=by have:=List.mem_range.1 a;omega
    rw[mO,decide_eq_false this,Bool.or_false]
   rw[e];simp[mO,h]
  .have:=c zz;have e:[n].filter (λj=> !(m ||| 1 <<< i).testBit j)=[n].filter λj=> !m.testBit j:=List.filter_congr λj a=>by
    have:i≠j:=by have:=qBB.1 a;omega
    rw[mO,decide_eq_false this,Bool.or_false]
   rw[e];omega
def Qy(hi:i<n)(h:m.testBit i=false):0<Iw n m:=List.length_pos_of_mem (List.mem_filter.2 ⟨List.mem_range.2 hi,by simp[h]⟩)
def ES(b:∀i,i<D.length->∀j∈D.getD i [],j<i):∀n,n<=D.length->(∃i,i<n/\m.testBit i=false)->zo D m≠[]
 | 0,_,h=>by obtain⟨i,h,-⟩:=h;omega
 | n+1,g,h=>by
  by_cases a:∃i,i<n/\m.testBit i=false
  .exact ES b n zz a
  .obtain⟨i,f,h2⟩:=h;have hi:i=n:=Classical.byContradiction λk=>a ⟨i,zz,h2⟩;subst hi;have:i∈zo D m:=List.mem_filter.2 ⟨List.mem_range.2 zz,by
    rw[h2,Bool.not_false,Bool.true_and,List.all_eq_true];intro j d
    cases c:m.testBit j with
    | true=>rfl
    | false=>exact dE ⟨j,b i zz j d,c⟩ a⟩
   intro e;rw[e]at this;cases this
def Iv{J:Type}{T:Nat}(w:T<D.length)(p:∀i,i<D.length->∀j∈D.getD i [],j<i){W:List Nat->J->Prop}{S:Nat->J->Prop}{tail:List Nat}
  (G:((List.range T).all λi=>(List.range (T+1)).any λj=>decide (i<j)&&(D.getD j []).contains i)=true)(E:((List.range D.length).all λi=>decide (i<=T)||(D.getD i []).any λj=>decide (T<=j))=true)(P:MY D (Iw D.length (2^(T+1)-1)) (2^(T+1)-1)=[tail])
  (step:∀m i s rest,S m s->i<T->m.testBit i=false->(∀j∈D.getD i [],m.testBit j=true)->(∀u,S (m ||| 1 <<< i) u->W rest u)->W (i::rest) s)
  (stop:∀s,S (2^T-1) s->W (T::tail) s):
  ∀k m s l,k=Iw D.length m->m<2^D.length->m.testBit T=false->Ym D m->l∈MY D k m->S m s->W l s
 | 0,m,s,l,hk,hm,n,hc,g,t=>by have:=Qy w n;omega
 | k+1,m,s,l,hk,hm,n,hc,g,t=>by
  have a1:=ES p (m:=m) D.length (qT _) ⟨T,w,n⟩;rw[MY]at g
  cases A:zo D m with
  | nil=>exact dE A a1
  | cons r rs=>
   rw[A]at g;obtain⟨i,hi,g⟩:=List.mem_flatMap.1 g;obtain⟨rest,y,rfl⟩:=List.mem_map.1 g;rw[<- A]at hi;obtain⟨hi,O⟩:=List.mem_filter.1 hi;have hi:=List.mem_range.1 hi;rw[il,Bool.not_eq_true',List.all_eq_true]at O;obtain⟨z,q⟩:=O;have L:k=Iw D.length (m ||| 1 <<< i):=by have:=Tu hi z;omega
   have C:∀i,T<i->i<D.length->∃j,j∈D.getD i []/\T<=j:=λi v h2=>by
    have:=List.all_eq_true.1 E i (List.mem_range.2 h2);rw[decide_eq_false zz,Bool.false_or,List.any_eq_true]at this;obtain⟨j,b,c⟩:=this;exact⟨j,b,of_decide_eq_true c⟩
   have K:∀j,T<j->j<D.length->m.testBit j=false:=λj=>by
    induction j using Nat.strongRecOn with
    | ind j B=>
     intro v h2
     cases R:m.testBit j with
     | false=>rfl
     | true=>
      obtain⟨x,b,c⟩:=C j v h2;have a:=hc j R x b;have o:=p j h2 x b;rcases Nat.lt_or_eq_of_le c with h|rfl
      .rw[B x o h zz]at a;cases a
      .rw[n]at a;cases a
   have U:i<=T:=by
    rcases Nat.lt_or_ge T i with h|h
    .obtain⟨x,b,c⟩:=C i h hi;have a:=q x b;have o:=p i hi x b;rcases Nat.lt_or_eq_of_le c with h|rfl
     .rw[K x h zz]at a;cases a
     .rw[n]at a;cases a
    .exact h
   rcases Nat.lt_or_eq_of_le U with h|rfl
   .refine step m i s rest t h z q λu a2=>Iv w p G E P step stop k _ u rest L ?_ ?_ ?_ y a2
    .refine Nat.or_lt_two_pow hm ?_;rw[Nat.one_shiftLeft];exact Nat.pow_lt_pow_right zz hi
    .rw[mO,n];simp;omega
    .intro j f x Q;rw[mO]at f|-;simp only[np,decide_eq_true_iff]at f;rcases f with f|f
     .rw[hc j f x Q];rfl
     .subst f;rw[q x Q];rfl
   .have V:∀d j,d+j=i->j<i->m.testBit j=true:=λd=>by
     induction d using Nat.strongRecOn with
     | ind d B=>
      intro j v h2;obtain⟨x,b,c⟩:=List.any_eq_true.1 (List.all_eq_true.1 G j (List.mem_range.2 h2));rw[il,decide_eq_true_iff,List.contains_iff_mem]at c;have a:=List.mem_range.1 b;by_cases o:x=i
      .subst o;exact q j c.2
      .exact hc x (B (i-x) zz x zz zz) j c.2
    have N:m=2^i-1:=by
     apply Nat.eq_of_testBit_eq;intro j;rw[Nat.testBit_two_pow_sub_one];rcases Nat.lt_trichotomy j i with h|rfl|h
     .rw[V (i-j) j zz h];simp[h]
     .rw[z];simp
     .have e:decide (j<i)=false:=by simp;omega
      rw[e];rcases Nat.lt_or_ge j D.length with h2|h2
      .exact K j h h2
      .exact Nat.testBit_lt_two_pow (ec hm (Nat.pow_le_pow_right zz h2))
    have Z:m ||| 1 <<< i=2^(i+1)-1:=by
     subst N;apply Nat.eq_of_testBit_eq;intro j;rw[mO,Nat.testBit_two_pow_sub_one,Nat.testBit_two_pow_sub_one];by_cases h:j<i
     .simp[h];omega
     .by_cases h2:i=j
      .simp[h2]
      .simp[h,h2];omega
    rw[L,Z,P]at y;have:=qBB.1 y;subst this;rw[N]at t;exact stop s t
end
variable{p:Prop}{N:Nat}{b:aC}{hour stq:Int}
def pL(h:p:=by first|(refine Ls ?_;(repeat (first|exact au _ _ _|assumption|refine Oh ?_));done)|exact rfl):p:=h
def QA(h:p:=by(repeat (refine(cu _ _ ?_).tn ?_;omega));exact rfl):p:=h
def Vy{f:Nat->M}{o:Kp}{j g:Nat}{t:Bool}(b:o.guard=Y (j,t))(c:(ops[j]?).bind (·.dst)=Y g)(d:g<n)(a:f g=D):Region.wanted o (aw ops (fa n f).tmps)=false:=by
 unfold Region.wanted aw;rw[b];dsimp only;rw[c];simp only[Option.bind_some,ej d,a];rfl
def Qv:ay (bX N b) l=ay b l:=rfl
def Qw:mX (bX N b)=mX b:=rfl
def Rq:vL (bX n b) l=vL b l:=rfl
def M3{n m:Nat}:aJ (bX n b) l m=aJ b l m:=rfl
def IB{n x y:Nat}:lS (bX n b) l x y=lS b l x y:=rfl
def Ni(b:aC)(l:bN)(w:H)(d:aI w b l)(c:aD w)(a:ay b l=0):PH F 11 #[b.v] w λe w'=>e=.returned (.tuple #[.int .i64 (aJ b l b.D.toNat).length,.int .i64 0])/\X w w w':=by
 have:=vG b l w d c a;unfold oL at this;rw[show oK b l=(((aJ b l b.D.toNat).length:Int),0)from qYB (by simp[a])]at this;exact this
def RI{main:Bool}{Stop:(Nat->Prop)->(Nat->Prop)->QP->H->Prop}{V O:Nat->Prop}{w:H}{b:Kf}{k:List Item}{cs:List Kf}{id n T:Nat}{D:List (List Nat)}{tail:List Nat}{F val:Nat->M}{dl:Nat->Nat}{A:Nat->Prop}
  (Q:jM .any ops=D)(L:T<D.length)(x:∀i,i<D.length->∀j∈D.getD i [],j<i)(P:((List.range T).all λi=>(List.range (T+1)).any λj=>decide (i<j)&&(D.getD j []).contains i)=true)(N:((List.range D.length).all λi=>decide (i<=T)||(D.getD i []).any λj=>decide (T<=j))=true)(a1:MY D (Iw D.length (2^(T+1)-1)) (2^(T+1)-1)=[tail])
  (K:∀i,i<T->¬A (dl i))(R:∀i,i<T->∀j,j<T->dl i=dl j->i=j)(u:cr V O w)
  (stq:∀i,i<T->∀f d o bj rest,cr d o bj->dU V O w d o bj->(∀j,A j->f j=F j)->(∀j,j∈D.getD i []->f (dl j)=val j)->(∀q p r,cr q p r->dU d o bj q p r->WalkE Hb main Stop q p (G (b.at (fa n (ah f (dl i) (val i))) (.inRegion ops rest::k)) cs) r)->WalkE Hb main Stop d o (G (b.at (fa n f) (.inRegion ops (i::rest)::k)) cs) bj)
  (stop:∀f d o bj,cr d o bj->dU V O w d o bj->(∀j,A j->f j=F j)->(∀j,j<T->f (dl j)=val j)->WalkE Hb main Stop d o (G (b.at (fa n f) (.inRegion ops (T::tail)::k)) cs) bj):
  WalkE Hb main Stop V O (G (b.at (fa n F) (.code (.region id ops true)::k)) cs) w:=by
 refine WalkE.draw (uA Q rfl) λl U bj z=>?_;refine Iv (J:=(Nat->M)×(Nat->Prop)×(Nat->Prop)×H) (D:=D) L x (W:=λl s=>WalkE Hb main Stop s.2.1 s.2.2.1 (G (b.at (fa n s.1) (.inRegion ops l::k)) cs) s.2.2.2)
  (S:=λm s=>cr s.2.1 s.2.2.1 s.2.2.2/\dU V O w s.2.1 s.2.2.1 s.2.2.2/\(∀j,A j->s.1 j=F j)/\∀j,j<T->m.testBit j=true->s.1 (dl j)=val j)
  P N a1 (λm i s rest v hi a2 Z next=>?_) (λs v=>?_) D.length 0 (F,V,O,bj) l ?_ (Nat.two_pow_pos _) (Nat.zero_testBit _) (λi h=>by rw[Nat.zero_testBit]at h;cases h) U ⟨u.bH (u.refl.step z),u.refl.step z,λ_ _=>rfl,λj _ h=>by rw[Nat.zero_testBit]at h;cases h⟩
 .obtain⟨c,g,t,h2⟩:=v;refine stq i hi s.1 _ _ _ rest c g t (λj a=>h2 j (by have:=x i zz j a;omega) (Z j a)) λq p r B E=>next (ah s.1 (dl i) (val i),q,p,r) ⟨B,g.tn E,λj a=>(cu _ _ λe=>K i hi (by rw[<- e];exact a)).tn (t j a),λj a y=>?_⟩;by_cases e:i=j
  .subst e;exact au _ _ _
  .rw[mO,decide_eq_false e,Bool.or_false]at y;exact(cu _ _ λC=>e (R i hi j a C.symm)).tn (h2 j a y)
 .obtain⟨c,g,t,h2⟩:=v;exact stop s.1 _ _ _ c g t λj a=>h2 j a (by rw[Nat.testBit_two_pow_sub_one];exact decide_eq_true a)
 .unfold Iw;rw[List.filter_eq_self.2 ss];simp
def nc{p:Nat->Prop}(a:p 0)(h:∀i,p (i+1)):∀i,p i
 | 0=>a
 | i+1=>h i
def zd[Decidable p](h:p:=by decide +kernel):p:=h
def qQ(b:aC)(hour stq:Int):Array M:= #[b.v,.int .u8 hour,.int .u8 stq]
def TP(b:aC)(hour stq:Int):∃f,Kf.enter F 4 (qQ b hour stq) .normal=(bs .normal 4).at (fa 173 f) [.code bx]/\f 0=b.v/\f 1=.int .u8 hour/\f 2=.int .u8 stq:=by
 refine⟨λi=>(qQ b hour stq).getD i D,?_,rfl,rfl,rfl⟩;rw[enter_at (c:=bx) (qQ b hour stq) Tryz.func4 rfl];have:qQ b hour stq++Array.replicate (Tryz.f4.ntmps-(qQ b hour stq).size) D=(Array.range 173).map λi=>(qQ b hour stq).getD i D:=iu (A:=qQ b hour stq) (k:=170) (n:=173) rfl;rw[this];rfl
def Xq:Ly:=match bx with|.seq _ (.seq _ r)=>r|_=>.skip
def Ak0:bx=.seq (.region 0 Xu false) (.seq (.seq (.region 1 TS false) (.cond (.tmp 25) (.seq (.region 2 E7 false) .ret) .skip)) Xq):=rfl
def TQ(U:cr V O w)(s:Um V w b)(a1:mX b=false->∃l,qS V w b l)
  (P:∀f' bj c d,cr c d bj->dU V O w c d bj->WalkE F main Stop c d (G (Kf.enter F 7 #[] .normal) ((bs .normal 4).at (fa 173 f') (.inRegion E7 [0,1]::[.code .ret,.code Xq])::cs)) bj)
  (R:∀l,ay b l=0->b.W.n<4->∀f' bj c d g,qS c bj b l->Fg c d bj g b->dU V O w c d bj->f' 1=.int .u8 hour->f' 2=.int .u8 stq->f' 3=.pointer (Y (g,0))->WalkE F main Stop c d (G ((bs .normal 4).at (fa 173 f') [.code Xq]) cs) bj):
  WalkE F main Stop V O (G (Kf.enter F 4 (qQ b hour stq) .normal) cs) w:=by
 have hk:(bs .normal 4).kind≠.early:=by simp[bs]
 obtain⟨f,Z,e0,e1,n⟩:=TP b hour stq;rw[Z,Ak0];refine WalkE.seq (WalkE.reg (l:=[0,1]) rfl ?_);refine cr.XN U zz e0 rfl rfl rfl zz rfl hk λm y x g j i=>?_;refine WalkE.av (.bool false) rfl (.inr rfl) rfl rfl zz wnn hk (WalkE.aT ?_);have s:=s.mono i.vv i.rely.keep;have A:ah (ah f 3 (.pointer (Y (g,0)))) 6 (.bool false) 3=.pointer (Y (g,0)):=rfl;have e1:ah (ah f 3 (.pointer (Y (g,0)))) 6 (.bool false) 1=.int .u8 hour:=e1;have n:ah (ah f 3 (.pointer (Y (g,0)))) 6 (.bool false) 2=.int .u8 stq:=n;generalize ah (ah f 3 (.pointer (Y ⟨g,0,I⟩))) 6 (.bool false)=Q at e1 n A|-;refine WalkE.seq (WalkE.seq (WalkE.reg (l:=[0,1,2,3,4,5,6,7,8]) rfl ?_));refine WalkE.dV j.box j.gV rfl rfl pL rfl zz rfl hk ?_;have J:∀{f':Nat->M} bj c d,cr c d bj->dU y x m c d bj->f' 25=.bool true->WalkE F main Stop c d (G ((bs .normal 4).at (fa 173 f') (.code (.cond (.tmp 25) (.seq (.region 2 E7 false) .ret) .skip)::[.code Xq])) cs) bj:=by
  intro f' bj c d o h T;refine WalkE.cond (t:=true) (ft T) ?_;rw[cd rfl];refine WalkE.seq (WalkE.reg (l:=[0,1]) rfl ?_);refine WalkE.enter (f:=7) (args:= #[]) rfl wnn hk (λbj=>(kJ (args:= #[]) rfl ss rfl λ_=>⟨rfl,rfl⟩).1) (λbj=>(kJ (args:= #[]) rfl ss rfl λ_=>⟨rfl,rfl⟩).2) ?_;exact P _ _ _ _ o (i.tn h)
 have B:∀(q:Bool) bj c d,cr c d bj->dU y x m c d bj->(q=true->∃l,ay b l=0/\qS V w b l)->WalkE F main Stop c d (G ((bs .normal 4).at (fa 173 (ah (ah Q 17 b.v) 18 (.bool q))) (.inRegion TS [2,3,4,5,6,7,8]::[.code (.cond (.tmp 25) (.seq (.region 2 E7 false) .ret) .skip),.code Xq])) cs) bj:=by
  intro q bj c d o h k;refine(WalkE.BS (!q) rfl rfl pL rfl rfl zz wnn hk ?_);refine(WalkE.av (.bool (!q)) rfl (.inl rfl) pL rfl zz wnn hk ?_);cases q
  .iterate 4 refine WalkE.E8 rfl rfl zz (eC rfl rfl zz rfl) ?_
   refine WalkE.cj (a:=true) (.bool true) rfl rfl pL ((cd rfl).tn rfl) rfl zz wnn hk (WalkE.aT ?_);exact J _ _ _ o h rfl
  .have r:=j.bH h;refine WalkE.Ur rfl rfl rfl pL rfl zz (az rfl rfl zz rfl) hk ?_;refine WalkE.pJ ⟨g,0+12,I⟩ (.slice b.W.A b.W.n b.W.c) Zv rfl rfl pL r.gV (r.box 12 _ rfl) rfl zz (az rfl rfl zz rfl) hk ?_;refine WalkE.IA rfl rfl rfl pL rfl rfl zz (az rfl rfl zz rfl) hk ?_;obtain⟨z,E⟩:∃z,decide ((4:Int)<=b.W.n)=z:=⟨_,rfl⟩;refine WalkE.pK z rfl rfl rfl pL rfl E rfl zz (az rfl rfl zz rfl) hk ?_;refine WalkE.cj (a:=false) (.bool z) rfl rfl pL ((qYB Bool.false_ne_true).tn pL) rfl zz wnn hk (WalkE.aT ?_);cases z
   .refine WalkE.cond (t:=false) (ft rfl) ?_;rw[qYB ss];obtain⟨l,S,h2⟩:=k rfl;exact WalkE.skip (R l S (by simp at E;omega) _ _ _ _ g (h2.bH (i.tn h)) r (i.tn h) e1 n A)
   .exact J _ _ _ o h rfl
 cases u:mX b
 .obtain⟨l,C⟩:=a1 u;have hi:=C.bH i;refine cr.qL (args:= #[(bX m.heap.size b).v]) (v:=.bool (ay b l==0)) j.co hi rfl rfl (mY (ft rfl)) rfl zz wnn hk (λ_=>⟨rfl,rfl⟩) rfl rfl (λe0 hB=>vg (by exact hi.RH)) (dQ _) (λe0 hB K=>(Qu (bX m.heap.size b) l _ (Qw.tn u) (hi.lone (e0:=e0) K m.drawn).1).mono λe W q=>by rw[Qv]at q;exact q.1) λw3 N L p h=>B _ _ _ _ p h λk=>⟨l,by simpa using k,C⟩
 .exact cr.jZ (args:= #[b.v]) (v:=.bool false) j.co rfl rfl (mY (ft rfl)) rfl zz wnn hk (λ_=>⟨rfl,rfl⟩) rfl rfl (λe0 hB=>jy (by exact s.vr)) (dQ _) (λe0 K=>(Qt b _ u).mono λe W q=>q.1) λw3 N L p h=>B _ _ _ _ p h λk=>by cases k
variable{K:List Item}{at_ i_ left n r:Int}{x y:Nat}
def aaK(hb:Fg V O w g b)(hin:qS V w b l)(hc:ay b l=0)(k:f 3=(g,0))
  (next:∀f' bj a c,dU V O w a c bj->(∀i,i<7->f' i=f i)->f' 7=.int .i64 (vL b l).1->f' 8=.int .i64 (vL b l).2.1->f' 9=.int .i64 (vL b l).2.2.1->f' 10=.int .i64 (vL b l).2.2.2->WalkE F main Stop a c (G ((bs .normal 4).at (fa 173 f') (K)) cs) bj):
  WalkE F main Stop V O (G ((bs .normal 4).at (fa 173 f) (.code (.region 3 TT false)::K)) cs) w:=by
 have ø:=0;exact vh
def aaL(hb:Fg V O w g b)(hin:qS V w b l)(hc:ay b l=0)(k:f 3=(g,0))
  (next:∀f' bj a c,dU V O w a c bj->(∀i,i<11->f' i=f i)->f' 11=.int .i64 (aJ b l b.D.toNat).length->f' 12=.int .i64 0->WalkE F main Stop a c (G ((bs .normal 4).at (fa 173 f') (K)) cs) bj):
  WalkE F main Stop V O (G ((bs .normal 4).at (fa 173 f) (.code (.region 4 Up false)::K)) cs) w:=by
 have å:=0;exact vh
def Yr(A:f 12=(0:Int))(u:f 10=r)(z:f 11=n)(hr:(r==0)=decide (0<n))
  (next:∀f',(∀i,i<17->f' i=f i)->f' 47=.bool false->WalkE F main Stop V O (G ((bs .normal 4).at (fa 173 f') (K)) cs) w):
  WalkE F main Stop V O (G ((bs .normal 4).at (fa 173 f) (.code (.region 5 Uq false)::K)) cs) w:=by
 have æ:=0;exact vh
def Yt(a:f 10=r)
  (next:∀f',(∀i,i<17->f' i=f i)->f' 49=.bool (r != 0)->WalkE F main Stop V O (G ((bs .normal 4).at (fa 173 f') (K)) cs) w):
  WalkE F main Stop V O (G ((bs .normal 4).at (fa 173 f) (.code (.region 7 Us false)::K)) cs) w:=by
 have ø:=0;exact Io
def aaM(c:f 10=(9:Int))(a:f 7=(0:Int))(g:f 8=(0:Int))(b:f 9=(0:Int))
  (next:∀f',f' 64=.bool true->WalkE F main Stop V O (G (Kf.enter F 7 #[] .normal) ((bs .normal 4).at (fa 173 f') (.inRegion MM [15,16,17]::K)::cs)) w):
  WalkE F main Stop V O (G ((bs .normal 4).at (fa 173 f) (.code (.region 8 MM false)::K)) cs) w:=by
 have ø:=0;exact Ce
def aaN(a:Fg V O w g b)(N:b.U.n<=1000)(L:0<=b.S/\b.S<=1000)(y:f 3=(g,0))(z:f 7=at_)(A:f 8=i_)(B:f 9=left)(x:f 11=n)(k:ax at_ (-1) (b.U.n-1)=true)(h2:ax i_ (-1) (b.S-1)=true)(m:(left==n)=decide (at_<0))(o:decide (i_<0)=decide (at_<0))(C:left<=n)
  (next:∀f' bj c d,dU V O w c d bj->(∀i,i<17->f' i=f i)->f' 101=.bool false->WalkE F main Stop c d (G ((bs .normal 4).at (fa 173 f') (K)) cs) bj):
  WalkE F main Stop V O (G ((bs .normal 4).at (fa 173 f) (.code (.region 9 Ut false)::K)) cs) w:=by
 have hk:(bs .normal 4).kind≠.early:=by simp[bs]
 refine WalkE.reg (l:=List.range 35) rfl ?_;refine wss ?_;refine WalkE.Ur rfl rfl rfl pL rfl zz wnn hk ?_;refine WalkE.pJ ⟨g,0+10,I⟩ (.slice b.U.A b.U.n b.U.c) U4 rfl rfl pL a.gV (a.box 10 _ rfl) rfl zz wnn hk ?_;refine WalkE.IA rfl rfl rfl pL rfl rfl zz wnn hk ?_;refine WalkE.Yn rfl rfl pL rfl (by unfold Sm;omega) rfl zz wnn hk ?_;refine cr.jZ (fn:=24) (args:= #[.int .i64 at_,.int .i64 (-1),.int .i64 (b.U.n-1)]) (v:=.bool true) a.co rfl rfl (Is (ft rfl) rfl (ft rfl)) rfl zz wnn hk (λ_=>⟨rfl,rfl⟩) rfl rfl (λe0 hB=>QC (by exact .int _ _) (by exact .int _ _) (by exact .int _ _)) (dQ _) (λe0 p=>(bz _ _ _ _).mono λe W q=>by rw[k]at q;exact q.1) λP t r E h=>?_;have a:=a.bH h;refine wss ?_;refine WalkE.Ur rfl rfl rfl pL rfl zz (az rfl rfl zz rfl) hk ?_;refine WalkE.pJ ⟨g,0+0,I⟩ (.int .i64 b.S) aa9 rfl rfl pL a.gV (a.box 0 _ rfl) rfl zz (az rfl rfl zz rfl) hk ?_;refine WalkE.Yn rfl rfl pL rfl (by unfold Sm;omega) rfl zz (az rfl rfl zz rfl) hk ?_;refine cr.jZ (fn:=24) (args:= #[.int .i64 i_,.int .i64 (-1),.int .i64 (b.S-1)]) (v:=.bool true) a.co rfl rfl (Is (ft rfl) rfl (ft rfl)) rfl zz (az rfl rfl zz rfl) hk (λ_=>⟨rfl,rfl⟩) rfl rfl (λe0 hB=>QC (by exact .int _ _) (by exact .int _ _) (by exact .int _ _)) (dQ _) (λe0 p=>(bz _ _ _ _).mono λe W q=>by rw[h2]at q;exact q.1) λQ u s J j=>?_;have a:=a.bH j;refine wss ?_;refine WalkE.pK (decide (at_<0)) rfl rfl rfl pL rfl rfl rfl zz (az rfl rfl zz rfl) hk ?_;refine wss ?_;refine WalkE.pK (decide (at_<0)) rfl rfl rfl pL pL m rfl zz (az rfl rfl zz rfl) hk ?_;refine WalkE.TN false rfl rfl pL pL ss rfl zz (az rfl rfl zz rfl) hk ?_;refine wss ?_;refine WalkE.pK (decide (at_<0)) rfl rfl rfl pL rfl rfl rfl zz (az rfl rfl zz rfl) hk ?_;refine wss ?_;refine WalkE.pK (decide (at_<0)) rfl rfl rfl pL rfl o rfl zz (az rfl rfl zz rfl) hk ?_;refine WalkE.TN false rfl rfl pL pL ss rfl zz (az rfl rfl zz rfl) hk ?_;refine wss ?_;refine WalkE.pK false rfl rfl rfl pL pL (decide_eq_false zz) rfl zz (az rfl rfl zz rfl) hk ?_;refine wss ?_;exact WalkE.aT (next _ _ _ _ (h.tn j) (λi hi=>QA) rfl)
def Vz(b:aC)(g:Nat)(hour stq:Int):List M:=[.int .u8 hour,.int .i64 hour,.pointer (Y (g,0+10)),.slice b.U.A b.U.n b.U.c,.int .i64 b.U.n,.int .i64 (hour%b.U.n),.int .u8 stq,.int .i64 stq,.pointer (Y (g,0+0)),.int .i64 b.S,.int .i64 (stq%b.S),.int .i64 (hour%b.U.n)]
def ZF(o:Fg V O w g b)(s:0<=hour/\hour<=255)(h2:0<=stq/\stq<=255)(u:0<b.U.n/\b.U.n<=1000)(t:0<b.S/\b.S<=1000)(e1:f 1=.int .u8 hour)(q:f 2=.int .u8 stq)(r:f 3=(g,0))
  (next:∀f' bj l m,dU V O w l m bj->(∀i,i<13->f' i=f i)->f' 13=.int .i64 (hour%b.U.n)->f' 14=.int .i64 (stq%b.S)->WalkE Hb main Stop l m (G ((bs .normal 4).at (fa 173 f') K) cs) bj):
  WalkE Hb main Stop V O (G ((bs .normal 4).at (fa 173 f) (.code (.region 11 M1 true)::K)) cs) w:=by
 have hk:(bs .normal 4).kind≠.early:=by simp[bs]
 refine RI (b:=bs .normal 4) (k:=K) (cs:=cs) (id:=11) (n:=173) (F:=f) (A:=(· < 13)) (T:=12) (tail:=[]) (D:=jM .any M1) (val:=λj=>(Vz b g hour stq).getD j Hc) (dl:=λj=>if j=11 then 13 else j+102) rfl zd zd zd zd zd (λi hi h=>by split at h<;>omega) (λi hi j v h=>by split at h<;>split at h<;>omega) o.co ?_ λf' l m bj a d e c=>?_
 .refine nc (λhi f' l m bj rest a d e c next=>?_) (nc (λhi f' l m bj rest a d e c next=>?_) (nc (λhi f' l m bj rest a d e c next=>?_) (nc (λhi f' l m bj rest a d e c next=>?_) (nc (λhi f' l m bj rest a d e c next=>?_) (nc (λhi f' l m bj rest a d e c next=>?_) (nc (λhi f' l m bj rest a d e c next=>?_) (nc (λhi f' l m bj rest a d e c next=>?_) (nc (λhi f' l m bj rest a d e c next=>?_) (nc (λhi f' l m bj rest a d e c next=>?_) (nc (λhi f' l m bj rest a d e c next=>?_) (nc (λhi f' l m bj rest a d e c next=>?_) λi hi=>dE hi zz)))))))))))
  .exact WalkE.av _ rfl (.inl rfl) (Ls ((e 1 zz).tn e1)) rfl zz wnn hk (next _ _ _ a a.refl)
  .exact WalkE.VB rfl rfl (Ls (c 0 zd)) s rfl zz wnn hk (next _ _ _ a a.refl)
  .exact Qs
  .exact WalkE.pJ _ _ U4 rfl rfl (Ls (c 2 zd)) (o.bH d).gV ((o.bH d).box 10 _ rfl) rfl zz wnn hk (next _ _ _ a a.refl)
  .exact WalkE.IA rfl rfl rfl (Ls (c 3 zd)) rfl rfl zz wnn hk (next _ _ _ a a.refl)
  .exact WalkE.Yo rfl rfl (Ls (c 1 zd)) (Ls (c 4 zd)) zz zz rfl zz wnn hk (next _ _ _ a a.refl)
  .exact WalkE.av _ rfl (.inl rfl) (Ls ((e 2 zz).tn q)) rfl zz wnn hk (next _ _ _ a a.refl)
  .exact WalkE.VB rfl rfl (Ls (c 6 zd)) h2 rfl zz wnn hk (next _ _ _ a a.refl)
  .exact Qs
  .exact WalkE.pJ _ _ aa9 rfl rfl (Ls (c 8 zd)) (o.bH d).gV ((o.bH d).box 0 _ rfl) rfl zz wnn hk (next _ _ _ a a.refl)
  .exact WalkE.Yo rfl rfl (Ls (c 7 zd)) (Ls (c 9 zd)) zz zz rfl zz wnn hk (next _ _ _ a a.refl)
  .exact WalkE.av _ rfl (.inr rfl) (Ls (c 5 zd)) rfl zz wnn hk (next _ _ _ a a.refl)
 .exact WalkE.av _ rfl (.inr rfl) (Ls (c 10 zd)) rfl zz wnn hk (WalkE.aT (next _ _ _ _ d (λi hi=>nt (e i hi)) (nt (c 11 zd)) rfl))
def ZH(hb:Fg V O w g b)(hin:qS V w b l)(hc:ay b l=0)(h4:l.W.length<4)(hx:x<l.U.length)(hy:(y:Int)<b.S)(k:f 3=(g,0))(B:f 13=x)(C:f 14=y)
  (next:∀f' bj a c,dU V O w a c bj->(∀i,i<15->f' i=f i)->f' 15=.int .i64 (lS b l x y)->f' 16=.bool true->WalkE F main Stop a c (G ((bs .normal 4).at (fa 173 f') (K)) cs) bj):
  WalkE F main Stop V O (G ((bs .normal 4).at (fa 173 f) (.code (.region 12 QD false)::K)) cs) w:=vh
def ZJ(hb:Fg V O w g b)(hin:qS V w b l)(hc:ay b l=0)(h4:l.W.length<4)(hx:x<l.U.length)(hy:(y:Int)<b.S)(k:f 3=(g,0))(E:f 7=x)(J:f 8=y)
  (next:∀f' bj a c,dU V O w a c bj->(∀i,i<15->f' i=f i)->f' 15=.int .i64 (lS b l x y)->f' 16=.bool true->WalkE F main Stop a c (G ((bs .normal 4).at (fa 173 f') (K)) cs) bj):
  WalkE F main Stop V O (G ((bs .normal 4).at (fa 173 f) (.code (.region 16 Rn false)::K)) cs) w:=vh
def Z5(j:f 16=true)(g:f 15=n)(o:f 9=left)(k:f 7=at_)(m:f 8=i_)(d:f 13=x)(e:f 14=y)(q:left<=n)(h2:n=left->0<=at_->¬((x:Int)<at_\/(x:Int)=at_/\(y:Int)<i_))
  (next:∀f',(∀i,i<17->f' i=f i)->f' 150=.bool false->WalkE F main Stop V O (G ((bs .normal 4).at (fa 173 f') (K)) cs) w):
  WalkE F main Stop V O (G ((bs .normal 4).at (fa 173 f) (.code (.region 13 QF false)::K)) cs) w:=by
 have hk:(bs .normal 4).kind≠.early:=by simp[bs]
 refine WalkE.reg (l:=List.range 31) rfl ?_;refine wss ?_;refine WalkE.pK false rfl rfl rfl pL pL (decide_eq_false zz) rfl zz (az rfl rfl zz rfl) hk ?_;refine wss ?_;by_cases a:n=left
 .refine WalkE.pK true rfl rfl rfl pL pL (ll.2 a) rfl zz (az rfl rfl zz rfl) hk ?_;refine wss ?_;by_cases b:0<=at_
  .refine WalkE.pK true rfl rfl rfl pL rfl (decide_eq_true b) rfl zz (az rfl rfl zz rfl) hk ?_;refine wss ?_;refine WalkE.pK false rfl rfl rfl pL pL (decide_eq_false λh=>h2 a b (.inl h)) rfl zz (az rfl rfl zz rfl) hk ?_;refine wss ?_;by_cases c:(x:Int)=at_
   .refine WalkE.pK true rfl rfl rfl pL pL (ll.2 c) rfl zz (az rfl rfl zz rfl) hk ?_;refine wss ?_;refine WalkE.pK false rfl rfl rfl pL pL (decide_eq_false λh=>h2 a b (.inr ⟨c,h⟩)) rfl zz (az rfl rfl zz rfl) hk ?_;refine wss ?_;exact WalkE.aT (next _ (λi hi=>QA) rfl)
   .have å:=0;exact vZ
  .have ø:=0;exact vZ
 .exact vZ
def Z6(b:f 7=at_)
  (next:∀f',(∀i,i<17->f' i=f i)->f' 152=.bool (decide (0<=at_))->WalkE F main Stop V O (G ((bs .normal 4).at (fa 173 f') (K)) cs) w):
  WalkE F main Stop V O (G ((bs .normal 4).at (fa 173 f) (.code (.region 15 Rm false)::K)) cs) w:=Io
def Ux(e:f 16=true)(a:f 7=at_)(d:f 15=n)(b:f 9=left)(h:0<=at_->n=left)
  (next:∀f',f' 170=.bool true->WalkE F main Stop V O (G (Kf.enter F 7 #[] .normal) ((bs .normal 4).at (fa 173 f') (.inRegion EP [11,12,13]::K)::cs)) w):
  WalkE F main Stop V O (G ((bs .normal 4).at (fa 173 f) (.code (.region 17 EP false)::K)) cs) w:=by
 have hk:(bs .normal 4).kind≠.early:=by simp[bs]
 refine WalkE.reg (l:=List.range 14) rfl ?_;refine wss ?_;by_cases q1:at_<0
 .exact Ce
 .have å:=0;exact Ce
def VA:Xq=.seq (.region 3 TT false) (.seq (.region 4 Up false) (.seq (.seq (.region 5 Uq false) (.cond (.tmp 47) (.seq (.region 6 Xv false) .ret) .skip)) (.seq (.seq (.region 7 Us false) (.cond (.tmp 49) (.seq (.region 8 MM false) .ret) .skip)) (.seq (.seq (.region 9 Ut false) (.cond (.tmp 101) (.seq (.region 10 Vu false) .ret) .skip)) (.seq (.region 11 M1 true) (.seq (.region 12 QD false) (.seq (.seq (.region 13 QF false) (.cond (.tmp 150) (.seq (.region 14 Vv false) .ret) .skip)) (.seq (.seq (.region 15 Rm false) (.cond (.tmp 152) (.region 16 Rn false) .skip)) (.seq (.region 17 EP false) .ret))))))))):=rfl
def JF{r a:Nat}{ops:Array Kp}{tail:List Nat}(f:Nat->M)(h:f a=.bool true)(b:(r=8/\ops=MM/\a=64/\tail=[15,16,17])\/(r=17/\ops=EP/\a=170/\tail=[11,12,13])):Ie 4 173 6 ((bs .normal 4).at (fa 173 f) (.inRegion ops tail::.code .ret::K)):=λg e i=>by
 have hk:(bs .normal 4).kind≠.early:=by simp[bs]
 rcases b with⟨rfl,rfl,rfl,rfl⟩|⟨rfl,rfl,rfl,rfl⟩
 .rw[Kf.finish_at,show(MM[15]?).bind (·.dst)=Y 65 from rfl,cw zz];refine WalkE.cj (a:=true) (.bool true) rfl rfl pL ((cd rfl).tn pL) rfl zz wnn hk ?_;exact WalkE.av (d:=6) (.bool true) rfl (.inr rfl) pL rfl zz wnn hk (WalkE.aT (WalkE.ret (WalkE.stop λc b=>⟨⟨_,_,rfl,rfl⟩,λ_=>id,b⟩)))
 .rw[Kf.finish_at,show(EP[11]?).bind (·.dst)=Y 171 from rfl,cw zz];refine WalkE.cj (a:=true) (.bool true) rfl rfl pL ((cd rfl).tn pL) rfl zz wnn hk ?_;exact WalkE.av (d:=6) (.bool true) rfl (.inr rfl) pL rfl zz wnn hk (WalkE.aT (WalkE.ret (WalkE.stop λc b=>⟨⟨_,_,rfl,rfl⟩,λ_=>id,b⟩)))
def Tm(f:Nat->M):Ie 4 173 6 ((bs .normal 4).at (fa 173 f) (.inRegion E7 [0,1]::.code .ret::K)):=λc b e=>by
 have hk:(bs .normal 4).kind≠.early:=by simp[bs]
 rw[Kf.finish_at,show(E7[0]?).bind (·.dst)=Y 26 from rfl,cw zz];exact WalkE.av (d:=6) (.bool true) rfl (.inr rfl) pL rfl zz wnn hk (WalkE.aT (WalkE.ret (WalkE.stop λg a=>⟨⟨_,_,rfl,rfl⟩,λ_=>id,a⟩)))
def Tp{post:M->H->Prop}{J:Gh}{w:H}{b:aC}{hour stq:Int}(h1:0<=hour/\hour<=255)(h2:0<=stq/\stq<=255)(b5:Main J w)(c2:Um (J.V 0) w b)
  (c3:mX b=false->∃l,qS (J.V 0) w b l)
  (c1:∀w',aH (J.V 0) w w'->post (.bool true) w'):aQ fI F post (G (Kf.enter F 4 (qQ b hour stq) .normal) []) J w:=by
 refine QB (n:=173) (r:=6) Tryz.func4 rfl zz zz b5 ?_ c1;refine TQ b5.co c2 c3 (λf w1 V1 O1 b' j=>WalkE.stop λw2 o=>⟨_,rfl,b'.rely o,j.vv,(j.step o).rely,Tm f⟩) λl hc c' f1 w1 V1 O1 g hi m j e1 u c=>?_;have c9:b.W.n=l.W.length:=hi.at_.W.1;have b0:b.U.n=l.U.length:=hi.at_.U.1;obtain⟨t1,t2,-⟩:=cS (bP hc).1;obtain⟨u1,u2⟩:=UU (bP hc).2.2.1;have h4:l.W.length<4:=zz;rw[VA];refine WalkE.seq (aaK m hi hc c λf2 w2 V2 O2 V k3 a e d p=>?_);have m:=m.bH V;have hi:qS _ _ b l:=uD.bH hi V;have j:=j.tn V;have e1:=(k3 1 zz).tn e1;have u:=(k3 2 zz).tn u;have c:=(k3 3 zz).tn c;refine WalkE.seq (aaL m hi hc c λf3 w3 V3 O3 W B A b3=>?_);have m:=m.bH W;have hi:qS _ _ b l:=uD.bH hi W;have j:=j.tn W;have e1:=(B 1 zz).tn e1;have u:=(B 2 zz).tn u;have c:=(B 3 zz).tn c;have a:=(B 7 zz).tn a;have e:=(B 8 zz).tn e;have d:=(B 9 zz).tn d;have p:=(B 10 zz).tn p;by_cases Q:aJ b l b.D.toNat=[]
 .have a0:cP b l true=9:=by unfold cP;rw[qYB (by simp[hc]),qYB ss,cd Q]
  have a':vL b l=(0,0,0,9):=by unfold vL;rw[qYB zz,a0]
  rw[a']at a e d p;rw[Q]at A;refine WalkE.seq (WalkE.seq (Yr (r:=9) (n:=0) b3 p A rfl λf4 z q=>?_));refine WalkE.cond (t:=false) (ft q) ?_;rw[qYB ss];refine WalkE.skip (WalkE.seq (WalkE.seq (Yt (r:=9) ((z 10 zz).tn p) λf5 K q=>?_)));refine WalkE.cond (t:=true) (ft q) ?_;rw[cd rfl];exact WalkE.seq (aaM ((K 10 zz).tn ((z 10 zz).tn p)) ((K 7 zz).tn ((z 7 zz).tn a)) ((K 8 zz).tn ((z 8 zz).tn e)) ((K 9 zz).tn ((z 9 zz).tn d)) λf6 q=>WalkE.stop λw7 o=>⟨_,rfl,m.co.rely o,j.vv,(j.step o).rely,JF f6 q (.inl ⟨rfl,rfl,rfl,rfl⟩)⟩)
 .have a0:cP b l true=0:=by unfold cP;rw[qYB (by simp[hc]),qYB ss,qYB Q]
  obtain⟨at_,i_,left,b9,a1,a2,a3,a4,a5,a6,a7,a8,a9⟩:=TO hc zz b0 ⟨zz,t2⟩;have a':vL b l=(at_,i_,left,0):=by unfold vL;rw[cd a0,b9]
  rw[a']at a e d p;dsimp only at a e d p;have b6:0<((aJ b l b.D.toNat).length:Int):=by have:=List.length_pos_iff.2 Q;omega
  generalize((aJ b l b.D.toNat).length:Int)=n at A a5 a7 b6;refine WalkE.seq (WalkE.seq (Yr (r:=0) (n:=n) b3 p A (decide_eq_true b6).symm λf4 z q=>?_));refine WalkE.cond (t:=false) (ft q) ?_;rw[qYB ss];refine WalkE.skip (WalkE.seq (WalkE.seq (Yt (r:=0) ((z 10 zz).tn p) λf5 K q=>?_)));have k:∀i,i<17->f5 i=f3 i:=λi hi=>(K i hi).tn (z i hi);have e1:=(k 1 zz).tn e1;have u:=(k 2 zz).tn u;have c:=(k 3 zz).tn c;have a:=(k 7 zz).tn a;have e:=(k 8 zz).tn e;have d:=(k 9 zz).tn d;have A:=(k 11 zz).tn A;refine WalkE.cond (t:=false) (ft q) ?_;rw[qYB ss];refine WalkE.skip (WalkE.seq (WalkE.seq (aaN (at_:=at_) (i_:=i_) (left:=left) (n:=n) m zz zz c a e d A (cq.2 ⟨a1,zz⟩) (cq.2 ⟨a3,a4⟩) (by rw[Bool.eq_iff_iff,ll,decide_eq_true_iff];exact a5.symm) (by rw[decide_eq_decide];exact a6.symm) a7 λf6 w6 V6 O6 Z L q=>?_)));have m:=m.bH Z;have hi:qS _ _ b l:=uD.bH hi Z;have j:=j.tn Z;have e1:=(L 1 zz).tn e1;have u:=(L 2 zz).tn u;have c:=(L 3 zz).tn c;have a:=(L 7 zz).tn a;have e:=(L 8 zz).tn e;have d:=(L 9 zz).tn d;refine WalkE.cond (t:=false) (ft q) ?_;rw[qYB ss];refine WalkE.skip (WalkE.seq (ZF m h1 h2 zz zz e1 u c λf7 w7 V7 O7 T R N O=>?_));have m:=m.bH T;have hi:qS _ _ b l:=uD.bH hi T;have j:=j.tn T;have c:=(R 3 zz).tn c;have a:=(R 7 zz).tn a;have e:=(R 8 zz).tn e;have d:=(R 9 zz).tn d;obtain⟨x,c4,b7⟩:∃x:Nat,hour%b.U.n=x/\x<l.U.length:=by
   have h1:=Int.emod_nonneg hour (b:=b.U.n) zz;have h2:=Int.emod_lt_of_pos hour (b:=b.U.n) zz;exact⟨(hour%b.U.n).toNat,zz,zz⟩
  obtain⟨y,c5,b8⟩:∃y:Nat,stq%b.S=y/\(y:Int)<b.S:=by
   have h1:=Int.emod_nonneg stq (b:=b.S) zz;have h2:=Int.emod_lt_of_pos stq (b:=b.S) zz;exact⟨(stq%b.S).toNat,zz,zz⟩
  rw[c4]at N;rw[c5]at O;obtain⟨b1,b2⟩:=a8 x y b7 b8;refine WalkE.seq (ZH m hi hc h4 b7 b8 c N O λf8 w8 V8 O8 U C s v=>?_);have m:=m.bH U;have hi:qS _ _ b l:=uD.bH hi U;have j:=j.tn U;have c:=(C 3 zz).tn c;have a:=(C 7 zz).tn a;have e:=(C 8 zz).tn e;have d:=(C 9 zz).tn d;have N:=(C 13 zz).tn N;have O:=(C 14 zz).tn O;refine WalkE.seq (WalkE.seq (Z5 v s d a e N O b1 b2 λf9 E q=>?_));have c:=(E 3 zz).tn c;have a:=(E 7 zz).tn a;have e:=(E 8 zz).tn e;have d:=(E 9 zz).tn d;have s:=(E 15 zz).tn s;have v:=(E 16 zz).tn v;refine WalkE.cond (t:=false) (ft q) ?_;rw[qYB ss];refine WalkE.skip (WalkE.seq (WalkE.seq (Z6 a λc7 pQ q=>?_)));have c:=(pQ 3 zz).tn c;have a:=(pQ 7 zz).tn a;have e:=(pQ 8 zz).tn e;have d:=(pQ 9 zz).tn d;have s:=(pQ 15 zz).tn s;have v:=(pQ 16 zz).tn v;refine WalkE.cond (ft q) ?_;by_cases P:0<=at_
  .rw[decide_eq_true P,cd rfl];refine ZJ (x:=at_.toNat) (y:=i_.toNat) m hi hc h4 zz zz c (a.tn (by congr 1;omega)) (e.tn (by congr 1;omega)) λc8 w9 V9 O9 b4 U6 s v=>?_;have j:=j.tn b4;rw[a9 P]at s;exact WalkE.seq (Ux v ((U6 7 zz).tn a) s ((U6 9 zz).tn d) (λ_=>rfl) λS q=>WalkE.stop λc6 o=>⟨_,rfl,(m.bH b4).co.rely o,j.vv,(j.step o).rely,JF S q (.inr ⟨rfl,rfl,rfl,rfl⟩)⟩)
  .rw[decide_eq_false P,qYB ss];exact WalkE.skip (WalkE.seq (Ux v a s d (λh=>dE h P) λS q=>WalkE.stop λc6 o=>⟨_,rfl,m.co.rely o,j.vv,(j.step o).rely,JF S q (.inr ⟨rfl,rfl,rfl,rfl⟩)⟩))
open Go.ChangeShapes Go.WideShapes Go.ChangeAt Go.Deep
section
variable{W:Cl}{t:Nat}
abbrev V0(W:Cl):Nat->Prop:=(Go.Co.start W).V 0
def tA{b:Nat}:V0 W b↔b<W.heap.size:=⟨λh=>h.2,λh=>⟨rfl,h⟩⟩
def mq{base t e:Nat}{v:M}(g:F.underlying t=Y (.slice e))(h:Cell.okWide F W .any base t v):∃s:Sl,v=.slice s.A s.n s.c/\Nk (V0 W) W s/\(s.A=I->s.n=0)/\s.n<=s.c:=by
 unfold Cell.okWide at h;rw[g]at h;unfold Cell.ok at h;rw[g]at h
 cases v with
 | slice A n c=>
  cases A with
  | none=>
   cases n with
   | zero=>
    cases c with
    | zero=>exact⟨⟨I,0,0⟩,rfl,(λa f=>(by cases f)),λ_=>rfl,qT _⟩
    | succ c=>simp at h
   | succ n=>simp at h
  | some a=>
   simp only at h;obtain⟨j, -, k⟩:=h;obtain⟨-, l,row,cells,b,-⟩:=k;refine⟨⟨Y a,n,c⟩,rfl,λi f=>?_,λe=>(by cases e),j⟩;obtain rfl:a=i:=fp f;unfold Cl.shape? at b
   cases d:W.heap[a.block]? with
   | none=>rw[d]at b;cases b
   | some o=>
    rw[d]at b
    cases o with
    | cells c e z=>exact⟨l,tA.2 (kq.1 d).1,⟨c,e,z,d⟩,λh=>dE h (fi 0)⟩
    | _=>cases b
 | _=>simp at h
def Fh:Option M->Int
 | some (.int _ n)=>n
 | _=>0
def VW:Option M->Bool
 | some (.bool b)=>b
 | _=>false
def vl{s:Sl}{m:Nat}(i:Nk (V0 W) W s)(hc:∀a,s.A=Y a->∀j,j<m->∃v,W (a.block,a.off+j)=Y v/\jU v):jb (V0 W) W s m:=λa f=>by
 obtain⟨g,h2,⟨c,e,z,d⟩,-⟩:=i a f;refine⟨g,h2,c,e,z,d,λj k=>?_⟩;obtain⟨v,b,h⟩:=hc a f j k;unfold Cl.cell? at b;dsimp only at b;rw[d]at b;exact⟨v,b,h⟩
section
variable{H:Type}{enc:Lk×M->H}{W:Cl}{s:Sl}{fuel:Nat}{x:DataW H×List MemPlace}
abbrev TD(enc:Lk×M->H)(W:Cl)(fuel:Nat)(t:Lk)(cs:List M):Option (DataW H×List MemPlace):=DataW.trod enc F W 0 (λ_=>true) true fuel t cs
def xe{a:Addr}(h:a.spot=I)(i:Nat):a.add i=⟨a.block,a.off+i,I⟩:=by
 obtain⟨b,o,c⟩:=a;simp only at h;subst h;simp[Addr.add]
def Ka(g:Nk (V0 W) W s)(E:s.n<=s.c)(a4:s.n<=20)(h:TD enc W fuel 24 [.slice s.A s.n s.c]=Y x):∃l,aN W s l/\jb (V0 W) W s l.length:=by
 have æ:=0;exact pD
def Fi(hp:∀{fuel x},TD enc W fuel t [.slice s.A s.n s.c]=Y x->([M.slice s.A s.n s.c]=[.slice I 0 0])\/∃(a:Addr) (J r n:Nat) (K L:Nat->M) (S T:Nat->DataW H) (U V:Nat->List MemPlace),[M.slice s.A s.n s.c]=[.slice (Y a) J r]/\J<=r/\
   ∀i,i<r->W.cell? (a.add (i*2))=Y (K i)/\W.cell? (a.add (i*2+1))=Y (L i)/\TD enc W n 3 [K i]=Y (S i,U i)/\TD enc W n 3 [L i]=Y (T i,V i))
  (g:Nk (V0 W) W s)(E:s.n<=s.c)(a4:s.n<=20)(h:TD enc W fuel t [.slice s.A s.n s.c]=Y x):∃l,bp W s l/\jb (V0 W) W s (l.length*2):=by
 have ø:=0;exact pD
def Iy(k:Nk (V0 W) W s)(p:s.n<=s.c)(q:s.n<=20)(h:TD enc W fuel 27 [.slice s.A s.n s.c]=Y x):∃l,bp W s l/\jb (V0 W) W s (l.length*2):=
 Fi (t:=27) (λh=>by
  rcases open_slice_pairs Tryz.underlying27 Tryz.underlying121 kr rfl rfl kr kr h with⟨b,-⟩|⟨a,u,v,m,n,i,j,d,e,f,g,b, -, o, -, c, -, r⟩
  .exact .inl b
  .simp only[if_true]at c;subst c;exact .inr ⟨a,u,_,n,i,j,d,e,f,g,b,o,r⟩) k p q h
def Iz(k:Nk (V0 W) W s)(p:s.n<=s.c)(q:s.n<=20)(h:TD enc W fuel 28 [.slice s.A s.n s.c]=Y x):∃l,bp W s l/\jb (V0 W) W s (l.length*2):=
 Fi (t:=28) (λh=>by
  rcases open_slice_pairs Tryz.underlying28 Tryz.underlying131 kr rfl rfl kr kr h with⟨b,-⟩|⟨a,u,v,m,n,i,j,d,e,f,g,b, -, o, -, c, -, r⟩
  .exact .inl b
  .simp only[if_true]at c;subst c;exact .inr ⟨a,u,_,n,i,j,d,e,f,g,b,o,r⟩) k p q h
def Uz(g:Nk (V0 W) W s)(E:s.n<=s.c)(a4:s.n<=20)(h:TD enc W fuel 29 [.slice s.A s.n s.c]=Y x):∃l,fL W s l/\jb (V0 W) W s (l.length*3):=by
 have å:=0;exact pD
end
end
def UB:F.cellTypes F.depth 31=Y [3,3,3,3,3,24,3,3,3,3,27,28,29]:=xbI
def Ys:F.cellsOf 31=13:=xbI
def Kb:F.cellsOf 3=1:=xbI
def Yu:F.cellsOf 23=2:=xbI
def Yv:F.cellsOf 26=2:=xbI
def Rr:F.cellsOf 24=1:=xbI
def Yw:F.cellsOf 27=1:=xbI
def Yx:F.cellsOf 28=1:=xbI
def Yy:F.cellsOf 29=1:=xbI
section
variable{H:Type}{enc:Lk×M->H}{W:Cl}{base:Nat}{v:M}{d:DataW H}{p:List MemPlace}
def zv{t fuel:Nat}{f0 f1:Field}{c0 c1:M}{x:DataW H×List MemPlace}(g:F.underlying t=Y (.struct #[f0,f1]))(i:f0.offset=0)(j:f1.offset=1)(k:f0.type=3)(l:f1.type=3)(h:TD enc W fuel t [c0,c1]=Y x):∃a b:Int,c0=.int .i64 a/\c1=.int .i64 b:=by
 obtain⟨m,o,n, -, -, c,d⟩:=trod_struct2 g h;rw[i,k,Kb]at c;rw[j,l,Kb]at d;obtain⟨a,e, -,-⟩:=DataW.trod_int Tryz.underlying3 c;obtain⟨b,f, -,-⟩:=DataW.trod_int Tryz.underlying3 d;simp at e f;exact⟨a,b,e,f⟩
def M4(J:M.okWide F W .any base 31 v)(a':DataW.Trod enc F W 0 (λ_=>true) true 31 v d p):∃b:aC,v=b.v/\Um (V0 W) W b/\(mX b=false->∃l,aI W b l/\jb (V0 W) W b.C l.C.length/\jb (V0 W) W b.U (l.U.length*2)/\jb (V0 W) W b.E (l.E.length*2)/\jb (V0 W) W b.W (l.W.length*3)):=by
 unfold M.okWide at J;rw[Tryz.underlying31]at J;obtain⟨⟨cs⟩,rfl,a7,b6,a8, -, m⟩:=J;rw[Ys]at a7;rw[UB]at a8;cases a8
 match cs,a7 with
 | [c0,a,c2,c3,c4,P,c,e,f,g,K,N,O],_=>
  obtain⟨fuel,h⟩:=a';replace h:TD enc W fuel 31 [c0,a,c2,c3,c4,P,c,e,f,g,K,N,O]=Y (d,p):=h;obtain⟨xs,n, -, -, -, a9,j⟩:=DataW.trod_struct Tryz.underlying31 h;have get:∀i,i<10->∃y,xs[i]?=Y y:=λi hi=>⟨_,du (by rw[a9];exact hi)⟩;obtain⟨u,k,hc⟩:=m 5 P rfl;cases k;obtain⟨C,rfl,a3, -, lC⟩:=mq Tryz.underlying24 hc;obtain⟨u,k,hc⟩:=m 10 K rfl;cases k;obtain⟨U,rfl,a5, -, a0⟩:=mq Tryz.underlying27 hc;obtain⟨u,k,hc⟩:=m 11 N rfl;cases k;obtain⟨E,rfl,a4, -, lE⟩:=mq Tryz.underlying28 hc;obtain⟨u,k,hc⟩:=m 12 O rfl;cases k;obtain⟨X,rfl,a6, -, b3⟩:=mq Tryz.underlying29 hc;clear m hc;have o:TD enc W n 3 ((List.drop 0 [c0,a,c2,c3,c4,.slice C.A C.n C.c,c,e,f,g,.slice U.A U.n U.c,.slice E.A E.n E.c,.slice X.A X.n X.c]).take (F.cellsOf 3))=xs[0]?:=j 0 _ rfl;have q:TD enc W n 3 ((List.drop 1 [c0,a,c2,c3,c4,.slice C.A C.n C.c,c,e,f,g,.slice U.A U.n U.c,.slice E.A E.n E.c,.slice X.A X.n X.c]).take (F.cellsOf 3))=xs[1]?:=j 1 _ rfl;have r:TD enc W n 3 ((List.drop 2 [c0,a,c2,c3,c4,.slice C.A C.n C.c,c,e,f,g,.slice U.A U.n U.c,.slice E.A E.n E.c,.slice X.A X.n X.c]).take (F.cellsOf 3))=xs[2]?:=j 2 _ rfl;have s:TD enc W n 23 ((List.drop 3 [c0,a,c2,c3,c4,.slice C.A C.n C.c,c,e,f,g,.slice U.A U.n U.c,.slice E.A E.n E.c,.slice X.A X.n X.c]).take (F.cellsOf 23))=xs[3]?:=j 3 _ rfl;have t:TD enc W n 24 ((List.drop 5 [c0,a,c2,c3,c4,.slice C.A C.n C.c,c,e,f,g,.slice U.A U.n U.c,.slice E.A E.n E.c,.slice X.A X.n X.c]).take (F.cellsOf 24))=xs[4]?:=j 4 _ rfl;have w:TD enc W n 26 ((List.drop 6 [c0,a,c2,c3,c4,.slice C.A C.n C.c,c,e,f,g,.slice U.A U.n U.c,.slice E.A E.n E.c,.slice X.A X.n X.c]).take (F.cellsOf 26))=xs[5]?:=j 5 _ rfl;have x:TD enc W n 26 ((List.drop 8 [c0,a,c2,c3,c4,.slice C.A C.n C.c,c,e,f,g,.slice U.A U.n U.c,.slice E.A E.n E.c,.slice X.A X.n X.c]).take (F.cellsOf 26))=xs[6]?:=j 6 _ rfl;have z:TD enc W n 27 ((List.drop 10 [c0,a,c2,c3,c4,.slice C.A C.n C.c,c,e,f,g,.slice U.A U.n U.c,.slice E.A E.n E.c,.slice X.A X.n X.c]).take (F.cellsOf 27))=xs[7]?:=j 7 _ rfl;have A:TD enc W n 28 ((List.drop 11 [c0,a,c2,c3,c4,.slice C.A C.n C.c,c,e,f,g,.slice U.A U.n U.c,.slice E.A E.n E.c,.slice X.A X.n X.c]).take (F.cellsOf 28))=xs[8]?:=j 8 _ rfl;have B:TD enc W n 29 ((List.drop 12 [c0,a,c2,c3,c4,.slice C.A C.n C.c,c,e,f,g,.slice U.A U.n U.c,.slice E.A E.n E.c,.slice X.A X.n X.c]).take (F.cellsOf 29))=xs[9]?:=j 9 _ rfl;clear j;simp only[Kb,Yu,Rr,Yv,Yw,Yx,Yy,List.drop_zero,List.drop_succ_cons,List.take_succ_cons,List.take_zero]at o q r s t w x z A B;obtain⟨y0,e0⟩:=get 0 zz;obtain⟨y1,e1⟩:=get 1 zz;obtain⟨y2,Q⟩:=get 2 zz;obtain⟨y3,R⟩:=get 3 zz;obtain⟨y4,T⟩:=get 4 zz;obtain⟨y5,V⟩:=get 5 zz;obtain⟨y6,Z⟩:=get 6 zz;obtain⟨y7,e7⟩:=get 7 zz;obtain⟨y8,e8⟩:=get 8 zz;obtain⟨y9,e9⟩:=get 9 zz;rw[e0]at o;rw[e1]at q;rw[Q]at r;rw[R]at s;rw[T]at t;rw[V]at w;rw[Z]at x;rw[e7]at z;rw[e8]at A;rw[e9]at B;clear get e0 e1 Q R T V Z e7 e8 e9 a9;obtain⟨S,q0, -,-⟩:=DataW.trod_int Tryz.underlying3 o;obtain⟨D,q1, -,-⟩:=DataW.trod_int Tryz.underlying3 q;obtain⟨L,q2, -,-⟩:=DataW.trod_int Tryz.underlying3 r;obtain⟨lo,hi,q3,q4⟩:=zv Tryz.underlying23 rfl rfl rfl rfl s;obtain⟨rf,rh,q6,q7⟩:=zv Tryz.underlying26 rfl rfl rfl rfl w;obtain⟨cf,ch,q8,q9⟩:=zv Tryz.underlying26 rfl rfl rfl rfl x;simp only[ml,and_true]at q0 q1 q2;subst q0 q1 q2 q3 q4 q6 q7 q8 q9;refine⟨⟨S,D,L,lo,hi,C,rf,rh,cf,ch,U,E,X⟩,rfl,⟨a3,a5,a4,a6⟩,λG=>?_⟩;unfold mX at G;simp only[Bool.or_eq_false_iff,decide_eq_false_iff_not]at G;obtain⟨⟨⟨n1,n2⟩,n3⟩,n4⟩:=G;obtain⟨b4,a1,a2⟩:=Ka a3 lC zz t;obtain⟨b5,b1,b2⟩:=Iy a5 a0 zz z;obtain⟨le,d1,d2⟩:=Iz a4 lE zz A;obtain⟨lx,f1,f2⟩:=Uz a6 b3 zz B;exact⟨⟨b4,b5,le,lx⟩,⟨a1,b1,d1,f1⟩,a2,b2,d2,f2⟩
end
abbrev zy:List (String×DataW Unit):=[("velarium/sail.checks", Rows.laid_velarium_sail_checks)]
def UD:F.globalNamed "velarium/sail.checks" = Y 0:=xbI
def UE:(F.globals[0]?).map (·.type)=Y 166:=xbI
def Yz:F.cellsOf 165=1:=xbI
def YA:F.cellsOf 166=5:=xbI
def UF{W:Cl}(h:laidMetH F zy W):aD W:=by
 obtain⟨g,t,cs,fuel,p,o,y,c,w⟩:=h.funcs (qBB.2 rfl);obtain rfl:=fp (UD.symm.tn o);obtain rfl:=fp (UE.symm.tn y);obtain⟨xs,m, -, z,q,x,a⟩:=DataW.trod_array Tryz.underlying166 w;rw[YA]at q;obtain⟨l⟩:=cs
 match l,q,a,c with
 | [c0,Q,c2,c3,c4],_,a,c=>
  have b:xs.map (·.1)=[.held [40,118,101,108,97,114,105,117,109,47,115,97,105,108,46,104,97,108,108,41,46,103,108,97,115,115],.held [40,118,101,108,97,114,105,117,109,47,115,97,105,108,46,104,97,108,108,41,46,99,108,111,116,104,115],.held [40,118,101,108,97,114,105,117,109,47,115,97,105,108,46,104,97,108,108,41,46,115,117,110,115],.held [40,118,101,108,97,114,105,117,109,47,115,97,105,108,46,104,97,108,108,41,46,101,121,101,115],.held [40,118,101,108,97,114,105,117,109,47,115,97,105,108,46,104,97,108,108,41,46,119,97,116,99,104,101,115]]:=by
   have:=db Prod.fst z;injection this with h
   exact h.symm
  match xs,x,b,a with
  | [A,B,y2,C,y4],_,b,a=>
   simp only[zM,ml,and_true]at b;obtain⟨r,n1,s,u,v⟩:=b;have d:=a 0 zz;have e:=a 1 zz;have f:=a 2 zz;have j:=a 3 zz;have k:=a 4 zz;simp only[Yz,Nat.mul_one,List.drop_zero,List.drop_succ_cons,List.take_succ_cons,List.take_zero,zQ]at d e f j k;obtain⟨a0,b0⟩:=A;obtain⟨E,L⟩:=B;obtain⟨G,N⟩:=y2;obtain⟨J,O⟩:=C;obtain⟨K,P⟩:=y4;simp only at r n1 s u v;subst r n1 s u v;obtain rfl:=func_of_trod (f0:=167) Tryz.underlying165 kr d;obtain rfl:=func_of_trod (f0:=168) Tryz.underlying165 kr e;obtain rfl:=func_of_trod (f0:=169) Tryz.underlying165 kr f;obtain rfl:=func_of_trod (f0:=170) Tryz.underlying165 kr j;obtain rfl:=func_of_trod (f0:=171) Tryz.underlying165 kr k;have hc:=λi=>Cl.var?_cell o c i;have n:W (0,0)=_:=hc 0;exact⟨wY n,n,hc 1,hc 2,hc 3,hc 4⟩
def UG(g:Nat)(h:TA.glob g=true):g=0:=Sd .skip g h
def UH{W:H}(h:aD W):Main (Go.Co.start W) W:=by
 have k:V0 W 0:=tA.2 h.1;obtain⟨c,e,z,hc⟩:∃c e z,W.heap[0]?=Y (.cells c e z):=by
  have b:=h.2.1;unfold H.cell? at b;dsimp only at b
  cases l:W.heap[0]? with
  | none=>rw[l]at b;simp at b
  | some o=>
   rw[l]at b
   cases o with
   | cells c e z=>exact⟨c,e,z,rfl⟩
   | _=>simp at b
 have g:∀(i:Nat) v,W (0,i)=Y v->c[i]?=Y v:=λi v a=>by
  unfold H.cell? at a;dsimp only at a;rw[hc]at a;exact a
 obtain⟨-, c0,n,p,q,r⟩:=id h;have y:=g _ _ c0;have A:=g _ _ n;have B:=g _ _ p;have C:=g _ _ q;have m:=g _ _ r;have d:∀{j f:Nat} {v:M},c[j]?=Y (.func (.func f) #[] #[])->c[j]?=Y v->TA.has f=true->TA.ret f=.val->Flat TA (V0 W) W v:=λb h2 s t=>by
  cases b.symm.tn h2;exact .inr (.inr (.inr ⟨_,rfl,s,t⟩))
 refine⟨⟨rfl,rfl,rfl,λx=>jx,λx w=>tA.1 w⟩,⟨h,k,c,e,z,hc,?_,λj v u a=>?_⟩,e,k,⟨c,z,hc⟩,UG⟩
 .have:=(kq.1 m).1;omega
 .match j,u,a with
  | 0,_,a=>exact d y a rfl rfl
  | 1,_,a=>exact d A a rfl rfl
  | 2,_,a=>exact d B a rfl rfl
  | 3,_,a=>exact d C a rfl rfl
  | 4,_,a=>exact d m a rfl rfl
def aaP:ownKnob F.godebug=I:=xbI
def laidOut:laidOutB F=true:=xbI
def Rt(os:Os)(args:Array M):laidMetH F zy ((H.doorLaid F 100 os).forCall (λ_ _=>0) ⟨#[],args,[]⟩).memory:=
 laidMetH_of_parts3 (fuel:=8) (laidMet_of_run' 8 kr kr) kr kr
abbrev YB:aC:=⟨0,0,0,0,0,⟨I,0,0⟩,0,0,0,0,⟨I,0,0⟩,⟨I,0,0⟩,⟨I,0,0⟩⟩
def Ru{W w:H}(h:aH (V0 W) W w):X W W w:=⟨h.os,h.tape,h.output,h.size,λk hk=>h.keep k (tA.2 hk)⟩
variable{W:H}
def Nj{post:M->H->Prop}{b:aC}{hour stq:Int}(a:0<=hour/\hour<=255)(h2:0<=stq/\stq<=255)(c:aD W)(e:Um (V0 W) W b)
  (f:mX b=false->∃l,qS (V0 W) W b l)(d:∀w',aH (V0 W) W w'->post (.bool true) w'):
  ∃n last o w' t',runNT F (n+1) (solo (G (Kf.enter F 4 (qQ b hour stq) .normal) []) W) #[]=(.ended o w',t')/\runN F n (solo (G (Kf.enter F 4 (qQ b hour stq) .normal) []) W)=.next last/\step F last=.ended o w'/\Go.Conc.Good F post last o w' t':=
 LX (Q:=fI) ua (J:=Go.Co.start W) rfl (L0 W) rfl rfl (Tp a h2 (UH c) e f d)
def aaj(os:Os)(H:Type)(enc:Lk×M->H):∃(w:Cl) (tape:Tape) (i:Input),w.os=os/\(w.forCall tape i).Shaped F/\i.vars=[]/\Input.okWide F (w.forCall tape i) .any w 4 i/\
   ((Rows.sailAskedSpec.pre enc F Tryz.f4 [] false (w.forCall tape i).memory i.args/\laidMetH F zy (w.forCall tape i).memory)/\sizedMet enc F Tryz.f4 (OpenSpec.ofChange Rows.sailAskedSpec) false (w.forCall tape i).memory i.args)/\({}:Assume).holds F (lone (Kf.enter F 4 i.args .normal) [] (w.forCall tape i)):=
 ChangeSpec.witness_shaped (enc:=enc) (C:=Tryz.checked) (os:=os) (X:=λw _=>laidMetH F zy w) false (Cl.doorLaid F 100 os) (qQ YB 0 0) 8 rfl (Cl.shaped_of_RefB kr kr) kr kr kr (Rt os _)
def VC{H:Type}{enc:Lk×M->H}{base:Nat}{args:Array M}{ds gs:List (DataW H)}{before:List MemPlace}
  (a:∀(j:Nat) t v,Tryz.f4.params[j]?=Y t->args[j]?=Y v->M.okWide F W .any base t v)
  (f:DataW.Whole enc F Tryz.f4.params.toList Rows.sailAskedSpec.vars false W args.toList ds gs before)(E:laidMetH F zy W):
  ∃n last o w' t',runNT F (n+1) (solo (G (Kf.enter F 4 args .normal) []) W) #[]=(.ended o w',t')/\runN F n (solo (G (Kf.enter F 4 args .normal) []) W)=.next last/\step F last=.ended o w'/\
   Go.Conc.Good F (λv w=>Rows.sailAskedSpec.post enc F Tryz.f4 false true false false W args v w) last o w' t':=by
 have g:=f;obtain⟨p,q,e,J,rfl, -,-⟩:=f;have d:DataW.TrodAll enc F W 0 (λ_=>true) true Tryz.f4.params.toList args.toList ds p:=e;rw[Tryz.params4]at d a;obtain⟨k,a4,Z,a1,V,q0,K,rfl,rfl,c,R⟩:=trodAll_cons d;obtain⟨m,a5,d1,a2,p1,q1,rfl,rfl,rfl,C,S⟩:=trodAll_cons R;obtain⟨r,a6,d2,a3,p2,q2,rfl,rfl,rfl,h2,T⟩:=trodAll_cons S;obtain⟨rfl,rfl,rfl⟩:=trodAll_nil T;obtain rfl:args= #[k,m,r]:=by
  obtain⟨l⟩:=args;exact db Array.mk K
 obtain⟨rfl,rfl⟩:=trodVars_none J;obtain⟨b,rfl,N,L⟩:=M4 (a 0 31 k rfl rfl) c;have i:∀{n},(Lit.int .u8 n).wf=true->0<=n/\n<=255:=λh=>by simp only[Lit.wf,il,decide_eq_true_eq]at h;exact h
 obtain⟨n1,rfl,rfl,rfl,s⟩:=open_int Tryz.underlying5 (a 1 5 m rfl rfl) C;obtain⟨n2,rfl,rfl,rfl,u⟩:=open_int Tryz.underlying5 (a 2 5 r rfl rfl) h2;clear e;have P:∀x∈V,x.block<W.heap.size:=λx U=>g.lt x (by simp[U]);refine Nj (i s) (i u) (UF E) N (λO=>?_) (λw' Q=>?_)
 .obtain⟨l,e1,y,z,A,B⟩:=L O;exact⟨l,e1,B9 _,y,z,A,B,Gx _ _ _⟩
 .have hB:=Ru Q;have a0:=X.trod laidOut kr (of_decide_eq_true kr) c hB P;refine⟨_,_,_,[],_,[],g,trodAll_mk1 (shut_bool Tryz.underlying4 _),trodAll_cons_mk a0 (trodAll_mk2 (shut_int Tryz.underlying5 s) (shut_int Tryz.underlying5 u)),rfl,hB.frame _,λh=>by cases h⟩
def Tq(os:Os)(n:os.Started)(H:Type)(enc:Lk×M->H):
  ReturnsInLeavingWide {} Tryz.checked os 4 .any (λw args=>(Rows.sailAskedSpec.pre enc F Tryz.f4 [] false w args/\laidMetH F zy w)/\sizedMet enc F Tryz.f4 (OpenSpec.ofChange Rows.sailAskedSpec) false w args)
   (Rows.sailAskedSpec.post enc F Tryz.f4 false true false false):=by
 refine returnsInLeavingWide_of_good (C:=Tryz.checked) aaP n (aaj os H enc) ?_;intro w tape i _ _ _ hok hpre _;obtain⟨_,_,_,b,h,_,_,_,_,k⟩:=hok;obtain rfl:b=Tryz.f4:=fp (h.symm.tn Tryz.func4);obtain⟨⟨⟨ds,gs,p,l,hc⟩,f⟩,q⟩:=hpre;have m:=DataW.Whole.of_heap (w':=w.forCall tape i) (by rfl) l;have g:laidMetH F zy (w.forCall tape i):=laidMetH.of_heap (by rfl) f;obtain⟨a,last,o,w',t',c,h2,d,e⟩:=VC k m g;exact⟨a,last,o,w',t',c,h2,d,e.mono λv j=>ChangeSpec.post_blind j⟩
open Go
def sailAsked_holds:Rows.SailAskedSaid:=
 OpenClaim.holds_of_wide_leaving 4 Tryz.f4 rfl rfl rfl rfl rfl rfl rfl ⟨rfl,rfl,rfl,rfl,rfl⟩ rfl rfl rfl rfl rfl kr Tryz.func4 kr
  (of_decide_eq_true kr) (by unfold Func.isWrapper;first|(rw[cd (by decide +kernel)];kernel_rfl)|(rw[qYB (by decide +kernel)];exact⟨rfl,rfl⟩))
  (λos a H enc _=>Tq os a H enc)
def sailAsked_card:Rows.SailAskedCardSaid:=by
 have g:∀f fn,Tryz.pinned.checked.prog.funcNamed Rows.sailAskedRow.func=Y f->Tryz.pinned.checked.prog.funcs[f]?=Y fn->false=Tryz.pinned.checked.prog.looks []/\∀(j:Nat) t,fn.params[j]?=Y t->Tryz.pinned.checked.prog.wantsStandIn t=false:=λf fn c d=>by
  obtain rfl:f=4:=fp ((show F.funcNamed "velarium/velariumlaw05.SailAsked" = Y 4 by kernel_rfl).symm.tn c) |>.symm;obtain rfl:fn=Tryz.f4:=(fp (Tryz.func4.symm.tn d)).symm;exact⟨by kernel_rfl,λj t a=>by
   rw[Tryz.params4]at a;have b:t=31\/t=5:=by
    rcases j with _|_|_|j
    .exact .inl (by simpa using a.symm)
    .exact .inr (by simpa using a.symm)
    .exact .inr (by simpa using a.symm)
    .simp at a
   rcases b with rfl|rfl
   .exact(show F.wantsStandIn 31=false by kernel_rfl)
   .exact(show F.wantsStandIn 5=false by kernel_rfl)⟩
 have k:Rows.sailAskedRow.wfByText (OpenSpec.ofChange Rows.sailAskedSpec)=true:=by kernel_rfl
 have e:true=Rows.sailAskedRow.goesBy Tryz.pinned.checked.prog:=by kernel_rfl
 have i:Tryz.pinned.checked.prog.mainIs=Y (true, "3ff0944f7da7ba7ef9bf0f267ed12bdd8624e4eee9a1bab3e5ab6a0f8481219f".toList):=by kernel_rfl
 exact⟨Claim7.tied_new_at .later [.funcs] true (Claim7.new_of_sixth sailAsked_holds (true, "3ff0944f7da7ba7ef9bf0f267ed12bdd8624e4eee9a1bab3e5ab6a0f8481219f") false rfl ⟨rfl,rfl⟩ i rfl g) k,(λ_ h=>by cases h),sailAsked_row_tie,(λh=>by cases h),e⟩
end Go.Proofs.YtfhdnnmilenklaaGreatDoor
