/- SailHides holds of the given program, for every book and every eye, with no further condition. -/
import Derived.Test.YtfcgpihkimpkcaaGreatDoorZv
import Derived.Test.YtfcgpihkimpkcaaGreatDoorRows
import Derived.ProofKit
import Derived.LaidMore
import Derived.Conc.LeavingOf
import Derived.Deep.SlicePairs
import Derived.Deep.Slices
import Derived.Deep.Strs
import Derived.OpenShut
import Derived.Conc.Holds
import Derived.Stop.Joined
import Derived.Test.YtfcgpihkimpkcaaGreatDoorTie
import Derived.Test.YtfcgpihkimpkcaaGreatDoorCards
import Derived.SevenTiedAt
set_option maxRecDepth 100000
set_option maxHeartbeats 4000000
set_option linter.all false
noncomputable section
open Go renaming World->Cl,undef->D,World->H,undef->Hc,execOp->Hn,Frame->Kf,Oper->Kp,TypeId->Lk,stepG->Lq,Code->Ly,Value->M,Calls->PH,Goroutine->QP,heap_alloc_new->Sp,resolve->ab,Operand->ae,MemOp->al,yielded->aw,FuncId->ba,bodyPost_ret->bd
open Go.Proofs.Tryz renaming prog->F,prog->Hb
open Option renaming none->I,some->Y
open Go.RowKit renaming Below->X
namespace Go
def pD{p:Prop}(h:p:=by
 first|have _:=ø;(rcases hp h with c|⟨a,J,r,n,K,L,S,T,U,V,c,a4,G⟩)|have _:=å;(rcases open_slice Tryz.underlying29 h with⟨c,-⟩|⟨a,J,r,m,n,D,a6,c, -, a4, -, Q, -, G⟩)|(rcases open_slice1 Tryz.underlying24 kr h with⟨c,-⟩|⟨a,J,r,m,n,b2,D,a6,c, -, a4, -, Q, -, G⟩)
 .simp only[ll,lA,and_true]at c;exact⟨[],⟨c.2.1,fi _,fi _,λh=>dC h (kq 0)⟩,vl g λa u=>by rw[c.1]at u;cases u⟩
 .simp only[ll,lA,and_true]at c;obtain⟨O,rfl,rfl⟩:=c;obtain⟨w,P, -,-⟩:=g a O
  first
  |have _:=ø
   have f:∀i,i<s.n->∃z d:Int,W (a.block,a.off+i*2)=Y (.int .i64 z)/\W (a.block,a.off+i*2+1)=Y (.int .i64 d):=λi hi=>by
    obtain⟨h2,a2,y,a7⟩:=G i zz;obtain⟨z,A, -,-⟩:=DataW.trod_int Tryz.underlying3 y;obtain⟨d,a3, -,-⟩:=DataW.trod_int Tryz.underlying3 a7;simp only[ll,and_true]at A a3;rw[xe w,A]at h2;rw[xe w,a3]at a2;exact⟨z,d,h2,a2⟩
   refine⟨(List.range s.n).map λi=>(Fh (W.cell? ⟨a.block,a.off+i*2,I⟩),Fh (W.cell? ⟨a.block,a.off+i*2+1,I⟩)),⟨by simp,by simpa using E,by simp;omega,λ_=>⟨a.block,a.off,?_,tA.1 P,λk hk=>?_⟩⟩,vl g λN u j C=>?_⟩
  |have _:=æ
   simp only[if_true]at Q;have f:∀i,i<s.n->∃z:Int,W (a.block,a.off+i)=Y (.int .i64 z):=λi hi=>by
    obtain⟨h2,y⟩:=G i zz;obtain⟨z,A, -,-⟩:=DataW.trod_int Tryz.underlying3 y;simp only[ll,and_true]at A;rw[xe w,A]at h2;exact⟨z,h2⟩
   refine⟨(List.range s.n).map λi=>Fh (W.cell? ⟨a.block,a.off+i,I⟩),⟨by simp,by simpa using E,by simp;omega,λ_=>⟨a.block,a.off,?_,tA.1 P,λk hk=>?_⟩⟩,vl g λN u j C=>?_⟩
  |simp only[if_true]at Q
   have a':F.cellsOf 80=3:=by kernel_rfl
   have a8:F.cellsOf 3=1:=by kernel_rfl
   have a9:F.cellsOf 4=1:=by kernel_rfl
   have f:∀i,i<s.n->∃(z d:Int) (q:Bool),W (a.block,a.off+i*3)=Y (.int .i64 z)/\W (a.block,a.off+i*3+1)=Y (.int .i64 d)/\W (a.block,a.off+i*3+2)=Y (.bool q):=λi hi=>by
    obtain⟨dp,h2,y⟩:=G i zz;rw[a']at h2;obtain⟨-, b1,B⟩:=Cl.cells?_some h2;obtain⟨y0,y1,y2,k, -, -, Z,g1,a1⟩:=trod_struct3 Tryz.underlying80 y
    match dp,b1,B with
    | [c0,c1,c2],_,B=>
     simp only[a8,a9,List.drop_zero,List.drop_succ_cons,List.take_succ_cons,List.take_zero]at Z g1 a1;obtain⟨z0,q0, -,-⟩:=DataW.trod_int Tryz.underlying3 Z;obtain⟨z1,q1, -,-⟩:=DataW.trod_int Tryz.underlying3 g1;obtain⟨z2,q2,-⟩:=DataW.trod_bool Tryz.underlying4 a1;simp only[ll,and_true]at q0 q1 q2;subst q0 q1 q2;have k0:=B 0 zz;have k1:=B 1 zz;have k2:=B 2 zz;rw[xe w]at k0 k1 k2;exact⟨z0,z1,z2,k0,k1,k2⟩
   refine⟨(List.range s.n).map λi=>(Fh (W.cell? ⟨a.block,a.off+i*3,I⟩),Fh (W.cell? ⟨a.block,a.off+i*3+1,I⟩),VW (W.cell? ⟨a.block,a.off+i*3+2,I⟩)),⟨by simp,by simpa using E,by simp;omega,λ_=>⟨a.block,a.off,?_,tA.1 P,λk hk=>?_⟩⟩,vl g λN u j C=>?_⟩
  .rw[O];obtain⟨b3,b4,b5⟩:=a;simp only at w;rw[w]
  .have v:k<s.n:=by simpa using hk
   first|have _:=ø;obtain⟨z,d,b,o⟩:=f k v;simp[List.getD,v,b,o,Fh]|have _:=å;obtain⟨z,d,q,b,o,R⟩:=f k v;simp[List.getD,v,b,o,R,Fh,VW]|obtain⟨z,b⟩:=f k v;simp[List.getD,v,b,Fh]
  .obtain rfl:a=N:=jx (O.symm.tn u)
   first
   |have _:=æ
    obtain⟨z,b⟩:=f j (by simpa using C);exact⟨_,b,cR _ _⟩
   |have _:=ø
    have a0:j<s.n*2:=by simpa using C
    obtain⟨z,d,b,o⟩:=f (j/2) zz;rcases(show j=j/2*2\/j=j/2*2+1 from zz)with e|e
    .rw[e];exact⟨_,b,cR _ _⟩
    .rw[e];exact⟨_,o,cR _ _⟩
   |have a0:j<s.n*3:=by simpa using C
    obtain⟨z,d,q,b,o,R⟩:=f (j/3) zz;rcases(show j=j/3*3\/j=j/3*3+1\/j=j/3*3+2 from zz)with e|e|e
    .rw[e];exact⟨_,b,cR _ _⟩
    .rw[e];exact⟨_,o,cR _ _⟩
    .rw[e];exact⟨_,R,sN _⟩):p:=h
def xbJ{p:Prop}(h:p:=by
 have hk:(bs .normal 5).kind≠.early:=by simp[bs]
 first
 |have _:=ø
  refine WalkE.reg (l:=[0,1,2,3,4,5,6]) rfl ?_;refine WalkE.dV d.box d.gV rfl rfl (ft e2) rfl zz rfl hk ?_;refine cr.qL (fn:=20) (args:= #[(bX w.heap.size b).v]) (eQ:= #[b.v]) (v:=.tuple #[.int .i64 (ve b l).1,.int .i64 (ve b l).2]) d.co hin rfl rfl (mY (ft rfl)) rfl zz wnn hk (λ_=>⟨rfl,rfl⟩) rfl rfl (λe0 hB=>vg (by exact hin.RH)) (zg (aG _ _) (aG _ _)) (λe0 hB o=>(qT (bX w.heap.size b) l _ (hin.lone (e0:=e0) o w.drawn).1 (mh d.co.checks hB o w.drawn)).mono λe W q=>by rw[aak]at q;exact q.1) λs E C J n=>?_;refine wss ?_;exact WalkE.aT (next _ _ _ _ n (λi hi=>by simp at hi;exact nk) rfl rfl)
 |have _:=å
  refine WalkE.reg (l:=[0,1,2,3,4,5,6,7,8]) rfl ?_;refine WalkE.dV d.box d.gV rfl rfl (ft e2) rfl zz rfl hk ?_;refine cr.qQ (fn:=18) (args:= #[(bX w.heap.size b).v]) (eQ:= #[b.v]) (p:=AU b l) d.co hin rfl rfl (mY (ft rfl)) rfl zz wnn hk (λ_=>⟨rfl,rfl⟩) rfl rfl (λe0 hB=>vg (by exact hin.RH)) (λe0 hB o=>Ce (bX w.heap.size b) l _ (hin.lone (e0:=e0) o w.drawn).1 (mh d.co.checks hB o w.drawn)) λy s E C J n r=>?_;refine wss ?_;exact WalkE.aT (next _ _ _ _ n (λi hi=>by simp at hi;exact nk) _ r rfl rfl rfl)
 |have _:=æ
  refine WalkE.reg (l:=[0,1,2,3,4,5,6,7,8,9]) rfl ?_;refine WalkE.dV d.box d.gV rfl rfl (ft e2) rfl zz rfl hk ?_;refine wss ?_;refine cr.qL (fn:=16) (args:= #[(bX w.heap.size b).v,.int .i64 eye]) (eQ:= #[b.v,.int .i64 eye]) (v:=.tuple #[.bool (sv b l eye).1,.bool (sv b l eye).2.1,.int .i64 (sv b l eye).2.2]) d.co hin rfl rfl (oh (ft rfl) (ft rfl)) rfl zz wnn hk (λ_=>⟨rfl,rfl⟩) rfl rfl (λe0 hB=>P3 (by exact hin.RH) (by exact .int _ _)) (aas (dQ _) (dQ _) (aG _ _)) (λe0 hB o=>(Cb (bX w.heap.size b) l eye _ (hin.lone (e0:=e0) o w.drawn).1 (mh d.co.checks hB o w.drawn)).mono λe W q=>q.1) λs E C J n=>?_;refine wss ?_;exact WalkE.aT (next _ _ _ _ n (λi hi=>by simp at hi;exact nk) rfl rfl rfl)
 |have _:=ë
  refine WalkE.reg (l:=[0,1,2,3,4,5,6,7,8,9,10,11]) rfl ?_;refine wss ?_;refine cr.yS (y:=y) (L:=L) (m:=m) J t hL rfl rfl (oh (ft rfl) (ft rfl)) rfl zz (az rfl rfl zz rfl) hk λs E C z n=>?_;rw[h];refine wss ?_;cases p
  .refine WalkE.av (.bool q) rfl (.inl rfl) ekk rfl zz (az rfl rfl zz rfl) hk ?_;refine wss ?_;refine WalkE.TN false rfl rfl (ft (by rw[Bool.false_or];rfl)) (ft rfl) ss rfl zz (az rfl rfl zz rfl) hk ?_;refine wss ?_;exact WalkE.aT (next _ _ _ _ z n (λi hi=>nk) rfl)
  .refine WalkE.E8 rfl rfl zz (eC rfl rfl zz rfl) ?_;refine wss ?_;refine WalkE.TN false rfl rfl (ft rfl) (ft rfl) rfl rfl zz (az rfl rfl zz rfl) hk ?_;refine wss ?_;exact WalkE.aT (next _ _ _ _ z n (λi hi=>nk) rfl)
 |have _:=ï
  refine WalkE.reg (l:=[0,1,2,3,4,5,6,7,8,9,10,11,12,13]) rfl ?_;refine WalkE.dV d.box d.gV rfl rfl (ft e2) rfl zz rfl hk ?_;refine wss ?_;refine cr.qL (fn:=26) (args:= #[(bX w.heap.size b).v,.int .i64 (x)]) (eQ:= #[b.v,.int .i64 (x)]) (v:=.bool true) d.co hin rfl rfl (oh (ft rfl) (ft rfl)) rfl zz wnn hk (λ_=>⟨rfl,rfl⟩) rfl rfl (λe0 hB=>P3 (by exact hin.RH) (by exact .int _ _)) (dQ _) (λe0 hB o=>(E5 (bX w.heap.size b) l (x) _ (hin.lone (e0:=e0) o w.drawn).1 (mh d.co.checks hB o w.drawn) B.1).mono λe W q=>by rw[P5,B.2]at q;exact q.1) λs E C z n=>?_;have d:=d.bH n;have Q:=hin.bH n;refine wss ?_;refine WalkE.pK (decide (0<x)) rfl rfl rfl (ft rfl) rfl rfl rfl zz (az rfl rfl zz rfl) hk ?_;refine wss ?_;by_cases N:0<x
  .rw[decide_eq_true N];refine WalkE.Vx d.box d.gV rfl rfl ekk rfl zz (az rfl rfl zz rfl) hk ?_;refine wss ?_;refine WalkE.Yn (a:=x) (c:=1) rfl rfl (ft rfl) rfl (by unfold Sm;omega) rfl zz (az rfl rfl zz rfl) hk ?_;refine cr.qL (fn:=26) (args:= #[(bX s.heap.size b).v,.int .i64 (x-1)]) (eQ:= #[b.v,.int .i64 (x-1)]) (v:=.bool false) z Q rfl rfl (oh (ft rfl) (ft rfl)) rfl zz (az rfl rfl zz rfl) hk (λ_=>⟨rfl,rfl⟩) rfl rfl (λe0 hB=>P3 (by exact Q.RH) (by exact .int _ _)) (dQ _) (λe0 hB o=>(E5 (bX s.heap.size b) l (x-1) _ (Q.lone (e0:=e0) o s.drawn).1 (mh z.checks hB o s.drawn) (h1 N).1).mono λe W q=>by rw[P5,(h1 N).2]at q;exact q.1) λw2 S R P u=>?_;refine wss ?_;exact WalkE.aT (next _ _ _ _ P (n.tn u) (λi hi=>nk) rfl)
  .rw[decide_eq_false N];refine WalkE.E8 rfl rfl zz (eC rfl rfl zz rfl) ?_;refine WalkE.E8 rfl rfl zz (eC rfl rfl zz rfl) ?_;refine WalkE.E8 rfl rfl zz (eC rfl rfl zz rfl) ?_;refine WalkE.E8 rfl rfl zz (eC rfl rfl zz rfl) ?_;refine wss ?_;exact WalkE.aT (next _ _ _ _ z n (λi hi=>nk) rfl)
 |refine WalkE.reg (l:=[0,1,2,3,4,5,6,7,8,9,10,11,12,13,14,15,16,17,18,19,20,21,22,23,24,25,26,27,28,29,30,31,32,33,34,35,36,37,38,39,40,41,42,43,44,45,46,47,48,49,50,51,52,53,54]) rfl ?_
  refine wss ?_;refine WalkE.Ur rfl rfl rfl ekk rfl zz (az rfl rfl zz rfl) hk ?_;refine WalkE.Ur rfl rfl rfl (ft rfl) rfl zz (az rfl rfl zz rfl) hk ?_;refine WalkE.pJ ⟨g,0+6+0,I⟩ (.int .i64 b.rf) aa9 rfl rfl (ft rfl) d.gV (d.box 6 _ rfl) rfl zz (az rfl rfl zz rfl) hk ?_;refine cr.jZ (fn:=23) (args:= #[.int .i64 x,.int .i64 0,.int .i64 b.rf]) (v:=.bool true) d.co rfl rfl (Is (ft rfl) rfl (ft rfl)) rfl zz (az rfl rfl zz rfl) hk (λ_=>⟨rfl,rfl⟩) rfl rfl (λe0 hB=>QC (by exact .int _ _) (by exact .int _ _) (by exact .int _ _)) (dQ _) (λe0 o=>(bz x 0 b.rf _).mono λe W q=>by rw[hF]at q;exact q.1) λs E C z n=>?_;have d:=d.bH n;have t:=t.J7 n.vv n.rely;refine wss ?_;refine WalkE.pK ((decide (0<(L.length:Int)))) rfl rfl rfl (ft rfl) rfl rfl rfl zz (az rfl rfl zz rfl) hk ?_;refine wss ?_;refine WalkE.Ur rfl rfl rfl ekk rfl zz (az rfl rfl zz rfl) hk ?_;refine WalkE.Ur rfl rfl rfl (ft rfl) rfl zz (az rfl rfl zz rfl) hk ?_;refine WalkE.pJ ⟨g,0+8+0,I⟩ (.int .i64 b.cf) aa9 rfl rfl (ft rfl) d.gV (d.box 8 _ rfl) rfl zz (az rfl rfl zz rfl) hk ?_;refine WalkE.pK ((decide (0<(L.length:Int)))) rfl rfl rfl (ft rfl) (ft rfl) hcf rfl zz (az rfl rfl zz rfl) hk ?_;refine WalkE.TN (a:=(decide (0<(L.length:Int)))) (c:=(decide (0<(L.length:Int)))) false rfl rfl (ft rfl) (ft rfl) ss rfl zz (az rfl rfl zz rfl) hk ?_;refine wss ?_;refine WalkE.Ur rfl rfl rfl ekk rfl zz (az rfl rfl zz rfl) hk ?_;refine WalkE.pJ ⟨g,0+11,I⟩ (.slice b.E.A b.E.n b.E.c) Ov rfl rfl (ft rfl) d.gV (d.box 11 _ rfl) rfl zz (az rfl rfl zz rfl) hk ?_;refine WalkE.IA rfl rfl rfl (ft rfl) rfl rfl zz (az rfl rfl zz rfl) hk ?_;refine cr.M0 (y:=.slice A L.length c) (L:=L) (m:=b.E.n) d.co t hL zz zz rfl rfl (oh (ft rfl) (ft rfl)) rfl zz (az rfl rfl zz rfl) hk λw2 S R P u=>?_;have d:=d.bH u;have t:=t.J7 u.vv u.rely;rw[hCl];refine wss ?_;refine WalkE.pK ((decide (lo<0))) rfl rfl rfl (ft rfl) rfl rfl rfl zz (az rfl rfl zz rfl) hk ?_;refine wss ?_;refine WalkE.pK ((decide (lo<0))) rfl rfl rfl (ft rfl) rfl hlo rfl zz (az rfl rfl zz rfl) hk ?_;refine WalkE.TN false rfl rfl (ft rfl) (ft rfl) ss rfl zz (az rfl rfl zz rfl) hk ?_;refine wss ?_;refine WalkE.pK ((decide (0<=lo))) rfl rfl rfl (ft rfl) rfl rfl rfl zz (az rfl rfl zz rfl) hk ?_;refine wss ?_;by_cases B:0<=lo
  .rw[decide_eq_true B];refine wss ?_;refine cr.yS (y:=.slice A L.length c) (L:=L) (m:=lo) d.co t hL rfl rfl (oh (ft rfl) (ft rfl)) rfl zz (az rfl rfl zz rfl) hk λw3 V3 O3 a1 Z=>?_;rw[decide_eq_true (hmem B)];refine wss ?_;refine WalkE.pK (false) rfl rfl rfl (ft rfl) rfl (decide_eq_false zz) rfl zz (az rfl rfl zz rfl) hk ?_;refine wss ?_;exact WalkE.aT (next _ _ _ _ a1 ((n.tn u).tn Z) (λi hi=>nk) rfl)
  .rw[decide_eq_false B];refine WalkE.E8 rfl rfl zz (eC rfl rfl zz rfl) ?_;refine WalkE.E8 rfl rfl zz (eC rfl rfl zz rfl) ?_;refine WalkE.E8 rfl rfl zz (eC rfl rfl zz rfl) ?_;refine WalkE.E8 rfl rfl zz (eC rfl rfl zz rfl) ?_;refine wss ?_;refine WalkE.pK (false) rfl rfl rfl (ft rfl) rfl (decide_eq_false zz) rfl zz (az rfl rfl zz rfl) hk ?_;refine wss ?_;exact WalkE.aT (next _ _ _ _ P (n.tn u) (λi hi=>nk) rfl)):p:=h
def xbK{p:Prop}(h:p:=by
 have hk:(bs .normal 5).kind≠.early:=by simp[bs]
 first|have _:=ø;refine WalkE.reg (l:=[0,1,2,3]) rfl ?_;refine WalkE.Ur rfl rfl rfl (ft e) rfl zz wnn hk ?_|refine WalkE.reg (l:=[0,1,2,3,4,5,6]) rfl ?_;refine wss ?_;refine WalkE.VB (a:=eye) rfl rfl (ft rfl) he rfl zz wnn hk ?_;refine WalkE.Ur rfl rfl rfl ekk rfl zz wnn hk ?_
 refine WalkE.pJ ⟨g,0+11,I⟩ (.slice b.E.A b.E.n b.E.c) Ov rfl rfl (ft rfl) d.gV (d.box 11 _ rfl) rfl zz wnn hk ?_;refine WalkE.IA rfl rfl rfl (ft rfl) rfl rfl zz wnn hk ?_;first|have _:=ø;refine WalkE.pK ((b.E.n:Int)==0) rfl rfl rfl (ft rfl) rfl rfl rfl zz wnn hk ?_;exact WalkE.aT (next _ (λi hi=>nk) rfl)|refine WalkE.Yo (a:=eye) (c:=b.E.n) rfl rfl (ft rfl) (ft rfl) ⟨he.1,zz⟩ zz rfl zz wnn hk ?_;refine wss ?_;exact WalkE.aT (next _ (λi hi k=>nk) rfl)):p:=h
def xa{p:Prop}(h:p:=by
 have n:=(List.getElem?_eq_some_iff.1 e).1;refine⟨h.1,h.2.1,h.2.2.1,λi=>?_⟩;obtain⟨b,off,d,m,hc⟩:=h.2.2.2 i;first|have _:=ø;have g:jz s (l.length*2)=(b,off,l.length*2):=by unfold jz;rw[d]|have _:=å;have g:jz s (l.length*3)=(b,off,l.length*3):=by unfold jz;rw[d]|have g:jz s l.length=(b,off,l.length):=by unfold jz;rw[d]
 rw[g]at e;refine⟨w.heap.size+j,0,by unfold MH;rw[d];rfl,by rw[qK];omega,λk hk=>?_⟩;rw[kl];first|have _:=ø;exact⟨(nZ e (f _ d).2 (by show k*2<l.length*2;omega) c a).tn (hc k hk).1,(nZ e (f _ d).2 (by show k*2+1<l.length*2;omega) c a).tn (hc k hk).2⟩|have _:=å;exact⟨(nZ e (f _ d).2 (by show k*3<l.length*3;omega) c a).tn (hc k hk).1,(nZ e (f _ d).2 (by show k*3+1<l.length*3;omega) c a).tn (hc k hk).2.1,(nZ e (f _ d).2 (by show k*3+2<l.length*3;omega) c a).tn (hc k hk).2.2⟩|exact(nZ e (f _ d).2 hk c a).tn (hc k hk)):p:=h
def xbF{p:Prop}(h:p:=by
 obtain⟨e1,B,j⟩:=A.sl z;first|have _:=ø;refine l.jZ (v:=.bool (decide (m∈L))) t u q s r x hk (λ_=>⟨rfl,rfl⟩) rfl rfl (λe0 hB=>?_) (dQ _) (λe0 g=>?_) next|refine l.jZ (v:=.int .i64 (bS m I L)) t u q s r x hk (λ_=>⟨rfl,rfl⟩) rfl rfl (λe0 hB=>?_) (aG _ _) (λe0 g=>?_) next
 .rw[e1];exact P3 (by exact jg j.flat) (by exact .int _ _)
 .first|have _:=ø;have h:=MZ m (fF y) L (tp (gw TA V e0 w) g w.drawn) (pn B j g w.drawn)|have h:=vU m m1 m2 (fF y) L (tp (gw TA V e0 w) g w.drawn) (pn B j g w.drawn)
  rw[<- e1]at h;exact h.mono λe W h=>h.1):p:=h
def xaS{p:Prop}(h:p:=by
 refine⟨h.1,h.2.1,h.2.2.1,λe=>?_⟩;obtain⟨a,off,f,j,hc⟩:=h.2.2.2 e;have d:=(g _ f).2.1;first|have _:=ø;have b:=λk c=>i.intro (aV (hk a d) (hc k c).1) (aV (hk a d) (hc k c).2);exact⟨a,off,f,wY (b 0 e).1,b⟩|have _:=å;have b:=λk c=>i.intro (aV (hk a d) (hc k c).1) (i.intro (aV (hk a d) (hc k c).2.1) (aV (hk a d) (hc k c).2.2));exact⟨a,off,f,wY (b 0 e).1,b⟩|have b:=λk c=>aV (hk a d) (hc k c);exact⟨a,off,f,wY (b 0 e),b⟩):p:=h
def xbH{p:Prop}(h:p:=by
 first|have _:=ø;refine WalkE.value v r u hk (λbj a=>?_) (λbj a e c=>?_) (by rw[q,cw m];exact next)|have z:=λbj (a:aH V w bj)=>Ml (w:=bj) (b:=bk) λi x hi=>bu a l (h i x hi);refine WalkE.value bk.v r u hk (λbj a=>?_) (λbj a e c=>?_) (by rw[q,cw m];exact next)
 .unfold Hn;simp only[s,y];first|have _:=å;simp[(z bj a).1]|have:=(h1 bj ad v (bu a l hc)).1;simp[this]
 .unfold Hn at c;simp only[s,y]at c;first|have _:=ø;have h2:=(h1 bj ad v (bu a l hc));simp[h2.1,h2.2]at c;subst c|have h2:=z bj a;simp[h2.1]at c;obtain⟨j,rfl⟩:=h2.2 e c
  exact⟨rfl,l,λh=>by cases h⟩):p:=h
def Z2{p:Prop}(h:p:=by
 generalize(fa n f).tmps=A at e;unfold results;simp[d,e]):p:=h
end Go
namespace Go.Proofs.YtfcgpihkimpkcaaGreatDoor
open Go.Co Go.Conc
section
variable{m i n:Nat}{D:List (List Nat)}
def Ym(D:List (List Nat))(m:Nat):Prop:=∀i,m.testBit i=true->∀j∈D.getD i [],m.testBit j=true
def mO{m i j:Nat}:(m ||| 1 <<< i).testBit j=(m.testBit j||decide (i=j)):=by
 rw[Nat.testBit_or,Nat.one_shiftLeft,Nat.testBit_two_pow]
def Iw(n m:Nat):Nat:=((List.range n).filter λi=> !m.testBit i).length
def Tu(hi:i<n)(h:m.testBit i=false):Iw n (m ||| 1 <<< i)+1=Iw n m:=by
 unfold Iw
 induction n with
 | zero=>omega
 | succ n c=>
  rw[List.range_succ,np,np,lh,lh];by_cases b:i=n
  .subst b;have e:(List.range i).filter (λj=> !(m ||| 1 <<< i).testBit j)=(List.range i).filter λj=> !m.testBit j:=List.filter_congr λj a=>by
    have:i≠j:=by have:=List.mem_range.1 a;omega
    rw[mO,decide_eq_false this,Bool.or_false]
   rw[e];simp[mO,h]
  .have:=c zz;have e:[n].filter (λj=> !(m ||| 1 <<< i).testBit j)=[n].filter λj=> !m.testBit j:=List.filter_congr λj a=>by
    have:i≠j:=by have:=ib.1 a;omega
    rw[mO,decide_eq_false this,Bool.or_false]
   rw[e];omega
def Qy(hi:i<n)(h:m.testBit i=false):0<Iw n m:=List.length_pos_of_mem (List.mem_filter.2 ⟨List.mem_range.2 hi,by simp[h]⟩)
def ES(b:∀i,i<D.length->∀j∈D.getD i [],j<i):∀n,n<=D.length->(∃i,i<n/\m.testBit i=false)->zo D m≠[]
 | 0,_,h=>by obtain⟨i,h,-⟩:=h;omega
 | n+1,g,h=>by
  by_cases a:∃i,i<n/\m.testBit i=false
  .exact ES b n zz a
  .obtain⟨i,f,h2⟩:=h;have hi:i=n:=Classical.byContradiction λk=>a ⟨i,zz,h2⟩;subst hi;have:i∈zo D m:=List.mem_filter.2 ⟨List.mem_range.2 zz,by
    rw[h2,Bool.not_false,Bool.true_and,List.all_eq_true];intro j d
    cases c:m.testBit j with
    | true=>rfl
    | false=>exact dC ⟨j,b i zz j d,c⟩ a⟩
   intro e;rw[e]at this;cases this
def Iv{J:Type}{T:Nat}(w:T<D.length)(p:∀i,i<D.length->∀j∈D.getD i [],j<i){W:List Nat->J->Prop}{S:Nat->J->Prop}{tail:List Nat}
  (G:((List.range T).all λi=>(List.range (T+1)).any λj=>decide (i<j)&&(D.getD j []).contains i)=true)(E:((List.range D.length).all λi=>decide (i<=T)||(D.getD i []).any λj=>decide (T<=j))=true)(P:MY D (Iw D.length (2^(T+1)-1)) (2^(T+1)-1)=[tail])
  (step:∀m i s rest,S m s->i<T->m.testBit i=false->(∀j∈D.getD i [],m.testBit j=true)->(∀u,S (m ||| 1 <<< i) u->W rest u)->W (i::rest) s)
  (stop:∀s,S (2^T-1) s->W (T::tail) s):
  ∀k m s l,k=Iw D.length m->m<2^D.length->m.testBit T=false->Ym D m->l∈MY D k m->S m s->W l s
 | 0,m,s,l,hk,hm,n,hc,g,t=>by have:=Qy w n;omega
 | k+1,m,s,l,hk,hm,n,hc,g,t=>by
  have a1:=ES p (m:=m) D.length (dj _) ⟨T,w,n⟩;rw[MY]at g
  cases A:zo D m with
  | nil=>exact dC A a1
  | cons r rs=>
   rw[A]at g;obtain⟨i,hi,g⟩:=List.mem_flatMap.1 g;obtain⟨rest,y,rfl⟩:=List.mem_map.1 g;rw[<- A]at hi;obtain⟨hi,O⟩:=List.mem_filter.1 hi;have hi:=List.mem_range.1 hi;rw[ed,Bool.not_eq_true',List.all_eq_true]at O;obtain⟨z,q⟩:=O;have L:k=Iw D.length (m ||| 1 <<< i):=by have:=Tu hi z;omega
   have C:∀i,T<i->i<D.length->∃j,j∈D.getD i []/\T<=j:=λi v h2=>by
    have:=List.all_eq_true.1 E i (List.mem_range.2 h2);rw[decide_eq_false zz,Bool.false_or,List.any_eq_true]at this;obtain⟨j,b,c⟩:=this;exact⟨j,b,of_decide_eq_true c⟩
   have K:∀j,T<j->j<D.length->m.testBit j=false:=λj=>by
    induction j using Nat.strongRecOn with
    | ind j B=>
     intro v h2
     cases R:m.testBit j with
     | false=>rfl
     | true=>
      obtain⟨x,b,c⟩:=C j v h2;have a:=hc j R x b;have o:=p j h2 x b;rcases Nat.lt_or_eq_of_le c with h|rfl
      .rw[B x o h zz]at a;cases a
      .rw[n]at a;cases a
   have U:i<=T:=by
    rcases Nat.lt_or_ge T i with h|h
    .obtain⟨x,b,c⟩:=C i h hi;have a:=q x b;have o:=p i hi x b;rcases Nat.lt_or_eq_of_le c with h|rfl
     .rw[K x h zz]at a;cases a
     .rw[n]at a;cases a
    .exact h
   rcases Nat.lt_or_eq_of_le U with h|rfl
   .refine step m i s rest t h z q λu a2=>Iv w p G E P step stop k _ u rest L ?_ ?_ ?_ y a2
    .refine Nat.or_lt_two_pow hm ?_;rw[Nat.one_shiftLeft];exact Nat.pow_lt_pow_right zz hi
    .rw[mO,n];simp;omega
    .intro j f x Q;rw[mO]at f|-;simp only[nd,decide_eq_true_iff]at f;rcases f with f|f
     .rw[hc j f x Q];rfl
     .subst f;rw[q x Q];rfl
   .have V:∀d j,d+j=i->j<i->m.testBit j=true:=λd=>by
     induction d using Nat.strongRecOn with
     | ind d B=>
      intro j v h2;obtain⟨x,b,c⟩:=List.any_eq_true.1 (List.all_eq_true.1 G j (List.mem_range.2 h2));rw[ed,decide_eq_true_iff,List.contains_iff_mem]at c;have a:=List.mem_range.1 b;by_cases o:x=i
      .subst o;exact q j c.2
      .exact hc x (B (i-x) zz x zz zz) j c.2
    have N:m=2^i-1:=by
     apply Nat.eq_of_testBit_eq;intro j;rw[Nat.testBit_two_pow_sub_one];rcases Nat.lt_trichotomy j i with h|rfl|h
     .rw[V (i-j) j zz h];simp[h]
     .rw[z];simp
     .have e:decide (j<i)=false:=by simp;omega
      rw[e];rcases Nat.lt_or_ge j D.length with h2|h2
      .exact K j h h2
      .exact Nat.testBit_lt_two_pow (iv hm (Nat.pow_le_pow_right zz h2))
    have Z:m ||| 1 <<< i=2^(i+1)-1:=by
     subst N;apply Nat.eq_of_testBit_eq;intro j;rw[mO,Nat.testBit_two_pow_sub_one,Nat.testBit_two_pow_sub_one];by_cases h:j<i
     .simp[h];omega
     .by_cases h2:i=j
      .simp[h2]
      .simp[h,h2];omega
    rw[L,Z,P]at y;have:=ib.1 y;subst this;rw[N]at t;exact stop s t
end
open Go.RowKit
def QA{main:Bool}{Stop:(Nat->Prop)->(Nat->Prop)->QP->H->Prop}{V O:Nat->Prop}{w:H}{b:Kf}{k:List Item}{cs:List Kf}{ops:Array Kp}{id n d0 T:Nat}{D:List (List Nat)}{tail:List Nat}{F val:Nat->M}
  (L:jM .any ops=D)(C:T<D.length)(x:∀i,i<D.length->∀j∈D.getD i [],j<i)(K:((List.range T).all λi=>(List.range (T+1)).any λj=>decide (i<j)&&(D.getD j []).contains i)=true)(E:((List.range D.length).all λi=>decide (i<=T)||(D.getD i []).any λj=>decide (T<=j))=true)(Q:MY D (Iw D.length (2^(T+1)-1)) (2^(T+1)-1)=[tail])
  (u:cr V O w)
  (step:∀i,i<T->∀f d o bj rest,cr d o bj->dU V O w d o bj->(∀j,j<d0->f j=F j)->(∀j,j∈D.getD i []->f (j+d0)=val j)->(∀q p r,cr q p r->dU d o bj q p r->WalkE Hb main Stop q p (G (b.at (fa n (ah f (i+d0) (val i))) (.inRegion ops rest::k)) cs) r)->WalkE Hb main Stop d o (G (b.at (fa n f) (.inRegion ops (i::rest)::k)) cs) bj)
  (stop:∀f d o bj,cr d o bj->dU V O w d o bj->(∀j,j<d0->f j=F j)->(∀j,j<T->f (j+d0)=val j)->WalkE Hb main Stop d o (G (b.at (fa n f) (.inRegion ops (T::tail)::k)) cs) bj):
  WalkE Hb main Stop V O (G (b.at (fa n F) (.code (.region id ops true)::k)) cs) w:=by
 refine WalkE.draw (uA L rfl) λl N bj z=>?_;refine Iv (J:=(Nat->M)×(Nat->Prop)×(Nat->Prop)×H) (D:=D) C x (W:=λl s=>WalkE Hb main Stop s.2.1 s.2.2.1 (G (b.at (fa n s.1) (.inRegion ops l::k)) cs) s.2.2.2)
  (S:=λm s=>cr s.2.1 s.2.2.1 s.2.2.2/\dU V O w s.2.1 s.2.2.1 s.2.2.2/\(∀j,j<d0->s.1 j=F j)/\∀j,j<T->m.testBit j=true->s.1 (j+d0)=val j)
  K E Q (λm i s rest v hi R P next=>?_) (λs v=>?_) D.length 0 (F,V,O,bj) l ?_ (Nat.two_pow_pos _) (Nat.zero_testBit _) (λi h=>by rw[Nat.zero_testBit]at h;cases h) N ⟨u.bH (u.refl.step z),u.refl.step z,λ_ _=>rfl,λj _ h=>by rw[Nat.zero_testBit]at h;cases h⟩
 .obtain⟨c,g,t,h2⟩:=v;refine step i hi s.1 _ _ _ rest c g t (λj a=>h2 j (by have:=x i zz j a;omega) (P j a)) λq p r A B=>next (ah s.1 (i+d0) (val i),q,p,r) ⟨A,g.tn B,λj a=>nt (t j a),λj a y=>?_⟩;by_cases e:i=j
  .subst e;exact au _ _ _
  .rw[mO,decide_eq_false e,Bool.or_false]at y;exact nt (h2 j a y)
 .obtain⟨c,g,t,h2⟩:=v;exact stop s.1 _ _ _ c g t λj a=>h2 j a (by rw[Nat.testBit_two_pow_sub_one];exact decide_eq_true a)
 .unfold Iw;rw[List.filter_eq_self.2 ss];simp
variable{V V' O:Nat->Prop}{w bj:H}{x:Nat×Nat×Nat}{m j i n:Nat}{l ds:List Int}{a v b a' b':M}{κ:Nat->Kd}{Z:Ren}{e0:Lk}{ws:List (Nat×Nat×Nat)}{s:Sl}{sh:Int}{main:Bool}{Stop:(Nat->Prop)->(Nat->Prop)->QP->H->Prop}{k:List Item}{cs:List Kf}{ops:Array Kp}{rest:List Nat}{o:Kp}{f:Nat->M}{fn:ba}{xs:Array ae}{ts:Array Lk}{args eQ:Array M}{bk:aC}
def jz(s:Sl)(m:Nat):Nat×Nat×Nat:=match s.A with|some a=>(a.block,a.off,m)|none=>(0,0,0)
def MH(N:Nat)(s:Sl):Sl:=⟨s.A.map λ_=>(N,0),s.n,s.c⟩
def jb(V:Nat->Prop)(w:H)(s:Sl)(m:Nat):Prop:=∀a,s.A=Y a->a.spot=I/\sr V w (a.block,a.off,m)
end Go.Proofs.YtfcgpihkimpkcaaGreatDoor
open Go in
open Go.Proofs.YtfcgpihkimpkcaaGreatDoor in
open Go.Co Go.Conc in
open Go.RowKit in
variable{n:Nat} in
variable{o:Kp} in
def Go.Co.sr.mono{V V':Nat->Prop}{w bj:Cl}{x:Nat×Nat×Nat}(h:sr V w x)(hV:∀x,V x->V' x)(hk:∀x,V x->bj.heap[x]?=w.heap[x]?):sr V' bj x:=
 ⟨hV _ h.1,let⟨c,e,z,h1,h2⟩:=h.2;⟨c,e,z,(hk _ h.1).tn h1,h2⟩⟩
namespace Go.Proofs.YtfcgpihkimpkcaaGreatDoor
open Go.Co Go.Conc
open Go.RowKit
variable{V V' O:Nat->Prop}{w bj:H}{x:Nat×Nat×Nat}{m j i n:Nat}{l ds:List Int}{a v b a' b':M}{κ:Nat->Kd}{Z:Ren}{e0:Lk}{ws:List (Nat×Nat×Nat)}{s:Sl}{sh:Int}{main:Bool}{Stop:(Nat->Prop)->(Nat->Prop)->QP->H->Prop}{k:List Item}{cs:List Kf}{ops:Array Kp}{rest:List Nat}{o:Kp}{f:Nat->M}{fn:ba}{xs:Array ae}{ts:Array Lk}{args eQ:Array M}{bk:aC}
def jb.mono{s:Sl}(h:jb V w s m)(c:∀x,V x->V' x)(hk:∀x,V x->bj.heap[x]?=w.heap[x]?):jb V' bj s m:=λa b=>⟨(h a b).1,(h a b).2.mono c hk⟩
def qJ(hB:Base TA V w e0)(h:jb V w s m):sr V w (jz s m):=by
 unfold jz
 cases b:s.A with
 | some a=>exact(h a b).2
 | none=>exact⟨hB.v0,let⟨c,z,x⟩:=hB.cells;⟨c,e0,z,x,λj d=>dC d (Nat.not_lt_zero _)⟩⟩
def nZ{i:Nat}(d:ws[j]?=Y x)(g:sr V w x)(hi:i<x.2.2)(h:Nat->Question->Nat)(a:Nat):(tp (wK TA V e0 w ws) h a).cell? (w.heap.size+j,i)=w (x.1,x.2.1+i):=by
 obtain⟨-, c,e,z,hc,f⟩:=g;show(wK TA V e0 w ws).cell? _=_;unfold H.cell?;dsimp only;rw[IY d,IZ hc,hc];show(c.extract x.2.1 (x.2.1+x.2.2))[i]?=c[x.2.1+i]?;obtain⟨v,b,-⟩:=f i hi;have k:=(du.1 b).1;rw[Array.getElem?_extract,dE zz]
def qK(b:Nat->Question->Nat)(a:Nat):(tp (wK TA V e0 w ws) b a).heap.size=w.heap.size+ws.length:=qf
def EO(h:aN w s l)(f:jb V w s l.length)(e:ws[j]?=Y (jz s l.length))(c:Nat->Question->Nat)(a:Nat):aN (tp (wK TA V e0 w ws) c a) (MH (w.heap.size+j) s) l:=xa
def AV{l:List (Int×Int)}(h:bp w s l)(f:jb V w s (l.length*2))(e:ws[j]?=Y (jz s (l.length*2)))(c:Nat->Question->Nat)(a:Nat):bp (tp (wK TA V e0 w ws) c a) (MH (w.heap.size+j) s) l:=by
 have ø:=0;exact xa
def PZ{l:List (Int×Int×Bool)}(h:fL w s l)(f:jb V w s (l.length*3))(e:ws[j]?=Y (jz s (l.length*3)))(c:Nat->Question->Nat)(a:Nat):fL (tp (wK TA V e0 w ws) c a) (MH (w.heap.size+j) s) l:=by
 have å:=0;exact xa
def yV{hB:Base TA V w e0}(d:jb V w s m)(c:ws[j]?=Y (jz s m)):VR (Bj hB ws) (.slice (MH (w.heap.size+j) s).A s.n s.c) (.slice s.A s.n s.c):=by
 unfold MH
 cases b:s.A with
 | none=>exact .nilSlice _ _
 | some a=>
  have e:jz s m=(a.block,a.off,m):=by unfold jz;rw[b]
  rw[e]at c;exact .slice _ _ ⟨rfl,(d a b).1,a.off,I0 c,by simp,rfl⟩
def mh(h:dJ TA V w)(hB:Base TA V w e0)(b:Nat->Question->Nat)(a:Nat):aD (tp (wK TA V e0 w ws) b a):=by
 obtain⟨k,h2,c,d,e,g⟩:=h.gw (e0:=e0) b a;have j:=hB.shown.lt;have f:∀i,(tp (wK TA V e0 w ws) b a).cell? ⟨0,i,I⟩=(tp (gw TA V e0 w) b a).cell? ⟨0,i,I⟩:=λi=>by
  show(wK TA V e0 w ws).cell? _=(gw TA V e0 w).cell? _;unfold H.cell?;dsimp only;rw[IX j]
 exact⟨by rw[qK];omega,(f _).tn h2,(f _).tn c,(f _).tn d,(f _).tn e,(f _).tn g⟩
structure uD(V:Nat->Prop)(w:H)(b:aC)(l:bN)(s:Sl)(d:List Int):Prop where
 at_:aI w b l
 dt:aN w s d
 C:jb V w b.C l.C.length
 U:jb V w b.U (l.U.length*2)
 E:jb V w b.E (l.E.length*2)
 W:jb V w b.W (l.W.length*3)
 D:jb V w s d.length
def mA(b:aC)(l:bN)(s:Sl)(d:List Int):List (Nat×Nat×Nat):=[jz b.C l.C.length,jz b.U (l.U.length*2),jz b.E (l.E.length*2),jz b.W (l.W.length*3),jz s d.length]
def bX(N:Nat)(b:aC):aC:= {b with C:=MH (N+0) b.C,U:=MH (N+1) b.U,E:=MH (N+2) b.E,W:=MH (N+3) b.W}
def sX(N:Nat)(s:Sl):Sl:=MH (N+4) s
def wY{a:Addr}(h:w.cell? a=Y v):a.block<w.heap.size:=by
 unfold H.cell? at h
 cases b:w.heap[a.block]? with
 | none=>rw[b]at h;simp at h
 | some o=>exact(du.1 b).1
section
variable{b:aC}{l:bN}{d:List Int}
def jb.ints{l:List Int}(g:jb V w s l.length)(h:aN w s l)(hk:∀x,V x->bj.heap[x]?=w.heap[x]?):aN bj s l:=by
 refine⟨h.1,h.2.1,h.2.2.1,λb=>?_⟩;obtain⟨a,off,c,i,hc⟩:=h.2.2.2 b;have e:=(g _ c).2.1;have d:=λk f=>aV (hk a e) (hc k f);exact⟨a,off,c,wY (d 0 b),d⟩
def jb.pairs{l:List (Int×Int)}(g:jb V w s m)(h:bp w s l)(hk:∀x,V x->bj.heap[x]?=w.heap[x]?):bp bj s l:=by
 refine⟨h.1,h.2.1,h.2.2.1,λb=>?_⟩;obtain⟨a,off,c,i,hc⟩:=h.2.2.2 b;have d:=(g _ c).2.1;have e:=λk f=>And.intro (aV (hk a d) (hc k f).1) (aV (hk a d) (hc k f).2);exact⟨a,off,c,wY (e 0 b).1,e⟩
def jb.abd{l:List (Int×Int×Bool)}(hw:jb V w s m)(h:fL w s l)(hk:∀x,V x->bj.heap[x]?=w.heap[x]?):fL bj s l:=by
 refine⟨h.1,h.2.1,h.2.2.1,λh0=>?_⟩;obtain⟨bb,off,hA,hb,hc⟩:=h.2.2.2 h0;have hV:=(hw _ hA).2.1;have hc':=λk hk'=>And.intro (aV (hk bb hV) (hc k hk').1) (And.intro (aV (hk bb hV) (hc k hk').2.1) (aV (hk bb hV) (hc k hk').2.2));exact⟨bb,off,hA,wY (hc' 0 h0).1,hc'⟩
def uD.mono(h:uD V w b l s d)(a:∀x,V x->V' x)(hk:∀x,V x->bj.heap[x]?=w.heap[x]?):uD V' bj b l s d:=
 ⟨⟨h.C.ints h.at_.C hk,h.U.pairs h.at_.U hk,h.E.pairs h.at_.E hk,h.W.abd h.at_.W hk⟩,h.D.ints h.dt hk,h.C.mono a hk,h.U.mono a hk,h.E.mono a hk,h.W.mono a hk,h.D.mono a hk⟩
def uD.bH{bm bo:Nat->Prop}(h:uD V w b l s d)(a:dU V O w bm bo bj):uD bm bj b l s d:=h.mono a.vv a.rely.keep
def uD.ok(h:uD V w b l s d)(hB:Base TA V w e0):∀x∈mA b l s d,sr V w x:=by
 intro x a;simp only[mA,fc,hZ,or_false]at a;rcases a with rfl|rfl|rfl|rfl|rfl
 .exact qJ hB h.C
 .exact qJ hB h.U
 .exact qJ hB h.E
 .exact qJ hB h.W
 .exact qJ hB h.D
def uD.lone(h:uD V w b l s d)(c:Nat->Question->Nat)(a:Nat):aI (tp (wK TA V e0 w (mA b l s d)) c a) (bX w b) l/\aN (tp (wK TA V e0 w (mA b l s d)) c a) (sX w s) d:=
 ⟨⟨EO h.at_.C h.C rfl c a,AV h.at_.U h.U rfl c a,AV h.at_.E h.E rfl c a,PZ h.at_.W h.W rfl c a⟩,EO h.dt h.D rfl c a⟩
def uD.RH(h:uD V w b l s d){hB:Base TA V w e0}:VR (Bj hB (mA b l s d)) (bX w b).v b.v:=by
 have e:VR (Bj hB (mA b l s d)) (.slice (bX w b).C.A b.C.n b.C.c) (.slice b.C.A b.C.n b.C.c):=yV h.C rfl;have g:VR (Bj hB (mA b l s d)) (.slice (bX w b).U.A b.U.n b.U.c) (.slice b.U.A b.U.n b.U.c):=yV h.U rfl;have f:VR (Bj hB (mA b l s d)) (.slice (bX w b).E.A b.E.n b.E.c) (.slice b.E.A b.E.n b.E.c):=yV h.E rfl;have j:VR (Bj hB (mA b l s d)) (.slice (bX w b).W.A b.W.n b.W.c) (.slice b.W.A b.W.n b.W.c):=yV h.W rfl;refine .agg rfl λi x y a c=>?_
 match i,a,c with
 | 0,a,c=>cases a;cases c;exact .int _ _
 | 1,a,c=>cases a;cases c;exact .int _ _
 | 2,a,c=>cases a;cases c;exact .int _ _
 | 3,a,c=>cases a;cases c;exact .int _ _
 | 4,a,c=>cases a;cases c;exact .int _ _
 | 5,a,c=>cases a;cases c;exact e
 | 6,a,c=>cases a;cases c;exact .int _ _
 | 7,a,c=>cases a;cases c;exact .int _ _
 | 8,a,c=>cases a;cases c;exact .int _ _
 | 9,a,c=>cases a;cases c;exact .int _ _
 | 10,a,c=>cases a;cases c;exact g
 | 11,a,c=>cases a;cases c;exact f
 | 12,a,c=>cases a;cases c;exact j
end
section
variable{b:Kf}{n d:Nat}{l:bN}
def cr.Vf{R:M->H->Prop}(g:cr V O w)(C:uD V w bk l s ds)(q:ops[i]?=Y o)(r:o.op=.call {callee:=.value (.func fn),args:=xs,argTypes:=ts})(m:xs.map (fa n f).eval=eQ)(A:o.dst=Y d)(z:d<n)(K:Region.wanted o (aw ops (fa n f).tmps)=true)(hk:b.kind≠.early)
  (p:∀w,(callFunc fn eQ).run F w=.ok (.enter fn eQ) w/\(callFunc fn eQ).events F w #[]= #[])(B:TA.has fn=true)(J:TA.ret fn=.val)(y:∀e0 (hB:Base TA V w e0),KR (TA.kind fn) (Bj hB (mA bk l s ds)) args eQ)
  (hc:∀e0 (_:Base TA V w e0) N,PH F fn args (tp (wK TA V e0 w (mA bk l s ds)) N w.drawn) λe W=>∃v,e=.returned v/\R v W)
  (next:∀e0 (hB:Base TA V w e0) Z v W v' bj a c,R v W->VR Z v v'->ir TA F (w.heap.size+(mA bk l s ds).length) V O w (Bj hB (mA bk l s ds)) Z W bj a c->cr a c bj->dU V O w a c bj->WalkE F main Stop a c (G (b.at (fa n (ah f d v')) (.inRegion ops rest::k)) cs) bj):WalkE F main Stop V O (G (b.at (fa n f) (.inRegion ops (i::rest)::k)) cs) w:=by
 obtain⟨e0,hB⟩:=g.base;refine WalkE.enter q K hk (λbj=>(kJ r m rfl p).1) (λbj=>(kJ r m rfl p).2) ?_;refine NU (T:=TA) (I1 .skip) B (Sc (hB:=hB) (C.ok hB) g.cX) rfl (y e0 hB) (hc e0 hB) (λe W h=>⟨h.choose,h.choose_spec.1⟩) (λZ L u v' bj a c E t j=>?_);obtain⟨v,e1,x⟩:=E;cases e1;rw[J]at t;rw[Kf.finish_at];rw[show(ops[i]?).bind (·.dst)=Y d by rw[q];exact A,cw z];exact next e0 hB Z L u v' bj a c x t j (g.bH j.bH) j.bH
def cr.qL(j:cr V O w)(B:uD V w bk l s ds)(C:ops[i]?=Y o)(E:o.op=.call {callee:=.value (.func fn),args:=xs,argTypes:=ts})(q:xs.map (fa n f).eval=eQ)(y:o.dst=Y d)(x:d<n)(N:Region.wanted o (aw ops (fa n f).tmps)=true)(hk:b.kind≠.early)
  (t:∀w,(callFunc fn eQ).run F w=.ok (.enter fn eQ) w/\(callFunc fn eQ).events F w #[]= #[])(z:TA.has fn=true)(J:TA.ret fn=.val)(r:∀e0 (hB:Base TA V w e0),KR (TA.kind fn) (Bj hB (mA bk l s ds)) args eQ)
  (K:eR v)(hc:∀e0 (_:Base TA V w e0) g,PH F fn args (tp (wK TA V e0 w (mA bk l s ds)) g w.drawn) λe _=>e=.returned v)
  (next:∀bj a c,cr a c bj->dU V O w a c bj->WalkE F main Stop a c (G (b.at (fa n (ah f d v)) (.inRegion ops rest::k)) cs) bj):WalkE F main Stop V O (G (b.at (fa n f) (.inRegion ops (i::rest)::k)) cs) w:=
 j.Vf B (R:=λu _=>u=v) C E q y x N hk t z J r (λe0 hB g=>(hc e0 hB g).mono λe W h=>⟨v,h,rfl⟩) λe0 hB Z u W v' bj a c p L P m A=>by
  subst p;rw[K Z v' L];exact next bj a c m A
def P3{κ:Nat->Kd}{Z:Ren}{a b a' b':M}(e:dM Z (κ 0) a a')(f:dM Z (κ 1) b b'):KR κ Z #[a,b] #[a',b']:=⟨rfl,λi x y c d=>by
 match i,c,d with
 | 0,c,d=>cases c;cases d;exact e
 | 1,c,d=>cases c;cases d;exact f⟩
def vg(d:dM Z (κ 0) a a'):KR κ Z #[a] #[a']:=⟨rfl,λi x y b c=>by
 match i,b,c with
 | 0,b,c=>cases b;cases c;exact d⟩
def QC{a b c a' b' c':M}(f:dM Z (κ 0) a a')(g:dM Z (κ 1) b b')(h2:dM Z (κ 2) c c'):KR κ Z #[a,b,c] #[a',b',c']:=⟨rfl,λi x y d e=>by
 match i,d,e with
 | 0,d,e=>cases d;cases e;exact f
 | 1,d,e=>cases d;cases e;exact g
 | 2,d,e=>cases d;cases e;exact h2⟩
end
variable{g d d0 d1:Nat}{x:ae}{bm bo:Nat->Prop}{o0 o1:Kp}
section
variable{b:Kf}
def eC{j g:Nat}{t:Bool}(b:o.guard=Y (j,t))(c:(ops[j]?).bind (·.dst)=Y g)(d:g<n)(a:f g=.bool (!t)):Region.wanted o (aw ops (fa n f).tmps)=false:=jc b c d a
def WalkE.E8(e:ops[i]?=Y o)(c:o.dst=Y d)(a:d<n)(g:Region.wanted o (aw ops (fa n f).tmps)=false)
  (next:WalkE F main Stop V O (G (b.at (fa n (ah f d D)) (.inRegion ops rest::k)) cs) w):WalkE F main Stop V O (G (b.at (fa n f) (.inRegion ops (i::rest)::k)) cs) w:=
 WalkE.ctl (λ_=>stepG_unwanted e g) (by rw[c,cw a];exact next)
def WalkE.pJ{t:Lk}(ad:Addr)(v:M)(h1:OneCell F t)(r:ops[i]?=Y o)(s:o.op=.load t x)(y:(fa n f).eval x=.pointer (Y ad))(l:V ad.block)(hc:w.cell? ad=Y v)(q:o.dst=Y d)(m:d<n)(u:Region.wanted o (aw ops (fa n f).tmps)=true)(hk:b.kind≠.early)
  (next:WalkE F main Stop V O (G (b.at (fa n (ah f d v)) (.inRegion ops rest::k)) cs) w):WalkE F main Stop V O (G (b.at (fa n f) (.inRegion ops (i::rest)::k)) cs) w:=by
 have ø:=0;exact xbH
theorem Rl{bk:aC}(b:o.op=.box 31 x)(a:(fa n f).eval x=bk.v):(Hn (fa n f).eval o).events F w #[]= #[]:=by
 unfold aC.v at a;unfold Hn;simp only[b,a];simp[go_sem]
end
def Nk(V:Nat->Prop)(w:H)(s:Sl):Prop:=cM TA V w s 0
structure Um(V:Nat->Prop)(w:H)(b:aC):Prop where
 C:Nk V w b.C
 U:Nk V w b.U
 E:Nk V w b.E
 W:Nk V w b.W
section
variable{b:aC}
def Um.mono(h:Um V w b)(a:∀x,V x->V' x)(hk:∀x,V x->bj.heap[x]?=w.heap[x]?):Um V' bj b:=⟨cM.mono h.C a hk,cM.mono h.U a hk,cM.mono h.E a hk,cM.mono h.W a hk⟩
def Um.vr(h:Um V w b){hB:Base TA V w e0}:VR (gr hB) b.v b.v:=by
 have c:VR (gr hB) (.slice b.C.A b.C.n b.C.c) (.slice b.C.A b.C.n b.C.c):=jg (cM.flat h.C);have f:VR (gr hB) (.slice b.U.A b.U.n b.U.c) (.slice b.U.A b.U.n b.U.c):=jg (cM.flat h.U);have d:VR (gr hB) (.slice b.E.A b.E.n b.E.c) (.slice b.E.A b.E.n b.E.c):=jg (cM.flat h.E);have g:VR (gr hB) (.slice b.W.A b.W.n b.W.c) (.slice b.W.A b.W.n b.W.c):=jg (cM.flat h.W);refine .agg rfl λi x y a j=>?_;have e:Y x=Y y:=a.symm.tn j;cases e
 match i,a with
 | 0,a=>cases a;exact .int _ _
 | 1,a=>cases a;exact .int _ _
 | 2,a=>cases a;exact .int _ _
 | 3,a=>cases a;exact .int _ _
 | 4,a=>cases a;exact .int _ _
 | 5,a=>cases a;exact c
 | 6,a=>cases a;exact .int _ _
 | 7,a=>cases a;exact .int _ _
 | 8,a=>cases a;exact .int _ _
 | 9,a=>cases a;exact .int _ _
 | 10,a=>cases a;exact f
 | 11,a=>cases a;exact d
 | 12,a=>cases a;exact g
end
def Uo{w:H}{b:aC}(h:aK w g 31 b):∀i v,(wE b)[i]?=Y v->w.cell? ⟨g,i,I⟩=Y v:=λi v a=>by
 unfold H.cell?;dsimp only;rw[show w.heap[g]?=_ from h];exact a
section
variable{b:Kf}
end
variable{b:Kf}{l:bN}
structure Fg(V O:Nat->Prop)(w:H)(g:Nat)(b:aC):Prop where
 co:cr V O w
 gV:V g
 box:∀(i:Nat) v,(wE b)[i]?=Y v->w (g,i)=Y v
def Fg.bH{V O bm bo:Nat->Prop}{w bj:H}{g:Nat}{b:aC}(h:Fg V O w g b)(a:dU V O w bm bo bj):Fg bm bo bj g b:=
 ⟨h.co.bH a,a.vv _ h.gV,λi v c=>aV (a.rely.keep _ h.gV) (h.box i v c)⟩
def qS(V:Nat->Prop)(w:H)(b:aC)(l:bN):Prop:=uD V w b l iy []
def B9(w:H):aN w iy []:=⟨rfl,dj _,fi _,λh=>dC h (kq 0)⟩
def Gx(V:Nat->Prop)(w:H)(m:Nat):jb V w iy m:=λa b=>by cases b
def cr.XN{t:Nat}(l:cr V O w)(q:t<n)(j:f t=bk.v)(v:ops[i]?=Y o)(p:o.op=.box 31 (.tmp t))(s:o.dst=Y d)(r:d<n)(u:o.guard=I)(hk:b.kind≠.early)
  (next:∀bj a c g,Fg a c bj g bk->dU V O w a c bj->WalkE F main Stop a c (G (b.at (fa n (ah f d (.pointer (Y (g,0))))) (.inRegion ops rest::k)) cs) bj):WalkE F main Stop V O (G (b.at (fa n f) (.inRegion ops (i::rest)::k)) cs) w:=by
 refine WalkE.make (aE bk 31) (λg=>.pointer (Y ⟨g,0,I⟩)) v (bY u) hk (λbj _=>B8 p (ag q j)) (λbj _ e h=>by rw[Rl p (ag q j)]at h;simp at h) λbj x=>?_;rw[s,cw r];have m:=((dU.refl (O:=O) l.cX).step x).make (aE bk 31);have y:aK (bj.alloc (aE bk 31)) bj 31 bk:=Sp _ _;exact next _ _ _ bj.heap.size ⟨l.bH m,.inr rfl,Uo y⟩ m
def cr.qQ{p:List Int×Int×Int}(r:cr V O w)(N:uD V w bk l s ds)(P:ops[i]?=Y o)(Q:o.op=.call {callee:=.value (.func fn),args:=xs,argTypes:=ts})(z:xs.map (fa n f).eval=eQ)(J:o.dst=Y d)(E:d<n)(a1:Region.wanted o (aw ops (fa n f).tmps)=true)(hk:b.kind≠.early)
  (C:∀w,(callFunc fn eQ).run F w=.ok (.enter fn eQ) w/\(callFunc fn eQ).events F w #[]= #[])(K:TA.has fn=true)(T:TA.ret fn=.val)(B:∀e0 (hB:Base TA V w e0),KR (TA.kind fn) (Bj hB (mA bk l s ds)) args eQ)
  (hc:∀e0 (_:Base TA V w e0) j,PH F fn args (tp (wK TA V e0 w (mA bk l s ds)) j w.drawn) (EN p (tp (wK TA V e0 w (mA bk l s ds)) j w.drawn)))
  (next:∀y bj a g,cr a g bj->dU V O w a g bj->dK a bj y p.1->WalkE F main Stop a g (G (b.at (fa n (ah f d (.tuple #[y,.int .i64 p.2.1,.int .i64 p.2.2]))) (.inRegion ops rest::k)) cs) bj):WalkE F main Stop V O (G (b.at (fa n f) (.inRegion ops (i::rest)::k)) cs) w:=
 r.Vf N (R:=λu W=>∃y,u=.tuple #[y,.int .i64 p.2.1,.int .i64 p.2.2]/\W.ownsRow (w.heap.size+(mA bk l s ds).length) 3 1 y p.1.length (p.1.map (M.int .i64))) P Q z J E a1 hk C K T B (λe0 hB j=>(hc e0 hB j).mono λe W h=>by
   obtain⟨A,c,m,h2,-⟩:=h;rw[qK]at h2;exact⟨_,m,_,rfl,h2⟩) λe0 hB Z u W v' bj a g x U v t L=>by
  obtain⟨y,rfl,S⟩:=x;obtain⟨y',s',r',rfl,m,h2,q⟩:=ZC U;obtain rfl:=aG _ _ Z _ h2;obtain rfl:=aG _ _ Z _ q;exact next y' bj a g t L (v.row S (dj _) m (rG _)).1.PN
section
variable{fn n r:Nat}{F:Func}
section
variable{main:Bool}{Stop:(Nat->Prop)->(Nat->Prop)->QP->H->Prop}{V O:Nat->Prop}{w:H}{b:Kf}{K:List Item}{cs:List Kf}{ops:Array Kp}{n:Nat}{f:Nat->M}{rest:List Nat}
end
def XX(fn n r:Nat)(g:QP):Prop:=∃f k,g=G { (bs .normal fn).at (fa n f) k with mode:=.returning} []/\f r=.bool true
def Tx(hF:Hb.funcs[fn]?=Y F)(d:F.results= #[.tmp r])(i:r<n)(g:2≠fn){f:Nat->M}{k:List Item}(h:f r=.bool true)(w:H):Lq Hb true (G { (bs .normal fn).at (fa n f) k with mode:=.returning} []) w=.ended (.done (.bool true)) w #[]:=by
 have e:(fa n f).tmps[r]?=Y (.bool true):=by rw[ej i,h]
 have b:(results F (fa n f).tmps).run Hb w=.ok (.bool true) w:=by
  exact Z2
 have h2:(results F (fa n f).tmps).events Hb w #[]= #[]:=by
  exact Z2
 have c:(fa n f).defers=[]:=rfl;generalize fa n f=a at b h2 c|-;simp[c,G,Lq,unwind,doReturn,Kf.at,bs,hF,b,h2,seen,GStep.after,g];done
def Ie(fn n r:Nat)(c0:Kf):Prop:=∀(a c:Nat->Prop) (b:H),WalkE Hb true (λd _ e f=>XX fn n r e/\(∀x,a x->d x)/\aH a b f) a c (G (c0.finish (.bool true)) []) b
def MO(fn n r:Nat)(V:Nat->Prop)(w:H)(V' a:Nat->Prop)(g':QP)(w':H):Prop:=
 ∃c0,g'=G (Kf.enter Hb 8 #[] .normal) [c0]/\cr V' a w'/\(∀x,V x->V' x)/\aH V w w'/\Ie fn n r c0
def QB(hF:Hb.funcs[fn]?=Y F)(t:F.results= #[.tmp r])(A:r<n)(y:2≠fn){post:M->H->Prop}{J:Gh}{w:H}{fr:Kf}(o:Main J w)
  (walk:WalkE Hb true (MO fn n r (J.V 0) w) (J.V 0) (J.O 0) (G fr []) w)
  (v:∀w',aH (J.V 0) w w'->post (.bool true) w'):aQ fI Hb post (G fr []) J w:=by
 refine aQ.walk walk (λ_=>dq) (λ_=>dq) (λi P S V σ1 a d s hk=>?_);obtain⟨c0,rfl,l,e,B,m⟩:=a;have p:=l.main o hk d s;obtain rfl:i=σ1.V 0:=funext λb=>propext (d b).symm;refine Rj p λσ2 O q L C=>?_;refine aQ.walk (m (σ2.V 0) (σ2.O 0) O) (λ_=>dq) (λ_=>dq) (λR Q T W Z a u U z=>?_);obtain⟨⟨f,k,rfl,j⟩,N,E⟩:=a;refine aQ.Zi (z.md.tn q.idle.md) λh K=>⟨_,Tx hF t A y j h,v h ?_⟩;have g:∀x,J.V 0 x->σ2.V 0 x:=λx c=>L x (e x c);exact((B.tn (C.mono e)).tn (E.mono g)).tn (K.mono λx c=>(u x).2 (N x (g x c)))
end
variable{y:ae}{t:Lk}{a c:Int}{z off kk:Nat}
theorem WalkE.pK{op:BinOp}{F:Int->Int->Bool}{t t':Lk}(r:Bool)(hF:TG op=Y F)(m:ops[i]?=Y o)(e:o.op=.binOp op t x y t')(g:(fa n f).eval x=.int .i64 a)(h:(fa n f).eval y=.int .i64 c)(p:F a c=r)(l:o.dst=Y d)(j:d<n)(q:Region.wanted o (aw ops (fa n f).tmps)=true)(hk:b.kind≠.early)
  (next:WalkE Hb main Stop V O (G (b.at (fa n (ah f d (.bool r))) (.inRegion ops rest::k)) cs) w):WalkE Hb main Stop V O (G (b.at (fa n f) (.inRegion ops (i::rest)::k)) cs) w:=
 WalkE.pv _ m l j q hk (λbj=>Sr e hF g h p ⟨rfl⟩) (λbj=>by
  unfold Hn;simp only[e,g,h];cases op<;>cases hF<;>simp[go_sem]) next
def WalkE.TN{a c:Bool}(r:Bool)(m:ops[i]?=Y o)(e:o.op=.binOp .neq 4 x y 4)(g:(fa n f).eval x=.bool a)(h:(fa n f).eval y=.bool c)(p:(a != c)=r)(l:o.dst=Y d)(j:d<n)(q:Region.wanted o (aw ops (fa n f).tmps)=true)(hk:b.kind≠.early)
  (next:WalkE F main Stop V O (G (b.at (fa n (ah f d (.bool r))) (.inRegion ops rest::k)) cs) w):WalkE F main Stop V O (G (b.at (fa n f) (.inRegion ops (i::rest)::k)) cs) w:=
 WalkE.pv _ m l j q hk (λbj=>Vh e g h p ⟨rfl⟩) (λbj=>by
  unfold Hn;simp only[e,g,h];cases a<;>cases c<;>rfl) next
theorem WalkE.Ur{s z g off kk:Nat}(a:(ZK s)[kk]?=Y z)(j:ops[i]?=Y o)(c:o.op=.fieldAddr s x kk)(e:(fa n f).eval x=.pointer (Y (g,off)))(p:o.dst=Y d)(m:d<n)(l:Region.wanted o (aw ops (fa n f).tmps)=true)(hk:b.kind≠.early)
  (next:WalkE F main Stop V O (G (b.at (fa n (ah f d (.pointer (Y (g,off+z))))) (.inRegion ops rest::k)) cs) w):WalkE F main Stop V O (G (b.at (fa n f) (.inRegion ops (i::rest)::k)) cs) w:=
 WalkE.pv _ j p m l hk (λbj=>TH c a e ⟨rfl⟩) (λbj=>by
  unfold Hn;simp only[c,e];clear c e j l next;unfold ZK at a;repeat' split at a
  .subst s;iterate 10 (rcases kk with _|kk; · cases a;simp[go_sem])
   cases a
  .subst s;iterate 3 (rcases kk with _|kk; · cases a;simp[go_sem])
   cases a
  .rename_i h;iterate 2 (rcases kk with _|kk; · cases a;rcases h with rfl|rfl|rfl|rfl|rfl<;>simp[go_sem])
   cases a
  .cases a) next
theorem WalkE.IA{A:Option Addr}{m c:Nat}(a:[24,27,28,29].contains t=true)(p:ops[i]?=Y o)(e:o.op=.call {callee:=.builtin .len,args:= #[x],argTypes:= #[t]})(h:(fa n f).eval x=.slice A m c)(g:o.type=3)(l:o.dst=Y d)(j:d<n)(q:Region.wanted o (aw ops (fa n f).tmps)=true)(hk:b.kind≠.early)
  (next:WalkE F main Stop V O (G (b.at (fa n (ah f d (.int .i64 m))) (.inRegion ops rest::k)) cs) w):WalkE F main Stop V O (G (b.at (fa n f) (.inRegion ops (i::rest)::k)) cs) w:=
 WalkE.pv _ p l j q hk (λbj=>SF e a g h ⟨rfl⟩) (λbj=>by
  unfold Hn;simp only[e,ab,zM,h,g];simp at a;rcases a with rfl|rfl|rfl|rfl<;>simp[go_sem]) next
theorem WalkE.Yn(p:ops[i]?=Y o)(e:o.op=.binOp .sub 3 x y 3)(g:(fa n f).eval x=.int .i64 a)(j:(fa n f).eval y=.int .i64 c)(h:Sm (a-c))(m:o.dst=Y d)(l:d<n)(q:Region.wanted o (aw ops (fa n f).tmps)=true)(hk:b.kind≠.early)
  (next:WalkE F main Stop V O (G (b.at (fa n (ah f d (.int .i64 (a-c)))) (.inRegion ops rest::k)) cs) w):WalkE F main Stop V O (G (b.at (fa n f) (.inRegion ops (i::rest)::k)) cs) w:=
 WalkE.pv _ p m l q hk (λbj=>AW e g j h ⟨rfl⟩) (λbj=>by
  unfold Hn;simp only[e,g,j];simp[go_sem]) next
theorem WalkE.Z6{t g off m cp kk z:Nat}(a:ZL t=Y z)(p:ops[i]?=Y o)(e:o.op=.indexAddr t x y)(j:(fa n f).eval x=.slice (Y (g,off)) m cp)(l:(fa n f).eval y=.int .i64 kk)(c:kk<m)(s:o.dst=Y d)(r:d<n)(q:Region.wanted o (aw ops (fa n f).tmps)=true)(hk:b.kind≠.early)
  (next:WalkE F main Stop V O (G (b.at (fa n (ah f d (.pointer (Y (g,off+kk*z))))) (.inRegion ops rest::k)) cs) w):WalkE F main Stop V O (G (b.at (fa n f) (.inRegion ops (i::rest)::k)) cs) w:=
 WalkE.pv _ p s r q hk (λbj=>Vj e a j l c ⟨rfl⟩) (λbj=>by
  unfold Hn;simp only[e,j,l];clear e j l p q next;unfold ZL at a;split at a
  .rename_i h;cases a;rcases h with rfl|rfl<;>simp[go_sem,c]
  .split at a
   .rename_i h;cases a;subst h;simp[go_sem,c]
   .cases a) next
theorem WalkE.VB(l:ops[i]?=Y o)(c:o.op=.convert 5 3 x)(e:(fa n f).eval x=.int .u8 a)(h:0<=a/\a<=255)(j:o.dst=Y d)(g:d<n)(m:Region.wanted o (aw ops (fa n f).tmps)=true)(hk:b.kind≠.early)
  (next:WalkE F main Stop V O (G (b.at (fa n (ah f d (.int .i64 a))) (.inRegion ops rest::k)) cs) w):WalkE F main Stop V O (G (b.at (fa n f) (.inRegion ops (i::rest)::k)) cs) w:=
 WalkE.pv _ l j g m hk (λbj=>by
  unfold Hn;simp only[c,e];go_simp;rw[Go.IntWalk.i64_in _ zz]) (λbj=>by
  unfold Hn;simp only[c,e];simp[go_sem]) next
theorem WalkE.Yo(p:ops[i]?=Y o)(e:o.op=.binOp .rem 3 x y 3)(g:(fa n f).eval x=.int .i64 a)(h:(fa n f).eval y=.int .i64 c)(j:0<=a/\a<=1000)(hc:0<c/\c<=1000)(m:o.dst=Y d)(l:d<n)(q:Region.wanted o (aw ops (fa n f).tmps)=true)(hk:b.kind≠.early)
  (next:WalkE F main Stop V O (G (b.at (fa n (ah f d (.int .i64 (a%c)))) (.inRegion ops rest::k)) cs) w):WalkE F main Stop V O (G (b.at (fa n f) (.inRegion ops (i::rest)::k)) cs) w:=
 WalkE.pv _ p m l q hk (λbj=>by
  unfold Hn;simp only[e,g,h];go_simp;rw[cd zz,Int.tmod_eq_emod_of_nonneg j.1]) (λbj=>by
  unfold Hn;simp only[e,g,h];simp[go_sem]) next
def bx:Ly:=match Tryz.f5.body with|some c=>c|_=>.skip
def VC:Array Kp:=match bx with|.seq (.region _ ops _) _=>ops|_=> #[]
def Us:Array Kp:=match bx with|.seq _ (.seq (.seq (.region _ ops _) _) _)=>ops|_=> #[]
def JH:Array Kp:=match bx with|.seq _ (.seq (.seq _ (.cond _ (.seq (.region _ ops _) _) _)) _)=>ops|_=> #[]
def Ut:Array Kp:=match bx with|.seq _ (.seq _ (.seq (.region _ ops _) _))=>ops|_=> #[]
def Uu:Array Kp:=match bx with|.seq _ (.seq _ (.seq _ (.seq (.region _ ops _) _)))=>ops|_=> #[]
def Uv:Array Kp:=match bx with|.seq _ (.seq _ (.seq _ (.seq _ (.seq (.seq (.region _ ops _) _) _))))=>ops|_=> #[]
def Xq:Array Kp:=match bx with|.seq _ (.seq _ (.seq _ (.seq _ (.seq (.seq _ (.cond _ (.seq (.region _ ops _) _) _)) _))))=>ops|_=> #[]
def Uw:Array Kp:=match bx with|.seq _ (.seq _ (.seq _ (.seq _ (.seq _ (.seq (.seq (.region _ ops _) _) _)))))=>ops|_=> #[]
def Xr:Array Kp:=match bx with|.seq _ (.seq _ (.seq _ (.seq _ (.seq _ (.seq (.seq _ (.cond _ (.seq (.region _ ops _) _) _)) _)))))=>ops|_=> #[]
def Ux:Array Kp:=match bx with|.seq _ (.seq _ (.seq _ (.seq _ (.seq _ (.seq _ (.seq (.seq (.region _ ops _) _) _))))))=>ops|_=> #[]
def E7:Array Kp:=match bx with|.seq _ (.seq _ (.seq _ (.seq _ (.seq _ (.seq _ (.seq (.seq _ (.cond _ (.seq (.region _ ops _) _) _)) _))))))=>ops|_=> #[]
def Rm:Array Kp:=match bx with|.seq _ (.seq _ (.seq _ (.seq _ (.seq _ (.seq _ (.seq _ (.seq (.region _ ops _) _)))))))=>ops|_=> #[]
def Rn:Array Kp:=match bx with|.seq _ (.seq _ (.seq _ (.seq _ (.seq _ (.seq _ (.seq _ (.seq _ (.seq (.region _ ops _) _))))))))=>ops|_=> #[]
def Ro:Array Kp:=match bx with|.seq _ (.seq _ (.seq _ (.seq _ (.seq _ (.seq _ (.seq _ (.seq _ (.seq _ (.seq (.seq (.region _ ops _) _) _)))))))))=>ops|_=> #[]
def Vv:Array Kp:=match bx with|.seq _ (.seq _ (.seq _ (.seq _ (.seq _ (.seq _ (.seq _ (.seq _ (.seq _ (.seq (.seq _ (.cond _ (.seq (.region _ ops _) _) _)) _)))))))))=>ops|_=> #[]
def r7:Array Kp:=match bx with|.seq _ (.seq _ (.seq _ (.seq _ (.seq _ (.seq _ (.seq _ (.seq _ (.seq _ (.seq _ (.seq (.region _ ops _) _))))))))))=>ops|_=> #[]
variable{b:aC}{N:Nat}{K:List Item}{eye:Int}
def aaj:∀(E:List (Int×Int)) (uB:Int),qG (bX N b) uB E=qG b uB E
 | [],_=>rfl
 | e::r,uB=>by rw[qG,qG];exact aaj r _
def aak{l:bN}:ve (bX N b) l=ve b l:=by
 unfold ve;rw[aaj];rfl
def lS(b:aC)(eye:Int):Array M:= #[b.v,.int .u8 eye]
def qR(b:aC)(eye:Int):Nat->M:=λi=>(lS b eye).getD i D
def Vw(b:aC)(eye:Int):Kf.enter F 5 (lS b eye) .normal=(bs .normal 5).at (fa 174 (qR b eye)) [.code bx]:=by
 rw[enter_at (c:=bx) (lS b eye) Tryz.func5 rfl];have:lS b eye++Array.replicate (Tryz.f5.ntmps-(lS b eye).size) D=(Array.range 174).map (qR b eye):=iu (A:=lS b eye) (k:=172) (n:=174) rfl;rw[this];rfl
def VA:Ly:=match bx with|.seq _ (.seq _ r)=>r|_=>.skip
def EP:bx=.seq (.region 0 VC false) (.seq (.seq (.region 1 Us false) (.cond (.tmp 16) (.seq (.region 2 JH false) .ret) .skip)) VA):=rfl
def Qv{l:bN}:ay (bX N b) l=ay b l:=rfl
def Qw:mX (bX N b)=mX b:=rfl
def TT(L:cr V O w)(s:Um V w b)(P:mX b=false->∃l,qS V w b l)
  (E:∀f' bj c h,cr c h bj->dU V O w c h bj->WalkE F main Stop c h (G (Kf.enter F 8 #[] .normal) ((bs .normal 5).at (fa 174 f') (.inRegion JH [0,1]::[.code .ret,.code VA])::cs)) bj)
  (K:∀l,mX b=false->ay b l=0->∀f' bj c h g,qS c bj b l->Fg c h bj g b->dU V O w c h bj->f' 1=.int .u8 eye->f' 2=.pointer (Y (g,0))->WalkE F main Stop c h (G ((bs .normal 5).at (fa 174 f') [.code VA]) cs) bj):
  WalkE F main Stop V O (G (Kf.enter F 5 (lS b eye) .normal) cs) w:=by
 have hk:(bs .normal 5).kind≠.early:=by simp[bs]
 rw[Vw,EP];refine WalkE.seq (WalkE.reg (l:=[0,1]) rfl ?_);refine cr.XN (d:=2) (t:=0) (bk:=b) L zz rfl rfl rfl rfl zz rfl hk λo B z g k n=>?_;have s:=s.mono n.vv n.rely.keep;refine WalkE.av (d:=4) (.bool false) rfl (.inr rfl) rfl rfl zz wnn hk (WalkE.aT ?_);have e1:ah (ah (qR b eye) 2 (.pointer (Y (g,0)))) 4 (.bool false) 1=.int .u8 eye:=rfl;have p:ah (ah (qR b eye) 2 (.pointer (Y (g,0)))) 4 (.bool false) 2=.pointer (Y (g,0)):=rfl;generalize ah (ah (qR b eye) 2 (.pointer (Y ⟨g,0,I⟩))) 4 (.bool false)=J at e1 p|-;refine WalkE.seq (WalkE.seq (WalkE.reg (l:=[0,1,2]) rfl ?_));refine WalkE.dV (d:=14) k.box k.gV rfl rfl (ft p) rfl zz rfl hk ?_;have x:∀(q:Bool) bj c h,cr c h bj->dU B z o c h bj->(q=true->∃l,mX b=false/\ay b l=0/\qS c bj b l)->WalkE F main Stop c h (G ((bs .normal 5).at (fa 174 (ah (ah J 14 b.v) 15 (.bool q))) (.inRegion Us [2]::[.code (.cond (.tmp 16) (.seq (.region 2 JH false) .ret) .skip),.code VA])) cs) bj:=by
  intro q bj c h N i m;refine WalkE.BS (d:=16) (a:=q) (!q) rfl rfl (ft rfl) rfl rfl zz wnn hk (WalkE.aT ?_);have u:=n.tn i;refine WalkE.cond (t:= !q) (ft rfl) ?_;cases q
  .rw[dE (by rfl)];refine WalkE.seq (WalkE.reg (l:=[0,1]) rfl ?_);refine WalkE.enter (f:=8) (args:= #[]) rfl wnn hk (λbj=>(kJ (fn:=8) (args:= #[]) rfl ss rfl λ_=>⟨rfl,rfl⟩).1) (λbj=>(kJ (fn:=8) (args:= #[]) rfl ss rfl λ_=>⟨rfl,rfl⟩).2) ?_;exact E _ _ _ _ N u
  .rw[cd ss];obtain⟨l,j,hc,hi⟩:=m rfl;exact WalkE.skip (K l j hc _ _ _ _ g hi (k.bH i) u (nt (nt (nt e1))) (nt (nt (nt p))))
 cases j:mX b
 .obtain⟨l,hi⟩:=P j;have hi:=hi.bH n;refine cr.qL (d:=15) (fn:=22) (args:= #[(bX o.heap.size b).v]) (eQ:= #[b.v]) (v:=.bool (ay b l==0)) k.co hi rfl rfl (mY (ft rfl)) rfl zz wnn hk (λ_=>⟨rfl,rfl⟩) rfl rfl (λe0 hB=>vg (by exact hi.RH)) (dQ _) (λe0 hB y=>(Qu (bX o.heap.size b) l _ (Qw.tn j) (hi.lone (e0:=e0) y o.drawn).1).mono λe W q=>by rw[Qv]at q;exact q.1) λQ C A r i=>x _ _ _ _ r i λm=>⟨l,j,by simpa using m,hi.bH i⟩
 .exact cr.jZ (d:=15) (fn:=22) (args:= #[b.v]) (v:=.bool false) k.co rfl rfl (mY (ft rfl)) rfl zz wnn hk (λ_=>⟨rfl,rfl⟩) rfl rfl (λe0 hB=>jy (by exact s.vr)) (dQ _) (λe0 y=>(Qt b _ j).mono λe W q=>q.1) λQ C A r i=>x _ _ _ _ r i λm=>by cases m
def Yp(d:Fg V O w g b)(hin:qS V w b l)(e2:f 2=(g,0))
  (next:∀f' bj j k,dU V O w j k bj->(∀i,(decide (i<14) && !([5,6]).contains i)=true->f' i=f i)->f' 5=.int .i64 (ve b l).1->f' 6=.int .i64 (ve b l).2->WalkE F main Stop j k (G ((bs .normal 5).at (fa 174 f') K) cs) bj):
  WalkE F main Stop V O (G ((bs .normal 5).at (fa 174 f) (.code (.region 3 Ut false)::K)) cs) w:=by
 have ø:=0;exact xbJ
def Yq(d:Fg V O w g b)(hin:qS V w b l)(e2:f 2=(g,0))
  (next:∀f' bj j k,dU V O w j k bj->(∀i,(decide (i<14) && !([7,8,9]).contains i)=true->f' i=f i)->∀y,dK j bj y (AU b l).1->f' 7=y->f' 8=.int .i64 (AU b l).2.1->f' 9=.int .i64 (AU b l).2.2->WalkE F main Stop j k (G ((bs .normal 5).at (fa 174 f') K) cs) bj):
  WalkE F main Stop V O (G ((bs .normal 5).at (fa 174 f) (.code (.region 4 Uu false)::K)) cs) w:=by
 have å:=0;exact xbJ
def Xu(d:Fg V O w g b)(hin:qS V w b l)(e1:f 10=eye)(e2:f 2=(g,0))
  (next:∀f' bj j k,dU V O w j k bj->(∀i,(decide (i<14) && !([11,12,13]).contains i)=true->f' i=f i)->f' 11=.bool (sv b l eye).1->f' 12=.bool (sv b l eye).2.1->f' 13=.int .i64 (sv b l eye).2.2->WalkE F main Stop j k (G ((bs .normal 5).at (fa 174 f') K) cs) bj):
  WalkE F main Stop V O (G ((bs .normal 5).at (fa 174 f) (.code (.region 12 Rn false)::K)) cs) w:=by
 have æ:=0;exact xbJ
theorem Ov:OneCell F 28:=λw ad v h=>⟨by go_simp,by simp[go_sem,h]⟩
def Yr(d:Fg V O w g b)(e:f 2=(g,0))
  (next:∀f',(∀i,i<14->f' i=f i)->f' 101=.bool ((b.E.n:Int)==0)->WalkE F main Stop V O (G ((bs .normal 5).at (fa 174 f') K) cs) w):
  WalkE F main Stop V O (G ((bs .normal 5).at (fa 174 f) (.code (.region 9 Ux false)::K)) cs) w:=by
 have ø:=0;exact xbK
def Xv(d:Fg V O w g b)(j:0<b.E.n/\b.E.n<=1000)(he:0<=eye/\eye<=255)(e1:f 1=.int .u8 eye)(e:f 2=(g,0))
  (next:∀f',(∀i,i<14->i≠10->f' i=f i)->f' 10=.int .i64 (eye%b.E.n)->WalkE F main Stop V O (G ((bs .normal 5).at (fa 174 f') K) cs) w):
  WalkE F main Stop V O (G ((bs .normal 5).at (fa 174 f) (.code (.region 11 Rm false)::K)) cs) w:=xbK
variable{x:Int}
section
variable{b:Kf}
def WalkE.Vx{x:ae}{g:Nat}{bk:aC}(h:∀(i:Nat) x,(wE bk)[i]?=Y x->w (g,i)=Y x)(l:V g)(r:ops[i]?=Y o)(s:o.op=.load 31 x)(y:(fa n f).eval x=.pointer (Y (g,0)))(q:o.dst=Y d)(m:d<n)(u:Region.wanted o (aw ops (fa n f).tmps)=true)(hk:b.kind≠.early)
  (next:WalkE F main Stop V O (G (b.at (fa n (ah f d bk.v)) (.inRegion ops rest::k)) cs) w):WalkE F main Stop V O (G (b.at (fa n f) (.inRegion ops (i::rest)::k)) cs) w:=by
 have å:=0;exact xbH
end
def Rq(b:aC)(l:bN)(x:Int):Bool:=(kL {b with cf:=x} l.E l.E.length).1.isEmpty&&(kL {b with cf:=x} l.E l.E.length).2 == -1
def J9(E:List (Int×Int)):∀k,kL {bX N b with cf:=x} E k=kL {b with cf:=x} E k
 | 0=>rfl
 | k+1=>by
  have h:kL {bX N b with cf:=x} E k=kL {b with cf:=x} E k:=J9 E k;unfold bX at h|-;simp only[kL,h];first|done|rfl
def P5{l:bN}:((kL {bX N b with cf:=x} l.E l.E.length).1.isEmpty&&(kL {bX N b with cf:=x} l.E l.E.length).2 == -1)=Rq b l x:=by
 rw[J9];rfl
section
variable{b:aC}
def Yt(d:Fg V O w g b)(hin:qS V w b l)(e2:f 2=(g,0))(T:f 5=x)(a8:0<=x/\x<=1000)(B:ay {b with cf:=x} l=0/\Rq b l x=true)(h1:0<x->ay {b with cf:=x-1} l=0/\Rq b l (x-1)=false)
  (next:∀f' bj j k,cr j k bj->dU V O w j k bj->(∀i,i<14->f' i=f i)->f' 97=.bool false->WalkE F main Stop j k (G ((bs .normal 5).at (fa 174 f') K) cs) bj):
  WalkE F main Stop V O (G ((bs .normal 5).at (fa 174 f) (.code (.region 7 Uw false)::K)) cs) w:=by
 have ï:=0;exact xbJ
end
variable{y:M}{L:List Int}{m:Int}{b:Kf}
def cr.yS(l:cr V O w)(A:dK V w y L)(z:L.length<=1000)(t:ops[i]?=Y o)(u:o.op=.call {callee:=.value (.func 25),args:=xs,argTypes:=ts})(q:xs.map (fa n f).eval= #[y,.int .i64 m])(s:o.dst=Y d)(r:d<n)(x:Region.wanted o (aw ops (fa n f).tmps)=true)(hk:b.kind≠.early)
  (next:∀bj a c,cr a c bj->dU V O w a c bj->WalkE F main Stop a c (G (b.at (fa n (ah f d (.bool (decide (m∈L))))) (.inRegion ops rest::k)) cs) bj):WalkE F main Stop V O (G (b.at (fa n f) (.inRegion ops (i::rest)::k)) cs) w:=by
 have ø:=0;exact xbF
def cr.M0(l:cr V O w)(A:dK V w y L)(z:L.length<=1000)(m1: -1000<=m)(m2:m<=1000)(t:ops[i]?=Y o)(u:o.op=.call {callee:=.value (.func 24),args:=xs,argTypes:=ts})(q:xs.map (fa n f).eval= #[y,.int .i64 m])(s:o.dst=Y d)(r:d<n)(x:Region.wanted o (aw ops (fa n f).tmps)=true)(hk:b.kind≠.early)
  (next:∀bj a c,cr a c bj->dU V O w a c bj->WalkE F main Stop a c (G (b.at (fa n (ah f d (.int .i64 (bS m I L)))) (.inRegion ops rest::k)) cs) bj):WalkE F main Stop V O (G (b.at (fa n f) (.inRegion ops (i::rest)::k)) cs) w:=xbF
variable{p q:Bool}
def XK(J:cr V O w)(t:dK V w y L)(hL:L.length<=1000)(U:f 7=y)(a2:f 10=m)(a3:f 11=p)(a4:f 12=q)(a5:f 13=(0:Int))(h:decide (m∈L)=(p||q))
  (next:∀f' bj j k,cr j k bj->dU V O w j k bj->(∀i,i<14->f' i=f i)->f' 131=.bool false->WalkE F main Stop j k (G ((bs .normal 5).at (fa 174 f') K) cs) bj):
  WalkE F main Stop V O (G ((bs .normal 5).at (fa 174 f) (.code (.region 13 Ro false)::K)) cs) w:=by
 have ë:=0;exact xbJ
variable{b:aC}{A:Option Addr}{c:Nat}{lo:Int}
def Zq(d:Fg V O w g b)(t:dK V w (.slice A L.length c) L)(hL:L.length<=1000)(a7:b.E.n<=1000)(e2:f 2=(g,0))(T:f 5=x)(e6:f 6=(0:Int))(U:f 7=.slice A L.length c)(a6:f 8=lo)(e9:f 9=(0:Int))
  (hF:ax x 0 b.rf=true)(hcf:decide (b.cf<x)=decide (0<(L.length:Int)))(hCl:bS b.E.n I L=0)(hlo:((L.length:Int)==0)=decide (lo<0))(hmem:0<=lo->lo∈L)(h1: -1<=lo)
  (next:∀f' bj j k,cr j k bj->dU V O w j k bj->(∀i,i<14->f' i=f i)->f' 83=.bool false->WalkE F main Stop j k (G ((bs .normal 5).at (fa 174 f') K) cs) bj):
  WalkE F main Stop V O (G ((bs .normal 5).at (fa 174 f) (.code (.region 5 Uv false)::K)) cs) w:=xbJ
def XL(a:f 5=(0:Int))
  (next:∀f',f' 104=.bool true->WalkE F main Stop V O (G (Kf.enter F 8 #[] .normal) ((bs .normal 5).at (fa 174 f') (.inRegion E7 [3,4,5]::K)::cs)) w):
  WalkE F main Stop V O (G ((bs .normal 5).at (fa 174 f) (.code (.region 10 E7 false)::K)) cs) w:=by
 have hk:(bs .normal 5).kind≠.early:=by simp[bs]
 refine WalkE.reg (l:=[0,1,2,3,4,5]) rfl ?_;refine wss ?_;refine WalkE.enter (f:=8) (args:= #[]) rfl (az rfl rfl zz rfl) hk (λbj=>(kJ (fn:=8) (args:= #[]) rfl ss rfl λ_=>⟨rfl,rfl⟩).1) (λbj=>(kJ (fn:=8) (args:= #[]) rfl ss rfl λ_=>⟨rfl,rfl⟩).2) ?_;exact next _ rfl
section
variable{p:Prop}
def M1(y sl:M)(g ge offE m k:Nat)(hk a:Int)(p c:Bool):List M:=
 let z:=λ(k:Nat) (hk:Int)=>[.pointer (Y (g,0+11)),sl,.int .i64 k,.pointer (Y (ge,offE+k*2)),.pointer (Y (ge,offE+k*2+1)),.int .i64 hk]
 [y,.int .i64 m,.bool p,.bool (!p),.bool (!p)]++(if p=true then z k hk++z m a++[.bool true,.bool true]++z k hk++z m a++[.bool c,.bool c]++(if c=true then[D,D,D]else[.int .i64 k,.int .i64 m,.bool true])++[.bool true,.bool true]else List.replicate 33 D)++[.bool true,.bool true]
def Vy{n:Nat}{f:Nat->M}{ops:Array Kp}{o:Kp}{j g:Nat}{t:Bool}(b:o.guard=Y (j,t))(c:(ops[j]?).bind (·.dst)=Y g)(d:g<n)(a:f g=D):Region.wanted o (aw ops (fa n f).tmps)=false:=by
 unfold Region.wanted aw;rw[b];dsimp only;rw[c];simp only[Option.bind_some,ej d,a];rfl
def nc{p:Nat->Prop}(a:p 0)(h:∀i,p (i+1)):∀i,p i
 | 0=>a
 | i+1=>h i
def zd[Decidable p](h:p:=by decide +kernel):p:=h
def vh(h:p:=by exact ft (hv _ zd)):p:=h
def wh(h:p:=by first|exact bY rfl|exact az rfl rfl zz (hv _ zd)):p:=h
def lR(h:p:=by intro hi f' b c bj rest a d e hv next;exact WalkE.E8 rfl rfl zz (by first|exact eC rfl rfl zz (hv _ zd)|exact Vy rfl rfl zz (hv _ zd)) (next _ _ _ a a.refl)):p:=h
def Cf(h:p:=by intro hi f' c d bj rest b e a hv next;exact WalkE.av _ rfl (.inl rfl) (by first|exact vh|exact ft ((a _ zz).tn e7)|exact ft ((a _ zz).tn e10)|exact ft ((a _ zz).tn e8)) rfl zz wh hk (next _ _ _ b b.refl)):p:=h
def MN(h:p:=by intro hi f' c d bj rest a e b hv next;exact WalkE.Ur rfl rfl rfl (by first|exact vh|exact ft ((b _ zz).tn e2)) rfl zz wh hk (next _ _ _ a a.refl)):p:=h
def Uy(h:p:=by intro hi f' b c bj rest a d e hv next;exact WalkE.Z6 rfl rfl rfl vh vh zz rfl zz wh hk (next _ _ _ a a.refl)):p:=h
def UC(h:p:=by intro hi f' c d bj rest a b e hv next;exact WalkE.pJ _ _ Ov rfl rfl vh (hb.bH b).gV (hbx _ _ _ b) rfl zz wh hk (next _ _ _ a a.refl)):p:=h
def Vu(h:p:=by intro hi f' c d bj rest a b e hv next;exact WalkE.pJ _ _ aa9 rfl rfl vh (b.vv _ hV) (bu b.rely hV (hE _ zz)) rfl zz wh hk (next _ _ _ a a.refl)):p:=h
def XY(h:p:=by intro hi f' b c bj rest a d e hv next;exact WalkE.pK _ rfl rfl rfl vh vh (by first|exact h4|exact decide_eq_true zz) rfl zz wh hk (next _ _ _ a a.refl)):p:=h
def Yl(h:p:=by intro hi f' c d bj rest b e f hv next;exact WalkE.cj (a:=true) _ rfl rfl vh ((dE rfl).tn (by first|exact vh|rfl)) rfl zz wh hk (next _ _ _ b b.refl)):p:=h
def ZF(h:p:=by intro hi f' c d bj rest b e f hv next;exact WalkE.cj (a:=false) _ rfl rfl vh ((cd Bool.false_ne_true).tn vh) rfl zz wh hk (next _ _ _ b b.refl)):p:=h
def ZH(h:p:=by intro hi f' b c bj rest a d e hv next;exact WalkE.BS _ rfl rfl vh rfl rfl zz wh hk (next _ _ _ a a.refl)):p:=h
def ZJ(h:p:=by intro hi f' g i bj rest b d k hv next;exact cr.yS b (hy.bH d) hL rfl rfl (oh vh vh) rfl zz wnn hk λj f e c a=>by rw[hp];exact next _ _ _ c a):p:=h
section
variable{main:Bool}{Stop:(Nat->Prop)->(Nat->Prop)->QP->Cl->Prop}{V O:Nat->Prop}{w:Cl}{K:List Item}{cs:List Kf}{g:Nat}{b:aC}{y:M}{L:List Int}{lo:Int}{m ge offE:Nat}{H:Nat->Int}{f:Nat->M}
def Yi(hb:Fg V O w g b)(hy:dK V w y L)(hL:L.length<=1000)(e2:f 2=(g,0))(e7:f 7=y)(e8:f 8=lo)(e10:f 10=m)(A:m<b.E.n)
  (r:b.E.A=Y ⟨ge,offE,I⟩)(hV:V ge)(hE:∀k,k<b.E.n->w (ge,offE+k*2+1)=Y (.int .i64 (H k)))(t:(m:Int)∈L->∃k:Nat,lo=k/\k<b.E.n/\H k<=H m/\(H k<H m\/k<=m))
  (next:∀f' bj a d,cr a d bj->dU V O w a d bj->f' 171=.bool true->WalkE Hb main Stop a d (G (Kf.enter Hb 8 #[] .normal) ((bs .normal 5).at (fa 174 f') (.inRegion r7 [40,41,42]::K)::cs)) bj):
  WalkE Hb main Stop V O (G ((bs .normal 5).at (fa 174 f) (.code (.region 15 r7 true)::K)) cs) w:=by
 have hk:(bs .normal 5).kind≠.early:=by simp[bs]
 have hbx:∀a d bj,dU V O w a d bj->bj (g,0+11)=Y (.slice (Y (ge,offE)) b.E.n b.E.c):=λ_ _ _ e=>by rw[<- r];exact(hb.bH e).box 11 _ rfl
 obtain⟨k,u⟩:∃k:Nat,(m:Int)∈L->lo=k/\k<b.E.n/\H k<=H m/\(H k<H m\/k<=m):=if h:(m:Int)∈L then(t h).imp λk q _=>q else⟨0,λq=>dC q h⟩;obtain⟨c,h4⟩:∃c,decide (H k<H m)=c:=⟨_,rfl⟩;obtain⟨p,hp⟩:∃p,decide ((m:Int)∈L)=p:=⟨_,rfl⟩;have main:=λ(z:_->_) step (o:z 39=.bool true)=>QA (main:=main) (Stop:=Stop) (b:=bs .normal 5) (k:=K) (cs:=cs) (id:=15) (n:=174) (F:=f) (d0:=132) (T:=40) (tail:=[41,42]) (D:=jM .any r7) (val:=z) rfl zd zd zd zd zd hb.co step λf' a d bj s e B hv=>by
  have hv:f' 171=.bool true:=(hv 39 zz).tn o;refine WalkE.enter (f:=8) (args:= #[]) rfl (az rfl rfl zz hv) hk (λbj=>(kJ (fn:=8) (args:= #[]) rfl ss rfl λ_=>⟨rfl,rfl⟩).1) (λbj=>(kJ (fn:=8) (args:= #[]) rfl ss rfl λ_=>⟨rfl,rfl⟩).2) ?_;exact next f' _ _ _ s e hv
 refine main (λj=>(M1 y (.slice (Y ⟨ge,offE,I⟩) b.E.n b.E.c) g ge offE m k (H k) (H m) p c).getD j Hc) (nc Cf (nc Cf (nc ZJ (nc ZH (nc Cf (by
  cases p
  .exact(nc lR (nc lR (nc lR (nc lR (nc lR (nc lR (nc lR (nc lR (nc lR (nc lR (nc lR (nc lR (nc lR (nc lR (nc lR (nc lR (nc lR (nc lR (nc lR (nc lR (nc lR (nc lR (nc lR (nc lR (nc lR (nc lR (nc lR (nc lR (nc lR (nc lR (nc lR (nc lR (nc lR (nc Yl (nc Cf λi hi=>dC hi zz)))))))))))))))))))))))))))))))))))
  .obtain⟨rfl,v,h2,l⟩:=u (of_decide_eq_true hp);exact(nc MN (nc UC (nc Cf (nc Uy (nc MN (nc Vu (nc MN (nc UC (nc Cf (nc Uy (nc MN (nc Vu (nc XY (nc Cf (nc MN (nc UC (nc Cf (nc Uy (nc MN (nc Vu (nc MN (nc UC (nc Cf (nc Uy (nc MN (nc Vu (nc XY (nc Cf (by
    cases c
    .have x:=l.resolve_left (of_decide_eq_false h4);exact(nc Cf (nc Cf (nc XY (nc ZF (nc Yl (nc ZF (nc Cf λi hi=>dC hi zz)))))))
    .exact(nc lR (nc lR (nc lR (nc Yl (nc Yl (nc ZF (nc Cf λi hi=>dC hi zz)))))))))))))))))))))))))))))))))))))))))) (by cases p<;>cases c<;>rfl)
end
end
def Vz:VA=.seq (.region 3 Ut false) (.seq (.region 4 Uu false) (.seq (.seq (.region 5 Uv false) (.cond (.tmp 83) (.seq (.region 6 Xq false) .ret) .skip)) (.seq (.seq (.region 7 Uw false) (.cond (.tmp 97) (.seq (.region 8 Xr false) .ret) .skip)) (.seq (.seq (.region 9 Ux false) (.cond (.tmp 101) (.seq (.region 10 E7 false) .ret) .skip)) (.seq (.region 11 Rm false) (.seq (.region 12 Rn false) (.seq (.seq (.region 13 Ro false) (.cond (.tmp 131) (.seq (.region 14 Vv false) .ret) .skip)) (.seq (.region 15 r7 true) .ret)))))))):=rfl
def Up(f:Nat->M):Ie 5 174 4 ((bs .normal 5).at (fa 174 f) (.inRegion JH [0,1]::[.code .ret,.code VA])):=λc b e=>by
 have hk:(bs .normal 5).kind≠.early:=by simp[bs]
 rw[Kf.finish_at,show(JH[0]?).bind (·.dst)=Y 17 from rfl,cw zz];refine WalkE.av (d:=4) (.bool true) rfl (.inr rfl) (ft rfl) rfl zz wnn hk (WalkE.aT (WalkE.ret (WalkE.stop λg a=>⟨⟨_,_,rfl,rfl⟩,λ_=>id,a⟩)))
def RI(f:Nat->M)(h:f 104=true):Ie 5 174 4 ((bs .normal 5).at (fa 174 f) (.inRegion E7 [3,4,5]::.code .ret::K)):=λe c g=>by
 have hk:(bs .normal 5).kind≠.early:=by simp[bs]
 rw[Kf.finish_at,show(E7[3]?).bind (·.dst)=Y 105 from rfl,cw zz];refine WalkE.cj (d:=106) (a:=true) (.bool true) rfl rfl (ft h) ((dE rfl).tn (ft rfl)) rfl zz wnn hk ?_;refine WalkE.av (d:=4) (.bool true) rfl (.inr rfl) (ft rfl) rfl zz wnn hk (WalkE.aT (WalkE.ret (WalkE.stop λi b=>⟨⟨_,_,rfl,rfl⟩,λ_=>id,b⟩)))
def Tm(f:Nat->M)(h:f 171=true):Ie 5 174 4 ((bs .normal 5).at (fa 174 f) (.inRegion r7 [40,41,42]::.code .ret::K)):=λe c g=>by
 have hk:(bs .normal 5).kind≠.early:=by simp[bs]
 rw[Kf.finish_at,show(r7[40]?).bind (·.dst)=Y 172 from rfl,cw zz];refine WalkE.cj (d:=173) (a:=true) (.bool true) rfl rfl (ft h) ((dE rfl).tn (ft rfl)) rfl zz wnn hk ?_;refine WalkE.av (d:=4) (.bool true) rfl (.inr rfl) (ft rfl) rfl zz wnn hk (WalkE.aT (WalkE.ret (WalkE.stop λi b=>⟨⟨_,_,rfl,rfl⟩,λ_=>id,b⟩)))
def Qx{V:Nat->Prop}(hi:qS V w b l)(e:0<l.E.length):∃a c,b.E.A=Y ⟨a,c,I⟩/\V a/\∀k,k<b.E.n->w (a,c+k*2+1)=Y (.int .i64 (l.E.getD k (0,0)).2):=by
 obtain⟨g, -, -, f⟩:=hi.at_.E;obtain⟨a,c,d, -, hc⟩:=f e;exact⟨a,c,d,(hi.E _ d).2.1,λk hk=>(hc k zz).2⟩
def MM{x:Int}(f:ay b l=0)(a:0<=x):Rq b l x=decide (qG b 0 l.E<=x):=by
 obtain⟨j,e,h,i,g,d⟩:=Nj f;have c:=TP (b:=b) e d a;have h2:=TQ (b:= {b with cf:=x}) (E:=l.E);unfold Rq;rw[Bool.eq_iff_iff,ed,decide_eq_true_iff,List.isEmpty_iff,lj,h2,and_self,c]
def Tp{post:M->Cl->Prop}{J:Gh}{eye:Int}(d1:0<=eye/\eye<=255)(a9:Main J w)(d6:Um (J.V 0) w b)
  (d7:mX b=false->∃l,qS (J.V 0) w b l)
  (d4:∀w',aH (J.V 0) w w'->post (.bool true) w'):aQ fI F post (G (Kf.enter F 5 (lS b eye) .normal) []) J w:=by
 refine QB (n:=174) (r:=4) Tryz.func5 rfl zz zz a9 ?_ d4;refine TT a9.co d6 d7 (λf w1 V1 O1 b6 e=>WalkE.stop λw2 u=>⟨_,rfl,b6.rely u,e.vv,(e.step u).rely,Up f⟩) λl h7 hc f1 w1 V1 O1 g hi d e e1 a=>?_;obtain⟨e6,a',c',h6,g7,a8⟩:=Nj hc;have g8:b.E.n=l.E.length:=hi.at_.E.1;have h':b.rf<=30:=by
  obtain⟨-, a1, -, -,-⟩:=bP hc;obtain⟨c1,c2,c3,c4,c5,c6,c7,c8,c9⟩:=wL a1;omega
 obtain⟨R,b3⟩:=QF e6 a' a8;have e5:=JF c' a' a8;have e4:=MM hc R;have e3:=λh:0<qG b 0 l.E=>MM (x:=qG b 0 l.E-1) hc zz;have d3:ve b l=(qG b 0 l.E,0):=by unfold ve;rw[cd zz]
 have d2:AU b l=((kL b l.E l.E.length).1,(kL b l.E l.E.length).2,0):=by unfold AU;rw[cd zz]
 obtain⟨a0,d9,d'⟩:=E3 b l.E l.E.length;obtain⟨g0,b0,h3⟩:=JD b l.E l.E.length;have a1:=Ca (b:=b) (E:=l.E) (S:=b.E.n) l.E.length zz;have b1:∀i:Nat,i<l.E.length->_:=λi hi=>TS (b:=b) (E:=l.E) (m:=i) hi;have e9:l.E=[]->qG b 0 l.E=0:=λh=>by rw[h];rfl
 have h9:=λn=>ek b l.E n l.E.length;generalize g':qG b 0 l.E=x at*;generalize g9:(kL b l.E l.E.length).1=L at*;generalize h8:(kL b l.E l.E.length).2=lo at*;rw[(List.length_eq_zero_iff (l:=L)).symm]at e5 a0;rw[Vz];refine WalkE.seq (Yp d hi a λf2 w2 g1 e0 Z k3 j z=>?_);have d:=d.bH Z;have hi:qS _ _ b l:=uD.bH hi Z;have e:=e.tn Z;rw[d3]at j z;have a:=(k3 2 rfl).tn a;have e1:=(k3 1 rfl).tn e1;refine WalkE.seq (Yq d hi a λf3 w3 V3 O3 g4 V y p s o W=>?_);have d:=d.bH g4;have hi:qS _ _ b l:=uD.bH hi g4;have e:=e.tn g4;rw[d2]at p o W;have a:=(V 2 rfl).tn a;have e1:=(V 1 rfl).tn e1;have j:=(V 5 rfl).tn j;have z:=(V 6 rfl).tn z;dsimp only at j z p o W;obtain⟨A,c,rfl⟩:∃A c,y=.slice A L.length c:=⟨_,_,by
  have h:=p.sl zz;rw[h.2.1.1]at h;exact h.1⟩
 refine WalkE.seq (WalkE.seq (Zq d p zz zz a j z s o W (cq.2 ⟨R,b3⟩) ?_ a1 ?_ d9 b0 λf4 w4 V4 O4 g5 P B q=>?_))
 .rw[decide_eq_decide];omega
 .rw[Bool.eq_iff_iff,lj,decide_eq_true_iff];omega
 have d:=d.bH P;have hi:qS _ _ b l:=uD.bH hi P;have e:=e.tn P;have p:=p.bH P;have e1:=(B 1 zz).tn e1;have a:=(B 2 zz).tn a;have j:=(B 5 zz).tn j;have s:=(B 7 zz).tn s;have o:=(B 8 zz).tn o;refine WalkE.cond (t:=false) (ft q) ?_;rw[cd ss];refine WalkE.skip (WalkE.seq (WalkE.seq (Yt d hi a j ⟨R,zz⟩ ⟨JG hc R b3,by rw[e4];exact decide_eq_true zz⟩ (λh=>⟨JG hc zz zz,by rw[e3 h];exact decide_eq_false zz⟩) λf5 w5 V5 O5 b8 Q C q=>?_)));have d:=d.bH Q;have hi:qS _ _ b l:=uD.bH hi Q;have e:=e.tn Q;have p:=p.bH Q;have e1:=(C 1 zz).tn e1;have a:=(C 2 zz).tn a;have j:=(C 5 zz).tn j;have s:=(C 7 zz).tn s;have o:=(C 8 zz).tn o;refine WalkE.cond (t:=false) (ft q) ?_;rw[cd ss];refine WalkE.skip (WalkE.seq (WalkE.seq (Yr d a λf6 K q=>?_)));have e1:=(K 1 zz).tn e1;have a:=(K 2 zz).tn a;have j:=(K 5 zz).tn j;have s:=(K 7 zz).tn s;have o:=(K 8 zz).tn o;refine WalkE.cond (ft q) ?_;by_cases h0:l.E.length=0
 .rw[dE so];rw[e9 (List.length_eq_zero_iff.1 h0)]at j;exact WalkE.seq (XL j λf7 q=>WalkE.stop λw7 u=>⟨_,rfl,b8.rely u,e.vv,(e.step u).rely,RI f7 q⟩)
 .rw[cd so];refine WalkE.skip (WalkE.seq (Xv d zz d1 e1 a λf7 a3 v=>?_));obtain⟨m,d0,a2⟩:∃m:Nat,eye%b.E.n=m/\m<l.E.length:=by
   have h1:=Int.emod_nonneg eye (b:=b.E.n) zz;have h2:=Int.emod_lt_of_pos eye (b:=b.E.n) zz;exact⟨(eye%b.E.n).toNat,zz,zz⟩
  rw[d0]at v;have a:=(a3 2 zz zz).tn a;have s:=(a3 7 zz zz).tn s;have o:=(a3 8 zz zz).tn o;have d5:sv b l m=(jC b (l.E.getD m (0,0)) (-1),jC b (l.E.getD m (0,0)) 1,0):=by
   unfold sv;rw[cd zz,cd (by rw[Bool.not_eq_false,cq];omega)];rfl
  refine WalkE.seq (Xu d hi v a λf8 w8 V8 O8 N T a4 a5 a6=>?_);rw[d5]at a4 a5 a6;have d:=d.bH N;have hi:qS _ _ b l:=uD.bH hi N;have e:=e.tn N;have p:=p.bH N;have a:=(T 2 rfl).tn a;have s:=(T 7 rfl).tn s;have o:=(T 8 rfl).tn o;have v:=(T 10 rfl).tn v;refine WalkE.seq (WalkE.seq (XK d.co p zz s v a4 a5 a6 (b1 m a2) λf9 w9 V9 O9 g6 O U q=>?_));have d:=d.bH O;have hi:qS _ _ b l:=uD.bH hi O;have e:=e.tn O;have p:=p.bH O;refine WalkE.cond (t:=false) (ft q) ?_;rw[cd ss];obtain⟨g3,i1,b5,b',b9⟩:=Qx hi zz;refine WalkE.skip (WalkE.seq (Yi (H:=λk=>(l.E.getD k (0,0)).2) d p zz ((U 2 zz).tn a) ((U 7 zz).tn s) ((U 8 zz).tn o) ((U 10 zz).tn v) zz b5 b' b9 (λh=>?_) λb4 i2 f0 e' b7 a7 q=>WalkE.stop λw7 u=>⟨_,rfl,b7.rely u,(e.tn a7).vv,((e.tn a7).step u).rely,Tm b4 q⟩));have h0:¬lo<0:=λd8=>by rw[List.length_eq_zero_iff.1 (a0.1 d8)]at h;cases h
  have b2:=b1 m a2;rw[decide_eq_true h]at b2;have h5:=d' m a2 b2.symm;exact⟨lo.toNat,zz,zz,h5.1,zz⟩
open Go.ChangeShapes Go.WideShapes Go.ChangeAt Go.Deep
section
variable{W:Cl}{t:Nat}
abbrev V0(W:Cl):Nat->Prop:=(Go.Co.start W).V 0
def tA{b:Nat}:V0 W b↔b<W.heap.size:=⟨λh=>h.2,λh=>⟨rfl,h⟩⟩
def mq{base t e:Nat}{v:M}(g:F.underlying t=Y (.slice e))(h:Cell.okWide F W .any base t v):∃s:Sl,v=.slice s.A s.n s.c/\Nk (V0 W) W s/\(s.A=I->s.n=0)/\s.n<=s.c:=by
 unfold Cell.okWide at h;rw[g]at h;unfold Cell.ok at h;rw[g]at h
 cases v with
 | slice A n c=>
  cases A with
  | none=>
   cases n with
   | zero=>
    cases c with
    | zero=>exact⟨⟨I,0,0⟩,rfl,(λa f=>(by cases f)),λ_=>rfl,dj _⟩
    | succ c=>simp at h
   | succ n=>simp at h
  | some a=>
   simp only at h;obtain⟨j, -, k⟩:=h;obtain⟨-, l,row,cells,b,-⟩:=k;refine⟨⟨Y a,n,c⟩,rfl,λi f=>?_,λe=>(by cases e),j⟩;obtain rfl:a=i:=jx f;unfold Cl.shape? at b
   cases d:W.heap[a.block]? with
   | none=>rw[d]at b;cases b
   | some o=>
    rw[d]at b
    cases o with
    | cells c e z=>exact⟨l,tA.2 (du.1 d).1,⟨c,e,z,d⟩,λh=>dC h (kq 0)⟩
    | _=>cases b
 | _=>simp at h
def Fh:Option M->Int
 | some (.int _ n)=>n
 | _=>0
def VW:Option M->Bool
 | some (.bool b)=>b
 | _=>false
def vl{s:Sl}{m:Nat}(i:Nk (V0 W) W s)(hc:∀a,s.A=Y a->∀j,j<m->∃v,W (a.block,a.off+j)=Y v/\jU v):jb (V0 W) W s m:=λa f=>by
 obtain⟨g,h2,⟨c,e,z,d⟩,-⟩:=i a f;refine⟨g,h2,c,e,z,d,λj k=>?_⟩;obtain⟨v,b,h⟩:=hc a f j k;unfold Cl.cell? at b;dsimp only at b;rw[d]at b;exact⟨v,b,h⟩
section
variable{H:Type}{enc:Lk×M->H}{W:Cl}{s:Sl}{fuel:Nat}{x:DataW H×List MemPlace}
abbrev TD(enc:Lk×M->H)(W:Cl)(fuel:Nat)(t:Lk)(cs:List M):Option (DataW H×List MemPlace):=DataW.trod enc F W 0 (λ_=>true) true fuel t cs
def xe{a:Addr}(h:a.spot=I)(i:Nat):a.add i=⟨a.block,a.off+i,I⟩:=by
 obtain⟨b,o,c⟩:=a;simp only at h;subst h;simp[Addr.add]
def Ka(g:Nk (V0 W) W s)(E:s.n<=s.c)(a5:s.n<=20)(h:TD enc W fuel 24 [.slice s.A s.n s.c]=Y x):∃l,aN W s l/\jb (V0 W) W s l.length:=by
 have æ:=0;exact pD
def Fi(hp:∀{fuel x},TD enc W fuel t [.slice s.A s.n s.c]=Y x->([M.slice s.A s.n s.c]=[.slice I 0 0])\/∃(a:Addr) (J r n:Nat) (K L:Nat->M) (S T:Nat->DataW H) (U V:Nat->List MemPlace),[M.slice s.A s.n s.c]=[.slice (Y a) J r]/\J<=r/\
   ∀i,i<r->W.cell? (a.add (i*2))=Y (K i)/\W.cell? (a.add (i*2+1))=Y (L i)/\TD enc W n 3 [K i]=Y (S i,U i)/\TD enc W n 3 [L i]=Y (T i,V i))
  (g:Nk (V0 W) W s)(E:s.n<=s.c)(a5:s.n<=20)(h:TD enc W fuel t [.slice s.A s.n s.c]=Y x):∃l,bp W s l/\jb (V0 W) W s (l.length*2):=by
 have ø:=0;exact pD
def Iy(k:Nk (V0 W) W s)(p:s.n<=s.c)(q:s.n<=20)(h:TD enc W fuel 27 [.slice s.A s.n s.c]=Y x):∃l,bp W s l/\jb (V0 W) W s (l.length*2):=
 Fi (t:=27) (λh=>by
  rcases open_slice_pairs Tryz.underlying27 Tryz.underlying100 kr rfl rfl kr kr h with⟨b,-⟩|⟨a,u,v,m,n,i,j,d,e,f,g,b, -, o, -, c, -, r⟩
  .exact .inl b
  .simp only[if_true]at c;subst c;exact .inr ⟨a,u,_,n,i,j,d,e,f,g,b,o,r⟩) k p q h
def Iz(k:Nk (V0 W) W s)(p:s.n<=s.c)(q:s.n<=20)(h:TD enc W fuel 28 [.slice s.A s.n s.c]=Y x):∃l,bp W s l/\jb (V0 W) W s (l.length*2):=
 Fi (t:=28) (λh=>by
  rcases open_slice_pairs Tryz.underlying28 Tryz.underlying55 kr rfl rfl kr kr h with⟨b,-⟩|⟨a,u,v,m,n,i,j,d,e,f,g,b, -, o, -, c, -, r⟩
  .exact .inl b
  .simp only[if_true]at c;subst c;exact .inr ⟨a,u,_,n,i,j,d,e,f,g,b,o,r⟩) k p q h
def Uz(g:Nk (V0 W) W s)(E:s.n<=s.c)(a5:s.n<=20)(h:TD enc W fuel 29 [.slice s.A s.n s.c]=Y x):∃l,fL W s l/\jb (V0 W) W s (l.length*3):=by
 have å:=0;exact pD
end
end
def UB:F.cellTypes F.depth 31=Y [3,3,3,3,3,24,3,3,3,3,27,28,29]:=xbI
def Ys:F.cellsOf 31=13:=xbI
def Kb:F.cellsOf 3=1:=xbI
def Yu:F.cellsOf 23=2:=xbI
def Yv:F.cellsOf 26=2:=xbI
def Rr:F.cellsOf 24=1:=xbI
def Yw:F.cellsOf 27=1:=xbI
def Yx:F.cellsOf 28=1:=xbI
def Yy:F.cellsOf 29=1:=xbI
section
variable{H:Type}{enc:Lk×M->H}{W:Cl}{base:Nat}{v:M}{d:DataW H}{p:List MemPlace}
def zv{t fuel:Nat}{f0 f1:Field}{c0 c1:M}{x:DataW H×List MemPlace}(g:F.underlying t=Y (.struct #[f0,f1]))(i:f0.offset=0)(j:f1.offset=1)(k:f0.type=3)(l:f1.type=3)(h:TD enc W fuel t [c0,c1]=Y x):∃a b:Int,c0=.int .i64 a/\c1=.int .i64 b:=by
 obtain⟨m,o,n, -, -, c,d⟩:=trod_struct2 g h;rw[i,k,Kb]at c;rw[j,l,Kb]at d;obtain⟨a,e, -,-⟩:=DataW.trod_int Tryz.underlying3 c;obtain⟨b,f, -,-⟩:=DataW.trod_int Tryz.underlying3 d;simp at e f;exact⟨a,b,e,f⟩
def M4(J:M.okWide F W .any base 31 v)(b3:DataW.Trod enc F W 0 (λ_=>true) true 31 v d p):∃b:aC,v=b.v/\Um (V0 W) W b/\(mX b=false->∃l,aI W b l/\jb (V0 W) W b.C l.C.length/\jb (V0 W) W b.U (l.U.length*2)/\jb (V0 W) W b.E (l.E.length*2)/\jb (V0 W) W b.W (l.W.length*3)):=by
 unfold M.okWide at J;rw[Tryz.underlying31]at J;obtain⟨⟨cs⟩,rfl,a9,b8,a', -, m⟩:=J;rw[Ys]at a9;rw[UB]at a';cases a'
 match cs,a9 with
 | [c0,a,c2,c3,c4,P,c,e,f,g,K,N,O],_=>
  obtain⟨fuel,h⟩:=b3;replace h:TD enc W fuel 31 [c0,a,c2,c3,c4,P,c,e,f,g,K,N,O]=Y (d,p):=h;obtain⟨xs,n, -, -, -, a0,j⟩:=DataW.trod_struct Tryz.underlying31 h;have get:∀i,i<10->∃y,xs[i]?=Y y:=λi hi=>⟨_,fg (by rw[a0];exact hi)⟩;obtain⟨u,k,hc⟩:=m 5 P rfl;cases k;obtain⟨C,rfl,a5, -, lC⟩:=mq Tryz.underlying24 hc;obtain⟨u,k,hc⟩:=m 10 K rfl;cases k;obtain⟨U,rfl,a7, -, b4⟩:=mq Tryz.underlying27 hc;obtain⟨u,k,hc⟩:=m 11 N rfl;cases k;obtain⟨E,rfl,a6, -, lE⟩:=mq Tryz.underlying28 hc;obtain⟨u,k,hc⟩:=m 12 O rfl;cases k;obtain⟨X,rfl,a8, -, b5⟩:=mq Tryz.underlying29 hc;clear m hc;have o:TD enc W n 3 ((List.drop 0 [c0,a,c2,c3,c4,.slice C.A C.n C.c,c,e,f,g,.slice U.A U.n U.c,.slice E.A E.n E.c,.slice X.A X.n X.c]).take (F.cellsOf 3))=xs[0]?:=j 0 _ rfl;have q:TD enc W n 3 ((List.drop 1 [c0,a,c2,c3,c4,.slice C.A C.n C.c,c,e,f,g,.slice U.A U.n U.c,.slice E.A E.n E.c,.slice X.A X.n X.c]).take (F.cellsOf 3))=xs[1]?:=j 1 _ rfl;have r:TD enc W n 3 ((List.drop 2 [c0,a,c2,c3,c4,.slice C.A C.n C.c,c,e,f,g,.slice U.A U.n U.c,.slice E.A E.n E.c,.slice X.A X.n X.c]).take (F.cellsOf 3))=xs[2]?:=j 2 _ rfl;have s:TD enc W n 23 ((List.drop 3 [c0,a,c2,c3,c4,.slice C.A C.n C.c,c,e,f,g,.slice U.A U.n U.c,.slice E.A E.n E.c,.slice X.A X.n X.c]).take (F.cellsOf 23))=xs[3]?:=j 3 _ rfl;have t:TD enc W n 24 ((List.drop 5 [c0,a,c2,c3,c4,.slice C.A C.n C.c,c,e,f,g,.slice U.A U.n U.c,.slice E.A E.n E.c,.slice X.A X.n X.c]).take (F.cellsOf 24))=xs[4]?:=j 4 _ rfl;have w:TD enc W n 26 ((List.drop 6 [c0,a,c2,c3,c4,.slice C.A C.n C.c,c,e,f,g,.slice U.A U.n U.c,.slice E.A E.n E.c,.slice X.A X.n X.c]).take (F.cellsOf 26))=xs[5]?:=j 5 _ rfl;have x:TD enc W n 26 ((List.drop 8 [c0,a,c2,c3,c4,.slice C.A C.n C.c,c,e,f,g,.slice U.A U.n U.c,.slice E.A E.n E.c,.slice X.A X.n X.c]).take (F.cellsOf 26))=xs[6]?:=j 6 _ rfl;have z:TD enc W n 27 ((List.drop 10 [c0,a,c2,c3,c4,.slice C.A C.n C.c,c,e,f,g,.slice U.A U.n U.c,.slice E.A E.n E.c,.slice X.A X.n X.c]).take (F.cellsOf 27))=xs[7]?:=j 7 _ rfl;have A:TD enc W n 28 ((List.drop 11 [c0,a,c2,c3,c4,.slice C.A C.n C.c,c,e,f,g,.slice U.A U.n U.c,.slice E.A E.n E.c,.slice X.A X.n X.c]).take (F.cellsOf 28))=xs[8]?:=j 8 _ rfl;have B:TD enc W n 29 ((List.drop 12 [c0,a,c2,c3,c4,.slice C.A C.n C.c,c,e,f,g,.slice U.A U.n U.c,.slice E.A E.n E.c,.slice X.A X.n X.c]).take (F.cellsOf 29))=xs[9]?:=j 9 _ rfl;clear j;simp only[Kb,Yu,Rr,Yv,Yw,Yx,Yy,List.drop_zero,List.drop_succ_cons,List.take_succ_cons,List.take_zero]at o q r s t w x z A B;obtain⟨y0,e0⟩:=get 0 zz;obtain⟨y1,e1⟩:=get 1 zz;obtain⟨y2,Q⟩:=get 2 zz;obtain⟨y3,R⟩:=get 3 zz;obtain⟨y4,T⟩:=get 4 zz;obtain⟨y5,V⟩:=get 5 zz;obtain⟨y6,Z⟩:=get 6 zz;obtain⟨y7,a3⟩:=get 7 zz;obtain⟨y8,a4⟩:=get 8 zz;obtain⟨y9,e9⟩:=get 9 zz;rw[e0]at o;rw[e1]at q;rw[Q]at r;rw[R]at s;rw[T]at t;rw[V]at w;rw[Z]at x;rw[a3]at z;rw[a4]at A;rw[e9]at B;clear get e0 e1 Q R T V Z a3 a4 e9 a0;obtain⟨S,q0, -,-⟩:=DataW.trod_int Tryz.underlying3 o;obtain⟨D,q1, -,-⟩:=DataW.trod_int Tryz.underlying3 q;obtain⟨L,q2, -,-⟩:=DataW.trod_int Tryz.underlying3 r;obtain⟨lo,hi,q3,q4⟩:=zv Tryz.underlying23 rfl rfl rfl rfl s;obtain⟨rf,rh,q6,q7⟩:=zv Tryz.underlying26 rfl rfl rfl rfl w;obtain⟨cf,ch,q8,q9⟩:=zv Tryz.underlying26 rfl rfl rfl rfl x;simp only[ll,and_true]at q0 q1 q2;subst q0 q1 q2 q3 q4 q6 q7 q8 q9;refine⟨⟨S,D,L,lo,hi,C,rf,rh,cf,ch,U,E,X⟩,rfl,⟨a5,a7,a6,a8⟩,λG=>?_⟩;unfold mX at G;simp only[Bool.or_eq_false_iff,decide_eq_false_iff_not]at G;obtain⟨⟨⟨n1,n2⟩,n3⟩,n4⟩:=G;obtain⟨b6,a1,a2⟩:=Ka a5 lC zz t;obtain⟨b7,b1,b2⟩:=Iy a7 b4 zz z;obtain⟨le,d1,d2⟩:=Iz a6 lE zz A;obtain⟨lx,f1,f2⟩:=Uz a8 b5 zz B;exact⟨⟨b6,b7,le,lx⟩,⟨a1,b1,d1,f1⟩,a2,b2,d2,f2⟩
end
abbrev zy:List (String×DataW Unit):=[("velarium/sail.checks", Rows.laid_velarium_sail_checks)]
def UD:F.globalNamed "velarium/sail.checks" = Y 0:=xbI
def UE:(F.globals[0]?).map (·.type)=Y 98:=xbI
def Yz:F.cellsOf 97=1:=xbI
def YA:F.cellsOf 98=5:=xbI
def UF{W:Cl}(h:laidMetH F zy W):aD W:=by
 obtain⟨g,t,cs,fuel,p,o,y,c,w⟩:=h.funcs (ib.2 rfl);obtain rfl:=jx (UD.symm.tn o);obtain rfl:=jx (UE.symm.tn y);obtain⟨xs,m, -, z,q,x,a⟩:=DataW.trod_array Tryz.underlying98 w;rw[YA]at q;obtain⟨l⟩:=cs
 match l,q,a,c with
 | [c0,S,c2,c3,c4],_,a,c=>
  have b:xs.map (·.1)=[.held [40,118,101,108,97,114,105,117,109,47,115,97,105,108,46,104,97,108,108,41,46,103,108,97,115,115],.held [40,118,101,108,97,114,105,117,109,47,115,97,105,108,46,104,97,108,108,41,46,99,108,111,116,104,115],.held [40,118,101,108,97,114,105,117,109,47,115,97,105,108,46,104,97,108,108,41,46,115,117,110,115],.held [40,118,101,108,97,114,105,117,109,47,115,97,105,108,46,104,97,108,108,41,46,101,121,101,115],.held [40,118,101,108,97,114,105,117,109,47,115,97,105,108,46,104,97,108,108,41,46,119,97,116,99,104,101,115]]:=by
   have:=eh Prod.fst z;injection this with h
   exact h.symm
  match xs,x,b,a with
  | [A,B,C,E,G],_,b,a=>
   simp only[zM,ll,and_true]at b;obtain⟨r,n1,s,u,v⟩:=b;have d:=a 0 zz;have e:=a 1 zz;have f:=a 2 zz;have j:=a 3 zz;have k:=a 4 zz;simp only[Yz,Nat.mul_one,List.drop_zero,List.drop_succ_cons,List.take_succ_cons,List.take_zero,zQ]at d e f j k;obtain⟨a0,b0⟩:=A;obtain⟨J,O⟩:=B;obtain⟨K,P⟩:=C;obtain⟨L,Q⟩:=E;obtain⟨N,R⟩:=G;simp only at r n1 s u v;subst r n1 s u v;obtain rfl:=func_of_trod (f0:=165) Tryz.underlying97 kr d;obtain rfl:=func_of_trod (f0:=166) Tryz.underlying97 kr e;obtain rfl:=func_of_trod (f0:=167) Tryz.underlying97 kr f;obtain rfl:=func_of_trod (f0:=168) Tryz.underlying97 kr j;obtain rfl:=func_of_trod (f0:=169) Tryz.underlying97 kr k;have hc:=λi=>Cl.var?_cell o c i;have n:W (0,0)=_:=hc 0;exact⟨wY n,n,hc 1,hc 2,hc 3,hc 4⟩
def UG(g:Nat)(h:TA.glob g=true):g=0:=Sd .skip g h
def UH{W:H}(h:aD W):Main (Go.Co.start W) W:=by
 have k:V0 W 0:=tA.2 h.1;obtain⟨c,e,z,hc⟩:∃c e z,W.heap[0]?=Y (.cells c e z):=by
  have b:=h.2.1;unfold H.cell? at b;dsimp only at b
  cases l:W.heap[0]? with
  | none=>rw[l]at b;simp at b
  | some o=>
   rw[l]at b
   cases o with
   | cells c e z=>exact⟨c,e,z,rfl⟩
   | _=>simp at b
 have g:∀(i:Nat) v,W (0,i)=Y v->c[i]?=Y v:=λi v a=>by
  unfold H.cell? at a;dsimp only at a;rw[hc]at a;exact a
 obtain⟨-, c0,n,p,q,r⟩:=id h;have y:=g _ _ c0;have A:=g _ _ n;have B:=g _ _ p;have C:=g _ _ q;have m:=g _ _ r;have d:∀{j f:Nat} {v:M},c[j]?=Y (.func (.func f) #[] #[])->c[j]?=Y v->TA.has f=true->TA.ret f=.val->Flat TA (V0 W) W v:=λb h2 s t=>by
  cases b.symm.tn h2;exact .inr (.inr (.inr ⟨_,rfl,s,t⟩))
 refine⟨⟨rfl,rfl,rfl,λx=>dq,λx w=>tA.1 w⟩,⟨h,k,c,e,z,hc,?_,λj v u a=>?_⟩,e,k,⟨c,z,hc⟩,UG⟩
 .have:=(du.1 m).1;omega
 .match j,u,a with
  | 0,_,a=>exact d y a rfl rfl
  | 1,_,a=>exact d A a rfl rfl
  | 2,_,a=>exact d B a rfl rfl
  | 3,_,a=>exact d C a rfl rfl
  | 4,_,a=>exact d m a rfl rfl
def aaP:ownKnob F.godebug=I:=xbI
def laidOut:laidOutB F=true:=xbI
def Rt(os:Os)(args:Array M):laidMetH F zy ((H.doorLaid F 100 os).forCall (λ_ _=>0) ⟨#[],args,[]⟩).memory:=
 laidMetH_of_parts3 (fuel:=8) (laidMet_of_run' 8 kr kr) kr kr
abbrev YB:aC:=⟨0,0,0,0,0,⟨I,0,0⟩,0,0,0,0,⟨I,0,0⟩,⟨I,0,0⟩,⟨I,0,0⟩⟩
def Ru{W w:H}(h:aH (V0 W) W w):X W W w:=⟨h.os,h.tape,h.output,h.size,λk hk=>h.keep k (tA.2 hk)⟩
variable{W:H}
def M3{post:M->H->Prop}{b:aC}{eye:Int}(c:0<=eye/\eye<=255)(a:aD W)(e:Um (V0 W) W b)
  (f:mX b=false->∃l,qS (V0 W) W b l)(d:∀w',aH (V0 W) W w'->post (.bool true) w'):
  ∃n last o w' t',runNT F (n+1) (solo (G (Kf.enter F 5 (lS b eye) .normal) []) W) #[]=(.ended o w',t')/\runN F n (solo (G (Kf.enter F 5 (lS b eye) .normal) []) W)=.next last/\step F last=.ended o w'/\Go.Conc.Good F post last o w' t':=
 LX (Q:=fI) ua (J:=Go.Co.start W) rfl (L0 W) rfl rfl (Tp c (UH a) e f d)
def Z5(os:Os)(H:Type)(enc:Lk×M->H):∃(w:Cl) (tape:Tape) (i:Input),w.os=os/\(w.forCall tape i).Shaped F/\i.vars=[]/\Input.okWide F (w.forCall tape i) .any w 5 i/\
   ((Rows.sailHidesSpec.pre enc F Tryz.f5 [] false (w.forCall tape i).memory i.args/\laidMetH F zy (w.forCall tape i).memory)/\sizedMet enc F Tryz.f5 (OpenSpec.ofChange Rows.sailHidesSpec) false (w.forCall tape i).memory i.args)/\({}:Assume).holds F (lone (Kf.enter F 5 i.args .normal) [] (w.forCall tape i)):=
 ChangeSpec.witness_shaped (enc:=enc) (C:=Tryz.checked) (os:=os) (X:=λw _=>laidMetH F zy w) false (Cl.doorLaid F 100 os) (lS YB 0) 8 rfl (Cl.shaped_of_RefB kr kr) kr kr kr (Rt os _)
def Yk{H:Type}{enc:Lk×M->H}{base:Nat}{args:Array M}{ds gs:List (DataW H)}{before:List MemPlace}
  (c:∀(j:Nat) t v,Tryz.f5.params[j]?=Y t->args[j]?=Y v->M.okWide F W .any base t v)
  (g:DataW.Whole enc F Tryz.f5.params.toList Rows.sailHidesSpec.vars false W args.toList ds gs before)(z:laidMetH F zy W):
  ∃n last o w' t',runNT F (n+1) (solo (G (Kf.enter F 5 args .normal) []) W) #[]=(.ended o w',t')/\runN F n (solo (G (Kf.enter F 5 args .normal) []) W)=.next last/\step F last=.ended o w'/\
   Go.Conc.Good F (λv m=>Rows.sailHidesSpec.post enc F Tryz.f5 false true false false W args v m) last o w' t':=by
 have i:=g;obtain⟨p,q,f,A,rfl, -,-⟩:=g;have e:DataW.TrodAll enc F W 0 (λ_=>true) true Tryz.f5.params.toList args.toList ds p:=f;rw[Tryz.params5]at e c;obtain⟨L,N,d0,O,k,P,rfl,rfl,rfl,d,y⟩:=trodAll_two e;obtain⟨rfl,rfl⟩:=trodVars_none A;obtain⟨b,rfl,C,B⟩:=M4 (c 0 31 L rfl rfl) d;obtain⟨h,rfl,rfl,rfl,wh⟩:=open_int Tryz.underlying5 (c 1 5 N rfl rfl) y;clear f;have J:∀x∈k++[]++[],x.block<W.heap.size:=λx a=>by
  refine i.lt x ?_;simp only[List.append_nil]at a|-;exact a
 refine M3 (by simp only[Lit.wf,ed,decide_eq_true_eq]at wh;exact wh) (UF z) C (λE=>?_) (λw' K=>?_)
 .obtain⟨l,e1,r,s,u,w⟩:=B E;exact⟨l,e1,B9 _,r,s,u,w,Gx _ _ _⟩
 .have hB:=Ru K;have a0:=X.trod laidOut kr (of_decide_eq_true kr) d hB (λx a=>J x (by simp[a]));refine⟨_,_,_,[],k++[],[],i,trodAll_mk1 (shut_bool Tryz.underlying4 _),trodAll_mk2 a0 (shut_int Tryz.underlying5 wh),rfl,hB.frame _,λh=>by cases h⟩
def Uq(os:Os)(n:os.Started)(H:Type)(enc:Lk×M->H):
  ReturnsInLeavingWide {} Tryz.checked os 5 .any (λw args=>(Rows.sailHidesSpec.pre enc F Tryz.f5 [] false w args/\laidMetH F zy w)/\sizedMet enc F Tryz.f5 (OpenSpec.ofChange Rows.sailHidesSpec) false w args)
   (Rows.sailHidesSpec.post enc F Tryz.f5 false true false false):=by
 refine returnsInLeavingWide_of_good (C:=Tryz.checked) aaP n (Z5 os H enc) ?_;intro w tape i _ _ _ hok hpre _;obtain⟨_,_,_,b,h,_,_,_,_,k⟩:=hok;obtain rfl:b=Tryz.f5:=jx (h.symm.tn Tryz.func5);obtain⟨⟨⟨ds,gs,p,l,hc⟩,f⟩,q⟩:=hpre;have m:=DataW.Whole.of_heap (w':=w.forCall tape i) (by rfl) l;have g:laidMetH F zy (w.forCall tape i):=laidMetH.of_heap (by rfl) f;obtain⟨a,last,o,w',t',c,h2,d,e⟩:=Yk k m g;exact⟨a,last,o,w',t',c,h2,d,e.mono λv j=>ChangeSpec.post_blind j⟩
open Go
def sailHides_holds:Rows.SailHidesSaid:=
 OpenClaim.holds_of_wide_leaving 5 Tryz.f5 rfl rfl rfl rfl rfl rfl rfl ⟨rfl,rfl,rfl,rfl,rfl⟩ rfl rfl rfl rfl rfl kr Tryz.func5 kr
  (of_decide_eq_true kr) (by unfold Func.isWrapper;first|(rw[dE (by decide +kernel)];kernel_rfl)|(rw[cd (by decide +kernel)];exact⟨rfl,rfl⟩))
  (λos a H enc _=>Uq os a H enc)
def sailHides_card:Rows.SailHidesCardSaid:=by
 have g:∀f fn,Tryz.pinned.checked.prog.funcNamed Rows.sailHidesRow.func=Y f->Tryz.pinned.checked.prog.funcs[f]?=Y fn->false=Tryz.pinned.checked.prog.looks []/\∀(j:Nat) t,fn.params[j]?=Y t->Tryz.pinned.checked.prog.wantsStandIn t=false:=λf fn c d=>by
  obtain rfl:f=5:=jx ((show F.funcNamed "velarium/velariumlaw05.SailHides" = Y 5 by kernel_rfl).symm.tn c) |>.symm;obtain rfl:fn=Tryz.f5:=(jx (Tryz.func5.symm.tn d)).symm;exact⟨by kernel_rfl,λj t a=>by
   rw[Tryz.params5]at a;have b:t=31\/t=5:=by
    rcases j with _|_|j
    .exact .inl (by simpa using a.symm)
    .exact .inr (by simpa using a.symm)
    .simp at a
   rcases b with rfl|rfl
   .exact(show F.wantsStandIn 31=false by kernel_rfl)
   .exact(show F.wantsStandIn 5=false by kernel_rfl)⟩
 have k:Rows.sailHidesRow.wfByText (OpenSpec.ofChange Rows.sailHidesSpec)=true:=by kernel_rfl
 have e:true=Rows.sailHidesRow.goesBy Tryz.pinned.checked.prog:=by kernel_rfl
 have i:Tryz.pinned.checked.prog.mainIs=Y (true, "7e8dca03d4ec6397f0c053951ad34d508ceb2857f2d23a6e02e229dc371baeec".toList):=by kernel_rfl
 exact⟨Claim7.tied_new_at .later [.funcs] true (Claim7.new_of_sixth sailHides_holds (true, "7e8dca03d4ec6397f0c053951ad34d508ceb2857f2d23a6e02e229dc371baeec") false rfl ⟨rfl,rfl⟩ i rfl g) k,(λ_ h=>by cases h),sailHides_row_tie,(λh=>by cases h),e⟩
end Go.Proofs.YtfcgpihkimpkcaaGreatDoor
