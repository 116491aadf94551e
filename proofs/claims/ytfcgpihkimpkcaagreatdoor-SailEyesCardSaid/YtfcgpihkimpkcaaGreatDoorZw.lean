/- SailEyes holds of the given program, for every book, state and hour. -/
import Derived.Test.YtfcgpihkimpkcaaGreatDoorZv
import Derived.Test.YtfcgpihkimpkcaaGreatDoorRows
import Derived.ProofKit
import Derived.LaidMore
import Derived.Conc.LeavingOf
import Derived.Deep.SlicePairs
import Derived.Deep.Slices
import Derived.Deep.Strs
import Derived.OpenShut
import Derived.Conc.Holds
import Derived.Stop.Joined
import Derived.Test.YtfcgpihkimpkcaaGreatDoorTie
import Derived.Test.YtfcgpihkimpkcaaGreatDoorCards
import Derived.SevenTiedAt
set_option maxRecDepth 100000
set_option maxHeartbeats 4000000
set_option linter.all false
noncomputable section
open Go renaming World->Cl,undef->D,World->H,execOp->Hn,Frame->Kf,Oper->Kp,TypeId->Lk,stepG->Lq,Code->Ly,Value->M,Calls->PH,Goroutine->QP,heap_alloc_new->Sp,Operand->ae,MemOp->al,yielded->aw,FuncId->ba,bodyPost_ret->bd
open Go.Proofs.Tryz renaming prog->F,prog->Hb
open Option renaming none->I,some->Y
open Go.RowKit renaming Below->X
namespace Go
def pD{p:Prop}(h:p:=by
 first|have _:=ø;(rcases hp h with c|⟨a,J,r,n,K,L,S,T,U,V,c,a3,G⟩)|have _:=å;(rcases open_slice Tryz.underlying29 h with⟨c,-⟩|⟨a,J,r,m,n,D,a5,c, -, a3, -, Q, -, G⟩)|(rcases open_slice1 Tryz.underlying24 kr h with⟨c,-⟩|⟨a,J,r,m,n,b1,D,a5,c, -, a3, -, Q, -, G⟩)
 .simp only[ll,lA,and_true]at c;exact⟨[],⟨c.2.1,fi _,fi _,λh=>dC h (kq 0)⟩,vl g λa u=>by rw[c.1]at u;cases u⟩
 .simp only[ll,lA,and_true]at c;obtain⟨O,rfl,rfl⟩:=c;obtain⟨w,P, -,-⟩:=g a O
  first
  |have _:=ø
   have f:∀i,i<s.n->∃z d:Int,W (a.block,a.off+i*2)=Y (.int .i64 z)/\W (a.block,a.off+i*2+1)=Y (.int .i64 d):=λi hi=>by
    obtain⟨h2,a1,y,a6⟩:=G i zz;obtain⟨z,A, -,-⟩:=DataW.trod_int Tryz.underlying3 y;obtain⟨d,a2, -,-⟩:=DataW.trod_int Tryz.underlying3 a6;simp only[ll,and_true]at A a2;rw[xe w,A]at h2;rw[xe w,a2]at a1;exact⟨z,d,h2,a1⟩
   refine⟨(List.range s.n).map λi=>(Fh (W.cell? ⟨a.block,a.off+i*2,I⟩),Fh (W.cell? ⟨a.block,a.off+i*2+1,I⟩)),⟨by simp,by simpa using E,by simp;omega,λ_=>⟨a.block,a.off,?_,tA.1 P,λk hk=>?_⟩⟩,vl g λN u j C=>?_⟩
  |have _:=æ
   simp only[if_true]at Q;have f:∀i,i<s.n->∃z:Int,W (a.block,a.off+i)=Y (.int .i64 z):=λi hi=>by
    obtain⟨h2,y⟩:=G i zz;obtain⟨z,A, -,-⟩:=DataW.trod_int Tryz.underlying3 y;simp only[ll,and_true]at A;rw[xe w,A]at h2;exact⟨z,h2⟩
   refine⟨(List.range s.n).map λi=>Fh (W.cell? ⟨a.block,a.off+i,I⟩),⟨by simp,by simpa using E,by simp;omega,λ_=>⟨a.block,a.off,?_,tA.1 P,λk hk=>?_⟩⟩,vl g λN u j C=>?_⟩
  |simp only[if_true]at Q
   have a9:F.cellsOf 80=3:=by kernel_rfl
   have a7:F.cellsOf 3=1:=by kernel_rfl
   have a8:F.cellsOf 4=1:=by kernel_rfl
   have f:∀i,i<s.n->∃(z d:Int) (q:Bool),W (a.block,a.off+i*3)=Y (.int .i64 z)/\W (a.block,a.off+i*3+1)=Y (.int .i64 d)/\W (a.block,a.off+i*3+2)=Y (.bool q):=λi hi=>by
    obtain⟨dp,h2,y⟩:=G i zz;rw[a9]at h2;obtain⟨-, a0,B⟩:=Cl.cells?_some h2;obtain⟨y0,y1,y2,k, -, -, Z,g1,g2⟩:=trod_struct3 Tryz.underlying80 y
    match dp,a0,B with
    | [c0,c1,c2],_,B=>
     simp only[a7,a8,List.drop_zero,List.drop_succ_cons,List.take_succ_cons,List.take_zero]at Z g1 g2;obtain⟨z0,q0, -,-⟩:=DataW.trod_int Tryz.underlying3 Z;obtain⟨z1,q1, -,-⟩:=DataW.trod_int Tryz.underlying3 g1;obtain⟨z2,q2,-⟩:=DataW.trod_bool Tryz.underlying4 g2;simp only[ll,and_true]at q0 q1 q2;subst q0 q1 q2;have k0:=B 0 zz;have k1:=B 1 zz;have k2:=B 2 zz;rw[xe w]at k0 k1 k2;exact⟨z0,z1,z2,k0,k1,k2⟩
   refine⟨(List.range s.n).map λi=>(Fh (W.cell? ⟨a.block,a.off+i*3,I⟩),Fh (W.cell? ⟨a.block,a.off+i*3+1,I⟩),VW (W.cell? ⟨a.block,a.off+i*3+2,I⟩)),⟨by simp,by simpa using E,by simp;omega,λ_=>⟨a.block,a.off,?_,tA.1 P,λk hk=>?_⟩⟩,vl g λN u j C=>?_⟩
  .rw[O];obtain⟨b2,b3,b4⟩:=a;simp only at w;rw[w]
  .have v:k<s.n:=by simpa using hk
   first|have _:=ø;obtain⟨z,d,b,o⟩:=f k v;simp[List.getD,v,b,o,Fh]|have _:=å;obtain⟨z,d,q,b,o,R⟩:=f k v;simp[List.getD,v,b,o,R,Fh,VW]|obtain⟨z,b⟩:=f k v;simp[List.getD,v,b,Fh]
  .obtain rfl:a=N:=jx (O.symm.tn u)
   first
   |have _:=æ
    obtain⟨z,b⟩:=f j (by simpa using C);exact⟨_,b,cR _ _⟩
   |have _:=ø
    have a':j<s.n*2:=by simpa using C
    obtain⟨z,d,b,o⟩:=f (j/2) zz;rcases(show j=j/2*2\/j=j/2*2+1 from zz)with e|e
    .rw[e];exact⟨_,b,cR _ _⟩
    .rw[e];exact⟨_,o,cR _ _⟩
   |have a':j<s.n*3:=by simpa using C
    obtain⟨z,d,q,b,o,R⟩:=f (j/3) zz;rcases(show j=j/3*3\/j=j/3*3+1\/j=j/3*3+2 from zz)with e|e|e
    .rw[e];exact⟨_,b,cR _ _⟩
    .rw[e];exact⟨_,o,cR _ _⟩
    .rw[e];exact⟨_,R,sN _⟩):p:=h
def xa{p:Prop}(h:p:=by
 have n:=(List.getElem?_eq_some_iff.1 e).1;refine⟨h.1,h.2.1,h.2.2.1,λi=>?_⟩;obtain⟨b,off,d,m,hc⟩:=h.2.2.2 i;first|have _:=ø;have g:jz s (l.length*2)=(b,off,l.length*2):=by unfold jz;rw[d]|have _:=å;have g:jz s (l.length*3)=(b,off,l.length*3):=by unfold jz;rw[d]|have g:jz s l.length=(b,off,l.length):=by unfold jz;rw[d]
 rw[g]at e;refine⟨w.heap.size+j,0,by unfold MH;rw[d];rfl,by rw[qK];omega,λk hk=>?_⟩;rw[kl];first|have _:=ø;exact⟨(nZ e (f _ d).2 (by show k*2<l.length*2;omega) c a).tn (hc k hk).1,(nZ e (f _ d).2 (by show k*2+1<l.length*2;omega) c a).tn (hc k hk).2⟩|have _:=å;exact⟨(nZ e (f _ d).2 (by show k*3<l.length*3;omega) c a).tn (hc k hk).1,(nZ e (f _ d).2 (by show k*3+1<l.length*3;omega) c a).tn (hc k hk).2.1,(nZ e (f _ d).2 (by show k*3+2<l.length*3;omega) c a).tn (hc k hk).2.2⟩|exact(nZ e (f _ d).2 hk c a).tn (hc k hk)):p:=h
def ZX{p:Prop}(h:p:=by
 have hk:(bs .normal 4).kind≠.early:=by simp[bs]
 refine WalkE.reg (l:=[0,1,2,3,4,5,6,7,8,9]) rfl ?_;first|have _:=ø;refine WalkE.dV (d:=25) a.box a.gV rfl rfl (ft n) rfl zz rfl hk ?_;refine WalkE.av (d:=26) (.int .i64 eye) rfl (.inl rfl) (ft e1) rfl zz wnn hk ?_;refine cr.qL (d:=27) (fn:=16) (args:= #[(bX w.heap.size b).v,.int .i64 eye]) (eQ:= #[b.v,.int .i64 eye]) (v:=.tuple #[.bool (sv b l eye).1,.bool (sv b l eye).2.1,.int .i64 (sv b l eye).2.2]) a.co c rfl rfl (oh (ft rfl) (ft rfl)) rfl zz wnn hk (λ_=>⟨rfl,rfl⟩) rfl rfl (λe0 hB=>P3 (by exact c.RH) (by exact .int _ _)) (aas (dQ _) (dQ _) (aG _ _)) (λe0 hB m=>(Cb (bX w.heap.size b) l eye _ (c.lone (e0:=e0) m w.drawn).1 (mh a.co.checks hB m w.drawn)).mono λe W q=>q.1) λu s r t o=>?_;refine WalkE.av (d:=24) (.tuple #[.bool (sv b l eye).1,.bool (sv b l eye).2.1,.int .i64 (sv b l eye).2.2]) rfl (.inl rfl) (ft rfl) rfl zz wnn hk ?_;refine WalkE.dA (d:=28) (.bool (sv b l eye).1) rfl rfl (ft rfl) rfl rfl zz wnn hk ?_;refine WalkE.dA (d:=29) (.bool (sv b l eye).2.1) rfl rfl (ft rfl) rfl rfl zz wnn hk ?_;refine WalkE.dA (d:=30) (.int .i64 (sv b l eye).2.2) rfl rfl (ft rfl) rfl rfl zz wnn hk ?_;refine WalkE.av (d:=5) (.bool (sv b l eye).1) rfl (.inr rfl) (ft rfl) rfl zz wnn hk ?_;refine WalkE.av (d:=6) (.bool (sv b l eye).2.1) rfl (.inr rfl) (ft rfl) rfl zz wnn hk ?_;refine WalkE.av (d:=7) (.int .i64 (sv b l eye).2.2) rfl (.inr rfl) (ft rfl) rfl zz wnn hk ?_;exact WalkE.aT (next _ _ _ _ o (λi hi=>by simp at hi;exact nk) rfl rfl rfl)|refine WalkE.dV (d:=32) a.box a.gV rfl rfl (ft n) rfl zz rfl hk ?_;refine WalkE.av (d:=33) (.int .i64 eye) rfl (.inl rfl) (ft e1) rfl zz wnn hk ?_;refine cr.qL (d:=34) (fn:=17) (args:= #[(bX w.heap.size b).v,.int .i64 eye]) (eQ:= #[b.v,.int .i64 eye]) (v:=.tuple #[.bool (sv b l eye).1,.bool (sv b l eye).2.1,.int .i64 (sv b l eye).2.2]) a.co c rfl rfl (oh (ft rfl) (ft rfl)) rfl zz wnn hk (λ_=>⟨rfl,rfl⟩) rfl rfl (λe0 hB=>P3 (by exact c.RH) (by exact .int _ _)) (aas (dQ _) (dQ _) (aG _ _)) (λe0 hB m=>(EP (bX w.heap.size b) l eye _ (c.lone (e0:=e0) m w.drawn).1).mono λe W q=>by rw[M0 (b:=bX w.heap.size b) (l:=l) c.at_.E.1]at q;exact q.1) λu s r t o=>?_;refine WalkE.av (d:=31) (.tuple #[.bool (sv b l eye).1,.bool (sv b l eye).2.1,.int .i64 (sv b l eye).2.2]) rfl (.inl rfl) (ft rfl) rfl zz wnn hk ?_;refine WalkE.dA (d:=35) (.bool (sv b l eye).1) rfl rfl (ft rfl) rfl rfl zz wnn hk ?_;refine WalkE.dA (d:=36) (.bool (sv b l eye).2.1) rfl rfl (ft rfl) rfl rfl zz wnn hk ?_;refine WalkE.dA (d:=37) (.int .i64 (sv b l eye).2.2) rfl rfl (ft rfl) rfl rfl zz wnn hk ?_;refine WalkE.av (d:=8) (.bool (sv b l eye).1) rfl (.inr rfl) (ft rfl) rfl zz wnn hk ?_;refine WalkE.av (d:=9) (.bool (sv b l eye).2.1) rfl (.inr rfl) (ft rfl) rfl zz wnn hk ?_;refine WalkE.av (d:=10) (.int .i64 (sv b l eye).2.2) rfl (.inr rfl) (ft rfl) rfl zz wnn hk ?_;exact WalkE.aT (next _ _ _ _ o (λi hi=>by simp at hi;exact nk) rfl rfl rfl)):p:=h
def xaS{p:Prop}(h:p:=by
 refine⟨h.1,h.2.1,h.2.2.1,λe=>?_⟩;obtain⟨a,off,f,j,hc⟩:=h.2.2.2 e;have d:=(g _ f).2.1;first|have _:=ø;have b:=λk c=>i.intro (aV (hk a d) (hc k c).1) (aV (hk a d) (hc k c).2);exact⟨a,off,f,wY (b 0 e).1,b⟩|have _:=å;have b:=λk c=>i.intro (aV (hk a d) (hc k c).1) (i.intro (aV (hk a d) (hc k c).2.1) (aV (hk a d) (hc k c).2.2));exact⟨a,off,f,wY (b 0 e).1,b⟩|have b:=λk c=>aV (hk a d) (hc k c);exact⟨a,off,f,wY (b 0 e),b⟩):p:=h
def ZZ{p:Prop}(h:p:=by
 have hk:(bs .normal 4).kind≠.early:=by simp[bs]
 refine WalkE.reg (l:=[0,1,2,3,4,5,6,7,8]) rfl ?_;first|have _:=ø;refine WalkE.dV (d:=39) a.box a.gV rfl rfl (ft m) rfl zz rfl hk ?_;refine cr.qQ (d:=40) (fn:=18) (args:= #[(bX w.heap.size b).v]) (eQ:= #[b.v]) (p:=AU b l) a.co e rfl rfl (mY (ft rfl)) rfl zz wnn hk (λ_=>⟨rfl,rfl⟩) rfl rfl (λe0 hB=>vg (by exact e.RH)) (λe0 hB k=>Ce (bX w.heap.size b) l _ (e.lone (e0:=e0) k w.drawn).1 (mh a.co.checks hB k w.drawn)) λy t q o s n r=>?_;refine WalkE.av (d:=38) (.tuple #[y,.int .i64 (AU b l).2.1,.int .i64 (AU b l).2.2]) rfl (.inl rfl) (ft rfl) rfl zz wnn hk ?_;refine WalkE.dA (d:=41) (y) rfl rfl (ft rfl) rfl rfl zz wnn hk ?_;refine WalkE.dA (d:=42) (.int .i64 (AU b l).2.1) rfl rfl (ft rfl) rfl rfl zz wnn hk ?_;refine WalkE.dA (d:=43) (.int .i64 (AU b l).2.2) rfl rfl (ft rfl) rfl rfl zz wnn hk ?_;refine WalkE.av (d:=11) (y) rfl (.inr rfl) (ft rfl) rfl zz wnn hk ?_;refine WalkE.av (d:=12) (.int .i64 (AU b l).2.1) rfl (.inr rfl) (ft rfl) rfl zz wnn hk ?_;refine WalkE.av (d:=13) (.int .i64 (AU b l).2.2) rfl (.inr rfl) (ft rfl) rfl zz wnn hk ?_;exact WalkE.aT (next _ _ _ _ n (λi hi=>by simp at hi;exact nk) _ r rfl rfl rfl)|refine WalkE.dV (d:=45) a.box a.gV rfl rfl (ft m) rfl zz rfl hk ?_;refine cr.qQ (d:=46) (fn:=19) (args:= #[(bX w.heap.size b).v]) (eQ:= #[b.v]) (p:=AU b l) a.co e rfl rfl (mY (ft rfl)) rfl zz wnn hk (λ_=>⟨rfl,rfl⟩) rfl rfl (λe0 hB=>vg (by exact e.RH)) (λe0 hB k=>E5 (bX w.heap.size b) l _ (e.lone (e0:=e0) k w.drawn).1) λy t q o s n r=>?_;refine WalkE.av (d:=44) (.tuple #[y,.int .i64 (AU b l).2.1,.int .i64 (AU b l).2.2]) rfl (.inl rfl) (ft rfl) rfl zz wnn hk ?_;refine WalkE.dA (d:=47) (y) rfl rfl (ft rfl) rfl rfl zz wnn hk ?_;refine WalkE.dA (d:=48) (.int .i64 (AU b l).2.1) rfl rfl (ft rfl) rfl rfl zz wnn hk ?_;refine WalkE.dA (d:=49) (.int .i64 (AU b l).2.2) rfl rfl (ft rfl) rfl rfl zz wnn hk ?_;refine WalkE.av (d:=14) (y) rfl (.inr rfl) (ft rfl) rfl zz wnn hk ?_;refine WalkE.av (d:=15) (.int .i64 (AU b l).2.1) rfl (.inr rfl) (ft rfl) rfl zz wnn hk ?_;refine WalkE.av (d:=16) (.int .i64 (AU b l).2.2) rfl (.inr rfl) (ft rfl) rfl zz wnn hk ?_;exact WalkE.aT (next _ _ _ _ n (λi hi=>by simp at hi;exact nk) _ r rfl rfl rfl)):p:=h
def Z0{p:Prop}(h:p:=by
 have hk:(bs .normal 4).kind≠.early:=by simp[bs]
 refine WalkE.reg (l:=[0,1,2,3,4,5,6]) rfl ?_;first|have _:=ø;refine WalkE.dV (d:=51) a.box a.gV rfl rfl (ft n) rfl zz rfl hk ?_;refine cr.qL (d:=52) (fn:=20) (args:= #[(bX w.heap.size b).v]) (eQ:= #[b.v]) (v:=.tuple #[.int .i64 (ve b l).1,.int .i64 (ve b l).2]) a.co c rfl rfl (mY (ft rfl)) rfl zz wnn hk (λ_=>⟨rfl,rfl⟩) rfl rfl (λe0 hB=>vg (by exact c.RH)) (zg (aG _ _) (aG _ _)) (λe0 hB m=>(qT (bX w.heap.size b) l _ (c.lone (e0:=e0) m w.drawn).1 (mh a.co.checks hB m w.drawn)).mono λe W q=>by rw[aak]at q;exact q.1) λu s r t o=>?_;refine WalkE.av (d:=50) (.tuple #[.int .i64 (ve b l).1,.int .i64 (ve b l).2]) rfl (.inl rfl) (ft rfl) rfl zz wnn hk ?_;refine WalkE.dA (d:=53) (.int .i64 (ve b l).1) rfl rfl (ft rfl) rfl rfl zz wnn hk ?_;refine WalkE.dA (d:=54) (.int .i64 (ve b l).2) rfl rfl (ft rfl) rfl rfl zz wnn hk ?_;refine WalkE.av (d:=17) (.int .i64 (ve b l).1) rfl (.inr rfl) (ft rfl) rfl zz wnn hk ?_;refine WalkE.av (d:=18) (.int .i64 (ve b l).2) rfl (.inr rfl) (ft rfl) rfl zz wnn hk ?_;exact WalkE.aT (next _ _ _ _ o (λi hi=>by simp at hi;exact nk) rfl rfl)|refine WalkE.dV (d:=56) a.box a.gV rfl rfl (ft n) rfl zz rfl hk ?_;refine cr.qL (d:=57) (fn:=21) (args:= #[(bX w.heap.size b).v]) (eQ:= #[b.v]) (v:=.tuple #[.int .i64 (ve b l).1,.int .i64 (ve b l).2]) a.co c rfl rfl (mY (ft rfl)) rfl zz wnn hk (λ_=>⟨rfl,rfl⟩) rfl rfl (λe0 hB=>vg (by exact c.RH)) (zg (aG _ _) (aG _ _)) (λe0 hB m=>(r7 (bX w.heap.size b) l _ (c.lone (e0:=e0) m w.drawn).1).mono λe W q=>by rw[aak]at q;exact q.1) λu s r t o=>?_;refine WalkE.av (d:=55) (.tuple #[.int .i64 (ve b l).1,.int .i64 (ve b l).2]) rfl (.inl rfl) (ft rfl) rfl zz wnn hk ?_;refine WalkE.dA (d:=58) (.int .i64 (ve b l).1) rfl rfl (ft rfl) rfl rfl zz wnn hk ?_;refine WalkE.dA (d:=59) (.int .i64 (ve b l).2) rfl rfl (ft rfl) rfl rfl zz wnn hk ?_;refine WalkE.av (d:=19) (.int .i64 (ve b l).1) rfl (.inr rfl) (ft rfl) rfl zz wnn hk ?_;refine WalkE.av (d:=20) (.int .i64 (ve b l).2) rfl (.inr rfl) (ft rfl) rfl zz wnn hk ?_;exact WalkE.aT (next _ _ _ _ o (λi hi=>by simp at hi;exact nk) rfl rfl)):p:=h
def Z2{p:Prop}(h:p:=by
 generalize(fa n f).tmps=A at e;unfold results;simp[d,e]):p:=h
end Go
namespace Go.Proofs.YtfcgpihkimpkcaaGreatDoor
open Go.RowKit Go.Co Go.Conc
variable{V V' O:Nat->Prop}{w bj:H}{x:Nat×Nat×Nat}{m j i n:Nat}{l ds:List Int}{a v a':M}{κ:Nat->Kd}{Z:Ren}{e0:Lk}{ws:List (Nat×Nat×Nat)}{s:Sl}{sh:Int}{main:Bool}{Stop:(Nat->Prop)->(Nat->Prop)->QP->H->Prop}{k:List Item}{cs:List Kf}{ops:Array Kp}{rest:List Nat}{o:Kp}{f:Nat->M}{fn:ba}{xs:Array ae}{ts:Array Lk}{args eQ:Array M}{bk:aC}
def jz(s:Sl)(m:Nat):Nat×Nat×Nat:=match s.A with|some a=>(a.block,a.off,m)|none=>(0,0,0)
def MH(N:Nat)(s:Sl):Sl:=⟨s.A.map λ_=>(N,0),s.n,s.c⟩
def jb(V:Nat->Prop)(w:H)(s:Sl)(m:Nat):Prop:=∀a,s.A=Y a->a.spot=I/\sr V w (a.block,a.off,m)
end Go.Proofs.YtfcgpihkimpkcaaGreatDoor
open Go in
open Go.Proofs.YtfcgpihkimpkcaaGreatDoor in
open Go.RowKit Go.Co Go.Conc in
variable{n:Nat} in
variable{o:Kp} in
theorem Go.Co.sr.mono{V V':Nat->Prop}{w bj:Cl}{x:Nat×Nat×Nat}(h:sr V w x)(hV:∀x,V x->V' x)(hk:∀x,V x->bj.heap[x]?=w.heap[x]?):sr V' bj x:=
 ⟨hV _ h.1,let⟨c,e,z,h1,h2⟩:=h.2;⟨c,e,z,(hk _ h.1).tn h1,h2⟩⟩
namespace Go.Proofs.YtfcgpihkimpkcaaGreatDoor
open Go.RowKit Go.Co Go.Conc
variable{V V' O:Nat->Prop}{w bj:H}{x:Nat×Nat×Nat}{m j i n:Nat}{l ds:List Int}{a v a':M}{κ:Nat->Kd}{Z:Ren}{e0:Lk}{ws:List (Nat×Nat×Nat)}{s:Sl}{sh:Int}{main:Bool}{Stop:(Nat->Prop)->(Nat->Prop)->QP->H->Prop}{k:List Item}{cs:List Kf}{ops:Array Kp}{rest:List Nat}{o:Kp}{f:Nat->M}{fn:ba}{xs:Array ae}{ts:Array Lk}{args eQ:Array M}{bk:aC}
def jb.mono{s:Sl}(h:jb V w s m)(c:∀x,V x->V' x)(hk:∀x,V x->bj.heap[x]?=w.heap[x]?):jb V' bj s m:=λa b=>⟨(h a b).1,(h a b).2.mono c hk⟩
def qJ(hB:Base TA V w e0)(h:jb V w s m):sr V w (jz s m):=by
 unfold jz
 cases b:s.A with
 | some a=>exact(h a b).2
 | none=>exact⟨hB.v0,let⟨c,z,x⟩:=hB.cells;⟨c,e0,z,x,λj d=>dC d (Nat.not_lt_zero _)⟩⟩
def nZ{i:Nat}(d:ws[j]?=Y x)(g:sr V w x)(hi:i<x.2.2)(h:Nat->Question->Nat)(a:Nat):(tp (wK TA V e0 w ws) h a).cell? (w.heap.size+j,i)=w (x.1,x.2.1+i):=by
 obtain⟨-, c,e,z,hc,f⟩:=g;show(wK TA V e0 w ws).cell? _=_;unfold H.cell?;dsimp only;rw[IY d,IZ hc,hc];show(c.extract x.2.1 (x.2.1+x.2.2))[i]?=c[x.2.1+i]?;obtain⟨v,b,-⟩:=f i hi;have k:=(du.1 b).1;rw[Array.getElem?_extract,dE zz]
def qK(b:Nat->Question->Nat)(a:Nat):(tp (wK TA V e0 w ws) b a).heap.size=w.heap.size+ws.length:=qf
def EO(h:aN w s l)(f:jb V w s l.length)(e:ws[j]?=Y (jz s l.length))(c:Nat->Question->Nat)(a:Nat):aN (tp (wK TA V e0 w ws) c a) (MH (w.heap.size+j) s) l:=xa
def AV{l:List (Int×Int)}(h:bp w s l)(f:jb V w s (l.length*2))(e:ws[j]?=Y (jz s (l.length*2)))(c:Nat->Question->Nat)(a:Nat):bp (tp (wK TA V e0 w ws) c a) (MH (w.heap.size+j) s) l:=by
 have ø:=0;exact xa
def PZ{l:List (Int×Int×Bool)}(h:fL w s l)(f:jb V w s (l.length*3))(e:ws[j]?=Y (jz s (l.length*3)))(c:Nat->Question->Nat)(a:Nat):fL (tp (wK TA V e0 w ws) c a) (MH (w.heap.size+j) s) l:=by
 have å:=0;exact xa
def yV{hB:Base TA V w e0}(d:jb V w s m)(c:ws[j]?=Y (jz s m)):VR (Bj hB ws) (.slice (MH (w.heap.size+j) s).A s.n s.c) (.slice s.A s.n s.c):=by
 unfold MH
 cases b:s.A with
 | none=>exact .nilSlice _ _
 | some a=>
  have e:jz s m=(a.block,a.off,m):=by unfold jz;rw[b]
  rw[e]at c;exact .slice _ _ ⟨rfl,(d a b).1,a.off,I0 c,by simp,rfl⟩
theorem mh(h:dJ TA V w)(hB:Base TA V w e0)(b:Nat->Question->Nat)(a:Nat):aD (tp (wK TA V e0 w ws) b a):=by
 obtain⟨k,h2,c,d,e,g⟩:=h.gw (e0:=e0) b a;have j:=hB.shown.lt;have f:∀i,(tp (wK TA V e0 w ws) b a).cell? ⟨0,i,I⟩=(tp (gw TA V e0 w) b a).cell? ⟨0,i,I⟩:=λi=>by
  show(wK TA V e0 w ws).cell? _=(gw TA V e0 w).cell? _;unfold H.cell?;dsimp only;rw[IX j]
 exact⟨by rw[qK];omega,(f _).tn h2,(f _).tn c,(f _).tn d,(f _).tn e,(f _).tn g⟩
structure uD(V:Nat->Prop)(w:H)(b:aC)(l:bN)(s:Sl)(d:List Int):Prop where
 at_:aI w b l
 dt:aN w s d
 C:jb V w b.C l.C.length
 U:jb V w b.U (l.U.length*2)
 E:jb V w b.E (l.E.length*2)
 W:jb V w b.W (l.W.length*3)
 D:jb V w s d.length
def mA(b:aC)(l:bN)(s:Sl)(d:List Int):List (Nat×Nat×Nat):=[jz b.C l.C.length,jz b.U (l.U.length*2),jz b.E (l.E.length*2),jz b.W (l.W.length*3),jz s d.length]
def bX(N:Nat)(b:aC):aC:= {b with C:=MH (N+0) b.C,U:=MH (N+1) b.U,E:=MH (N+2) b.E,W:=MH (N+3) b.W}
def sX(N:Nat)(s:Sl):Sl:=MH (N+4) s
def wY{a:Addr}(h:w.cell? a=Y v):a.block<w.heap.size:=by
 unfold H.cell? at h
 cases b:w.heap[a.block]? with
 | none=>rw[b]at h;simp at h
 | some o=>exact(du.1 b).1
section
variable{b:aC}{l:bN}{d:List Int}
def jb.ints{l:List Int}(g:jb V w s l.length)(h:aN w s l)(hk:∀x,V x->bj.heap[x]?=w.heap[x]?):aN bj s l:=by
 refine⟨h.1,h.2.1,h.2.2.1,λb=>?_⟩;obtain⟨a,off,c,i,hc⟩:=h.2.2.2 b;have e:=(g _ c).2.1;have d:=λk f=>aV (hk a e) (hc k f);exact⟨a,off,c,wY (d 0 b),d⟩
def jb.pairs{l:List (Int×Int)}(g:jb V w s m)(h:bp w s l)(hk:∀x,V x->bj.heap[x]?=w.heap[x]?):bp bj s l:=by
 refine⟨h.1,h.2.1,h.2.2.1,λb=>?_⟩;obtain⟨a,off,c,i,hc⟩:=h.2.2.2 b;have d:=(g _ c).2.1;have e:=λk f=>And.intro (aV (hk a d) (hc k f).1) (aV (hk a d) (hc k f).2);exact⟨a,off,c,wY (e 0 b).1,e⟩
def jb.abd{l:List (Int×Int×Bool)}(hw:jb V w s m)(h:fL w s l)(hk:∀x,V x->bj.heap[x]?=w.heap[x]?):fL bj s l:=by
 refine⟨h.1,h.2.1,h.2.2.1,λh0=>?_⟩;obtain⟨bb,off,hA,hb,hc⟩:=h.2.2.2 h0;have hV:=(hw _ hA).2.1;have hc':=λk hk'=>And.intro (aV (hk bb hV) (hc k hk').1) (And.intro (aV (hk bb hV) (hc k hk').2.1) (aV (hk bb hV) (hc k hk').2.2));exact⟨bb,off,hA,wY (hc' 0 h0).1,hc'⟩
def uD.mono(h:uD V w b l s d)(a:∀x,V x->V' x)(hk:∀x,V x->bj.heap[x]?=w.heap[x]?):uD V' bj b l s d:=
 ⟨⟨h.C.ints h.at_.C hk,h.U.pairs h.at_.U hk,h.E.pairs h.at_.E hk,h.W.abd h.at_.W hk⟩,h.D.ints h.dt hk,h.C.mono a hk,h.U.mono a hk,h.E.mono a hk,h.W.mono a hk,h.D.mono a hk⟩
def uD.bH{bm bo:Nat->Prop}(h:uD V w b l s d)(a:dU V O w bm bo bj):uD bm bj b l s d:=h.mono a.vv a.rely.keep
def uD.ok(h:uD V w b l s d)(hB:Base TA V w e0):∀x∈mA b l s d,sr V w x:=by
 intro x a;simp only[mA,fc,hZ,or_false]at a;rcases a with rfl|rfl|rfl|rfl|rfl
 .exact qJ hB h.C
 .exact qJ hB h.U
 .exact qJ hB h.E
 .exact qJ hB h.W
 .exact qJ hB h.D
def uD.lone(h:uD V w b l s d)(c:Nat->Question->Nat)(a:Nat):aI (tp (wK TA V e0 w (mA b l s d)) c a) (bX w b) l/\aN (tp (wK TA V e0 w (mA b l s d)) c a) (sX w s) d:=
 ⟨⟨EO h.at_.C h.C rfl c a,AV h.at_.U h.U rfl c a,AV h.at_.E h.E rfl c a,PZ h.at_.W h.W rfl c a⟩,EO h.dt h.D rfl c a⟩
def uD.RH(h:uD V w b l s d){hB:Base TA V w e0}:VR (Bj hB (mA b l s d)) (bX w b).v b.v:=by
 have e:VR (Bj hB (mA b l s d)) (.slice (bX w b).C.A b.C.n b.C.c) (.slice b.C.A b.C.n b.C.c):=yV h.C rfl;have g:VR (Bj hB (mA b l s d)) (.slice (bX w b).U.A b.U.n b.U.c) (.slice b.U.A b.U.n b.U.c):=yV h.U rfl;have f:VR (Bj hB (mA b l s d)) (.slice (bX w b).E.A b.E.n b.E.c) (.slice b.E.A b.E.n b.E.c):=yV h.E rfl;have j:VR (Bj hB (mA b l s d)) (.slice (bX w b).W.A b.W.n b.W.c) (.slice b.W.A b.W.n b.W.c):=yV h.W rfl;refine .agg rfl λi x y a c=>?_
 match i,a,c with
 | 0,a,c=>cases a;cases c;exact .int _ _
 | 1,a,c=>cases a;cases c;exact .int _ _
 | 2,a,c=>cases a;cases c;exact .int _ _
 | 3,a,c=>cases a;cases c;exact .int _ _
 | 4,a,c=>cases a;cases c;exact .int _ _
 | 5,a,c=>cases a;cases c;exact e
 | 6,a,c=>cases a;cases c;exact .int _ _
 | 7,a,c=>cases a;cases c;exact .int _ _
 | 8,a,c=>cases a;cases c;exact .int _ _
 | 9,a,c=>cases a;cases c;exact .int _ _
 | 10,a,c=>cases a;cases c;exact g
 | 11,a,c=>cases a;cases c;exact f
 | 12,a,c=>cases a;cases c;exact j
end
section
variable{b:Kf}{n d:Nat}{l:bN}
def cr.Vf{R:M->H->Prop}(hC:cr V O w)(hin:uD V w bk l s ds)(c:ops[i]?=Y o)(hop:o.op=.call {callee:=.value (.func fn),args:=xs,argTypes:=ts})(ha:xs.map (fa n f).eval=eQ)(z:o.dst=Y d)(y:d<n)(r:Region.wanted o (aw ops (fa n f).tmps)=true)(hk:b.kind≠.early)
  (hcf:∀w,(callFunc fn eQ).run F w=.ok (.enter fn eQ) w/\(callFunc fn eQ).events F w #[]= #[])(q:TA.has fn=true)(B:TA.ret fn=.val)(m:∀e0 (hB:Base TA V w e0),KR (TA.kind fn) (Bj hB (mA bk l s ds)) args eQ)
  (hc:∀e0 (_:Base TA V w e0) u,PH F fn args (tp (wK TA V e0 w (mA bk l s ds)) u w.drawn) λe W=>∃v,e=.returned v/\R v W)
  (next:∀e0 (hB:Base TA V w e0) Z v W v' bj bm bo,R v W->VR Z v v'->ir TA F (w.heap.size+(mA bk l s ds).length) V O w (Bj hB (mA bk l s ds)) Z W bj bm bo->cr bm bo bj->dU V O w bm bo bj->WalkE F main Stop bm bo (G (b.at (fa n (ah f d v')) (.inRegion ops rest::k)) cs) bj):WalkE F main Stop V O (G (b.at (fa n f) (.inRegion ops (i::rest)::k)) cs) w:=xar
def cr.qL(j:cr V O w)(B:uD V w bk l s ds)(C:ops[i]?=Y o)(E:o.op=.call {callee:=.value (.func fn),args:=xs,argTypes:=ts})(q:xs.map (fa n f).eval=eQ)(y:o.dst=Y d)(x:d<n)(N:Region.wanted o (aw ops (fa n f).tmps)=true)(hk:b.kind≠.early)
  (t:∀w,(callFunc fn eQ).run F w=.ok (.enter fn eQ) w/\(callFunc fn eQ).events F w #[]= #[])(z:TA.has fn=true)(J:TA.ret fn=.val)(r:∀e0 (hB:Base TA V w e0),KR (TA.kind fn) (Bj hB (mA bk l s ds)) args eQ)
  (K:eR v)(hc:∀e0 (_:Base TA V w e0) g,PH F fn args (tp (wK TA V e0 w (mA bk l s ds)) g w.drawn) λe _=>e=.returned v)
  (next:∀bj a c,cr a c bj->dU V O w a c bj->WalkE F main Stop a c (G (b.at (fa n (ah f d v)) (.inRegion ops rest::k)) cs) bj):WalkE F main Stop V O (G (b.at (fa n f) (.inRegion ops (i::rest)::k)) cs) w:=
 j.Vf B (R:=λu _=>u=v) C E q y x N hk t z J r (λe0 hB g=>(hc e0 hB g).mono λe W h=>⟨v,h,rfl⟩) λe0 hB Z u W v' bj a c p L P m A=>by
  subst p;rw[K Z v' L];exact next bj a c m A
def P3{κ:Nat->Kd}{Z:Ren}{a b a' b':M}(e:dM Z (κ 0) a a')(f:dM Z (κ 1) b b'):KR κ Z #[a,b] #[a',b']:=⟨rfl,λi x y c d=>by
 match i,c,d with
 | 0,c,d=>cases c;cases d;exact e
 | 1,c,d=>cases c;cases d;exact f⟩
def vg(d:dM Z (κ 0) a a'):KR κ Z #[a] #[a']:=⟨rfl,λi x y b c=>by
 match i,b,c with
 | 0,b,c=>cases b;cases c;exact d⟩
end
variable{d d0 d1:Nat}{bm bo:Nat->Prop}{o0 o1:Kp}
section
variable{b:Kf}
theorem Rl{bk:aC}{x:ae}(b:o.op=.box 31 x)(a:(fa n f).eval x=bk.v):(Hn (fa n f).eval o).events F w #[]= #[]:=by
 unfold aC.v at a;unfold Hn;simp only[b,a];simp[go_sem]
end
def Nk(V:Nat->Prop)(w:H)(s:Sl):Prop:=cM TA V w s 0
structure Um(V:Nat->Prop)(w:H)(b:aC):Prop where
 C:Nk V w b.C
 U:Nk V w b.U
 E:Nk V w b.E
 W:Nk V w b.W
section
variable{b:aC}
def Um.mono(h:Um V w b)(a:∀x,V x->V' x)(hk:∀x,V x->bj.heap[x]?=w.heap[x]?):Um V' bj b:=⟨cM.mono h.C a hk,cM.mono h.U a hk,cM.mono h.E a hk,cM.mono h.W a hk⟩
theorem Um.vr(h:Um V w b){hB:Base TA V w e0}:VR (gr hB) b.v b.v:=by
 have c:VR (gr hB) (.slice b.C.A b.C.n b.C.c) (.slice b.C.A b.C.n b.C.c):=jg (cM.flat h.C);have f:VR (gr hB) (.slice b.U.A b.U.n b.U.c) (.slice b.U.A b.U.n b.U.c):=jg (cM.flat h.U);have d:VR (gr hB) (.slice b.E.A b.E.n b.E.c) (.slice b.E.A b.E.n b.E.c):=jg (cM.flat h.E);have g:VR (gr hB) (.slice b.W.A b.W.n b.W.c) (.slice b.W.A b.W.n b.W.c):=jg (cM.flat h.W);refine .agg rfl λi x y a j=>?_;have e:Y x=Y y:=a.symm.tn j;cases e
 match i,a with
 | 0,a=>cases a;exact .int _ _
 | 1,a=>cases a;exact .int _ _
 | 2,a=>cases a;exact .int _ _
 | 3,a=>cases a;exact .int _ _
 | 4,a=>cases a;exact .int _ _
 | 5,a=>cases a;exact c
 | 6,a=>cases a;exact .int _ _
 | 7,a=>cases a;exact .int _ _
 | 8,a=>cases a;exact .int _ _
 | 9,a=>cases a;exact .int _ _
 | 10,a=>cases a;exact f
 | 11,a=>cases a;exact d
 | 12,a=>cases a;exact g
end
def Uo{w:H}{g:Nat}{b:aC}(h:aK w g 31 b):∀i v,(wE b)[i]?=Y v->w.cell? ⟨g,i,I⟩=Y v:=λi v a=>by
 unfold H.cell?;dsimp only;rw[show w.heap[g]?=_ from h];exact a
section
variable{b:Kf}
end
variable{b:Kf}{l:bN}
structure Fg(V O:Nat->Prop)(w:H)(g:Nat)(b:aC):Prop where
 co:cr V O w
 gV:V g
 box:∀(i:Nat) v,(wE b)[i]?=Y v->w (g,i)=Y v
def Fg.bH{V O bm bo:Nat->Prop}{w bj:H}{g:Nat}{b:aC}(h:Fg V O w g b)(a:dU V O w bm bo bj):Fg bm bo bj g b:=
 ⟨h.co.bH a,a.vv _ h.gV,λi v c=>aV (a.rely.keep _ h.gV) (h.box i v c)⟩
def qS(V:Nat->Prop)(w:H)(b:aC)(l:bN):Prop:=uD V w b l iy []
def B9(w:H):aN w iy []:=⟨rfl,dj _,fi _,λh=>dC h (kq 0)⟩
def Gx(V:Nat->Prop)(w:H)(m:Nat):jb V w iy m:=λa b=>by cases b
def cr.XN{t:Nat}(l:cr V O w)(q:t<n)(j:f t=bk.v)(v:ops[i]?=Y o)(p:o.op=.box 31 (.tmp t))(s:o.dst=Y d)(r:d<n)(u:o.guard=I)(hk:b.kind≠.early)
  (next:∀bj a c g,Fg a c bj g bk->dU V O w a c bj->WalkE F main Stop a c (G (b.at (fa n (ah f d (.pointer (Y (g,0))))) (.inRegion ops rest::k)) cs) bj):WalkE F main Stop V O (G (b.at (fa n f) (.inRegion ops (i::rest)::k)) cs) w:=by
 refine WalkE.make (aE bk 31) (λg=>.pointer (Y ⟨g,0,I⟩)) v (bY u) hk (λbj _=>B8 p (ag q j)) (λbj _ e h=>by rw[Rl p (ag q j)]at h;simp at h) λbj x=>?_;rw[s,cw r];have m:=((dU.refl (O:=O) l.cX).step x).make (aE bk 31);have y:aK (bj.alloc (aE bk 31)) bj 31 bk:=Sp _ _;exact next _ _ _ bj.heap.size ⟨l.bH m,.inr rfl,Uo y⟩ m
def cr.qQ{p:List Int×Int×Int}(r:cr V O w)(N:uD V w bk l s ds)(P:ops[i]?=Y o)(Q:o.op=.call {callee:=.value (.func fn),args:=xs,argTypes:=ts})(z:xs.map (fa n f).eval=eQ)(J:o.dst=Y d)(E:d<n)(a1:Region.wanted o (aw ops (fa n f).tmps)=true)(hk:b.kind≠.early)
  (C:∀w,(callFunc fn eQ).run F w=.ok (.enter fn eQ) w/\(callFunc fn eQ).events F w #[]= #[])(K:TA.has fn=true)(T:TA.ret fn=.val)(B:∀e0 (hB:Base TA V w e0),KR (TA.kind fn) (Bj hB (mA bk l s ds)) args eQ)
  (hc:∀e0 (_:Base TA V w e0) j,PH F fn args (tp (wK TA V e0 w (mA bk l s ds)) j w.drawn) (EN p (tp (wK TA V e0 w (mA bk l s ds)) j w.drawn)))
  (next:∀y bj a g,cr a g bj->dU V O w a g bj->dK a bj y p.1->WalkE F main Stop a g (G (b.at (fa n (ah f d (.tuple #[y,.int .i64 p.2.1,.int .i64 p.2.2]))) (.inRegion ops rest::k)) cs) bj):WalkE F main Stop V O (G (b.at (fa n f) (.inRegion ops (i::rest)::k)) cs) w:=
 r.Vf N (R:=λu W=>∃y,u=.tuple #[y,.int .i64 p.2.1,.int .i64 p.2.2]/\W.ownsRow (w.heap.size+(mA bk l s ds).length) 3 1 y p.1.length (p.1.map (M.int .i64))) P Q z J E a1 hk C K T B (λe0 hB j=>(hc e0 hB j).mono λe W h=>by
   obtain⟨A,c,m,h2,-⟩:=h;rw[qK]at h2;exact⟨_,m,_,rfl,h2⟩) λe0 hB Z u W v' bj a g x U v t L=>by
  obtain⟨y,rfl,S⟩:=x;obtain⟨y',s',r',rfl,m,h2,q⟩:=ZC U;obtain rfl:=aG _ _ Z _ h2;obtain rfl:=aG _ _ Z _ q;exact next y' bj a g t L (v.row S (dj _) m (rG _)).1.PN
def cr.Ca{y z:M}{L:List Int}(q:cr V O w)(K:dK V w y L)(E:dK V w z L)(s:L.length<=1000)(A:ops[i]?=Y o)(B:o.op=.call {callee:=.value (.func 15),args:=xs,argTypes:=ts})(t:xs.map (fa n f).eval= #[y,z])(x:o.dst=Y d)(u:d<n)(C:Region.wanted o (aw ops (fa n f).tmps)=true)(hk:b.kind≠.early)
  (next:∀bj a c,cr a c bj->dU V O w a c bj->WalkE F main Stop a c (G (b.at (fa n (ah f d (.bool true))) (.inRegion ops rest::k)) cs) bj):WalkE F main Stop V O (G (b.at (fa n f) (.inRegion ops (i::rest)::k)) cs) w:=ZW
section
variable{F:Func}{fn n r:Nat}
section
variable{main:Bool}{Stop:(Nat->Prop)->(Nat->Prop)->QP->H->Prop}{V O:Nat->Prop}{w:H}{b:Kf}{K:List Item}{cs:List Kf}{ops:Array Kp}{n:Nat}{f:Nat->M}{rest:List Nat}
theorem WalkE.seg{F:Nat->M}{m i d a c j g:Nat}{y z:M}{o0 o1 o2 o3 o4:Kp}(k:cr V O w)
  (E:(∃t,(ops[i+2]?).map (·.op)=Y (.binOp .eql t (.tmp d) (.tmp (d+1)) t)/\z=y/\((∃x,y=.int .i64 x)\/∃q,y=.bool q/\t=4))\/∃N L,(ops[i+2]?).map (·.op)=Y (.call {callee:=.value (.func 15),args:= #[.tmp d,.tmp (d+1)],argTypes:=N})/\dK V w y L/\dK V w z L/\L.length<=1000)
  (l:f g=.bool true)(A:∀i,i<m->f i=F i)(P:F a=y)(ec:F c=z)(hk:b.kind≠.early)
  (next:∀f' bj e h,cr e h bj->dU V O w e h bj->(∀i,i<m->f' i=F i)->f' (d+4)=.bool true->WalkE Hb main Stop e h (G (b.at (fa n f') (.inRegion ops rest::K)) cs) bj)
  (R:ops[i]?=Y o0:=by rfl)(S:ops[i+1]?=Y o1:=by rfl)(h2:ops[i+2]?=Y o2:=by rfl)(T:ops[i+3]?=Y o3:=by rfl)(U:ops[i+4]?=Y o4:=by rfl)(p0:o0.op=.move (.tmp a):=by rfl)(p1:o1.op=.move (.tmp c):=by rfl)(p3:o3.op=.pick (.tmp g) (.tmp (d+2)) (.const (.bool false)):=by rfl)(p4:o4.op=.move (.tmp (d+3)):=by rfl)(s0:o0.dst=Y d:=by rfl)(s1:o1.dst=Y (d+1):=by rfl)(s2:o2.dst=Y (d+2):=by rfl)(s3:o3.dst=Y (d+3):=by rfl)(s4:o4.dst=Y (d+4):=by rfl)(u0:o0.guard=Y (j,true):=by rfl)(u1:o1.guard=Y (j,true):=by rfl)(u2:o2.guard=Y (j,true):=by rfl)(u3:o3.guard=I:=by rfl)(u4:o4.guard=I:=by rfl)(v:(ops[j]?).bind (·.dst)=Y g:=by rfl)(a5:d+4<n:=by omega)(C:g<d:=by omega)(a4:m<=d:=by omega)(a1:a<m:=by omega)(hc:c<m:=by omega):
  WalkE Hb main Stop V O (G (b.at (fa n f) (.inRegion ops (i::(i+1)::(i+2)::(i+3)::(i+4)::rest)::K)) cs) w:=by
 refine WalkE.av (d:=d) y R (.inl p0) (ft ((A _ a1).tn P)) s0 zz (az u0 v zz l) hk ?_;refine WalkE.av (d:=d+1) z S (.inl p1) (ft (nt ((A _ hc).tn ec))) s1 zz (az u1 v zz (nt l)) hk ?_;have o:∀i,i<d->ah (ah f d y) (d+1) z i=f i:=λi hi=>nk;have m2:ah (ah f d y) (d+1) z d=y:=nt (au _ _ _);have J:ah (ah f d y) (d+1) z (d+1)=z:=au _ _ _;generalize ah (ah f d y) (d+1) z=u at o m2 J|-;have step:∀bj e h,cr e h bj->dU V O w e h bj->WalkE Hb main Stop e h (G (b.at (fa n (ah u (d+2) (.bool true))) (.inRegion ops ((i+3)::(i+4)::rest)::K)) cs) bj:=λbj e h W Q=>by
  refine WalkE.cj (d:=d+3) (a:=true) (.bool true) T p3 (ft (nt ((o _ C).tn l))) ((dE rfl).tn (ft (au _ _ _))) s3 zz (bY u3) hk ?_;refine WalkE.av (d:=d+4) (.bool true) U (.inl p4) (ft (au _ _ _)) s4 zz (bY u4) hk ?_;exact next _ _ _ _ W Q (λi hi=>nt (nt (nt ((o i zz).tn (A i hi))))) (au _ _ _)
 have B:=az (n:=n) u2 v zz ((o _ C).tn l);have r:(fa n u).eval (.tmp d)=y:=ft m2;have s:(fa n u).eval (.tmp (d+1))=z:=ft J;simp only[h2,mc,fp]at E;rcases E with⟨t,p,rfl,⟨x,rfl⟩|⟨q,rfl,rfl⟩⟩|⟨N,L,p,a2,a3,Z⟩
 .exact WalkE.Hr (d:=d+2) (a:=x) (c:=x) true h2 p r s ss s2 zz B hk (step _ _ _ k k.refl)
 .exact WalkE.Zq (d:=d+2) (a:=q) (c:=q) true h2 p r s ss s2 zz B hk (step _ _ _ k k.refl)
 .exact cr.Ca (d:=d+2) k a2 a3 Z h2 p (oh r s) s2 zz B hk step
end
def XX(fn n r:Nat)(g:QP):Prop:=∃f k,g=G { (bs .normal fn).at (fa n f) k with mode:=.returning} []/\f r=.bool true
def Tx(hF:Hb.funcs[fn]?=Y F)(d:F.results= #[.tmp r])(i:r<n)(g:2≠fn){f:Nat->M}{k:List Item}(h:f r=.bool true)(w:H):Lq Hb true (G { (bs .normal fn).at (fa n f) k with mode:=.returning} []) w=.ended (.done (.bool true)) w #[]:=by
 have e:(fa n f).tmps[r]?=Y (.bool true):=by rw[ej i,h]
 have b:(results F (fa n f).tmps).run Hb w=.ok (.bool true) w:=by
  exact Z2
 have h2:(results F (fa n f).tmps).events Hb w #[]= #[]:=by
  exact Z2
 have c:(fa n f).defers=[]:=rfl;generalize fa n f=a at b h2 c|-;simp[c,G,Lq,unwind,doReturn,Kf.at,bs,hF,b,h2,seen,GStep.after,g];done
def Ie(fn n r:Nat)(c0:Kf):Prop:=∀(a c:Nat->Prop) (b:H),WalkE Hb true (λd _ e f=>XX fn n r e/\(∀x,a x->d x)/\aH a b f) a c (G (c0.finish (.bool true)) []) b
def MO(fn n r:Nat)(V:Nat->Prop)(w:H)(V' a:Nat->Prop)(g':QP)(w':H):Prop:=
 ∃c0,g'=G (Kf.enter Hb 8 #[] .normal) [c0]/\cr V' a w'/\(∀x,V x->V' x)/\aH V w w'/\Ie fn n r c0
theorem QB(hF:Hb.funcs[fn]?=Y F)(t:F.results= #[.tmp r])(A:r<n)(y:2≠fn){post:M->H->Prop}{J:Gh}{w:H}{fr:Kf}(o:Main J w)
  (walk:WalkE Hb true (MO fn n r (J.V 0) w) (J.V 0) (J.O 0) (G fr []) w)
  (v:∀w',aH (J.V 0) w w'->post (.bool true) w'):aQ fI Hb post (G fr []) J w:=by
 refine aQ.walk walk (λ_=>dq) (λ_=>dq) (λi P S V σ1 a d s hk=>?_);obtain⟨c0,rfl,l,e,B,m⟩:=a;have p:=l.main o hk d s;obtain rfl:i=σ1.V 0:=funext λb=>propext (d b).symm;refine Rj p λσ2 O q L C=>?_;refine aQ.walk (m (σ2.V 0) (σ2.O 0) O) (λ_=>dq) (λ_=>dq) (λR Q T W Z a u U z=>?_);obtain⟨⟨f,k,rfl,j⟩,N,E⟩:=a;refine aQ.Zi (z.md.tn q.idle.md) λh K=>⟨_,Tx hF t A y j h,v h ?_⟩;have g:∀x,J.V 0 x->σ2.V 0 x:=λx c=>L x (e x c);exact((B.tn (C.mono e)).tn (E.mono g)).tn (K.mono λx c=>(u x).2 (N x (g x c)))
end
variable{b:aC}{N g:Nat}{K:List Item}{eye:Int}
def bx:Ly:=match Tryz.f4.body with|some c=>c|_=>.skip
def Xv:Array Kp:=match bx with|.seq (.region _ ops _) _=>ops|_=> #[]
def XK:Array Kp:=match bx with|.seq _ (.seq (.seq (.region _ ops _) _) _)=>ops|_=> #[]
def yS:Array Kp:=match bx with|.seq _ (.seq (.seq _ (.cond _ (.seq (.region _ ops _) _) _)) _)=>ops|_=> #[]
def Qu:Array Kp:=match bx with|.seq _ (.seq _ (.seq (.region _ ops _) _))=>ops|_=> #[]
def Qv:Array Kp:=match bx with|.seq _ (.seq _ (.seq _ (.seq (.region _ ops _) _)))=>ops|_=> #[]
def Qw:Array Kp:=match bx with|.seq _ (.seq _ (.seq _ (.seq _ (.seq (.region _ ops _) _))))=>ops|_=> #[]
def Qx:Array Kp:=match bx with|.seq _ (.seq _ (.seq _ (.seq _ (.seq _ (.seq (.region _ ops _) _)))))=>ops|_=> #[]
def Qy:Array Kp:=match bx with|.seq _ (.seq _ (.seq _ (.seq _ (.seq _ (.seq _ (.seq (.region _ ops _) _))))))=>ops|_=> #[]
def QA:Array Kp:=match bx with|.seq _ (.seq _ (.seq _ (.seq _ (.seq _ (.seq _ (.seq _ (.seq (.region _ ops _) _)))))))=>ops|_=> #[]
def ze:Array Kp:=match bx with|.seq _ (.seq _ (.seq _ (.seq _ (.seq _ (.seq _ (.seq _ (.seq _ (.seq (.region _ ops _) _))))))))=>ops|_=> #[]
def M0(d:b.E.n=l.E.length)(eye:Int):mO b l eye=sv b l eye:=by
 unfold mO sv;rw[d];by_cases hc:ay b l≠0
 .rw[dE hc,dE hc]
 .rw[cd hc,cd hc];by_cases a:ax eye 0 (l.E.length-1)=false
  .rw[dE a,dE a]
  .rw[cd a,cd a];obtain⟨-, e, -, f,-⟩:=bP (show ay b l=0 by omega);obtain⟨k,m,n,o,p,q,r,t,c⟩:=wL e;obtain⟨u,v⟩:=cq.1 (show ax eye 0 (l.E.length-1)=true by simpa using a);obtain⟨g,i,w,x,j⟩:=qY f eye.toNat zz;have h:∀s,decide (b.cf<vY b (l.E.getD eye.toNat (0,0)) s)=jC b (l.E.getD eye.toNat (0,0)) s:=λs=>by
    unfold jC;rw[Bool.eq_iff_iff,decide_eq_true_iff,decide_eq_true_iff];exact vZ c ⟨g,i,j⟩
   rw[h,h]
def aaj:∀(E:List (Int×Int)) (uB:Int),qG (bX N b) uB E=qG b uB E
 | [],_=>rfl
 | e::r,uB=>by rw[qG,qG];exact aaj r _
def aak:ve (bX N b) l=ve b l:=by
 unfold ve;rw[aaj];rfl
def M1:(AU b l).1.length<=1000:=by
 unfold AU;split
 .simp
 .rename_i hc;obtain⟨-, -, -, a,-⟩:=bP (show ay b l=0 by omega);have c:l.E.length<=3:=by
   unfold fT at a;split at a
   .omega
   .omega
  have:=(JD b l.E l.E.length).1;dsimp only;omega
def XY(a:Fg V O w g b)(c:qS V w b l)(e1:f 1=eye)(n:f 2=(g,0))
  (next:∀f' bj j k,dU V O w j k bj->(∀i,(decide (i<21) && !([5,6,7]).contains i)=true->f' i=f i)->f' 5=.bool (sv b l eye).1->f' 6=.bool (sv b l eye).2.1->f' 7=.int .i64 (sv b l eye).2.2->WalkE F main Stop j k (G ((bs .normal 4).at (fa 101 f') K) cs) bj):
  WalkE F main Stop V O (G ((bs .normal 4).at (fa 101 f) (.code (.region 3 Qu false)::K)) cs) w:=by
 have ø:=0;exact ZX
def Yi(a:Fg V O w g b)(c:qS V w b l)(e1:f 1=eye)(n:f 2=(g,0))
  (next:∀f' bj j k,dU V O w j k bj->(∀i,(decide (i<21) && !([8,9,10]).contains i)=true->f' i=f i)->f' 8=.bool (sv b l eye).1->f' 9=.bool (sv b l eye).2.1->f' 10=.int .i64 (sv b l eye).2.2->WalkE F main Stop j k (G ((bs .normal 4).at (fa 101 f') K) cs) bj):
  WalkE F main Stop V O (G ((bs .normal 4).at (fa 101 f) (.code (.region 4 Qv false)::K)) cs) w:=ZX
def Yk(a:Fg V O w g b)(e:qS V w b l)(m:f 2=(g,0))
  (next:∀f' bj c j,dU V O w c j bj->(∀i,(decide (i<21) && !([11,12,13]).contains i)=true->f' i=f i)->∀y,dK c bj y (AU b l).1->f' 11=y->f' 12=.int .i64 (AU b l).2.1->f' 13=.int .i64 (AU b l).2.2->WalkE F main Stop c j (G ((bs .normal 4).at (fa 101 f') K) cs) bj):
  WalkE F main Stop V O (G ((bs .normal 4).at (fa 101 f) (.code (.region 5 Qw false)::K)) cs) w:=by
 have ø:=0;exact ZZ
def Yl(a:Fg V O w g b)(e:qS V w b l)(m:f 2=(g,0))
  (next:∀f' bj c j,dU V O w c j bj->(∀i,(decide (i<21) && !([14,15,16]).contains i)=true->f' i=f i)->∀y,dK c bj y (AU b l).1->f' 14=y->f' 15=.int .i64 (AU b l).2.1->f' 16=.int .i64 (AU b l).2.2->WalkE F main Stop c j (G ((bs .normal 4).at (fa 101 f') K) cs) bj):
  WalkE F main Stop V O (G ((bs .normal 4).at (fa 101 f) (.code (.region 6 Qx false)::K)) cs) w:=ZZ
def Ym(a:Fg V O w g b)(c:qS V w b l)(n:f 2=(g,0))
  (next:∀f' bj j k,dU V O w j k bj->(∀i,(decide (i<21) && !([17,18]).contains i)=true->f' i=f i)->f' 17=.int .i64 (ve b l).1->f' 18=.int .i64 (ve b l).2->WalkE F main Stop j k (G ((bs .normal 4).at (fa 101 f') K) cs) bj):
  WalkE F main Stop V O (G ((bs .normal 4).at (fa 101 f) (.code (.region 7 Qy false)::K)) cs) w:=by
 have ø:=0;exact Z0
def Yn(a:Fg V O w g b)(c:qS V w b l)(n:f 2=(g,0))
  (next:∀f' bj j k,dU V O w j k bj->(∀i,(decide (i<21) && !([19,20]).contains i)=true->f' i=f i)->f' 19=.int .i64 (ve b l).1->f' 20=.int .i64 (ve b l).2->WalkE F main Stop j k (G ((bs .normal 4).at (fa 101 f') K) cs) bj):
  WalkE F main Stop V O (G ((bs .normal 4).at (fa 101 f) (.code (.region 8 QA false)::K)) cs) w:=Z0
def pJ(b:aC)(eye:Int):Array M:= #[b.v,.int .i64 eye]
def fE(b:aC)(eye:Int):Nat->M:=λi=>(pJ b eye).getD i D
def QF(b:aC)(eye:Int):Kf.enter F 4 (pJ b eye) .normal=(bs .normal 4).at (fa 101 (fE b eye)) [.code bx]:=by
 rw[enter_at (c:=bx) (pJ b eye) Tryz.func4 rfl];have:pJ b eye++Array.replicate (Tryz.f4.ntmps-(pJ b eye).size) D=(Array.range 101).map (fE b eye):=iu (A:=pJ b eye) (k:=99) (n:=101) rfl;rw[this];rfl
def Tu:Ly:=match bx with|.seq _ (.seq _ r)=>r|_=>.skip
def Yo:Ly:=match Tu with|.seq _ r=>r|_=>.skip
def Yp:Ly:=match Yo with|.seq _ r=>r|_=>.skip
def Yq:Ly:=match Yp with|.seq _ r=>r|_=>.skip
def Yr:Ly:=match Yq with|.seq _ r=>r|_=>.skip
def Yt:Ly:=match Yr with|.seq _ r=>r|_=>.skip
def ZF:Ly:=match Yt with|.seq _ r=>r|_=>.skip
def Rm:bx=.seq (.region 0 Xv false) (.seq (.seq (.region 1 XK false) (.cond (.tmp 22) (.seq (.region 2 yS false) (.ret)) (.skip))) Tu):=rfl
def Rn:Tu=.seq (.region 3 Qu false) Yo:=rfl
def Ro:Yo=.seq (.region 4 Qv false) Yp:=rfl
def Rq:Yp=.seq (.region 5 Qw false) Yq:=rfl
def RI:Yq=.seq (.region 6 Qx false) Yr:=rfl
def Tm:Yr=.seq (.region 7 Qy false) Yt:=rfl
def Tp:Yt=.seq (.region 8 QA false) ZF:=rfl
def Tq:ZF=.seq (.region 9 ze false) .ret:=rfl
theorem M3(p:cr V O w)(k:Um V w b)
  (o:∀f' bj a c,cr a c bj->dU V O w a c bj->WalkE F main Stop a c (G (Kf.enter F 8 #[] .normal) ((bs .normal 4).at (fa 101 f') (.inRegion yS [0,1]::[.code .ret,.code Tu])::cs)) bj)
  (s:mX b=false->∀f' bj a c g,Fg a c bj g b->dU V O w a c bj->f' 1=.int .i64 eye->f' 2=.pointer (Y (g,0))->WalkE F main Stop a c (G ((bs .normal 4).at (fa 101 f') [.code Tu]) cs) bj):
  WalkE F main Stop V O (G (Kf.enter F 4 (pJ b eye) .normal) cs) w:=by
 have hk:(bs .normal 4).kind≠.early:=by simp[bs]
 rw[QF,Rm];refine WalkE.seq (WalkE.reg (l:=[0,1]) rfl ?_);refine cr.XN (d:=2) (t:=0) (bk:=b) p zz rfl rfl rfl rfl zz rfl hk λC y u g h j=>?_;have k:=k.mono j.vv j.rely.keep;refine WalkE.av (d:=4) (.bool false) rfl (.inr rfl) rfl rfl zz wnn hk (WalkE.aT ?_);have e1:ah (ah (fE b eye) 2 (.pointer (Y (g,0)))) 4 (.bool false) 1=.int .i64 eye:=rfl;have i:ah (ah (fE b eye) 2 (.pointer (Y (g,0)))) 4 (.bool false) 2=.pointer (Y (g,0)):=rfl;generalize ah (ah (fE b eye) 2 (.pointer (Y ⟨g,0,I⟩))) 4 (.bool false)=A at e1 i|-;refine WalkE.seq (WalkE.seq (WalkE.reg (l:=[0,1]) rfl ?_));refine WalkE.dV (d:=21) h.box h.gV rfl rfl (ft i) rfl zz rfl hk ?_;refine cr.jZ (d:=22) (fn:=7) (args:= #[b.v]) (v:=.bool (mX b)) h.co rfl rfl (mY (ft rfl)) rfl zz wnn hk (λ_=>⟨rfl,rfl⟩) rfl rfl (λe0 hB=>jy (by exact k.vr)) (dQ _) (λe0 J=>(ME b _).mono λe W q=>q.1) λE z x B m=>WalkE.aT ?_;have h:=h.bH m;have n:=j.tn m;refine WalkE.cond (t:=mX b) (ft rfl) ?_;cases r:mX b
 .rw[cd Bool.false_ne_true];exact WalkE.skip (s r _ _ _ _ g h n (nt (nt e1)) (nt (nt i)))
 .rw[dE rfl];refine WalkE.seq (WalkE.reg (l:=[0,1]) rfl ?_);refine WalkE.enter (f:=8) (args:= #[]) rfl wnn hk (λbj=>(kJ (fn:=8) (args:= #[]) rfl ss rfl λ_=>⟨rfl,rfl⟩).1) (λbj=>(kJ (fn:=8) (args:= #[]) rfl ss rfl λ_=>⟨rfl,rfl⟩).2) ?_;exact o _ _ _ _ h.co n
theorem ZH{y z:M}{x7 x12 x13 x17 x18:Int}{q5 q6:Bool}{L:List Int}(e:cr V O w)(W:L.length<=1000)(p:dK V w y L)(r:dK V w z L)(Q:f 5=q5)(T:f 8=q5)(R:f 6=q6)(U:f 9=q6)(S:f 7=x7)(u:f 10=x7)(v:f 11=y)(B:f 14=z)(x:f 12=x12)(C:f 15=x12)(A:f 13=x13)(E:f 16=x13)(J:f 17=x17)(N:f 19=x17)(K:f 18=x18)(P:f 20=x18)
  (next:∀f' bj s t,cr s t bj->dU V O w s t bj->f' 98=.bool true->WalkE F main Stop s t (G (Kf.enter F 8 #[] .normal) ((bs .normal 4).at (fa 101 f') (.inRegion ze [39,40,41]::[.code .ret])::cs)) bj):
  WalkE F main Stop V O (G ((bs .normal 4).at (fa 101 f) [.code ZF]) cs) w:=by
 have hk:(bs .normal 4).kind≠.early:=by simp[bs]
 rw[Tq];refine WalkE.seq (WalkE.reg (l:=List.range 42) rfl ?_);refine WalkE.av (d:=60) (.bool q5) rfl (.inl rfl) (ft Q) rfl zz wnn hk ?_;refine WalkE.av (d:=61) (.bool q5) rfl (.inl rfl) (ft T) rfl zz wnn hk ?_;refine WalkE.Zq (d:=62) (a:=q5) (c:=q5) true rfl rfl (ft rfl) (ft rfl) ss rfl zz wnn hk ?_;refine WalkE.av (d:=63) (.bool true) rfl (.inl rfl) (ft rfl) rfl zz wnn hk ?_;have k0:∀i,i<60->ah (ah (ah (ah f 60 (.bool q5)) 61 (.bool q5)) 62 (.bool true)) 63 (.bool true) i=f i:=λi hi=>nk;have q:ah (ah (ah (ah f 60 (.bool q5)) 61 (.bool q5)) 62 (.bool true)) 63 (.bool true) 63=.bool true:=au _ _ _;generalize ah (ah (ah (ah f 60 (.bool q5)) 61 (.bool q5)) 62 (.bool true)) 63 (.bool true)=f0 at k0 q|-;refine WalkE.seg (i:=4) (d:=64) (a:=6) (c:=9) (j:=3) (g:=63) e (.inl ⟨_,rfl,rfl,.inr ⟨_,rfl,rfl⟩⟩) q k0 R U hk λn o m k e b k0 q=>?_;have h:=b;have p:=p.bH b;have r:=r.bH b;refine WalkE.seg (i:=9) (d:=69) (a:=7) (c:=10) (j:=8) (g:=68) e (.inl ⟨_,rfl,rfl,.inl ⟨_,rfl⟩⟩) q k0 S u hk λn o m k e b k0 q=>?_;have h:=h.tn b;have p:=p.bH b;have r:=r.bH b;refine WalkE.seg (i:=14) (d:=74) (a:=11) (c:=14) (j:=13) (g:=73) e (.inr ⟨_,_,rfl,p,r,W⟩) q k0 v B hk λn o m k e b k0 q=>?_;have h:=h.tn b;refine WalkE.seg (i:=19) (d:=79) (a:=12) (c:=15) (j:=18) (g:=78) e (.inl ⟨_,rfl,rfl,.inl ⟨_,rfl⟩⟩) q k0 x C hk λn o m k e b k0 q=>?_;have h:=h.tn b;refine WalkE.seg (i:=24) (d:=84) (a:=13) (c:=16) (j:=23) (g:=83) e (.inl ⟨_,rfl,rfl,.inl ⟨_,rfl⟩⟩) q k0 A E hk λn o m k e b k0 q=>?_;have h:=h.tn b;refine WalkE.seg (i:=29) (d:=89) (a:=17) (c:=19) (j:=28) (g:=88) e (.inl ⟨_,rfl,rfl,.inl ⟨_,rfl⟩⟩) q k0 J N hk λn o m k e b k0 q=>?_;have h:=h.tn b;refine WalkE.seg (i:=34) (d:=94) (a:=18) (c:=20) (j:=33) (g:=93) e (.inl ⟨_,rfl,rfl,.inl ⟨_,rfl⟩⟩) q k0 K P hk λn o m k e b k0 q=>?_;have h:=h.tn b;refine WalkE.enter (f:=8) (args:= #[]) rfl (az (j:=38) (g:=98) rfl rfl zz q) hk (λbj=>(kJ (fn:=8) (args:= #[]) rfl ss rfl λ_=>⟨rfl,rfl⟩).1) (λbj=>(kJ (fn:=8) (args:= #[]) rfl ss rfl λ_=>⟨rfl,rfl⟩).2) ?_;exact next _ _ _ _ e h q
def Ni(f:Nat->M):Ie 4 101 4 ((bs .normal 4).at (fa 101 f) (.inRegion yS [0,1]::[.code .ret,.code Tu])):=λc b e=>by
 have hk:(bs .normal 4).kind≠.early:=by simp[bs]
 rw[Kf.finish_at,show(yS[0]?).bind (·.dst)=Y 23 from rfl,cw zz];refine WalkE.av (d:=4) (.bool true) rfl (.inr rfl) (ft rfl) rfl zz wnn hk (WalkE.aT (WalkE.ret (WalkE.stop λg a=>⟨⟨_,_,rfl,rfl⟩,λ_=>id,a⟩)))
theorem Nj(f:Nat->M)(h:f 98=true):Ie 4 101 4 ((bs .normal 4).at (fa 101 f) (.inRegion ze [39,40,41]::[.code .ret])):=λe c g=>by
 have hk:(bs .normal 4).kind≠.early:=by simp[bs]
 rw[Kf.finish_at,show(ze[39]?).bind (·.dst)=Y 99 from rfl,cw zz];refine WalkE.cj (d:=100) (a:=true) (.bool true) rfl rfl (ft h) ((dE rfl).tn (ft rfl)) rfl zz wnn hk ?_;refine WalkE.av (d:=4) (.bool true) rfl (.inr rfl) (ft rfl) rfl zz wnn hk (WalkE.aT (WalkE.ret (WalkE.stop λi b=>⟨⟨_,_,rfl,rfl⟩,λ_=>id,b⟩)))
theorem Ov{post:M->H->Prop}{J:Gh}{w:H}{b:aC}{eye:Int}(K:Main J w)(a6:Um (J.V 0) w b)
  (a:mX b=false->∃l,qS (J.V 0) w b l)
  (a5:∀w',aH (J.V 0) w w'->post (.bool true) w'):aQ fI F post (G (Kf.enter F 4 (pJ b eye) .normal) []) J w:=by
 refine QB (n:=101) (r:=4) Tryz.func4 rfl zz zz K ?_ a5;refine M3 K.co a6 (λf N C O a3 d=>WalkE.stop λw2 s=>⟨_,rfl,a3.rely s,d.vv,(d.step s).rely,Ni f⟩) λa7 f1 N C O g c d e1 e=>?_;obtain⟨l,a⟩:=a a7;have a:qS C N b l:=uD.bH a d;rw[Rn];refine WalkE.seq (XY c a e1 e λf2 w2 V2 O2 x L e5 e6 e7=>?_);have c:=c.bH x;have a:qS _ _ b l:=uD.bH a x;have d:=d.tn x;have e1:=(L 1 rfl).tn e1;have e:=(L 2 rfl).tn e;rw[Ro];refine WalkE.seq (Yi c a e1 e λf3 w3 V3 O3 A v e8 e9 P=>?_);have c:=c.bH A;have a:qS _ _ b l:=uD.bH a A;have d:=d.tn A;have e:=(v 2 rfl).tn e;rw[Rq];refine WalkE.seq (Yk c a e λf4 w4 V4 O4 B k y m Q R S=>?_);have c:=c.bH B;have a:qS _ _ b l:=uD.bH a B;have d:=d.tn B;have e:=(k 2 rfl).tn e;rw[RI];refine WalkE.seq (Yl c a e λf5 w5 V5 O5 u j z t T U V=>?_);have c:=c.bH u;have a:qS _ _ b l:=uD.bH a u;have d:=d.tn u;have e:=(j 2 rfl).tn e;have m:=m.bH u;rw[Tm];refine WalkE.seq (Ym c a e λf6 w6 V6 O6 o i W Z=>?_);have c:=c.bH o;have a:qS _ _ b l:=uD.bH a o;have d:=d.tn o;have e:=(i 2 rfl).tn e;have m:=m.bH o;have t:=t.bH o;rw[Tp];refine WalkE.seq (Yn c a e λf7 w7 V7 O7 p h a1 a2=>?_);have c:=c.bH p;have a:qS _ _ b l:=uD.bH a p;have d:=d.tn p;have m:=m.bH p;have t:=t.bH p;exact ZH c.co M1 m t ((h 5 rfl).tn ((i 5 rfl).tn ((j 5 rfl).tn ((k 5 rfl).tn ((v 5 rfl).tn e5))))) ((h 8 rfl).tn ((i 8 rfl).tn ((j 8 rfl).tn ((k 8 rfl).tn e8)))) ((h 6 rfl).tn ((i 6 rfl).tn ((j 6 rfl).tn ((k 6 rfl).tn ((v 6 rfl).tn e6))))) ((h 9 rfl).tn ((i 9 rfl).tn ((j 9 rfl).tn ((k 9 rfl).tn e9)))) ((h 7 rfl).tn ((i 7 rfl).tn ((j 7 rfl).tn ((k 7 rfl).tn ((v 7 rfl).tn e7))))) ((h 10 rfl).tn ((i 10 rfl).tn ((j 10 rfl).tn ((k 10 rfl).tn P)))) ((h 11 rfl).tn ((i 11 rfl).tn ((j 11 rfl).tn Q))) ((h 14 rfl).tn ((i 14 rfl).tn T)) ((h 12 rfl).tn ((i 12 rfl).tn ((j 12 rfl).tn R))) ((h 15 rfl).tn ((i 15 rfl).tn U)) ((h 13 rfl).tn ((i 13 rfl).tn ((j 13 rfl).tn S))) ((h 16 rfl).tn ((i 16 rfl).tn V)) ((h 17 rfl).tn W) a1 ((h 18 rfl).tn Z) a2 λf9 w9 V9 O9 a4 E q=>WalkE.stop λw7 s=>⟨_,rfl,a4.rely s,(d.tn E).vv,((d.tn E).step s).rely,Nj f9 q⟩
open Go.ChangeShapes Go.WideShapes Go.ChangeAt Go.Deep
section
variable{W:Cl}{t:Nat}
abbrev V0(W:Cl):Nat->Prop:=(Go.Co.start W).V 0
def tA{b:Nat}:V0 W b↔b<W.heap.size:=⟨λh=>h.2,λh=>⟨rfl,h⟩⟩
def mq{base t e:Nat}{v:M}(g:F.underlying t=Y (.slice e))(h:Cell.okWide F W .any base t v):∃s:Sl,v=.slice s.A s.n s.c/\Nk (V0 W) W s/\(s.A=I->s.n=0)/\s.n<=s.c:=by
 unfold Cell.okWide at h;rw[g]at h;unfold Cell.ok at h;rw[g]at h
 cases v with
 | slice A n c=>
  cases A with
  | none=>
   cases n with
   | zero=>
    cases c with
    | zero=>exact⟨⟨I,0,0⟩,rfl,(λa f=>(by cases f)),λ_=>rfl,dj _⟩
    | succ c=>simp at h
   | succ n=>simp at h
  | some a=>
   simp only at h;obtain⟨j, -, k⟩:=h;obtain⟨-, l,row,cells,b,-⟩:=k;refine⟨⟨Y a,n,c⟩,rfl,λi f=>?_,λe=>(by cases e),j⟩;obtain rfl:a=i:=jx f;unfold Cl.shape? at b
   cases d:W.heap[a.block]? with
   | none=>rw[d]at b;cases b
   | some o=>
    rw[d]at b
    cases o with
    | cells c e z=>exact⟨l,tA.2 (du.1 d).1,⟨c,e,z,d⟩,λh=>dC h (kq 0)⟩
    | _=>cases b
 | _=>simp at h
def Fh:Option M->Int
 | some (.int _ n)=>n
 | _=>0
def VW:Option M->Bool
 | some (.bool b)=>b
 | _=>false
def vl{s:Sl}{m:Nat}(i:Nk (V0 W) W s)(hc:∀a,s.A=Y a->∀j,j<m->∃v,W (a.block,a.off+j)=Y v/\jU v):jb (V0 W) W s m:=λa f=>by
 obtain⟨g,h2,⟨c,e,z,d⟩,-⟩:=i a f;refine⟨g,h2,c,e,z,d,λj k=>?_⟩;obtain⟨v,b,h⟩:=hc a f j k;unfold Cl.cell? at b;dsimp only at b;rw[d]at b;exact⟨v,b,h⟩
section
variable{H:Type}{enc:Lk×M->H}{W:Cl}{s:Sl}{fuel:Nat}{x:DataW H×List MemPlace}
abbrev TD(enc:Lk×M->H)(W:Cl)(fuel:Nat)(t:Lk)(cs:List M):Option (DataW H×List MemPlace):=DataW.trod enc F W 0 (λ_=>true) true fuel t cs
def xe{a:Addr}(h:a.spot=I)(i:Nat):a.add i=⟨a.block,a.off+i,I⟩:=by
 obtain⟨b,o,c⟩:=a;simp only at h;subst h;simp[Addr.add]
def Ka(g:Nk (V0 W) W s)(E:s.n<=s.c)(a4:s.n<=20)(h:TD enc W fuel 24 [.slice s.A s.n s.c]=Y x):∃l,aN W s l/\jb (V0 W) W s l.length:=by
 have æ:=0;exact pD
def Fi(hp:∀{fuel x},TD enc W fuel t [.slice s.A s.n s.c]=Y x->([M.slice s.A s.n s.c]=[.slice I 0 0])\/∃(a:Addr) (J r n:Nat) (K L:Nat->M) (S T:Nat->DataW H) (U V:Nat->List MemPlace),[M.slice s.A s.n s.c]=[.slice (Y a) J r]/\J<=r/\
   ∀i,i<r->W.cell? (a.add (i*2))=Y (K i)/\W.cell? (a.add (i*2+1))=Y (L i)/\TD enc W n 3 [K i]=Y (S i,U i)/\TD enc W n 3 [L i]=Y (T i,V i))
  (g:Nk (V0 W) W s)(E:s.n<=s.c)(a4:s.n<=20)(h:TD enc W fuel t [.slice s.A s.n s.c]=Y x):∃l,bp W s l/\jb (V0 W) W s (l.length*2):=by
 have ø:=0;exact pD
def Iy(k:Nk (V0 W) W s)(p:s.n<=s.c)(q:s.n<=20)(h:TD enc W fuel 27 [.slice s.A s.n s.c]=Y x):∃l,bp W s l/\jb (V0 W) W s (l.length*2):=
 Fi (t:=27) (λh=>by
  rcases open_slice_pairs Tryz.underlying27 Tryz.underlying100 kr rfl rfl kr kr h with⟨b,-⟩|⟨a,u,v,m,n,i,j,d,e,f,g,b, -, o, -, c, -, r⟩
  .exact .inl b
  .simp only[if_true]at c;subst c;exact .inr ⟨a,u,_,n,i,j,d,e,f,g,b,o,r⟩) k p q h
def Iz(k:Nk (V0 W) W s)(p:s.n<=s.c)(q:s.n<=20)(h:TD enc W fuel 28 [.slice s.A s.n s.c]=Y x):∃l,bp W s l/\jb (V0 W) W s (l.length*2):=
 Fi (t:=28) (λh=>by
  rcases open_slice_pairs Tryz.underlying28 Tryz.underlying55 kr rfl rfl kr kr h with⟨b,-⟩|⟨a,u,v,m,n,i,j,d,e,f,g,b, -, o, -, c, -, r⟩
  .exact .inl b
  .simp only[if_true]at c;subst c;exact .inr ⟨a,u,_,n,i,j,d,e,f,g,b,o,r⟩) k p q h
def Uz(g:Nk (V0 W) W s)(E:s.n<=s.c)(a4:s.n<=20)(h:TD enc W fuel 29 [.slice s.A s.n s.c]=Y x):∃l,fL W s l/\jb (V0 W) W s (l.length*3):=by
 have å:=0;exact pD
end
end
def UB:F.cellTypes F.depth 31=Y [3,3,3,3,3,24,3,3,3,3,27,28,29]:=by kernel_rfl
def Ys:F.cellsOf 31=13:=by kernel_rfl
def Kb:F.cellsOf 3=1:=by kernel_rfl
def Yu:F.cellsOf 23=2:=by kernel_rfl
def Yv:F.cellsOf 26=2:=by kernel_rfl
def Rr:F.cellsOf 24=1:=by kernel_rfl
def Yw:F.cellsOf 27=1:=by kernel_rfl
def Yx:F.cellsOf 28=1:=by kernel_rfl
def Yy:F.cellsOf 29=1:=by kernel_rfl
section
variable{H:Type}{enc:Lk×M->H}{W:Cl}{base:Nat}{v:M}{d:DataW H}{p:List MemPlace}
def zv{t fuel:Nat}{f0 f1:Field}{c0 c1:M}{x:DataW H×List MemPlace}(g:F.underlying t=Y (.struct #[f0,f1]))(i:f0.offset=0)(j:f1.offset=1)(k:f0.type=3)(l:f1.type=3)(h:TD enc W fuel t [c0,c1]=Y x):∃a b:Int,c0=.int .i64 a/\c1=.int .i64 b:=by
 obtain⟨m,o,n, -, -, c,d⟩:=trod_struct2 g h;rw[i,k,Kb]at c;rw[j,l,Kb]at d;obtain⟨a,e, -,-⟩:=DataW.trod_int Tryz.underlying3 c;obtain⟨b,f, -,-⟩:=DataW.trod_int Tryz.underlying3 d;simp at e f;exact⟨a,b,e,f⟩
def M4(J:M.okWide F W .any base 31 v)(a9:DataW.Trod enc F W 0 (λ_=>true) true 31 v d p):∃b:aC,v=b.v/\Um (V0 W) W b/\(mX b=false->∃l,aI W b l/\jb (V0 W) W b.C l.C.length/\jb (V0 W) W b.U (l.U.length*2)/\jb (V0 W) W b.E (l.E.length*2)/\jb (V0 W) W b.W (l.W.length*3)):=by
 unfold M.okWide at J;rw[Tryz.underlying31]at J;obtain⟨⟨cs⟩,rfl,a6,b5,a7, -, m⟩:=J;rw[Ys]at a6;rw[UB]at a7;cases a7
 match cs,a6 with
 | [c0,a,c2,c3,c4,P,c,e,f,g,K,N,O],_=>
  obtain⟨fuel,h⟩:=a9;replace h:TD enc W fuel 31 [c0,a,c2,c3,c4,P,c,e,f,g,K,N,O]=Y (d,p):=h;obtain⟨xs,n, -, -, -, a8,j⟩:=DataW.trod_struct Tryz.underlying31 h;have get:∀i,i<10->∃y,xs[i]?=Y y:=λi hi=>⟨_,fg (by rw[a8];exact hi)⟩;obtain⟨u,k,hc⟩:=m 5 P rfl;cases k;obtain⟨C,rfl,a3, -, lC⟩:=mq Tryz.underlying24 hc;obtain⟨u,k,hc⟩:=m 10 K rfl;cases k;obtain⟨U,rfl,a4, -, a'⟩:=mq Tryz.underlying27 hc;obtain⟨u,k,hc⟩:=m 11 N rfl;cases k;obtain⟨E,rfl,fE, -, lE⟩:=mq Tryz.underlying28 hc;obtain⟨u,k,hc⟩:=m 12 O rfl;cases k;obtain⟨X,rfl,a5, -, a0⟩:=mq Tryz.underlying29 hc;clear m hc;have o:TD enc W n 3 ((List.drop 0 [c0,a,c2,c3,c4,.slice C.A C.n C.c,c,e,f,g,.slice U.A U.n U.c,.slice E.A E.n E.c,.slice X.A X.n X.c]).take (F.cellsOf 3))=xs[0]?:=j 0 _ rfl;have q:TD enc W n 3 ((List.drop 1 [c0,a,c2,c3,c4,.slice C.A C.n C.c,c,e,f,g,.slice U.A U.n U.c,.slice E.A E.n E.c,.slice X.A X.n X.c]).take (F.cellsOf 3))=xs[1]?:=j 1 _ rfl;have r:TD enc W n 3 ((List.drop 2 [c0,a,c2,c3,c4,.slice C.A C.n C.c,c,e,f,g,.slice U.A U.n U.c,.slice E.A E.n E.c,.slice X.A X.n X.c]).take (F.cellsOf 3))=xs[2]?:=j 2 _ rfl;have s:TD enc W n 23 ((List.drop 3 [c0,a,c2,c3,c4,.slice C.A C.n C.c,c,e,f,g,.slice U.A U.n U.c,.slice E.A E.n E.c,.slice X.A X.n X.c]).take (F.cellsOf 23))=xs[3]?:=j 3 _ rfl;have t:TD enc W n 24 ((List.drop 5 [c0,a,c2,c3,c4,.slice C.A C.n C.c,c,e,f,g,.slice U.A U.n U.c,.slice E.A E.n E.c,.slice X.A X.n X.c]).take (F.cellsOf 24))=xs[4]?:=j 4 _ rfl;have w:TD enc W n 26 ((List.drop 6 [c0,a,c2,c3,c4,.slice C.A C.n C.c,c,e,f,g,.slice U.A U.n U.c,.slice E.A E.n E.c,.slice X.A X.n X.c]).take (F.cellsOf 26))=xs[5]?:=j 5 _ rfl;have x:TD enc W n 26 ((List.drop 8 [c0,a,c2,c3,c4,.slice C.A C.n C.c,c,e,f,g,.slice U.A U.n U.c,.slice E.A E.n E.c,.slice X.A X.n X.c]).take (F.cellsOf 26))=xs[6]?:=j 6 _ rfl;have z:TD enc W n 27 ((List.drop 10 [c0,a,c2,c3,c4,.slice C.A C.n C.c,c,e,f,g,.slice U.A U.n U.c,.slice E.A E.n E.c,.slice X.A X.n X.c]).take (F.cellsOf 27))=xs[7]?:=j 7 _ rfl;have A:TD enc W n 28 ((List.drop 11 [c0,a,c2,c3,c4,.slice C.A C.n C.c,c,e,f,g,.slice U.A U.n U.c,.slice E.A E.n E.c,.slice X.A X.n X.c]).take (F.cellsOf 28))=xs[8]?:=j 8 _ rfl;have B:TD enc W n 29 ((List.drop 12 [c0,a,c2,c3,c4,.slice C.A C.n C.c,c,e,f,g,.slice U.A U.n U.c,.slice E.A E.n E.c,.slice X.A X.n X.c]).take (F.cellsOf 29))=xs[9]?:=j 9 _ rfl;clear j;simp only[Kb,Yu,Rr,Yv,Yw,Yx,Yy,List.drop_zero,List.drop_succ_cons,List.take_succ_cons,List.take_zero]at o q r s t w x z A B;obtain⟨y0,e0⟩:=get 0 zz;obtain⟨y1,e1⟩:=get 1 zz;obtain⟨y2,Q⟩:=get 2 zz;obtain⟨y3,R⟩:=get 3 zz;obtain⟨y4,T⟩:=get 4 zz;obtain⟨y5,V⟩:=get 5 zz;obtain⟨y6,Z⟩:=get 6 zz;obtain⟨y7,e7⟩:=get 7 zz;obtain⟨y8,e8⟩:=get 8 zz;obtain⟨y9,e9⟩:=get 9 zz;rw[e0]at o;rw[e1]at q;rw[Q]at r;rw[R]at s;rw[T]at t;rw[V]at w;rw[Z]at x;rw[e7]at z;rw[e8]at A;rw[e9]at B;clear get e0 e1 Q R T V Z e7 e8 e9 a8;obtain⟨S,q0, -,-⟩:=DataW.trod_int Tryz.underlying3 o;obtain⟨D,q1, -,-⟩:=DataW.trod_int Tryz.underlying3 q;obtain⟨L,q2, -,-⟩:=DataW.trod_int Tryz.underlying3 r;obtain⟨lo,hi,q3,q4⟩:=zv Tryz.underlying23 rfl rfl rfl rfl s;obtain⟨rf,rh,q6,q7⟩:=zv Tryz.underlying26 rfl rfl rfl rfl w;obtain⟨cf,ch,q8,q9⟩:=zv Tryz.underlying26 rfl rfl rfl rfl x;simp only[ll,and_true]at q0 q1 q2;subst q0 q1 q2 q3 q4 q6 q7 q8 q9;refine⟨⟨S,D,L,lo,hi,C,rf,rh,cf,ch,U,E,X⟩,rfl,⟨a3,a4,fE,a5⟩,λG=>?_⟩;unfold mX at G;simp only[Bool.or_eq_false_iff,decide_eq_false_iff_not]at G;obtain⟨⟨⟨n1,n2⟩,n3⟩,n4⟩:=G;obtain⟨b3,a1,a2⟩:=Ka a3 lC zz t;obtain⟨b4,b1,b2⟩:=Iy a4 a' zz z;obtain⟨le,d1,d2⟩:=Iz fE lE zz A;obtain⟨lx,f1,f2⟩:=Uz a5 a0 zz B;exact⟨⟨b3,b4,le,lx⟩,⟨a1,b1,d1,f1⟩,a2,b2,d2,f2⟩
end
abbrev zy:List (String×DataW Unit):=[("velarium/sail.checks", Rows.laid_velarium_sail_checks)]
def UD:F.globalNamed "velarium/sail.checks" = Y 0:=by kernel_rfl
def UE:(F.globals[0]?).map (·.type)=Y 98:=by kernel_rfl
def Yz:F.cellsOf 97=1:=by kernel_rfl
def YA:F.cellsOf 98=5:=by kernel_rfl
theorem UF{W:Cl}(h:laidMetH F zy W):aD W:=by
 obtain⟨g,t,cs,fuel,p,o,y,c,w⟩:=h.funcs (ib.2 rfl);obtain rfl:=jx (UD.symm.tn o);obtain rfl:=jx (UE.symm.tn y);obtain⟨xs,m, -, z,q,x,a⟩:=DataW.trod_array Tryz.underlying98 w;rw[YA]at q;obtain⟨l⟩:=cs
 match l,q,a,c with
 | [c0,S,c2,c3,c4],_,a,c=>
  have b:xs.map (·.1)=[.held [40,118,101,108,97,114,105,117,109,47,115,97,105,108,46,104,97,108,108,41,46,103,108,97,115,115],.held [40,118,101,108,97,114,105,117,109,47,115,97,105,108,46,104,97,108,108,41,46,99,108,111,116,104,115],.held [40,118,101,108,97,114,105,117,109,47,115,97,105,108,46,104,97,108,108,41,46,115,117,110,115],.held [40,118,101,108,97,114,105,117,109,47,115,97,105,108,46,104,97,108,108,41,46,101,121,101,115],.held [40,118,101,108,97,114,105,117,109,47,115,97,105,108,46,104,97,108,108,41,46,119,97,116,99,104,101,115]]:=by
   have:=eh Prod.fst z;injection this with h
   exact h.symm
  match xs,x,b,a with
  | [A,B,C,E,G],_,b,a=>
   simp only[zM,ll,and_true]at b;obtain⟨r,n1,s,u,v⟩:=b;have d:=a 0 zz;have e:=a 1 zz;have f:=a 2 zz;have j:=a 3 zz;have k:=a 4 zz;simp only[Yz,Nat.mul_one,List.drop_zero,List.drop_succ_cons,List.take_succ_cons,List.take_zero,zQ]at d e f j k;obtain⟨a0,b0⟩:=A;obtain⟨J,O⟩:=B;obtain⟨K,P⟩:=C;obtain⟨L,Q⟩:=E;obtain⟨N,R⟩:=G;simp only at r n1 s u v;subst r n1 s u v;obtain rfl:=func_of_trod (f0:=165) Tryz.underlying97 kr d;obtain rfl:=func_of_trod (f0:=166) Tryz.underlying97 kr e;obtain rfl:=func_of_trod (f0:=167) Tryz.underlying97 kr f;obtain rfl:=func_of_trod (f0:=168) Tryz.underlying97 kr j;obtain rfl:=func_of_trod (f0:=169) Tryz.underlying97 kr k;have hc:=λi=>Cl.var?_cell o c i;have n:W (0,0)=_:=hc 0;exact⟨wY n,n,hc 1,hc 2,hc 3,hc 4⟩
def UG(g:Nat)(h:TA.glob g=true):g=0:=Sd .skip g h
theorem UH{W:H}(h:aD W):Main (Go.Co.start W) W:=by
 have k:V0 W 0:=tA.2 h.1;obtain⟨c,e,z,hc⟩:∃c e z,W.heap[0]?=Y (.cells c e z):=by
  have b:=h.2.1;unfold H.cell? at b;dsimp only at b
  cases l:W.heap[0]? with
  | none=>rw[l]at b;simp at b
  | some o=>
   rw[l]at b
   cases o with
   | cells c e z=>exact⟨c,e,z,rfl⟩
   | _=>simp at b
 have g:∀(i:Nat) v,W (0,i)=Y v->c[i]?=Y v:=λi v a=>by
  unfold H.cell? at a;dsimp only at a;rw[hc]at a;exact a
 obtain⟨-, c0,n,p,q,r⟩:=id h;have y:=g _ _ c0;have A:=g _ _ n;have B:=g _ _ p;have C:=g _ _ q;have m:=g _ _ r;have d:∀{j f:Nat} {v:M},c[j]?=Y (.func (.func f) #[] #[])->c[j]?=Y v->TA.has f=true->TA.ret f=.val->Flat TA (V0 W) W v:=λb h2 s t=>by
  cases b.symm.tn h2;exact .inr (.inr (.inr ⟨_,rfl,s,t⟩))
 refine⟨⟨rfl,rfl,rfl,λx=>dq,λx w=>tA.1 w⟩,⟨h,k,c,e,z,hc,?_,λj v u a=>?_⟩,e,k,⟨c,z,hc⟩,UG⟩
 .have:=(du.1 m).1;omega
 .match j,u,a with
  | 0,_,a=>exact d y a rfl rfl
  | 1,_,a=>exact d A a rfl rfl
  | 2,_,a=>exact d B a rfl rfl
  | 3,_,a=>exact d C a rfl rfl
  | 4,_,a=>exact d m a rfl rfl
def aaP:ownKnob F.godebug=I:=by kernel_rfl
def laidOut:laidOutB F=true:=by kernel_rfl
def Rt(os:Os)(args:Array M):laidMetH F zy ((H.doorLaid F 100 os).forCall (λ_ _=>0) ⟨#[],args,[]⟩).memory:=
 laidMetH_of_parts3 (fuel:=8) (laidMet_of_run' 8 kr kr) kr kr
abbrev YB:aC:=⟨0,0,0,0,0,⟨I,0,0⟩,0,0,0,0,⟨I,0,0⟩,⟨I,0,0⟩,⟨I,0,0⟩⟩
def Ru{W w:H}(h:aH (V0 W) W w):X W W w:=⟨h.os,h.tape,h.output,h.size,λk hk=>h.keep k (tA.2 hk)⟩
variable{W:H}
def E7{post:M->H->Prop}{b:aC}{eye:Int}(a:aD W)(d:Um (V0 W) W b)
  (e:mX b=false->∃l,qS (V0 W) W b l)(c:∀w',aH (V0 W) W w'->post (.bool true) w'):
  ∃n last o w' t',runNT F (n+1) (solo (G (Kf.enter F 4 (pJ b eye) .normal) []) W) #[]=(.ended o w',t')/\runN F n (solo (G (Kf.enter F 4 (pJ b eye) .normal) []) W)=.next last/\step F last=.ended o w'/\Go.Conc.Good F post last o w' t':=
 LX (Q:=fI) ua (J:=Go.Co.start W) rfl (L0 W) rfl rfl (Ov (UH a) d e c)
def ZJ(os:Os)(H:Type)(enc:Lk×M->H):∃(w:Cl) (tape:Tape) (i:Input),w.os=os/\(w.forCall tape i).Shaped F/\i.vars=[]/\Input.okWide F (w.forCall tape i) .any w 4 i/\
   ((Rows.sailEyesSpec.pre enc F Tryz.f4 [] false (w.forCall tape i).memory i.args/\laidMetH F zy (w.forCall tape i).memory)/\sizedMet enc F Tryz.f4 (OpenSpec.ofChange Rows.sailEyesSpec) false (w.forCall tape i).memory i.args)/\({}:Assume).holds F (lone (Kf.enter F 4 i.args .normal) [] (w.forCall tape i)):=
 ChangeSpec.witness_shaped (enc:=enc) (C:=Tryz.checked) (os:=os) (X:=λw _=>laidMetH F zy w) false (Cl.doorLaid F 100 os) (pJ YB 0) 8 rfl (Cl.shaped_of_RefB kr kr) kr kr kr (Rt os _)
def XL{H:Type}{enc:Lk×M->H}{base:Nat}{args:Array M}{ds gs:List (DataW H)}{before:List MemPlace}
  (c:∀(j:Nat) t v,Tryz.f4.params[j]?=Y t->args[j]?=Y v->M.okWide F W .any base t v)
  (g:DataW.Whole enc F Tryz.f4.params.toList Rows.sailEyesSpec.vars false W args.toList ds gs before)(z:laidMetH F zy W):
  ∃n last o w' t',runNT F (n+1) (solo (G (Kf.enter F 4 args .normal) []) W) #[]=(.ended o w',t')/\runN F n (solo (G (Kf.enter F 4 args .normal) []) W)=.next last/\step F last=.ended o w'/\
   Go.Conc.Good F (λv m=>Rows.sailEyesSpec.post enc F Tryz.f4 false true false false W args v m) last o w' t':=by
 have i:=g;obtain⟨p,q,f,A,rfl, -,-⟩:=g;have e:DataW.TrodAll enc F W 0 (λ_=>true) true Tryz.f4.params.toList args.toList ds p:=f;rw[Tryz.params4]at e c;obtain⟨L,N,O,P,k,Q,rfl,rfl,rfl,d,y⟩:=trodAll_two e;obtain⟨rfl,rfl⟩:=trodVars_none A;obtain⟨b,rfl,C,B⟩:=M4 (c 0 31 L rfl rfl) d;obtain⟨h,rfl,rfl,rfl,wh⟩:=open_int Tryz.underlying3 (c 1 3 N rfl rfl) y;clear f;have J:∀x∈k++[]++[],x.block<W.heap.size:=λx a=>by
  refine i.lt x ?_;simp only[List.append_nil]at a|-;exact a
 refine E7 (UF z) C (λE=>?_) (λw' K=>?_)
 .obtain⟨l,e1,r,s,u,w⟩:=B E;exact⟨l,e1,B9 _,r,s,u,w,Gx _ _ _⟩
 .have hB:=Ru K;have a0:=X.trod laidOut kr (of_decide_eq_true kr) d hB (λx a=>J x (by simp[a]));refine⟨_,_,_,[],k++[],[],i,trodAll_mk1 (shut_bool Tryz.underlying4 _),trodAll_mk2 a0 (shut_int Tryz.underlying3 wh),rfl,hB.frame _,λh=>by cases h⟩
theorem P5(os:Os)(n:os.Started)(H:Type)(enc:Lk×M->H):
  ReturnsInLeavingWide {} Tryz.checked os 4 .any (λw args=>(Rows.sailEyesSpec.pre enc F Tryz.f4 [] false w args/\laidMetH F zy w)/\sizedMet enc F Tryz.f4 (OpenSpec.ofChange Rows.sailEyesSpec) false w args)
   (Rows.sailEyesSpec.post enc F Tryz.f4 false true false false):=by
 refine returnsInLeavingWide_of_good (C:=Tryz.checked) aaP n (ZJ os H enc) ?_;intro w tape i _ _ _ hok hpre _;obtain⟨_,_,_,b,h,_,_,_,_,k⟩:=hok;obtain rfl:b=Tryz.f4:=jx (h.symm.tn Tryz.func4);obtain⟨⟨⟨ds,gs,p,l,hc⟩,f⟩,q⟩:=hpre;have m:=DataW.Whole.of_heap (w':=w.forCall tape i) (by rfl) l;have g:laidMetH F zy (w.forCall tape i):=laidMetH.of_heap (by rfl) f;obtain⟨a,last,o,w',t',c,h2,d,e⟩:=XL k m g;exact⟨a,last,o,w',t',c,h2,d,e.mono λv j=>ChangeSpec.post_blind j⟩
open Go
def sailEyes_holds:Rows.SailEyesSaid:=
 OpenClaim.holds_of_wide_leaving 4 Tryz.f4 rfl rfl rfl rfl rfl rfl rfl ⟨rfl,rfl,rfl,rfl,rfl⟩ rfl rfl rfl rfl rfl kr Tryz.func4 kr
  (of_decide_eq_true kr) (by unfold Func.isWrapper;first|(rw[dE (by decide +kernel)];kernel_rfl)|(rw[cd (by decide +kernel)];exact⟨rfl,rfl⟩))
  (λos a H enc _=>P5 os a H enc)
theorem sailEyes_card:Rows.SailEyesCardSaid:=by
 have g:∀f fn,Tryz.pinned.checked.prog.funcNamed Rows.sailEyesRow.func=Y f->Tryz.pinned.checked.prog.funcs[f]?=Y fn->false=Tryz.pinned.checked.prog.looks []/\∀(j:Nat) t,fn.params[j]?=Y t->Tryz.pinned.checked.prog.wantsStandIn t=false:=λf fn c d=>by
  obtain rfl:f=4:=jx ((show F.funcNamed "velarium/velariumlaw05.SailEyes" = Y 4 by kernel_rfl).symm.tn c) |>.symm;obtain rfl:fn=Tryz.f4:=(jx (Tryz.func4.symm.tn d)).symm;exact⟨by kernel_rfl,λj t a=>by
   rw[Tryz.params4]at a;have b:t=31\/t=3:=by
    rcases j with _|_|j
    .exact .inl (by simpa using a.symm)
    .exact .inr (by simpa using a.symm)
    .simp at a
   rcases b with rfl|rfl
   .exact(show F.wantsStandIn 31=false by kernel_rfl)
   .exact(show F.wantsStandIn 3=false by kernel_rfl)⟩
 have k:Rows.sailEyesRow.wfByText (OpenSpec.ofChange Rows.sailEyesSpec)=true:=by kernel_rfl
 have e:true=Rows.sailEyesRow.goesBy Tryz.pinned.checked.prog:=by kernel_rfl
 have i:Tryz.pinned.checked.prog.mainIs=Y (true, "7e8dca03d4ec6397f0c053951ad34d508ceb2857f2d23a6e02e229dc371baeec".toList):=by kernel_rfl
 exact⟨Claim7.tied_new_at .later [.funcs] true (Claim7.new_of_sixth sailEyes_holds (true, "7e8dca03d4ec6397f0c053951ad34d508ceb2857f2d23a6e02e229dc371baeec") false rfl ⟨rfl,rfl⟩ i rfl g) k,(λ_ h=>by cases h),sailEyes_row_tie,(λh=>by cases h),e⟩
end Go.Proofs.YtfcgpihkimpkcaaGreatDoor
