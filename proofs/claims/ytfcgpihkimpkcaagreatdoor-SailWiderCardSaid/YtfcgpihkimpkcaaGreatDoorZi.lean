import Derived.Test.YtfcgpihkimpkcaaGreatDoorChecked
import Derived.WalkKit
import Derived.WalkSpells
import Derived.WalkLawsBesides
import Derived.Lib.Hide
import Derived.Deep.QuietTactic
import Derived.BigQuiet
import Derived.IntWalk
import Derived.BigRegion
import Derived.RegionTactic
import Derived.Test.YtfcgpihkimpkcaaGreatDoorZh
set_option maxRecDepth 100000
set_option maxHeartbeats 4000000
set_option linter.all false
noncomputable section
open Go.Proofs.Tryz renaming prog->F
open Go renaming World->H,Frame->Kf,TypeId->Lk,stepG->Lq,Value->M,Calls->PH,Program->Ps,Goroutine->QP,heap_alloc_old->QR,heap_alloc_new->Sp,FuncId->ba,bodyPost_ret->bd
open Go.RowKit renaming Below->Hd,Hid->PQ,Below->X
open Go.Lib renaming hid->Hm
open Option renaming none->I,some->Y
namespace Go
def pk{p:Prop}(h:p:=by
 first|have _:=ø;have g:=λa r h2 t=>sO b l sh s d a r h2 t;by_cases i:ay b l=0|have y:=Hm o;have G:=Hm u;have E:=Hm v;have n:=o.U.1;have a8:=o.U.2.2.1;clear o u v;have g:=λa (r:aI a b l) (h2:aD a) (t:aN a s d)=>sO b l sh s d a r h2 t;by_cases i:ay b l=0
 .by_cases j:cN b.S sh d=0
  first
  |have _:=ø
   .have:=Bq b l sh s d w o u v i j;rw[dI,cd (by simp[i]),cd (by simp[j])];exact this
  |·have g:∀a,aI a b l->aD a->aN a s d->PH F 43 #[b.v,aF sh s] a λe w'=>e=.returned (.tuple #[b.v,gN sh (eM d),.int .i64 0])/\X a a w':=λa r h2 t=>
     (g a r h2 t).mono λe w' L=>by
      obtain⟨x,O⟩:=L;rw[dE i,dE j,j]at x;exact⟨x,O⟩
    have J:=λa=>oE b hour zz a;by_cases C:ax hour 0 (b.U.n-1)=true
    .obtain⟨Z,f2⟩:=cq.1 C;obtain⟨h,rfl⟩:∃h:Nat,hour=(h:Int):=⟨hour.toNat,zz⟩;have U:h<l.U.length:=zz;obtain⟨q1,q2,q3,q4⟩:=kP (bP i).2.2.1 h U;obtain⟨t1,t2,t3,t4,t5,t6,-⟩:=cS (bP i).1;obtain⟨v1,v2,-⟩:=tM j;have P:=λa (h0:bp a b.U l.U)=>qX b t1 t2 t5 t6 sh v1 v2 (eM d) h l.U U q1 q2 q3 q4 a h0;have W:=λa=>xQ (eT b.S b.L sh (eM d) (l.U.getD h (0,0))) a;have m:PQ (cT b l sh d h=(ie (eT b.S b.L sh (eM d) (l.U.getD h (0,0))) 12,0)):=by
      unfold cT;rw[cd (by simp[i]),cd (by simp[j]),<- n,cd (by simp[C])];exact rfl
     generalize a1:eT b.S b.L sh (eM d) (l.U.getD h (0,0))=D at P W m;clear a1;simp only[C]at J;have Q:=Hm n;clear n Z f2 C i j;unfold aC.v at g J P|-;unfold aF at g|-;unfold gN at g P;go_enter Tryz.func9,Tryz.ntmps9;go_wp2_with (first|(go_at_call 43;refine(g _ (aq (aq y.out _) _) (ai (ai G.out _) _) (aZ (aZ E.out _) _)).mono ?_;rintro e a ⟨rfl,k⟩;obtain⟨S,T⟩:=aU k;have q:=cB k;have N:=q.size)|(go_at_call 44;refine(J _).mono ?_;rintro e w2 ⟨rfl,z⟩;obtain⟨a3,a4⟩:=aU z;have K:=q.tn ((cB z).mono N);have a6:=(cB z).size)|(go_at_call 45;refine(P _ (y.out.U.below K)).mono ?_;rintro e w3 ⟨rfl,R⟩;obtain⟨a9,a'⟩:=aU R)|(go_at_call 46;refine(W _).mono ?_;rintro e w4 ⟨A,c,rfl,a5,a2⟩));go_ret2;rw[m.out];have b1:=R.size;have a7:=K.size;refine⟨A,c,by simp,dy (B:=w3.heap.size) zz (by simpa using a5),?_⟩;exact(K.tn (R.mono a7)).tn (a2.mono zz)
    .have m:PQ (cT b l sh d hour=([],6)):=by
      unfold cT;rw[cd (by simp[i]),cd (by simp[j]),<- n,dE (by simpa using C)];exact rfl
     have V:ax hour 0 (b.U.n-1)=false:=by simpa using C
     simp only[V]at J;have Q:=Hm n;clear n C V i j;unfold aC.v at g J|-;unfold aF at g|-;unfold gN at g;go_enter Tryz.func9,Tryz.ntmps9;go_wp2_with (first|(go_at_call 43;refine(g _ (aq (aq y.out _) _) (ai (ai G.out _) _) (aZ (aZ E.out _) _)).mono ?_;rintro e a ⟨rfl,k⟩;obtain⟨S,T⟩:=aU k;have q:=cB k;have N:=q.size)|(go_at_call 44;refine(J _).mono ?_;rintro e w2 ⟨rfl,z⟩;obtain⟨a3,a4⟩:=aU z;have K:=q.tn ((cB z).mono N);have a6:=(cB z).size));go_ret2;rw[m.out];exact ji.nil K rfl
  .first|have _:=å;skip|have y:=Hm o;have G:=Hm u;have E:=Hm v;clear o u v
   have g:∃ik f,∀a,aI a b l->aD a->aN a s d->PH F 43 #[b.v,aF sh s] a λe w'=>e=.returned (.tuple #[b.v,gN ik f,.int .i64 (cN b.S sh d)])/\X a a w':=⟨0,mI,λa r h2 t=>
    (g a r h2 t).mono λe w' L=>by
     obtain⟨x,O⟩:=L;rw[dE i,cd j]at x;exact⟨x,O⟩⟩
   obtain⟨ik,f,g⟩:=g
   first
   |have _:=å
    have m:PQ (cT b l sh d hour=([],cN b.S sh d)):=by
     unfold cT;rw[cd (by simp[i]),dE (by simpa using j)];exact rfl
   |have m:PQ (dI b l sh d=(false,cN b.S sh d)):=by
     unfold dI;rw[cd (by simp[i]),dE (by simpa using j)];exact rfl
   have U:(cN b.S sh d != 0)=true:=by simpa using j
   first|have _:=ø;clear i j|have Q:=Hm n;clear n i j
   unfold aC.v at g|-;unfold aF at g|-;unfold gN at g;first|have _:=å;go_enter Tryz.func9,Tryz.ntmps9|go_enter Tryz.func11,Tryz.ntmps11
   go_wp2_with (first|(go_at_call 43;refine(g _ (aq (aq y.out _) _) (ai (ai G.out _) _) (aZ (aZ E.out _) _)).mono ?_;rintro e a ⟨rfl,k⟩;obtain⟨S,T⟩:=aU k;have q:=cB k;have N:=q.size));go_ret2;rw[m.out];first|have _:=å;exact ji.nil (by exact bt) rfl|exact⟨rfl,by exact bt⟩
 .first|have _:=å;skip|have y:=Hm o;have G:=Hm u;have E:=Hm v;clear o u v
  have g:∀a,aI a b l->aD a->aN a s d->PH F 43 #[b.v,aF sh s] a λe w'=>e=.returned (.tuple #[bI.v,gN 0 mI,.int .i64 (ay b l)])/\X a a w':=λa r h2 t=>
   (g a r h2 t).mono λe w' L=>by
    obtain⟨x,O⟩:=L;rw[cd i]at x;exact⟨x,O⟩
  first
  |have _:=å
   have m:PQ (cT b l sh d hour=([],ay b l)):=by
    unfold cT;rw[dE (by simpa using i)];exact rfl
  |have m:PQ (dI b l sh d=(false,ay b l)):=by
    unfold dI;rw[dE (by simpa using i)];exact rfl
  have a0:(ay b l != 0)=true:=by simpa using i
  first|have _:=ø;clear i|have Q:=Hm n;clear n i
  unfold aC.v at g|-;unfold aF at g|-;unfold gN bI iy at g;simp only at g;first|have _:=å;go_enter Tryz.func9,Tryz.ntmps9|go_enter Tryz.func11,Tryz.ntmps11
  go_wp2_with (first|(go_at_call 43;refine(g _ (aq (aq y.out _) _) (ai (ai G.out _) _) (aZ (aZ E.out _) _)).mono ?_;rintro e a ⟨rfl,k⟩;obtain⟨S,T⟩:=aU k;have q:=cB k;have N:=q.size));go_ret2;rw[m.out];first|have _:=å;exact ji.nil (by exact bt) rfl|exact⟨rfl,by exact bt⟩):p:=h
def pB{p:Prop}(h:p:=by
 first
 |have _:=ø
  have K:=wM q;have HR:PQ (cN b.S sh l=0):=by unfold cN;rw[dE t];exact q
  have O:=Hm K;clear K
 |have HR:PQ (cN b.S sh l=bS b.S I l):=by unfold cN;rw[dE t];exact rfl
  have a6:(bS b.S I l != 0)=true:=by simpa using q
  have P:=Hm q;clear q
 unfold aC.v at x|-;go_enter Tryz.func89,Tryz.ntmps89;go_wp2_with (first|(go_at_call 90;refine(eA _ _ _ _).mono ?_;rintro e w' ⟨rfl,rfl⟩)|(go_at_call 124;refine(x _ (aZ (aZ (aZ N.out _) _) _)).mono ?_;rintro e a ⟨rfl,g⟩;obtain⟨S,T⟩:=aU g;have a2:w.heap.size+1+1<a.heap.size:=(by have:=g.size;simp only[aa]at this;omega);have a':w.heap.size+1<a.heap.size:=zz;have a0:w.heap.size<a.heap.size:=zz))
 first
 |have _:=å
  refine bd (v:=.tuple #[gN 0 mI,.int .i64 (bS b.S I l)]) ?_ rfl ⟨by rw[HR.out,cd P.out],?_⟩
  .simp[results,Tryz.results89,go_sem,gN,mI, *]
  .have u:=jI g;exact bt
 |go_loopw [29] (λi wr=>∃k:Nat,k<=l.length/\i=.int .i64 k/\X a.heap.size a wr/\bA wr a.heap.size 86 sh (eM (l.take k))) (λi _=>l.length-(intOf i).toNat)
  case atStart=>
   refine⟨0,zz,rfl,by exact bt,?_⟩;have e:eM (l.take 0)=mI:=by funext n;simp[eM,mI]
   rw[e];exact bA.new a 86 sh mI
  case round=>
   obtain⟨k,hk,rfl,o,m⟩:=hrel;have a8:(a:Nat)<=wr:=o.size;by_cases r:k<l.length
   .obtain⟨f,off,rfl,Q,G⟩:=L.out zz;obtain⟨d,a1⟩:∃d:Nat,l.getD k 0=(d:Int)/\(d:Int)<b.S:=by
     have V:l.getD k 0∈l:=by simp[List.getD,fg r]
     have:=O.out _ V;exact⟨(l.getD k 0).toNat,zz,zz⟩
    obtain⟨z,a9⟩:=a1;have a4:wr (f,off+k)=Y (.int .i64 d):=by
     rw[o.cell (p:=⟨f,off+k,I⟩) (by show f<a.heap.size;omega),g.cell (p:=⟨f,off+k,I⟩) (by simp only[aa];omega),<- z,<- G k r];rw[H.cell?_alloc_lt _ _ ⟨f,off+k,I⟩ (by simp only[aa];omega),H.cell?_alloc_lt _ _ ⟨f,off+k,I⟩ (by simp only[aa];omega),H.cell?_alloc_lt _ _ ⟨f,off+k,I⟩ Q]
    have W:=λv Z f' C h2=>m.set (i:=d) (v:=v) (f':=f') Z C h2;have B:PQ (∀n:Nat,eM (l.take (k+1)) n=if n=d then true else eM (l.take k) n):=λn=>by
     rw[q5A r];have:l[k]=(d:Int):=by rw[<- z];simp[List.getD,fg r]
     rw[this];by_cases e:n=d
     .subst e;simp[eM]
     .simp[eM,e,show¬(n:Int)=d by omega]
    have a3:=m.cell d zz;have fa:=m.free (1+d);clear z G W;go_wp2;go_roundw
    case rel=>exact⟨k+1,zz,by go_num,by exact bt,m.set zz (by rw[B.out,dE rfl]) (λj _ U=>by rw[B.out,cd U])⟩
    case measure=>simp[intOf];omega
   .obtain rfl:k=l.length:=zz;rw[List.take_length]at m;obtain⟨y0,y1,y2,y3,y4,y5,y6,y7,y8,y9,b2,b3,b4⟩:=m.all;have y:bA wr (w.heap.size+1+1) 86 0 mI:=((bA.new2 w _ _ 86 0 mI).below g (by simp only[aa];omega)).below o a2;obtain⟨z0,z1,z2,z3,z4,z5,z6,z7,z8,z9,b5,b6,b7⟩:=y.all;have b8:=λi=>y.free i;have u:=Hm ((jI g).tn (o.mono zz));clear y g o m S T;go_wp2;refine bd (v:=.tuple #[gN sh (eM l),.int .i64 0]) ?_ rfl ⟨by rw[HR.out];rfl,?_⟩
    .simp[results,Tryz.results89,go_sem,gN, *]
    .have u:=u.out;exact bt):p:=h
def sf{p:Prop}(h:p:=by
 have d:ax x 0 (b.S-1)=true:=by simpa using ‹(!ax x 0 (b.S-1))=false›
 first
 |have _:=ø
  go_ret;exact⟨aW (by rw[g.out,m.out,cd (by simp[d]),dE (by simp[*])]),(bT a).tn (f.mono zz)⟩
 |go_roundw
  case rel=>exact⟨k+1,zz,by go_num,a.tn (f.mono J),g.out.tn (m.out.tn (by rw[cd (by simp[d]),cd so]))⟩
  case measure=>simp[intOf];omega):p:=h
def ub{p:Prop}(h:p:=by
 first|have _:=ø;have o:ax b.D 0 2=false:=by simpa using g|have _:=å;have r:ax b.S 4 12=false:=by simpa using f|have _:=æ;have q:ax b.L 1 4=false:=by simpa using i|have n:lF b.lo b.hi (-3) 3=false:=by simpa using hB
 unfold aC.v at d|-;go_enter Tryz.func165,Tryz.ntmps165;go_wp2_with (first|(go_at_call 90;refine(eA _ _ _ _).mono ?_;rintro e w' ⟨rfl,rfl⟩)|(go_at_call 170;refine(lG _ _ _ _ _).mono ?_;rintro e c ⟨rfl,a⟩;obtain⟨t,u⟩:=aU a))
 first
 |have _:=ø
  go_ret;exact⟨aW (by rw[cA,cd (by simp[o])]),(X.refl _ _).alloc (dj _) _⟩
 |have _:=å
  go_ret;exact⟨aW (by rw[cA,cd (by simp[r])]),(X.refl _ _).alloc (dj _) _⟩
 |have _:=æ
  go_ret;exact⟨aW (by rw[cA,cd (by simp[q])]),(X.refl _ _).alloc (dj _) _⟩
 |all_goals go_ret
  all_goals exact⟨aW (by rw[cA,cd (by simp[n])]),by first|exact(X.refl _ _).alloc (dj _) _|exact aY a⟩):p:=h
def ui{p:Prop}(h:p:=by
 first|have _:=ø;go_enter Tryz.func170,Tryz.ntmps170|go_enter Tryz.func95,Tryz.ntmps95
 go_wp2;all_goals go_ret
 .exact⟨bR (by simp[lF, *]),(X.refl _ _).alloc (dj _) _⟩
 .exact⟨bR (by simp[lF, *];omega),(X.refl _ _).alloc (dj _) _⟩
 .exact⟨bR (by simp[lF, *];omega),(X.refl _ _).alloc (dj _) _⟩):p:=h
def H2{p:Prop}(h:p:=by
 first
 |have _:=ø
  have key:∀i v,(#[.int .i64 b.S,.int .i64 b.D,.int .i64 b.L,.int .i64 b.lo,.int .i64 b.hi,.slice b.C.A b.C.n b.C.c,.int .i64 b.rf,.int .i64 b.rh,.int .i64 b.cf,.int .i64 b.ch,.slice b.U.A b.U.n b.U.c,.slice b.E.A b.E.n b.E.c,.slice b.W.A b.W.n b.W.c]:Array M)[i]?=Y v->w.cell? ⟨g,i,I⟩=Y v:=by
   intro i v a;unfold aK at h;rw[H.cell?,h];exact a
 |have key:∀i v,(#[.int .i64 b.S,.int .i64 b.D,.int .i64 b.L,.int .i64 b.lo,.int .i64 b.hi,.slice b.C.A b.C.n b.C.c,.int .i64 b.rf,.int .i64 b.rh,.int .i64 b.cf,.int .i64 b.ch,.slice b.U.A b.U.n b.U.c,.slice b.E.A b.E.n b.E.c,.slice b.W.A b.W.n b.W.c]:Array M)[i]?=Y v->wr.cell? ⟨w.heap.size,i,I⟩=Y v:=by
   intro i v a;rw[h.cell (p:=⟨w.heap.size,i,I⟩) (by show w.heap.size<w.heap.size+1;omega)];show(match(w.alloc (aE b t)).heap[w.heap.size]? with|some (.cells c _ _)=>c[i]?|_=>I)=Y v;rw[Sp];exact a
 refine⟨key _ _ rfl,key _ _ rfl,key _ _ rfl,key _ _ rfl,key _ _ rfl,key _ _ rfl,key _ _ rfl,key _ _ rfl,key _ _ rfl,key _ _ rfl,key _ _ rfl,key _ _ rfl,key _ _ rfl⟩):p:=h
def xae{p:Prop}(h:p:=by
 unfold aC.v;first|have _:=ø;go_enter Tryz.func44,Tryz.ntmps44|have _:=å;go_enter Tryz.func55,Tryz.ntmps55|go_enter Tryz.func66,Tryz.ntmps66
 go_wp2_with ((go_at_call 90;refine(eA _ _ _ _).mono ?_;rintro e w' ⟨rfl,rfl⟩));go_ret;exact⟨rfl,(X.refl _ _).alloc (dj _) _⟩):p:=h
def xaf{p:Prop}(h:p:=by
 first|have _:=ø;intro hk w|unfold tJ
 rcases(show k=0\/k=1\/k=2\/k=3\/k=4\/k=5\/k=6\/k=7\/k=8\/k=9\/k=10\/k=11 from zz)with rfl|rfl|rfl|rfl|rfl|rfl|rfl|rfl|rfl|rfl|rfl|rfl<;>kernel_rfl):p:=h
def xau{p:Prop}(h:p:=by
 have e0:cA b l.C=0:=a 0 zz;have e1:cZ b=0:=a 1 zz;have c:fH b.S l.U=0:=a 2 zz;first|have _:=ø;rw[cd (by simp[e0]),cd (by simp[e1]),cd (by simp[c]),dE (show fT b.rf b.ch l.E≠0 from hne)];rfl|have _:=å;have d:fT b.rf b.ch l.E=0:=a 3 zz;rw[cd (by simp[e0]),cd (by simp[e1]),cd (by simp[c]),cd (by simp[d])];rfl|have d:fT b.rf b.ch l.E=0:=a 3 zz;have e:ki b.S l.U.length l.W=0:=a 4 zz;simp[ay,e0,e1,c,d,e]):p:=h
def xaQ{p:Prop}(h:p:=by
 obtain⟨cs,e1,a⟩:=h;exact⟨cs,(QR _ _ (du.1 e1).1).tn e1,a⟩):p:=h
def xaR{p:Prop}(h:p:=by
 first|have _:=ø;go_enter Tryz.func90,Tryz.ntmps90|go_enter Tryz.func23,Tryz.ntmps23
 go_wp2;all_goals go_ret
 .exact⟨bR (by simp[ax, *]),rfl⟩
 .exact⟨bR (by simp[ax];omega),rfl⟩):p:=h
def ZY{p:Prop}(h:p:=by
 rw[lL hk];have e:l.getD k (0,0,false)=l[k]:=by simp[List.getD,fg hk]
 rw[e];rfl):p:=h
def xbe{p:Prop}(h:p:=by
 obtain⟨cs,e1,c⟩:=h;exact⟨cs,(a.block g b).tn e1,c⟩):p:=h
def xbl{p:Prop}(h:p:=by
 first|have _:=ø;skip|rw[qf]
 rcases qW d with⟨h,-⟩|⟨j,y,rfl,h,-⟩
 .omega
 .have:=(r h).2;omega):p:=h
def xbp{p:Prop}(h:p:=by
 go_ret;exact⟨aW (by rw[fT,cd zz,c.out,f.out,dE (by simp[g,j])]),(bT a).tn ((X.refl _ _).alloc zz _)⟩):p:=h
def xbq{p:Prop}(h:p:=by
 rw[lL hk];have e:l.getD k (0,0)=l[k]:=by simp[List.getD,fg hk]
 rw[e];rfl):p:=h
def xbr{p:Prop}(h:p:=by
 go_ret;exact⟨aW (by rw[ki,cd zz,g.out,v.out,dE (by simp[J,K])]),(bT a).tn ((aY d).mono zz)⟩):p:=h
def xbt{p:Prop}(h:p:=by
 show Hd (w.heap.size+1) (w.alloc (aE _ 82)) _;simp only[aE];exact bt):p:=h
end Go
namespace Go.Co
open Go.Conc
variable{b j:Nat}{x:Nat×Nat×Nat}{P:Ps}{main:Bool}{Stop:(Nat->Prop)->(Nat->Prop)->QP->H->Prop}{T:gq}{V:Nat->Prop}{e0:Lk}{w:H}{ws:List (Nat×Nat×Nat)}
section
variable{hB:Base T V w e0}
def sr(V:Nat->Prop)(w:H)(x:Nat×Nat×Nat):Prop:=V x.1/\∃c e z,w.heap[x.1]?=Y (.cells c e z)/\∀j,j<x.2.2->∃v,c[x.2.1+j]?=Y v/\jU v
def R9(w:H)(x:Nat×Nat×Nat):Obj:=match w.heap[x.1]? with|some (.cells c e _)=>.cells (c.extract x.2.1 (x.2.1+x.2.2)) e (0,x.2.2)|_=>.cells #[] 0 (0,0)
def wK(T:gq)(V:Nat->Prop)(e0:Lk)(w:H)(ws:List (Nat×Nat×Nat)):H:= {gw T V e0 w with heap:=(gw T V e0 w).heap++(ws.map (R9 w)).toArray}
def qf:(wK T V e0 w ws).heap.size=w.heap.size+ws.length:=by simp[wK,dW]
def IX(h:b<w):(wK T V e0 w ws).heap[b]?=(gw T V e0 w).heap[b]?:=by
 unfold wK;dsimp only;rw[qVB (by rw[dW];exact h)]
def IY(h:ws[j]?=Y x):(wK T V e0 w ws).heap[w.heap.size+j]?=Y (R9 w x):=by
 unfold wK;dsimp only;rw[qWB (by rw[dW];omega),dW];simp[h]
def IZ{c:Array M}{e:Lk}{z:Nat×Nat}(h:w.heap[x.1]?=Y (.cells c e z)):R9 w x=.cells (c.extract x.2.1 (x.2.1+x.2.2)) e (0,x.2.2):=by
 unfold R9;rw[h]
def Bj(hB:Base T V w e0)(ws:List (Nat×Nat×Nat)):Ren:=
 {tO:=λb=>if b<w.heap.size then(gr hB) b else(ws[b-w.heap.size]?).map λx=>(x.1,x.2.1)
  cls:=λ_=>false
  tab:=T
  glob:=λg c=>⟨by
   have d:=hB.glob g c;subst d;have a:=hB.shown.lt;rw[dE a];exact mH hB.shown,rfl⟩}
def Bl(h:b<w):(Bj hB ws) b=(gr hB) b:=dE h
def I0(h:ws[j]?=Y x):(Bj hB ws) (w.heap.size+j)=Y (x.1,x.2.1):=by
 show(if w.heap.size+j<w.heap.size then _ else _)=_;rw[cd zz,Nat.add_sub_cancel_left,h];rfl
theorem NT:(gr hB).le (Bj hB ws):=⟨λb x a=>(Bl (qb a).1).tn a,λ_ _ _=>rfl,rfl⟩
theorem qW{x:Nat×Nat}(a:(Bj hB ws) b=Y x):(b<w.heap.size/\(gr hB) b=Y x)\/∃j y,b=w.heap.size+j/\ws[j]?=Y y/\x=(y.1,y.2.1):=by
 by_cases h:b<w.heap.size
 .exact .inl ⟨h,(Bl h).symm.tn a⟩
 .right;have c:(if b<w.heap.size then(gr hB) b else(ws[b-w.heap.size]?).map λx=>(x.1,x.2.1))=Y x:=a;rw[cd h]at c;obtain⟨y,d,h2⟩:=Option.map_eq_some_iff.1 c;exact⟨b-w.heap.size,y,zz,d,h2.symm⟩
theorem Sa(E:∀x∈ws,sr V w x):Mem T P (Bj hB ws) (w.heap.size+ws.length) (wK T V e0 w ws) w:=by
 have t:=NR (P:=P) (hB:=hB);have r:∀{j:Nat} {y:Nat×Nat×Nat},ws[j]?=Y y->sr V w y/\j<ws.length:=λh=>⟨E _ (List.mem_of_getElem? h),(List.getElem?_eq_some_iff.1 h).1⟩;refine⟨λb x d=>?_,λb m s d=>?_,by rw[qf];exact dj _,λb m s J d=>?_,λb o a=>?_,rfl⟩
 .exact xbl
 .rcases qW d with⟨-, h⟩|⟨j,y, -, h,e⟩
  .exact t.cod _ _ _ h
  .cases e;obtain⟨-, c,e,z,hc,-⟩:=(r h).1;exact(du.1 hc).1
 .have ø:=0;exact xbl
 .by_cases k:b<w.heap.size
  .rw[IX k]at a;obtain⟨m,s,G,n,h2,f,q⟩:=t.hr b o a;refine⟨m,s,G,(Bl k).tn n,h2,f.mono NT,λ_=>(q k).mono NT⟩
  .have d:=(du.1 a).1;rw[qf]at d;obtain⟨j,rfl⟩:∃j,b=w.heap.size+j:=⟨b-w.heap.size,zz⟩;have g:=fg (l:=ws) (i:=j) zz;rw[IY g]at a;obtain⟨u,-⟩:=r g;generalize ws[j]=x at g a u;obtain⟨-, c,e,z,hc,C⟩:=u;rw[IZ hc]at a;cases a;have B:(c.extract x.2.1 (x.2.1+x.2.2)).size<=x.2.2:=by simp;omega
   have A:∀i v,(c.extract x.2.1 (x.2.1+x.2.2))[i]?=Y v->i<x.2.2/\c[i+x.2.1]?=Y v:=λi v hi=>by
    have k:=(du.1 hi).1;refine⟨zz,?_⟩;rw[Array.getElem?_extract]at hi;split at hi
    .rw[Nat.add_comm];exact hi
    .cases hi
   refine⟨x.1,x.2.1,_,I0 g,hc,.plain (.cells (λi v hi=>?_) λi hi _ _=>⟨fi _,zz⟩),λ_=>.inl ⟨_,e,_,rfl,B⟩⟩;obtain⟨n,h2⟩:=A i v hi;obtain⟨v',f,q⟩:=C i n;rw[Nat.add_comm]at f;rw[h2]at f;cases f;exact⟨v,h2,q _⟩
def Sc{O:Nat->Prop}(g:∀x∈ws,sr V w x)(d:∀b,V b->b<w.heap.size):ir T P (w.heap.size+ws.length) V O w (Bj hB ws) (Bj hB ws) (wK T V e0 w ws) w V O:=by
 have f:=Sa (P:=P) (hB:=hB) g;have a:=Bi (P:=P) (hB:=hB) (O:=O) d;refine⟨f,.refl _,λb i s c=>?_,λb i s k c=>?_,a.hV,a.hO,d,dj _,rfl,rfl,rfl,λ_ _=>rfl,d⟩
 .rcases qW c with⟨-, h⟩|⟨j,y, -, h,e⟩
  .exact a.see _ _ _ h
  .cases e;exact(g _ (List.mem_of_getElem? h)).1
 .have:=f.dom _ _ c;rw[qf]at this;omega
def NU{N:Nat}{ρ0:Ren}{W0:H}{f:ba}{args eQ:Array M}{O0:Nat->Prop}{Rp:Ending->H->Prop}{c:Kf}{cs:List Kf}(y:∀f,T.has f=true->dX T P f=true)(S:T.has f=true)
  (hI0:ir T P N V O0 w ρ0 ρ0 W0 w V O0)(hdr:W0.drawn=w.drawn)(z:KR (T.kind f) ρ0 args eQ)
  (hc:∀d,PH P f args (tp W0 d w.drawn) Rp)(L:∀e W,Rp e W->∃v,e=.returned v)
  (K:∀Z v a v' bj i O,Rp (.returned v) a->dM Z (T.ret f) v v'->ir T P N V O0 w ρ0 Z a bj i O->WalkE P main Stop i O (G (c.finish v') cs) bj):
  WalkE P main Stop V O0 (G (Kf.enter P f eQ .normal) (c::cs)) w:=nz
end
end Go.Co
namespace Go.Proofs.YtfcgpihkimpkcaaGreatDoor
open Go.RowKit
def bR{a b:Bool}(h:a=b):Ending.returned (.bool a)=.returned (.bool b):=by rw[h]
def aW{k:IntKind}{a b:Int}(h:a=b):Ending.returned (.int k a)=.returned (.int k b):=by rw[h]
def ax(n l h:Int):Bool:=decide (l<=n)&&decide (n<=h)
theorem eA(n l h:Int)(w:H):
  PH F 90 #[.int .i64 n,.int .i64 l,.int .i64 h] w λe w'=>e=.returned (.bool (ax n l h))/\w=w':=by
 have ø:=0;exact xaR
def lF(lo hi l h:Int):Bool:=decide (l<=lo)&&decide (lo<=hi)&&decide (hi<=h)
theorem lG(lo hi l h:Int)(w:H):
  PH F 170 #[.agg #[.int .i64 lo,.int .i64 hi],.int .i64 l,.int .i64 h] w λe w'=>e=.returned (.bool (lF lo hi l h))/\X w w w':=by
 have ø:=0;exact ui
structure Sl where
 A:Option Addr
 n:Nat
 c:Nat
structure aC where
 S:Int
 D:Int
 L:Int
 lo:Int
 hi:Int
 C:Sl
 rf:Int
 rh:Int
 cf:Int
 ch:Int
 U:Sl
 E:Sl
 W:Sl
def aC.v(b:aC):M:=.agg #[.int .i64 b.S,.int .i64 b.D,.int .i64 b.L,.int .i64 b.lo,.int .i64 b.hi,.slice b.C.A b.C.n b.C.c,.int .i64 b.rf,.int .i64 b.rh,.int .i64 b.cf,.int .i64 b.ch,.slice b.U.A b.U.n b.U.c,.slice b.E.A b.E.n b.E.c,.slice b.W.A b.W.n b.W.c]
theorem fB(b:aC)(n:Int)(a: -1000<=b.S)(h2:b.S<=1000)(w:H):
  PH F 66 #[b.v,.int .i64 n] w λe w'=>e=.returned (.bool (ax n 0 (b.S-1)))/\X w w w':=xae
theorem oE(b:aC)(n:Int)(a:b.U.n<=1000)(w:H):
  PH F 44 #[b.v,.int .i64 n] w λe w'=>e=.returned (.bool (ax n 0 (b.U.n-1)))/\X w w w':=by
 have ø:=0;exact xae
theorem KW(b:aC)(n:Int)(a:b.E.n<=1000)(w:H):
  PH F 55 #[b.v,.int .i64 n] w λe w'=>e=.returned (.bool (ax n 0 (b.E.n-1)))/\X w w w':=by
 have å:=0;exact xae
variable{d:Nat->Bool}{k:Nat}
def tJ(d:Nat->Bool):M:=.agg #[.bool (d 0),.bool (d 1),.bool (d 2),.bool (d 3),.bool (d 4),.bool (d 5),.bool (d 6),.bool (d 7),.bool (d 8),.bool (d 9),.bool (d 10),.bool (d 11)]
def ie(d:Nat->Bool)(k:Nat):List Int:=((List.range k).filter d).map λ(i:Nat)=>(i:Int)
def oG(h:d k=true):ie d (k+1)=ie d k++[(k:Int)]:=by simp[ie,List.range_succ,h]
def mV(h:d k=false):ie d (k+1)=ie d k:=by simp[ie,List.range_succ,h]
def kO(d:Nat->Bool)(k:Nat):(ie d k).length<=k:=by
 simp only[ie,my];exact ec (ln _ _) ss
def vD:(F.info? 3).map (λi=>(i.zero,i.size,i.bytes))=Y (Y (.int .i64 0),1,8):=by kernel_rfl
def tK{w:H}{B e size n:Nat}{v:M}{xs:List M}(h:w.ownsRow B e size v n xs):∃A c,v=.slice A n c:=by
 rcases h.2 with⟨a,h2⟩|⟨g,b,d,a,_⟩
 .exact⟨I,0,by rw[a,h2]⟩
 .exact⟨_,_,a⟩
def Made(B e:Nat)(l:List M)(a:Ending)(w w':H):Prop:=∃A c,a=.returned (.slice A l.length c)/\w'.ownsRow B e 1 (.slice A l.length c) l.length l/\X B w w'
theorem xQ(d:Nat->Bool)(w:H):
  PH F 46 #[tJ d] w λe w'=>Made w 3 ((ie d 12).map (M.int .i64)) e w w':=by
 obtain⟨i0,hi,y,z,B⟩:=info_parts vD;unfold tJ;go_enter Tryz.func46,Tryz.ntmps46;go_wp2;go_loopw [3,7] (λv i wr=>∃(k:Nat) (a:Option Addr) (b:Nat),k<=12/\i=.int .i64 k/\v=.slice a (ie d k).length b/\wr.ownsRow w.heap.size 3 1 v (ie d k).length ((ie d k).map (M.int .i64))/\X w.heap.size w wr)
  (λ_ i _=>12-(intOf i).toNat)
 case atStart=>exact⟨0,I,0,fi _,rfl,rfl,H.ownsRow_nil _ _ _ _,(X.refl _ _).alloc (dj _) _⟩
 case round=>
  obtain⟨k,a,b,hk,rfl,rfl,g,f⟩:=hrel;have t:=f.size;have C:=kO d k;have l:k<12->∀w:H,(Instr.index 84 (.agg #[.bool (d 0),.bool (d 1),.bool (d 2),.bool (d 3),.bool (d 4),.bool (d 5),.bool (d 6),.bool (d 7),.bool (d 8),.bool (d 9),.bool (d 10),.bool (d 11)]) (.int .i64 k)).run F w=.ok (.bool (d k)) w:=by
   have ø:=0;exact xaf
  by_cases r:k<12
  .have m:=l r;clear l;go_wp2_with (at_builtin;refine wpList_append_own _ rfl _ _ 24 rfl w.heap.size 3 i0 (.int .i64 0) 1 8 Tryz.underlying24 hi y z B rfl dd _ _ _ rfl (g.alloc _) ⟨wr.heap.size,0,I⟩ 1 1 [.int .i64 k] rfl rfl (cell_one_new _ _ _) (λx m=>by simp at m;subst m;rfl) (by unfold maxLen;omega) zz so ?_;intro v' G n o E)
   .have j:d k=true:=by assumption
    have e1:=oG j;go_roundw
    case rel=>
     obtain⟨A,c,u⟩:=tK n;exact⟨k+1,A,c,zz,by go_num,by rw[u,e1];simp,by rw[e1];simpa using n,(f.alloc t _).grown o so (λq s=>(g.lt q s).1)⟩
    case measure=>simp[intOf];omega
   .have j:d k=false:=by assumption
    have e1:=mV j;go_roundw
    case rel=>exact⟨k+1,a,b,zz,by go_num,by rw[e1],by rw[e1];exact g,f⟩
    case measure=>simp[intOf];omega
  .clear l;obtain rfl:k=12:=zz;go_wp2;go_ret;exact⟨a,b,by simp,by simpa using g,f⟩
variable{w wr a:H}{b B i:Nat}{o:Obj}
def aN(w:H)(s:Sl)(l:List Int):Prop:=s.n=l.length/\l.length<=s.c/\l.length<=1000/\(0<l.length->∃b off,s.A=Y ⟨b,off,I⟩/\b<w.heap.size/\∀k,k<l.length->w (b,off+k)=Y (.int .i64 (l.getD k 0)))
theorem aN.below{w w':H}{s:Sl}{l:List Int}(h:aN w s l)(a:X w w w'):aN w' s l:=
 ⟨h.1,h.2.1,h.2.2.1,λc=>by
  obtain⟨b,off,d,h2,e⟩:=h.2.2.2 c;exact⟨b,off,d,iv h2 a.size,λk hk=>(a.cell (p:=⟨b,off+k,I⟩) h2).tn (e k hk)⟩⟩
def bS(S:Int):Option Int->List Int->Int
 | _,[]=>0
 | p,n::r=>if ax n 0 (S-1)=false then 6 else if(match p with|some x=>decide (n<=x)|none=>false)=true then 7 else bS S (Y n) r
def qh(l:List Int)(k:Nat):Option Int:=if k=0 then I else Y (l.getD (k-1) 0)
def vE(S:Int)(l:List Int)(k:Nat)(hk:k<l.length):bS S (qh l k) (l.drop k)=
  if ax (l.getD k 0) 0 (S-1)=false then 6 else if(decide (0<k)&&decide (l.getD k 0<=l.getD (k-1) 0))=true then 7 else bS S (qh l (k+1)) (l.drop (k+1)):=by
 rw[lL hk];have e:l.getD k 0=l[k]:=by simp[List.getD,fg hk]
 simp only[bS,<- e];rcases mT k with rfl|a
 .simp[qh]
 .have:k≠0:=zz;simp[qh,this,a]
def xR(S:Int)(l:List Int)(p:Option Int):bS S p (l.drop l.length)=0:=by simp[bS]
def aU{W w1:H}(a:X W.heap.size W w1):(∀b o,b<W.heap.size->w1.cell? ⟨b,o,I⟩=W.cell? ⟨b,o,I⟩)/\(∀b o,b<W.heap.size->w1.frozen? ⟨b,o,I⟩=W.frozen? ⟨b,o,I⟩):=
 ⟨λb o h=>a.cell h,λb o h=>a.frozen h⟩
def aE(b:aC)(t:Lk):Obj:=.cells #[.int .i64 b.S,.int .i64 b.D,.int .i64 b.L,.int .i64 b.lo,.int .i64 b.hi,.slice b.C.A b.C.n b.C.c,.int .i64 b.rf,.int .i64 b.rh,.int .i64 b.cf,.int .i64 b.ch,.slice b.U.A b.U.n b.U.c,.slice b.E.A b.E.n b.E.c,.slice b.W.A b.W.n b.W.c] t
abbrev Dg(b:aC):Obj:=aE b 82
def iw{b:aC}{t:Lk}(h:X (w.heap.size+1) (w.alloc (aE b t)) wr):
  wr.cell? ⟨w.heap.size,0,I⟩=Y (.int .i64 b.S)/\wr.cell? ⟨w.heap.size,1,I⟩=Y (.int .i64 b.D)/\wr.cell? ⟨w.heap.size,2,I⟩=Y (.int .i64 b.L)/\wr.cell? ⟨w.heap.size,3,I⟩=Y (.int .i64 b.lo)/\wr.cell? ⟨w.heap.size,4,I⟩=Y (.int .i64 b.hi)/\
  wr.cell? ⟨w.heap.size,5,I⟩=Y (.slice b.C.A b.C.n b.C.c)/\wr.cell? ⟨w.heap.size,6,I⟩=Y (.int .i64 b.rf)/\wr.cell? ⟨w.heap.size,7,I⟩=Y (.int .i64 b.rh)/\wr.cell? ⟨w.heap.size,8,I⟩=Y (.int .i64 b.cf)/\wr.cell? ⟨w.heap.size,9,I⟩=Y (.int .i64 b.ch)/\
  wr.cell? ⟨w.heap.size,10,I⟩=Y (.slice b.U.A b.U.n b.U.c)/\wr.cell? ⟨w.heap.size,11,I⟩=Y (.slice b.E.A b.E.n b.E.c)/\wr.cell? ⟨w.heap.size,12,I⟩=Y (.slice b.W.A b.W.n b.W.c):=H2
def below_drewN(h:X B a w)(n:Nat):X B a (w.drewN n):=⟨h.os,h.tape,h.output,h.size,h.block⟩
def lH(h:X B a w):X B a w.drew:=⟨h.os,h.tape,h.output,h.size,h.block⟩
def aa(w:H)(o:Obj):(w.alloc o).heap.size=w.heap.size+1:=by simp
def aP(h:X B a w)(hB:B<=a.heap.size)(o:Obj):X B a (w.alloc o):=h.alloc (ec hB h.size) o
def jH(h:X B a w)(hB:B<=b)(v:M):X B a (w.setCell (b,i) v):=h.setCell hB v
theorem jN(h:X (w.heap.size+1) (w.alloc o) wr)(a:b<w):wr (b,i)=w (b,i):=
 (h.cell (by show b<_;omega)).tn (H.cell?_alloc_lt w o ⟨b,i,I⟩ a)
theorem bT(h:X (w.heap.size+1) (w.alloc o) wr):X w w wr:=
 ((X.refl _ _).alloc (dj _) o).tn (h.mono (Nat.le_succ _))
theorem xS(b:aC)(B: -1000<=b.S)(h2:b.S<=1000)(s:Sl)(l:List Int)(w:H)(G:aN w s l):
  PH F 124 #[b.v,.slice s.A s.n s.c] w λe w'=>e=.returned (.int .i64 (bS b.S I l))/\X w.heap.size w w':=by
 have r:=λn w=>fB b n B h2 w;obtain⟨A,R,c⟩:=s;obtain⟨rfl,N,Q,u⟩:=G;have z:PQ (0<l.length->∃b off,A=Y ⟨b,off,I⟩/\b<w.heap.size/\∀k,k<l.length->w.cell? ⟨b,off+k,I⟩=Y (.int .i64 (l.getD k 0))):=u;clear u;unfold aC.v at r|-;simp only at|-;go_enter Tryz.func124,Tryz.ntmps124;go_wp2;go_loopw [9] (λi wr=>∃k:Nat,k<=l.length/\i=.int .i64 k/\X (w.heap.size+1) (w.alloc (Dg b)) wr/\PQ (bS b.S I l=bS b.S (qh l k) (l.drop k))) (λi _=>l.length-(intOf i).toNat)
 case atStart=>exact⟨0,fi _,rfl,X.refl _ _,by simp[qh,PQ]⟩
 case round=>
  obtain⟨k,hk,rfl,a,g⟩:=hrel;have J:w.heap.size+1<=wr.heap.size:=by have:=a.size;rw[aa]at this;exact this
  by_cases v:k<l.length
  .have j:=vE b.S l k v;obtain⟨T,U,x2,x3,x4,x5,x6,x7,x8,x9,V,W,Z⟩:=iw a;obtain⟨o,off,rfl,t,q⟩:=z.out zz;have L:o<wr.heap.size:=zz;have C:wr.cell? ⟨o,off+k,I⟩=Y (.int .i64 (l.getD k 0)):=(jN a t).tn (q k v);have E:0<k->wr.cell? ⟨o,off+(k-1),I⟩=Y (.int .i64 (l.getD (k-1) 0)):=λK=>(jN a t).tn (q (k-1) zz);clear q;generalize l.getD k 0=x at j C;generalize l.getD (k-1) 0=y at j E;have m:=Hm j;clear j;go_wp2_with ((go_at_call 66;refine(r _ _).mono ?_;rintro e S ⟨rfl,f⟩;obtain⟨O,P⟩:=aU f))
   .have d:ax x 0 (b.S-1)=false:=by simpa using ‹(!ax x 0 (b.S-1))=true›
    go_ret;exact⟨aW (by rw[g.out,m.out,dE d]),(bT a).tn (f.mono zz)⟩
   .have ø:=0;exact sf
   .exact sf
   .exact sf
  .obtain rfl:k=l.length:=zz;go_wp2;go_ret;exact⟨aW (by rw[g.out,xR]),bT a⟩
def cA(b:aC)(l:List Int):Int:=
 if ax b.S 4 12=true/\ax b.D 0 2=true/\ax b.L 1 4=true/\lF b.lo b.hi (-3) 3=true/\b.hi-b.lo<3 then bS b.S I l else 1
def cq{n l h:Int}:ax n l h=true↔l<=n/\n<=h:=by simp[ax]
def uJ{lo hi l h:Int}:lF lo hi l h=true↔l<=lo/\lo<=hi/\hi<=h:=by simp[lF,and_assoc]
theorem aY{w w':H}{o:Obj}(h:X (w.alloc o).heap.size (w.alloc o) w'):X w w w':=
 ((X.refl _ _).alloc (dj _) o).tn (h.mono (by rw[aa];omega))
def aZ{w:H}{s:Sl}{l:List Int}(h:aN w s l)(o:Obj):aN (w.alloc o) s l:=h.below ((X.refl _ _).alloc (dj _) o)
theorem KX(b:aC)(l:List Int)(w:H)(j:aN w b.C l):
  PH F 165 #[b.v] w λe w'=>e=.returned (.int .i64 (cA b l))/\X w w w':=by
 have k:=Hm j;clear j;have d:=λ(m: -1000<=b.S) (h2:b.S<=1000) (c:H) (h:aN c b.C l)=>xS b m h2 b.C l c h;by_cases hB:lF b.lo b.hi (-3) 3=true
 .obtain⟨v,x,y⟩:=uJ.1 hB;by_cases f:ax b.S 4 12=true
  .obtain⟨z,A⟩:=cq.1 f;by_cases g:ax b.D 0 2=true
   .by_cases i:ax b.L 1 4=true
    .unfold aC.v at d|-;go_enter Tryz.func165,Tryz.ntmps165;go_wp2_with (first|(go_at_call 90;refine(eA _ _ _ _).mono ?_;rintro e w' ⟨rfl,rfl⟩)|(go_at_call 170;refine(lG _ _ _ _ _).mono ?_;rintro e c ⟨rfl,a⟩;obtain⟨t,u⟩:=aU a)|(go_at_call 124;refine(d zz zz _ (aZ k.out _ |>.below a)).mono ?_;rintro e B ⟨rfl,s⟩))
     .go_ret;exact⟨aW (by rw[cA,cd zz]),aY a⟩
     .go_ret;exact⟨aW (by rw[cA,dE ⟨f,g,i,hB,zz⟩]),(aY a).tn (s.mono (by have h:=a.size;rw[aa]at h;omega))⟩
    .have æ:=0;exact ub
   .have ø:=0;exact ub
  .have å:=0;exact ub
 .exact ub
def cZ(b:aC):Int:=
 if ax b.rf 2 30=true/\ax b.rh 2 60=true/\ax b.cf 0 b.rf=true/\ax b.ch 1 60=true then(if b.rh<=b.ch then 7 else 0)else 1
theorem FQ(b:aC)(w:H):
  PH F 166 #[b.v] w λe w'=>e=.returned (.int .i64 (cZ b))/\X w w w':=by
 unfold aC.v;go_enter Tryz.func166,Tryz.ntmps166;go_wp2_with ((go_at_call 90;refine(eA _ _ _ _).mono ?_;rintro e w' ⟨rfl,rfl⟩));all_goals go_ret
 all_goals exact⟨aW (by simp_all[cZ]),(X.refl _ _).alloc (dj _) _⟩
def bp(w:H)(s:Sl)(l:List (Int×Int)):Prop:=s.n=l.length/\l.length<=s.c/\l.length<=1000/\(0<l.length->∃b off,s.A=Y ⟨b,off,I⟩/\b<w.heap.size/\∀k,k<l.length->w (b,off+k*2)=Y (.int .i64 (l.getD k (0,0)).1)/\w (b,off+k*2+1)=Y (.int .i64 (l.getD k (0,0)).2))
theorem bp.below{w w':H}{s:Sl}{l:List (Int×Int)}(h:bp w s l)(a:X w w w'):bp w' s l:=
 ⟨h.1,h.2.1,h.2.2.1,λd=>by
  obtain⟨b,off,e,h2,c⟩:=h.2.2.2 d;exact⟨b,off,e,iv h2 a.size,λk hk=>⟨(a.cell (p:=⟨b,off+k*2,I⟩) h2).tn (c k hk).1,(a.cell (p:=⟨b,off+k*2+1,I⟩) h2).tn (c k hk).2⟩⟩⟩
def nD(S:Int):List (Int×Int)->Int
 | []=>0
 | (a,h)::r=>if ax a 0 (S-1)=false then 6 else if ax h (-9) 9=false then 1 else nD S r
def fH(S:Int)(l:List (Int×Int)):Int:=if ax (l.length:Int) 1 4=true then nD S l else 2
def Al(S:Int)(l:List (Int×Int))(k:Nat)(hk:k<l.length):nD S (l.drop k)=
  if ax (l.getD k (0,0)).1 0 (S-1)=false then 6 else if ax (l.getD k (0,0)).2 (-9) 9=false then 1 else nD S (l.drop (k+1)):=xbq
theorem NV(b:aC)(J: -1000<=b.S)(h2:b.S<=1000)(l:List (Int×Int))(w:H)(W:bp w b.U l):
  PH F 167 #[b.v] w λe w'=>e=.returned (.int .i64 (fH b.S l))/\X w w w':=by
 obtain⟨S,D,L,lo,hi,⟨q,s,r⟩,rf,rh,cf,ch,⟨z,R,A⟩,⟨t,v,u⟩,⟨B,E,C⟩⟩:=b;have K:=λn w=>fB ⟨S,D,L,lo,hi,⟨q,s,r⟩,rf,rh,cf,ch,⟨z,R,A⟩,⟨t,v,u⟩,⟨B,E,C⟩⟩ n J h2 w;obtain⟨O,T,a7,m⟩:=W;simp only[aC.v]at K O T m J h2|-;subst O;have Q:=Hm m;clear m;by_cases hF:ax (l.length:Int) 1 4=true
 .go_enter Tryz.func167,Tryz.ntmps167;go_wp2_with ((go_at_call 90;refine(eA _ _ _ _).mono ?_;rintro e w' ⟨rfl,rfl⟩));go_loopw [15] (λi wr=>∃k:Nat,k<=l.length/\i=.int .i64 k/\X (w.heap.size+1) (w.alloc (Dg ⟨S,D,L,lo,hi,⟨q,s,r⟩,rf,rh,cf,ch,⟨z,l.length,A⟩,⟨t,v,u⟩,⟨B,E,C⟩⟩)) wr/\PQ (nD S l=nD S (l.drop k))) (λi _=>l.length-(intOf i).toNat)
  case atStart=>exact⟨0,fi _,rfl,X.refl _ _,rfl⟩
  case round=>
   obtain⟨k,hk,rfl,a,f⟩:=hrel;have P:(w:Nat)+1<=wr:=by have:=a.size;rw[aa]at this;exact this
   have a8:(w:Nat)<wr:=P;by_cases p:k<l.length
   .have g:=Al S l k p
    (obtain⟨Z,x1,x2,x3,x4,x5,x6,x7,x8,x9,a1,a2,a3⟩:=iw a;dsimp only at Z x1 x2 x3 x4 x5 x6 x7 x8 x9 a1 a2 a3)
    obtain⟨G,off,rfl,N,o⟩:=Q.out zz;have U:wr (G,off+k*2)=Y (.int .i64 (l.getD k (0,0)).1):=(jN a N).tn (o k p).1;have V:wr (G,off+k*2+1)=Y (.int .i64 (l.getD k (0,0)).2):=(jN a N).tn (o k p).2;clear o;generalize(l.getD k (0,0)).1=x at g U;generalize(l.getD k (0,0)).2=y at g V;have h:=Hm g;clear g;go_wp2_with (first|(go_at_call 66;refine(K _ _).mono ?_;rintro e w1 ⟨rfl,d⟩;obtain⟨a5,a6⟩:=aU d)|(go_at_call 90;refine(eA _ _ _ _).mono ?_;rintro e w' ⟨rfl,rfl⟩))
    .have c:ax x 0 (S-1)=false:=by simpa using ‹(!ax x 0 (S-1))=true›
     go_ret;exact⟨aW (by rw[fH,dE hF,f.out,h.out,dE c]),(bT a).tn ((aY d).mono zz)⟩
    .have c:ax x 0 (S-1)=true:=by simpa using ‹(!ax x 0 (S-1))=false›
     have j:ax y (-9) 9=false:=by simpa using ‹(!ax y (-9) 9)=true›
     go_ret;exact⟨aW (by rw[fH,dE hF,f.out,h.out,cd (by simp[c]),dE j]),(bT a).tn ((aY d).mono zz)⟩
    .have c:ax x 0 (S-1)=true:=by simpa using ‹(!ax x 0 (S-1))=false›
     have j:ax y (-9) 9=true:=by simpa using ‹(!ax y (-9) 9)=false›
     go_roundw
     case rel=>exact⟨k+1,zz,by go_num,a.tn ((aY d).mono P),f.out.tn (h.out.tn (by rw[cd (by simp[c]),cd (by simp[j])]))⟩
     case measure=>simp[intOf];omega
   .obtain rfl:k=l.length:=zz;go_wp2;go_ret;exact⟨aW (by rw[fH,dE hF,f.out];simp[nD]),bT a⟩
 .have a4:ax (l.length:Int) 1 4=false:=by simpa using hF
  go_enter Tryz.func167,Tryz.ntmps167;go_wp2_with ((go_at_call 90;refine(eA _ _ _ _).mono ?_;rintro e w' ⟨rfl,rfl⟩));go_ret;exact⟨aW (by rw[fH,cd hF]),(X.refl _ _).alloc (dj _) _⟩
def nF(rf ch:Int):List (Int×Int)->Int
 | []=>0
 | (a,h)::r=>if(ax a (1-rf) (rf-1)&&ax h 0 60)=false then 1 else if ch<=h then 7 else nF rf ch r
def fT(rf ch:Int)(l:List (Int×Int)):Int:=if 3<l.length then 2 else nF rf ch l
def Am(rf ch:Int)(l:List (Int×Int))(k:Nat)(hk:k<l.length):nF rf ch (l.drop k)=
  if(ax (l.getD k (0,0)).1 (1-rf) (rf-1)&&ax (l.getD k (0,0)).2 0 60)=false then 1 else if ch<=(l.getD k (0,0)).2 then 7 else nF rf ch (l.drop (k+1)):=xbq
theorem NX(b:aC)(P:2<=b.rf)(h2:b.rf<=30)(l:List (Int×Int))(w:H)(U:bp w b.E l):
  PH F 168 #[b.v] w λe w'=>e=.returned (.int .i64 (fT b.rf b.ch l))/\X w w w':=by
 obtain⟨S,D,L,lo,hi,⟨u,z,v⟩,rf,rh,cf,ch,⟨E,J,G⟩,⟨A,a3,B⟩,⟨K,O,N⟩⟩:=b;obtain⟨s,Q,a4,m⟩:=U;simp only[aC.v]at s Q m P h2|-;subst s;have C:=Hm m;clear m;by_cases hF:l.length<=3
 .go_enter Tryz.func168,Tryz.ntmps168;go_wp2;go_loopw [14] (λi wr=>∃k:Nat,k<=l.length/\i=.int .i64 k/\X (w.heap.size+1) (w.alloc (Dg ⟨S,D,L,lo,hi,⟨u,z,v⟩,rf,rh,cf,ch,⟨E,J,G⟩,⟨A,l.length,B⟩,⟨K,O,N⟩⟩)) wr/\PQ (nF rf ch l=nF rf ch (l.drop k))) (λi _=>l.length-(intOf i).toNat)
  case atStart=>exact⟨0,fi _,rfl,X.refl _ _,rfl⟩
  case round=>
   obtain⟨k,hk,rfl,a,c⟩:=hrel;have t:(w:Nat)+1<=wr:=by have:=a.size;rw[aa]at this;exact this
   have a5:(w:Nat)<wr:=t;by_cases o:k<l.length
   .have d:=Am rf ch l k o
    (obtain⟨V,W,x2,x3,x4,x5,x6,x7,x8,x9,Z,a1,a2⟩:=iw a;dsimp only at V W x2 x3 x4 x5 x6 x7 x8 x9 Z a1 a2)
    obtain⟨q,off,rfl,r,n⟩:=C.out zz;have R:wr (q,off+k*2)=Y (.int .i64 (l.getD k (0,0)).1):=(jN a r).tn (n k o).1;have T:wr (q,off+k*2+1)=Y (.int .i64 (l.getD k (0,0)).2):=(jN a r).tn (n k o).2;clear n;generalize(l.getD k (0,0)).1=x at d R;generalize(l.getD k (0,0)).2=y at d T;have f:=Hm d;clear d;cases g:ax x (1-rf) (rf-1)<;>cases j:ax y 0 60;all_goals go_wp2_with ((go_at_call 90;refine(eA _ _ _ _).mono ?_;rintro e w' ⟨rfl,rfl⟩))
    .exact xbp
    .exact xbp
    .exact xbp
    .go_ret;exact⟨aW (by rw[fT,cd zz,c.out,f.out,cd (by simp[g,j]),dE (by assumption)]),(bT a).tn ((X.refl _ _).alloc zz _)⟩
    go_roundw
    case rel=>exact⟨k+1,zz,by go_num,a.tn ((X.refl _ _).alloc t _),c.out.tn (f.out.tn (by rw[cd (by simp[g,j]),cd zz]))⟩
    case measure=>simp[intOf];omega
   .obtain rfl:k=l.length:=zz;go_wp2;go_ret;exact⟨aW (by rw[fT,cd zz,c.out];simp[nF]),bT a⟩
 .go_enter Tryz.func168,Tryz.ntmps168;go_wp2;go_ret;exact⟨aW (by rw[fT,dE zz]),(X.refl _ _).alloc (dj _) _⟩
def fL(w:H)(s:Sl)(l:List (Int×Int×Bool)):Prop:=s.n=l.length/\l.length<=s.c/\l.length<=1000/\(0<l.length->∃b off,s.A=Y ⟨b,off,I⟩/\b<w.heap.size/\∀k,k<l.length->w (b,off+k*3)=Y (.int .i64 (l.getD k (0,0,false)).1)/\w (b,off+k*3+1)=Y (.int .i64 (l.getD k (0,0,false)).2.1)/\w (b,off+k*3+2)=Y (.bool (l.getD k (0,0,false)).2.2))
theorem fL.below{w w':H}{s:Sl}{l:List (Int×Int×Bool)}(h:fL w s l)(a:X w w w'):fL w' s l:=
 ⟨h.1,h.2.1,h.2.2.1,λd=>by
  obtain⟨b,off,e,h2,c⟩:=h.2.2.2 d;exact⟨b,off,e,iv h2 a.size,λk hk=>⟨(a.cell (p:=⟨b,off+k*3,I⟩) h2).tn (c k hk).1,(a.cell (p:=⟨b,off+k*3+1,I⟩) h2).tn (c k hk).2.1,(a.cell (p:=⟨b,off+k*3+2,I⟩) h2).tn (c k hk).2.2⟩⟩⟩
def qi(S n:Int):List (Int×Int×Bool)->Int
 | []=>0
 | (a,s,_)::r=>if(ax a 0 (n-1)&&ax s 0 (S-1))=false then 6 else qi S n r
def ki(S n:Int)(l:List (Int×Int×Bool)):Int:=if 4<l.length then 2 else qi S n l
def Dh(S n:Int)(l:List (Int×Int×Bool))(k:Nat)(hk:k<l.length):qi S n (l.drop k)=
  if(ax (l.getD k (0,0,false)).1 0 (n-1)&&ax (l.getD k (0,0,false)).2.1 0 (S-1))=false then 6 else qi S n (l.drop (k+1)):=ZY
theorem Dj(b:aC)(R: -1000<=b.S)(h2:b.S<=1000)(T:b.U.n<=1000)(l:List (Int×Int×Bool))(w:H)(a6:fL w b.W l):
  PH F 169 #[b.v] w λe w'=>e=.returned (.int .i64 (ki b.S b.U.n l))/\X w w w':=by
 obtain⟨S,D,L,lo,hi,⟨o,r,q⟩,rf,rh,cf,ch,⟨A,c,B⟩,⟨s,u,t⟩,⟨C,a',E⟩⟩:=b;obtain⟨W,a2,b4,Q⟩:=a6;simp only at W;subst W;have U:=λn w=>fB ⟨S,D,L,lo,hi,⟨o,r,q⟩,rf,rh,cf,ch,⟨A,c,B⟩,⟨s,u,t⟩,⟨C,l.length,E⟩⟩ n R h2 w;have V:=λn w=>oE ⟨S,D,L,lo,hi,⟨o,r,q⟩,rf,rh,cf,ch,⟨A,c,B⟩,⟨s,u,t⟩,⟨C,l.length,E⟩⟩ n T w;simp only[aC.v]at U V a2 Q R h2 T|-;have a1:=Hm Q;clear Q;by_cases hF:l.length<=4
 .go_enter Tryz.func169,Tryz.ntmps169;go_wp2;go_loopw [14] (λi wr=>∃k:Nat,k<=l.length/\i=.int .i64 k/\X (w.heap.size+1) (w.alloc (Dg ⟨S,D,L,lo,hi,⟨o,r,q⟩,rf,rh,cf,ch,⟨A,c,B⟩,⟨s,u,t⟩,⟨C,l.length,E⟩⟩)) wr/\PQ (qi S c l=qi S c (l.drop k))) (λi _=>l.length-(intOf i).toNat)
  case atStart=>exact⟨0,fi _,rfl,X.refl _ _,rfl⟩
  case round=>
   obtain⟨k,hk,rfl,a,g⟩:=hrel;have Z:(w:Nat)+1<=wr:=by have:=a.size;rw[aa]at this;exact this
   have b5:(w:Nat)<wr:=Z;by_cases j:k<l.length
   .have m:=Dh S c l k j
    (obtain⟨x0,x1,x2,x3,x4,x5,x6,x7,x8,x9,a7,a8,a9⟩:=iw a;dsimp only at x0 x1 x2 x3 x4 x5 x6 x7 x8 x9 a7 a8 a9)
    obtain⟨G,off,rfl,P,f⟩:=a1.out zz;have a3:wr (G,off+k*3)=Y (.int .i64 (l.getD k (0,0,false)).1):=(jN a P).tn (f k j).1;have a4:wr (G,off+k*3+1)=Y (.int .i64 (l.getD k (0,0,false)).2.1):=(jN a P).tn (f k j).2.1;have a5:wr (G,off+k*3+2)=Y (.bool (l.getD k (0,0,false)).2.2):=(jN a P).tn (f k j).2.2;clear f;generalize(l.getD k (0,0,false)).1=x at m a3;generalize(l.getD k (0,0,false)).2.1=y at m a4;generalize(l.getD k (0,0,false)).2.2=z at a5;have v:=Hm m;clear m;cases J:ax x 0 (c-1)<;>cases K:ax y 0 (S-1);all_goals go_wp2_with (first|(go_at_call 44;refine(V _ _).mono ?_;rintro e w1 ⟨rfl,d⟩;obtain⟨a0,b2⟩:=aU d)|(go_at_call 66;refine(U _ _).mono ?_;rintro e w2 ⟨rfl,N⟩;obtain⟨b1,b3⟩:=aU N))
    .exact xbr
    .exact xbr
    .have O:=(aY d).tn (N.mono (by have h:=(aY d).size;omega));go_ret;exact⟨aW (by rw[ki,cd zz,g.out,v.out,dE (by simp[J,K])]),(bT a).tn (O.mono zz)⟩
    .have O:=(aY d).tn (N.mono (by have h:=(aY d).size;omega));go_roundw
     case rel=>exact⟨k+1,zz,by go_num,a.tn (O.mono Z),g.out.tn (v.out.tn (by rw[cd (by simp[J,K])]))⟩
     case measure=>simp[intOf];omega
   .obtain rfl:k=l.length:=zz;go_wp2;go_ret;exact⟨aW (by rw[ki,cd zz,g.out];simp[qi]),bT a⟩
 .go_enter Tryz.func169,Tryz.ntmps169;go_wp2;go_ret;exact⟨aW (by rw[ki,dE zz]),(X.refl _ _).alloc (dj _) _⟩
variable{w':H}{b:aC}
def aD(w:H):Prop:=0<w.heap.size/\w (0,0)=Y (.func (.func 165) #[] #[])/\w (0,1)=Y (.func (.func 166) #[] #[])/\w (0,2)=Y (.func (.func 167) #[] #[])/\w (0,3)=Y (.func (.func 168) #[] #[])/\w (0,4)=Y (.func (.func 169) #[] #[])
theorem aD.below(h:aD w)(b:X w w w'):aD w':=by
 obtain⟨a,c,h2,d,e,f⟩:=h;exact⟨iv a b.size,(b.cell (p:=⟨0,0,I⟩) a).tn c,(b.cell (p:=⟨0,1,I⟩) a).tn h2,(b.cell (p:=⟨0,2,I⟩) a).tn d,(b.cell (p:=⟨0,3,I⟩) a).tn e,(b.cell (p:=⟨0,4,I⟩) a).tn f⟩
structure bN where
 C:List Int
 U:List (Int×Int)
 E:List (Int×Int)
 W:List (Int×Int×Bool)
structure aI(w:H)(b:aC)(l:bN):Prop where
 C:aN w b.C l.C
 U:bp w b.U l.U
 E:bp w b.E l.E
 W:fL w b.W l.W
def aI.below{l:bN}(h:aI w b l)(a:X w w w'):aI w' b l:=⟨h.C.below a,h.U.below a,h.E.below a,h.W.below a⟩
def eD(b:aC)(l:bN):Nat->Int
 | 0=>cA b l.C
 | 1=>cZ b
 | 2=>fH b.S l.U
 | 3=>fT b.rf b.ch l.E
 | _=>ki b.S l.U.length l.W
def ay(b:aC)(l:bN):Int:=
 if cA b l.C≠0 then cA b l.C else if cZ b≠0 then cZ b else if fH b.S l.U≠0 then fH b.S l.U else if fT b.rf b.ch l.E≠0 then fT b.rf b.ch l.E else ki b.S l.U.length l.W
def cS{l:List Int}(h:cA b l=0):4<=b.S/\b.S<=12/\0<=b.D/\b.D<=2/\1<=b.L/\b.L<=4/\ -3<=b.lo/\b.lo<=b.hi/\b.hi<=3/\b.hi-b.lo<3/\bS b.S I l=0:=by
 unfold cA at h;split at h
 .rename_i a;simp only[cq,uJ]at a;obtain⟨⟨c,e⟩,⟨f,g⟩,⟨i,j⟩,⟨k,m,n⟩,d⟩:=a;exact⟨c,e,f,g,i,j,k,m,n,d,h⟩
 .omega
def wL(h:cZ b=0):2<=b.rf/\b.rf<=30/\2<=b.rh/\b.rh<=60/\0<=b.cf/\b.cf<=b.rf/\1<=b.ch/\b.ch<=60/\b.ch<b.rh:=by
 unfold cZ at h;split at h
 .rename_i a;simp only[cq]at a;split at h
  .omega
  .omega
 .omega
def UU{S:Int}{l:List (Int×Int)}(h:fH S l=0):1<=l.length/\l.length<=4:=by
 unfold fH at h;split at h
 .rename_i a;simp only[cq]at a;omega
 .omega
def Bn{l:bN}:eD b l 4=ki b.S l.U.length l.W:=rfl
def tL{f:Nat->Int}{k:Nat}(h:∀j,j<k->f j=0)(b:f k=0):∀j,j<k+1->f j=0:=λj c=>by
 rcases Nat.lt_or_ge j k with a|a
 .exact h j a
 .have:j=k:=zz;rw[this];exact b
def qj{l:bN}:∀k,k<5->(∀j,j<k->eD b l j=0)->eD b l k≠0->ay b l=eD b l k:=by
 intro k hk a hne;unfold ay;rcases(show k=0\/k=1\/k=2\/k=3\/k=4 from zz)with rfl|rfl|rfl|rfl|rfl
 .rw[dE (show cA b l.C≠0 from hne)];rfl
 .have e0:cA b l.C=0:=a 0 zz;rw[cd (by simp[e0]),dE (show cZ b≠0 from hne)];rfl
 .have e0:cA b l.C=0:=a 0 zz;have e1:cZ b=0:=a 1 zz;rw[cd (by simp[e0]),cd (by simp[e1]),dE (show fH b.S l.U≠0 from hne)];rfl
 .have ø:=0;exact xau
 .have å:=0;exact xau
def KY{l:bN}(a:∀j,j<5->eD b l j=0):ay b l=0:=xau
def Ww{w wr:H}{b b':aC}{t:Lk}{l:bN}(h:aI w b l)(a:X (w.heap.size+1) (w.alloc (aE b' t)) wr):aI wr b l:=h.below (bT a)
theorem cG(b:aC)(l:bN)(w:H)(v:aI w b l)(B:aD w):
  PH F 13 #[b.v] w λe w'=>e=.returned (.int .i64 (ay b l))/\X w w w':=by
 have J:=Hm v;have N:=Hm B;obtain⟨g,O,P,Q,R,S⟩:=B;have C:b.U.n=l.U.length:=v.U.1;have q:=Hm C;clear v C;have c0:=λ(wr:H) (m:aI wr b l)=>KX b l.C wr m.C;have x:=λ(wr:H)=>FQ b wr;have y:=λ(wr:H) (m:aI wr b l) (o: -1000<=b.S) (p:b.S<=1000)=>NV b o p l.U wr m.U;have z:=λ(wr:H) (m:aI wr b l) (o:2<=b.rf) (p:b.rf<=30)=>NX b o p l.E wr m.E;have A:=λ(wr:H) (m:aI wr b l) (o: -1000<=b.S) (p:b.S<=1000) (K:b.U.n<=1000)=>Dj b o p K l.W wr m.W;have L:PQ (b.v=b.v):=rfl;simp only[aC.v]at c0 x y z A|-;go_enter Tryz.func13,Tryz.ntmps13;go_wp2;go_loopw [7] (λi wr=>∃k:Nat,k<=5/\i=.int .i64 k/\X (w.heap.size+1) (w.alloc (aE b 31)) wr/\PQ (∀j,j<k->eD b l j=0)) (λi _=>5-(intOf i).toNat)
 case atStart=>exact⟨0,zz,rfl,X.refl _ _,λj V=>zz⟩
 case round=>
  obtain⟨k,hk,rfl,d,c⟩:=hrel;have n:(w:Nat)+1<=wr:=by have:=d.size;rw[aa]at this;exact this
  have W:(w:Nat)<wr:=n;obtain⟨x0,x1,x2,x3,x4,x5,x6,x7,x8,x9,a1,a2,a3⟩:=iw d;have hB:=Hm (Ww J.out d);rcases(show k=0\/k=1\/k=2\/k=3\/k=4\/k=5 from zz)with rfl|rfl|rfl|rfl|rfl|rfl
  .have t:∀w:H,(Instr.index 98 (.agg #[.func (.func 165) #[] #[],.func (.func 166) #[] #[],.func (.func 167) #[] #[],.func (.func 168) #[] #[],.func (.func 169) #[] #[]]) (.int .i64 0)).run F w=.ok (.func (.func 165) #[] #[]) w:=λ_=>by kernel_rfl
   go_wp2_with (go_at_call 165;refine(c0 _ hB.out).mono ?_;rintro e u ⟨rfl,a⟩;obtain⟨r,s⟩:=aU a)
   .have h:eD b l 0≠0:=by simpa[eD]using ‹(cA b l.C != 0)=true›
    go_ret;exact⟨aW (qj 0 zz c.out h).symm,(bT d).tn (a.mono zz)⟩
   .have f:eD b l 0=0:=by simpa[eD]using ‹(cA b l.C != 0)=false›
    go_roundw
    case rel=>exact⟨1,zz,by first|rfl|go_num,d.tn (a.mono n),tL c.out f⟩
    case measure=>simp[intOf]
  .have t:∀w:H,(Instr.index 98 (.agg #[.func (.func 165) #[] #[],.func (.func 166) #[] #[],.func (.func 167) #[] #[],.func (.func 168) #[] #[],.func (.func 169) #[] #[]]) (.int .i64 1)).run F w=.ok (.func (.func 166) #[] #[]) w:=λ_=>by kernel_rfl
   go_wp2_with (go_at_call 166;refine(x _).mono ?_;rintro e u ⟨rfl,a⟩;obtain⟨r,s⟩:=aU a)
   .have h:eD b l 1≠0:=by simpa[eD]using ‹(cZ b != 0)=true›
    go_ret;exact⟨aW (qj 1 zz c.out h).symm,(bT d).tn (a.mono zz)⟩
   .have f:eD b l 1=0:=by simpa[eD]using ‹(cZ b != 0)=false›
    go_roundw
    case rel=>exact⟨2,zz,by first|rfl|go_num,d.tn (a.mono n),tL c.out f⟩
    case measure=>simp[intOf]
  .have t:∀w:H,(Instr.index 98 (.agg #[.func (.func 165) #[] #[],.func (.func 166) #[] #[],.func (.func 167) #[] #[],.func (.func 168) #[] #[],.func (.func 169) #[] #[]]) (.int .i64 2)).run F w=.ok (.func (.func 167) #[] #[]) w:=λ_=>by kernel_rfl
   obtain⟨E,G,-⟩:=cS (c.out 0 zz);go_wp2_with (go_at_call 167;refine(y _ hB.out zz zz).mono ?_;rintro e u ⟨rfl,a⟩;obtain⟨r,s⟩:=aU a)
   .have h:eD b l 2≠0:=by simpa[eD]using ‹(fH b.S l.U != 0)=true›
    go_ret;exact⟨aW (qj 2 zz c.out h).symm,(bT d).tn (a.mono zz)⟩
   .have f:eD b l 2=0:=by simpa[eD]using ‹(fH b.S l.U != 0)=false›
    go_roundw
    case rel=>exact⟨3,zz,by first|rfl|go_num,d.tn (a.mono n),tL c.out f⟩
    case measure=>simp[intOf]
  .have t:∀w:H,(Instr.index 98 (.agg #[.func (.func 165) #[] #[],.func (.func 166) #[] #[],.func (.func 167) #[] #[],.func (.func 168) #[] #[],.func (.func 169) #[] #[]]) (.int .i64 3)).run F w=.ok (.func (.func 168) #[] #[]) w:=λ_=>by kernel_rfl
   obtain⟨E,G,-⟩:=wL (c.out 1 zz);go_wp2_with (go_at_call 168;refine(z _ hB.out zz zz).mono ?_;rintro e u ⟨rfl,a⟩;obtain⟨r,s⟩:=aU a)
   .have h:eD b l 3≠0:=by simpa[eD]using ‹(fT b.rf b.ch l.E != 0)=true›
    go_ret;exact⟨aW (qj 3 zz c.out h).symm,(bT d).tn (a.mono zz)⟩
   .have f:eD b l 3=0:=by simpa[eD]using ‹(fT b.rf b.ch l.E != 0)=false›
    go_roundw
    case rel=>exact⟨4,zz,by first|rfl|go_num,d.tn (a.mono n),tL c.out f⟩
    case measure=>simp[intOf]
  .have t:∀w:H,(Instr.index 98 (.agg #[.func (.func 165) #[] #[],.func (.func 166) #[] #[],.func (.func 167) #[] #[],.func (.func 168) #[] #[],.func (.func 169) #[] #[]]) (.int .i64 4)).run F w=.ok (.func (.func 169) #[] #[]) w:=λ_=>by kernel_rfl
   obtain⟨E,G,-⟩:=cS (c.out 0 zz);have Z:b.U.n<=1000:=by have h2:=c.out 2 zz;have T:=q.out;have U:=UU h2;omega
   go_wp2_with (go_at_call 169;refine(A _ hB.out zz zz zz).mono ?_;rintro e u ⟨rfl,a⟩;obtain⟨r,s⟩:=aU a)
   .have h:eD b l 4≠0:=by rw[Bn,<- q.out];simpa using ‹(ki b.S (b.U.n:Int) l.W != 0)=true›
    go_ret;exact⟨aW (qj 4 zz c.out h |>.trans (by rw[Bn,q.out])).symm,(bT d).tn (a.mono zz)⟩
   .have f:eD b l 4=0:=by rw[Bn,<- q.out];simpa using ‹(ki b.S (b.U.n:Int) l.W != 0)=false›
    go_roundw
    case rel=>exact⟨5,zz,by first|rfl|go_num,d.tn (a.mono n),tL c.out f⟩
    case measure=>simp[intOf]
  .go_wp2;go_ret;exact⟨aW (KY c.out).symm,bT d⟩
variable{g:Nat}{t:Lk}{f:Nat->Bool}
def gN(sh:Int)(d:Nat->Bool):M:=.agg #[.int .i64 sh,.bool (d 0),.bool (d 1),.bool (d 2),.bool (d 3),.bool (d 4),.bool (d 5),.bool (d 6),.bool (d 7),.bool (d 8),.bool (d 9),.bool (d 10),.bool (d 11)]
def FT(S L step hi:Int)(n:Int):Bool:=decide (min ((n-(step+S/2)%S+S)%S) (S-(n-(step+S/2)%S+S)%S)<=hi/L)
def eT(S L sh:Int)(d:Nat->Bool)(p:Int×Int):Nat->Bool:=λn=>
 if p.2+sh<=0\/d p.1.toNat=true then false else decide ((n:Int)<S)&&FT S L p.1 (p.2+sh) n
def iB(w:H)(g:Nat)(t:Lk)(f:Nat->Bool):Prop:=∃cs:Array M,w.heap[g]?=Y (.cells cs t (0,0))/\cs.size=12/\∀i,i<12->cs[i]?=Y (.bool (f i))
def iB.cell(h:iB w g t f)(i:Nat)(hi:i<12):w (g,i)=Y (.bool (f i)):=by
 obtain⟨cs,a, -, b⟩:=h;rw[H.cell?,a];exact b i hi
def iB.free(h:iB w g t f)(i:Nat):w.frozen? (g,i)=false:=by
 obtain⟨cs,a, -,-⟩:=h;simp[H.frozen?,a]
def iB.set{f f':Nat->Bool}(h:iB w g t f){i:Nat}(hi:i<12){v:Bool}(d:f' i=v)(h2:∀j,j<12->j≠i->f' j=f j):iB (w.setCell (g,i) (.bool v)) g t f':=by
 obtain⟨cs,e1,a,c⟩:=h;refine⟨cs.setIfInBounds i (.bool v),by simp[H.setCell,ml,e1],by simpa using a,λj b=>?_⟩;by_cases e:i=j
 .subst e;simp[a,hi,d]
 .rw[lO e,c j b,h2 j b (λx=>e x.symm)]
def An(w:H)(b c a d:Obj):((((w.alloc b).alloc c).alloc a).alloc d).heap[w.heap.size+1+1]?=Y a:=by
 rw[QR _ _ (by simp only[aa];omega)];have:=Sp ((w.alloc b).alloc c) a;simp only[aa]at this;exact this
theorem qX(b:aC)(g1:4<=b.S)(g2:b.S<=12)(g3:1<=b.L)(g4:b.L<=4)(sh:Int)(g5: -3<=sh)(g6:sh<=3)(d:Nat->Bool)(h:Nat)(U:List (Int×Int))(c3:h<U.length)
  (q1:0<=(U.getD h (0,0)).1)(q2:(U.getD h (0,0)).1<b.S)(q3: -9<=(U.getD h (0,0)).2)(q4:(U.getD h (0,0)).2<=9)(w:H)(b5:bp w b.U U):
  PH F 45 #[b.v,gN sh d,.int .i64 h] w λe w'=>e=.returned (tJ (eT b.S b.L sh d (U.getD h (0,0))))/\Hd w w w':=by
 obtain⟨S,D,L,lo,hi,⟨s,b8,t⟩,rf,rh,cf,ch,⟨b1,b2,B⟩,⟨u,A,z⟩,⟨C,G,E⟩⟩:=b;obtain⟨r,b4,c9,g⟩:=b5;simp only[aC.v]at r b4 g g1 g2 g3 g4 q2|-;subst r;obtain⟨o,off,rfl,b0,J⟩:=g zz;obtain⟨c1,c2⟩:=J h c3;clear J g;generalize U.getD h (0,0)=p at q1 q2 q3 q4 c1 c2|-;obtain⟨x,y⟩:=p;simp only at q1 q2 q3 q4 c1 c2;obtain⟨k,rfl⟩:∃k:Nat,x=(k:Int):=⟨x.toNat,zz⟩;have d5:(#[.int .i64 sh,.bool (d 0),.bool (d 1),.bool (d 2),.bool (d 3),.bool (d 4),.bool (d 5),.bool (d 6),.bool (d 7),.bool (d 8),.bool (d 9),.bool (d 10),.bool (d 11)]:Array M)[1+k]?=Y (.bool (d k)):=by
  rcases(show k=0\/k=1\/k=2\/k=3\/k=4\/k=5\/k=6\/k=7\/k=8\/k=9\/k=10\/k=11 from zz)with rfl|rfl|rfl|rfl|rfl|rfl|rfl|rfl|rfl|rfl|rfl|rfl<;>rfl
 have e1:o<w.heap.size+1:=zz;have e2:o<w.heap.size+2:=zz;have e3:o<w.heap.size+3:=zz;unfold gN;go_enter Tryz.func45,Tryz.ntmps45;go_wp2
 .have q:eT S L sh d (↑k,y)=λ_=>false:=by funext n;unfold eT;simp only[qNB];rw[dE ‹y+sh<=0\/d k=true›]
  rw[q];refine bd (v:=tJ λ_=>false) ?_ rfl ⟨rfl,?_⟩
  .simp[results,Tryz.results45,go_sem,tJ]
  .exact bt
 .go_quiet ((fail));have m0:0<=(↑k+S/2)%S:=Int.emod_nonneg _ zz;have m1:(↑k+S/2)%S<S:=Int.emod_lt_of_pos _ zz;go_wp2;generalize N:(↑k+S/2)%S=m at m0 m1|-;have a':=Hm N;clear N;go_loopw [53] (λi wr=>∃n:Nat,(n:Int)<=S/\i=.int .i64 n/\Hd (w.heap.size+1) (w.alloc (Dg ⟨S,D,L,lo,hi,⟨s,b8,t⟩,rf,rh,cf,ch,⟨Y ⟨o,off,I⟩,U.length,B⟩,⟨u,A,z⟩,⟨C,G,E⟩⟩)) wr/\iB wr (w.heap.size+1+1) 84 (λi=>decide (i<n)&&FT S L k (y+sh) i)) (λi _=>S.toNat-(intOf i).toNat)
  case atStart=>
   refine⟨0,zz,rfl,?_,?_⟩
   .exact xbt
   .refine⟨#[.bool false,.bool false,.bool false,.bool false,.bool false,.bool false,.bool false,.bool false,.bool false,.bool false,.bool false,.bool false],?_,rfl,λi hi=>?_⟩
    .exact An w _ _ _ _
    .rcases(show i=0\/i=1\/i=2\/i=3\/i=4\/i=5\/i=6\/i=7\/i=8\/i=9\/i=10\/i=11 from zz)with rfl|rfl|rfl|rfl|rfl|rfl|rfl|rfl|rfl|rfl|rfl|rfl<;>simp
  case round=>
   obtain⟨n,r,rfl,c,a⟩:=hrel;have b6:(w:Nat)+1<=wr:=by have:=c.size;rw[aa]at this;exact this
   have d1:(w:Nat)<wr:=b6;by_cases K:(n:Int)<S
   ·(obtain⟨O,P,V,W,Z,x5,x6,x7,x8,x9,Q,R,T⟩:=iw c;dsimp only at O P V W Z x5 x6 x7 x8 x9 Q R T)
    have c8:=a.cell n zz;have fa:=a.free n;have r0:0<=((n:Int)-m)%S:=Int.emod_nonneg _ zz;have r1:((n:Int)-m)%S<S:=Int.emod_lt_of_pos _ zz;go_wp2;go_roundw
    case rel=>
     refine⟨n+1,zz,by go_num,c.setCell ss _,a.set zz ?_ ?_⟩
     .simp only[FT,a'.out];simp;all_goals (generalize((n:Int)-m)%S=X;rw[Int.min_def];split<;>split<;>omega)
     .intro j _ hj;have:decide (j<n+1)=decide (j<n):=by simp;omega
      rw[this]
    case measure=>simp[intOf];omega
   .have d3:(n:Int)=S:=zz
    (obtain⟨O,P,V,W,Z,x5,x6,x7,x8,x9,Q,R,T⟩:=iw c;dsimp only at O P V W Z x5 x6 x7 x8 x9 Q R T)
    have a0:=a.cell 0 zz;have a1:=a.cell 1 zz;have a2:=a.cell 2 zz;have a3:=a.cell 3 zz;have a4:=a.cell 4 zz;have a5:=a.cell 5 zz;have a6:=a.cell 6 zz;have a7:=a.cell 7 zz;have a8:=a.cell 8 zz;have a9:=a.cell 9 zz;have c6:=a.cell 10 zz;have c7:=a.cell 11 zz;have fr:=λi=>a.free i;have q:eT S L sh d (↑k,y)=λi=>decide (i<n)&&FT S L k (y+sh) i:=by
     funext i;unfold eT;simp only[qNB];rw[cd (by rename_i c3 _;simp;omega)];congr 1;simp;omega
    have c5:=Hm q;clear q;go_wp2;rw[c5.out];refine bd (v:=tJ λi=>decide (i<n)&&FT S L k (y+sh) i) ?_ rfl ⟨rfl,?_⟩
    .simp[results,Tryz.results45,go_sem,tJ,a0,a1,a2,a3,a4,a5,a6,a7,a8,a9,c6,c7]
    .exact bt
 .have q:eT S L sh d (↑k,y)=λ_=>false:=by funext n;exact dE (Or.inl (show y+sh<=0 by with_reducible assumption))
  rw[q];refine bd (v:=tJ λ_=>false) ?_ rfl ⟨rfl,?_⟩
  .simp[results,Tryz.results45,go_sem,tJ]
  .exact bt
variable{sh:Int}{f':Nat->Bool}
def bA(w:H)(g:Nat)(t:Lk)(sh:Int)(f:Nat->Bool):Prop:=∃cs:Array M,w.heap[g]?=Y (.cells cs t (0,0))/\cs.size=13/\cs[0]?=Y (.int .i64 sh)/\∀i,i<12->cs[1+i]?=Y (.bool (f i))
def bA.cell(h:bA w g t sh f)(i:Nat)(hi:i<12):w (g,1+i)=Y (.bool (f i)):=by
 obtain⟨cs,a, -, -, b⟩:=h;rw[H.cell?,a];exact b i hi
def bA.cell0(h:bA w g t sh f):w (g,0)=Y (.int .i64 sh):=by
 obtain⟨cs,a, -, b,-⟩:=h;rw[H.cell?,a];exact b
def bA.free(h:bA w g t sh f)(i:Nat):w.frozen? (g,i)=false:=by
 obtain⟨cs,a, -, -,-⟩:=h;simp[H.frozen?,a]
def bA.set(h:bA w g t sh f){i:Nat}(hi:i<12){v:Bool}(d:f' i=v)(h2:∀j,j<12->j≠i->f' j=f j):bA (w.setCell (g,1+i) (.bool v)) g t sh f':=by
 obtain⟨cs,e1,a,e0,c⟩:=h;refine⟨cs.setIfInBounds (1+i) (.bool v),by simp[H.setCell,ml,e1],by simpa using a,?_,λj b=>?_⟩
 .rw[lO zz,e0]
 .by_cases e:i=j
  .subst e;simp[ma,a,d,show 1+i<13 by omega]
  .rw[lO zz,c j b,h2 j b (λx=>e x.symm)]
def bA.below{B:Nat}(h:bA w g t sh f)(a:X B w w')(b:g<B):bA w' g t sh f:=xbe
theorem jI{o1 o2 o3:Obj}(h:X (((w.alloc o1).alloc o2).alloc o3).heap.size (((w.alloc o1).alloc o2).alloc o3) w'):X w w w':=
 ((((X.refl _ _).alloc (dj _) o1).alloc (by simp only[aa];omega) o2).alloc (by simp only[aa];omega) o3).tn (h.mono (by simp only[aa];omega))
def bA.alloc(h:bA w g t sh f)(o:Obj):bA (w.alloc o) g t sh f:=xaQ
def bA.new(w:H)(t:Lk)(sh:Int)(f:Nat->Bool):bA (w.alloc (.cells #[.int .i64 sh,.bool (f 0),.bool (f 1),.bool (f 2),.bool (f 3),.bool (f 4),.bool (f 5),.bool (f 6),.bool (f 7),.bool (f 8),.bool (f 9),.bool (f 10),.bool (f 11)] t)) w t sh f:=
 ⟨_,Sp _ _,rfl,rfl,λi hi=>by
  rcases(show i=0\/i=1\/i=2\/i=3\/i=4\/i=5\/i=6\/i=7\/i=8\/i=9\/i=10\/i=11 from zz)with rfl|rfl|rfl|rfl|rfl|rfl|rfl|rfl|rfl|rfl|rfl|rfl<;>rfl⟩
def bA.new2(w:H)(a b:Obj)(t:Lk)(sh:Int)(f:Nat->Bool):bA (((w.alloc a).alloc b).alloc (.cells #[.int .i64 sh,.bool (f 0),.bool (f 1),.bool (f 2),.bool (f 3),.bool (f 4),.bool (f 5),.bool (f 6),.bool (f 7),.bool (f 8),.bool (f 9),.bool (f 10),.bool (f 11)] t)) (w.heap.size+1+1) t sh f:=by
 have:=bA.new ((w.alloc a).alloc b) t sh f;simp only[aa]at this;exact this
def bA.all(h:bA w g t sh f):w (g,0)=Y (.int .i64 sh)/\w (g,1)=Y (.bool (f 0))/\w (g,2)=Y (.bool (f 1))/\w (g,3)=Y (.bool (f 2))/\w (g,4)=Y (.bool (f 3))/\w (g,5)=Y (.bool (f 4))/\w (g,6)=Y (.bool (f 5))/\w (g,7)=Y (.bool (f 6))/\w (g,8)=Y (.bool (f 7))/\w (g,9)=Y (.bool (f 8))/\w (g,10)=Y (.bool (f 9))/\w (g,11)=Y (.bool (f 10))/\w (g,12)=Y (.bool (f 11)):=
 ⟨h.cell0,h.cell 0 zz,h.cell 1 zz,h.cell 2 zz,h.cell 3 zz,h.cell 4 zz,h.cell 5 zz,h.cell 6 zz,h.cell 7 zz,h.cell 8 zz,h.cell 9 zz,h.cell 10 zz,h.cell 11 zz⟩
def wM{S:Int}:∀{l:List Int} {p:Option Int},bS S p l=0->∀x∈l,0<=x/\x<S
 | [],_,_=>λx a=>by simp at a
 | n::r,p,h=>by
  have key:ax n 0 (S-1)=true/\bS S (Y n) r=0:=by
   by_cases b:ax n 0 (S-1)=false
   .cases p<;>(simp only[bS]at h;rw[dE b]at h;omega)
   .refine⟨by simpa using b,?_⟩
    cases p with
    | none=>simp only[bS]at h;rw[cd b,cd ss]at h;exact h
    | some y=>
     simp only[bS]at h;rw[cd b]at h;by_cases c:decide (n<=y)=true
     .rw[dE c]at h;omega
     .rw[cd c]at h;exact h
  intro x a;rcases fc.1 a with rfl|a
  .have:=cq.1 key.1;omega
  .exact wM key.2 x a
def cN(S sh:Int)(l:List Int):Int:=if ax sh (-3) 3=true then bS S I l else 1
def eM(l:List Int):Nat->Bool:=λn=>decide ((n:Int)∈l)
def mI:Nat->Bool:=λ_=>false
def NY(b:aC)(sh:Int)(l:List Int)(w:H)(e:Ending)(w':H):Prop:=e=.returned (.tuple #[if cN b.S sh l=0 then gN sh (eM l)else gN 0 mI,.int .i64 (cN b.S sh l)])/\X w w w'
theorem FU(b:aC)(C:4<=b.S)(h2:b.S<=12)(sh:Int)(s:Sl)(l:List Int)(w:H)(J:aN w s l):
  PH F 89 #[b.v,.agg #[.int .i64 sh,.slice s.A s.n s.c]] w (NY b sh l w):=by
 have x:=λa (h:aN a s l)=>xS b zz zz s l a h;have N:=Hm J;obtain⟨A,b1,c⟩:=s;obtain⟨rfl,R,a5,E⟩:=J;have L:=Hm E;clear E;simp only at x R;by_cases t:ax sh (-3) 3=true
 .by_cases q:bS b.S I l=0
  .have ø:=0;exact pB
  .have å:=0;exact pB
 .have a7:ax sh (-3) 3=false:=by simpa using t
  have HR:PQ (cN b.S sh l=1):=by unfold cN;rw[cd t];exact rfl
  unfold aC.v;go_enter Tryz.func89,Tryz.ntmps89;go_wp2_with ((go_at_call 90;refine(eA _ _ _ _).mono ?_;rintro e w' ⟨rfl,rfl⟩));refine bd (v:=.tuple #[gN 0 mI,.int .i64 1]) ?_ rfl ⟨by rw[HR.out];rfl,?_⟩
  .simp[results,Tryz.results89,go_sem,gN,mI, *]
  .exact bt
variable{l:bN}{w1 w2:H}{o1 o2 o3 o4:Obj}
def iy:Sl:=⟨I,0,0⟩
def bI:aC:=⟨0,0,0,0,0,iy,0,0,0,0,iy,iy,iy⟩
def aF(sh:Int)(s:Sl):M:=.agg #[.int .i64 sh,.slice s.A s.n s.c]
def NZ(b:aC)(l:bN)(sh:Int)(d:List Int)(w:H)(e:Ending)(w':H):Prop:=
 (if ay b l=0 then e=.returned (.tuple #[b.v,if cN b.S sh d=0 then gN sh (eM d)else gN 0 mI,.int .i64 (cN b.S sh d)])else e=.returned (.tuple #[bI.v,gN 0 mI,.int .i64 (ay b l)]))/\X w w w'
def bP(h:ay b l=0):cA b l.C=0/\cZ b=0/\fH b.S l.U=0/\fT b.rf b.ch l.E=0/\ki b.S l.U.length l.W=0:=by
 unfold ay at h;by_cases a:cA b l.C=0
 .by_cases c:cZ b=0
  .by_cases h2:fH b.S l.U=0
   .by_cases d:fT b.rf b.ch l.E=0
    .simp[a,c,h2,d]at h;exact⟨a,c,h2,d,h⟩
    .simp[a,c,h2,d]at h
   .simp[a,c,h2]at h
  .simp[a,c]at h
 .simp[a]at h
def aq(h:aI w b l)(o:Obj):aI (w.alloc o) b l:=h.below ((X.refl _ _).alloc (dj _) o)
def ai(h:aD w)(o:Obj):aD (w.alloc o):=h.below ((X.refl _ _).alloc (dj _) o)
theorem lI{w w':H}(h:X ((((w.alloc o1).alloc o2).alloc o3).alloc o4).heap.size ((((w.alloc o1).alloc o2).alloc o3).alloc o4) w'):X w w w':=
 (((((X.refl _ _).alloc (dj _) o1).alloc (by simp only[aa];omega) o2).alloc (by simp only[aa];omega) o3).alloc (by simp only[aa];omega) o4).tn (h.mono (by simp only[aa];omega))
theorem I2(a:X ((((w.alloc o1).alloc o2).alloc o3).alloc o4).heap.size ((((w.alloc o1).alloc o2).alloc o3).alloc o4) w1)(h2:X w1 w1 w2)(o:Obj):X (w.heap.size+1+1+1+1) ((((w.alloc o1).alloc o2).alloc o3).alloc o4) (w2.alloc o):=by
 simp only[aa]at a;have b:=a.size;simp only[aa]at b;exact(a.tn (h2.mono b)).alloc (ec b h2.size) o
theorem Sf(a:X ((((w.alloc o1).alloc o2).alloc o3).alloc o4).heap.size ((((w.alloc o1).alloc o2).alloc o3).alloc o4) w1)(h2:X w1 w1 w2)(o:Obj):X (w.heap.size+1) (w.alloc o1) (w2.alloc o):=
 ((((X.refl _ _).alloc (by simp only[aa];omega) o2).alloc (by simp only[aa];omega) o3).alloc (by simp only[aa];omega) o4).tn ((I2 a h2 o).mono zz)
theorem Sg(a:X ((((w.alloc o1).alloc o2).alloc o3).alloc o4).heap.size ((((w.alloc o1).alloc o2).alloc o3).alloc o4) w1)(h2:X w1 w1 w2)(o:Obj):X w w (w2.alloc o):=
 ((lI a).tn (h2.mono (lI a).size)).alloc (ec (lI a).size h2.size) o
def aK(w:H)(g:Nat)(t:Lk)(b:aC):Prop:=w.heap[g]?=Y (aE b t)
theorem Si{f:Nat->Bool}{sh:Int}(d:X ((((w.alloc o1).alloc o2).alloc (aE b 82)).alloc (.cells #[.int .i64 sh,.bool (f 0),.bool (f 1),.bool (f 2),.bool (f 3),.bool (f 4),.bool (f 5),.bool (f 6),.bool (f 7),.bool (f 8),.bool (f 9),.bool (f 10),.bool (f 11)] 86)).heap.size ((((w.alloc o1).alloc o2).alloc (aE b 82)).alloc (.cells #[.int .i64 sh,.bool (f 0),.bool (f 1),.bool (f 2),.bool (f 3),.bool (f 4),.bool (f 5),.bool (f 6),.bool (f 7),.bool (f 8),.bool (f 9),.bool (f 10),.bool (f 11)] 86)) w1)(h2:X w1 w1 w2)(o:Obj):
  aK (w2.alloc o) (w.heap.size+1+1) 82 b/\bA (w2.alloc o) (w.heap.size+1+1+1) 86 sh f:=by
 have a:=I2 d h2 o;refine⟨(a.block _ zz).tn (An w _ _ _ _),?_⟩;have c:=bA.new (((w.alloc o1).alloc o2).alloc (aE b 82)) 86 sh f;simp only[aa]at c;exact c.below a zz
def dx(h:aK w g t b):∀i,w.frozen? ⟨g,i,I⟩=false:=λi=>by
 unfold aK aE at h;simp[H.frozen?,h]
def aM(h:aK w g t b):
  w.cell? ⟨g,0,I⟩=Y (.int .i64 b.S)/\w.cell? ⟨g,1,I⟩=Y (.int .i64 b.D)/\w.cell? ⟨g,2,I⟩=Y (.int .i64 b.L)/\w.cell? ⟨g,3,I⟩=Y (.int .i64 b.lo)/\w.cell? ⟨g,4,I⟩=Y (.int .i64 b.hi)/\
  w.cell? ⟨g,5,I⟩=Y (.slice b.C.A b.C.n b.C.c)/\w.cell? ⟨g,6,I⟩=Y (.int .i64 b.rf)/\w.cell? ⟨g,7,I⟩=Y (.int .i64 b.rh)/\w.cell? ⟨g,8,I⟩=Y (.int .i64 b.cf)/\w.cell? ⟨g,9,I⟩=Y (.int .i64 b.ch)/\
  w.cell? ⟨g,10,I⟩=Y (.slice b.U.A b.U.n b.U.c)/\w.cell? ⟨g,11,I⟩=Y (.slice b.E.A b.E.n b.E.c)/\w.cell? ⟨g,12,I⟩=Y (.slice b.W.A b.W.n b.W.c):=by
 have ø:=0;exact H2
theorem sO(b:aC)(l:bN)(sh:Int)(s:Sl)(d:List Int)(w:H)(B:aI w b l)(x:aD w)(z:aN w s d):
  PH F 43 #[b.v,aF sh s] w (NZ b l sh d w):=by
 have u:=Hm B;have t:=Hm x;have G:=Hm z;clear B x z;have k:=λw1 (N:aI w1 b l) (h2:aD w1)=>cG b l w1 N h2;by_cases c:ay b l=0
 .obtain⟨Z,q2,-⟩:=cS (bP c).1;have j:∃ik f,(if cN b.S sh d=0 then gN sh (eM d)else gN 0 mI)=gN ik f:=by
   by_cases h:cN b.S sh d=0
   .exact⟨sh,eM d,by rw[dE h]⟩
   .exact⟨0,mI,by rw[cd h]⟩
  obtain⟨ik,f,j⟩:=j;have m:∀w1,aN w1 s d->PH F 89 #[b.v,.agg #[.int .i64 sh,.slice s.A s.n s.c]] w1 λe w'=>e=.returned (.tuple #[gN ik f,.int .i64 (cN b.S sh d)])/\X w1 w1 w':=λw1 h=>
   (FU b Z q2 sh s d w1 h).mono λe w' Q=>by
    obtain⟨E,V⟩:=Q;rw[j]at E;exact⟨E,V⟩
  have L:=Hm j;have HR:=Hm c;clear j;simp only[c]at k;clear c;obtain⟨r,q⟩:∃r,cN b.S sh d=r:=⟨_,rfl⟩;simp only[q]at m;have K:=Hm q;clear q;unfold aC.v at k m|-;unfold aF;unfold gN at m;go_enter Tryz.func43,Tryz.ntmps43;go_wp2_with (first|(go_at_call 13;refine(k _ (aq (aq (aq (aq u.out _) _) _) _) (ai (ai (ai (ai t.out _) _) _) _)).mono ?_;rintro e w1 ⟨rfl,a⟩;obtain⟨y,A⟩:=aU a;have R:w.heap.size+1+1+1<w1.heap.size:=(by have:=a.size;simp only[aa]at this;omega);have S:w.heap.size+1+1<w1.heap.size:=zz;have T:w.heap.size+1<w1.heap.size:=zz;have U:w.heap.size<w1.heap.size:=zz)|(go_at_call 89;refine(m _ (G.out.below (lI a))).mono ?_;rintro e w2 ⟨rfl,g⟩;obtain⟨O,P⟩:=aU g;have a8:w1.heap.size<=w2.heap.size:=g.size;have a9:w.heap.size+1+1+1<w2.heap.size:=zz;have a':w.heap.size+1+1<w2.heap.size:=zz;have a0:w.heap.size+1<w2.heap.size:=zz;have b1:w.heap.size<w2.heap.size:=zz));have C:X (w.heap.size+1) (w.alloc (aE b 31)) (w2.alloc (.cells #[.int .i64 ik,.bool (f 0),.bool (f 1),.bool (f 2),.bool (f 3),.bool (f 4),.bool (f 5),.bool (f 6),.bool (f 7),.bool (f 8),.bool (f 9),.bool (f 10),.bool (f 11)] 86)):=Sf a g _;obtain⟨x0,x1,x2,x3,x4,x5,x6,x7,x8,x9,a1,a2,a3⟩:=iw C;have hk:=bA.new w2 86 ik f;obtain⟨y0,y1,y2,y3,y4,y5,y6,y7,y8,y9,a4,a5,a6⟩:=hk.all;obtain⟨o,n⟩:=Si (b:=bI) (f:=mI) (sh:=0) a g (.cells #[.int .i64 ik,.bool (f 0),.bool (f 1),.bool (f 2),.bool (f 3),.bool (f 4),.bool (f 5),.bool (f 6),.bool (f 7),.bool (f 8),.bool (f 9),.bool (f 10),.bool (f 11)] 86);have hB:=Sg a g (.cells #[.int .i64 ik,.bool (f 0),.bool (f 1),.bool (f 2),.bool (f 3),.bool (f 4),.bool (f 5),.bool (f 6),.bool (f 7),.bool (f 8),.bool (f 9),.bool (f 10),.bool (f 11)] 86);clear C hk y O A P;generalize(w2.alloc (.cells #[.int .i64 ik,.bool (f 0),.bool (f 1),.bool (f 2),.bool (f 3),.bool (f 4),.bool (f 5),.bool (f 6),.bool (f 7),.bool (f 8),.bool (f 9),.bool (f 10),.bool (f 11)] 86))=W at x0 x1 x2 x3 x4 x5 x6 x7 x8 x9 a1 a2 a3 y0 y1 y2 y3 y4 y5 y6 y7 y8 y9 a4 a5 a6 o n hB|-;obtain⟨z0,z1,z2,z3,z4,z5,z6,z7,z8,z9,b6,b7,b8⟩:=aM o;obtain⟨u0,u1,u2,u3,u4,u5,u6,u7,u8,u9,b2,b3,b4⟩:=n.all;have b9:=dx o;have b5:=λi=>n.free i;have p:=Hm hB;clear a g o n hB;go_region;go_wp2;refine bd (v:=.tuple #[b.v,gN ik f,.int .i64 r]) ?_ rfl ⟨by rw[dE HR.out,L.out,K.out],?_⟩
  .simp[results,Tryz.results43,go_sem,gN,aC.v, *]
  .have p:=p.out;exact bt
 .have a7:(ay b l != 0)=true:=by simpa using c
  have J:=Hm c;clear c;unfold aC.v aF at*;go_enter Tryz.func43,Tryz.ntmps43;go_wp2_with (go_at_call 13;refine(k _ (aq (aq (aq (aq u.out _) _) _) _) (ai (ai (ai (ai t.out _) _) _) _)).mono ?_;rintro e w1 ⟨rfl,a⟩;obtain⟨y,A⟩:=aU a;have R:w.heap.size+1+1+1<w1.heap.size:=(by have:=a.size;simp only[aa]at this;omega);have S:w.heap.size+1+1<w1.heap.size:=zz;have T:w.heap.size+1<w1.heap.size:=zz;have U:w.heap.size<w1.heap.size:=zz);refine bd (v:=.tuple #[bI.v,gN 0 mI,.int .i64 (ay b l)]) ?_ rfl ⟨by rw[cd J.out],?_⟩
  .simp[results,Tryz.results43,go_sem,gN,bI,aC.v,iy,mI, *]
  .have p:=lI a;exact bt
variable{S:Int}
def N1:∀{l:List (Int×Int)},nD S l=0->∀p∈l,0<=p.1/\p.1<S/\ -9<=p.2/\p.2<=9
 | [],_=>λp c=>by simp at c
 | (a,h)::r,b=>by
  simp only[nD]at b;by_cases d:ax a 0 (S-1)=false
  .rw[dE d]at b;omega
  .rw[cd d]at b;by_cases h2:ax h (-9) 9=false
   .rw[dE h2]at b;omega
   .rw[cd h2]at b;intro p c;rcases fc.1 c with rfl|c
    .have e1:=cq.1 (by simpa using d:ax a 0 (S-1)=true);have e:=cq.1 (by simpa using h2:ax h (-9) 9=true);exact⟨e1.1,by show a<S;omega,e.1,e.2⟩
    .exact N1 b p c
def kP{l:List (Int×Int)}(h:fH S l=0)(k:Nat)(hk:k<l.length):0<=(l.getD k (0,0)).1/\(l.getD k (0,0)).1<S/\ -9<=(l.getD k (0,0)).2/\(l.getD k (0,0)).2<=9:=by
 unfold fH at h;split at h
 .exact N1 h _ (by simp[List.getD,fg hk])
 .omega
def tM{S sh:Int}{l:List Int}(h:cN S sh l=0): -3<=sh/\sh<=3/\bS S I l=0:=by
 unfold cN at h;split at h
 .rename_i a;have:=cq.1 a;exact⟨this.1,this.2,h⟩
 .omega
def dy{B B' e size n:Nat}{v:M}{xs:List M}(hB:B'<=B)(h:w.ownsRow B e size v n xs):w.ownsRow B' e size v n xs:=by
 refine⟨h.1,h.2.imp id ?_⟩;rintro⟨g,a,b,c,h2,d⟩;exact⟨g,a,b,c,ec hB h2,d⟩
theorem cB{o1 o2:Obj}(h:X ((w.alloc o1).alloc o2).heap.size ((w.alloc o1).alloc o2) w'):X w w w':=
 (((X.refl _ _).alloc (dj _) o1).alloc (by simp only[aa];omega) o2).tn (h.mono (by simp only[aa];omega))
def cT(b:aC)(l:bN)(sh:Int)(d:List Int)(a:Int):List Int×Int:=
 if ay b l≠0 then([],ay b l)else if cN b.S sh d≠0 then([],cN b.S sh d)else if ax a 0 (l.U.length-1)=false then([],6)
 else(ie (eT b.S b.L sh (eM d) (l.U.getD a.toNat (0,0))) 12,0)
def ji(B:Nat)(L:List Int)(r:Int)(w:H)(e:Ending)(w':H):Prop:=
 ∃A c,e=.returned (.tuple #[.slice A L.length c,.int .i64 r])/\w'.ownsRow B 3 1 (.slice A L.length c) L.length (L.map (M.int .i64))/\X B w w'
def ji.nil{r:Int}{e:Ending}(h:X B w w')(a:e=.returned (.tuple #[.slice I 0 0,.int .i64 r])):ji B [] r w e w':=⟨I,0,a,H.ownsRow_nil _ _ _ _,h⟩
theorem oH(b:aC)(l:bN)(sh:Int)(s:Sl)(d:List Int)(hour:Int)(w:H)(o:aI w b l)(u:aD w)(v:aN w s d):
  PH F 9 #[b.v,aF sh s,.int .i64 hour] w λe w'=>ji w (cT b l sh d hour).1 (cT b l sh d hour).2 w e w':=by
 have å:=0;exact pk
def I6(rf rh ch:Int)(e:Int×Int)(a:Int):Int:=e.1*(rh-e.2)+(a*rf-e.1)*(ch-e.2)
def nJ(rf rh ch:Int)(e:Int×Int)(a:Int):Int:=max (I6 rf rh ch e a) (-I6 rf rh ch e a)
def sR{x y A B:Int}(d: -A<=x/\x<=A)(e: -B<=y/\y<=B)(b:0<=A): -(A*B)<=x*y/\x*y<=A*B:=by
 have hB:0<=B:=zz;have a:x.natAbs*y.natAbs<=A.natAbs*B.natAbs:=Nat.mul_le_mul zz zz;have h2:(x*y).natAbs<=(A*B).natAbs:=by rw[Int.natAbs_mul,Int.natAbs_mul];exact a
 have c:0<=A*B:=Int.mul_nonneg b hB;omega
def WB{k:IntKind}{a b c d:Int}(h:a=c)(e:b=d):Ending.returned (.tuple #[.int k a,.int k b])=.returned (.tuple #[.int k c,.int k d]):=by rw[h,e]
theorem Dt(b:aC)(o:2<=b.rf)(q:b.rf<=30)(r:2<=b.rh)(s:b.rh<=60)(t:1<=b.ch)(u:b.ch<=60)(h:Nat)(a:Int)(s1: -1<=a)(s2:a<=1)(E:List (Int×Int))(z:h<E.length)
  (k: -30<=(E.getD h (0,0)).1)(l:(E.getD h (0,0)).1<=30)(m:0<=(E.getD h (0,0)).2)(n:(E.getD h (0,0)).2<=60)(w:H)(C:bp w b.E E):
  PH F 59 #[b.v,.int .i64 h,.int .i64 a] w λe w'=>e=.returned (.tuple #[.int .i64 (nJ b.rf b.rh b.ch (E.getD h (0,0)) a),.int .i64 (b.rh-(E.getD h (0,0)).2)])/\X w w w':=by
 obtain⟨S,D,L,lo,hi,⟨G,K,J⟩,rf,rh,cf,ch,⟨Q,T,R⟩,⟨N,P,O⟩,⟨U,W,V⟩⟩:=b;obtain⟨j,v,a2,c⟩:=C;simp only[aC.v]at j v c o q r s t u|-;subst j;obtain⟨d,off,rfl,a1,i⟩:=c zz;obtain⟨f,g⟩:=i h z;clear i c;generalize E.getD h (0,0)=p at k l m n f g|-;obtain⟨x,y⟩:=p;simp only at k l m n f g;have e1:d<w.heap.size+1:=zz;have Z:d<w.heap.size+2:=zz;obtain⟨m1,m2⟩:=sR (x:=x) (y:=rh-y) (A:=30) (B:=60) zz zz zz;obtain⟨m3,m4⟩:=sR (x:=a) (y:=rf) (A:=1) (B:=30) zz zz zz;obtain⟨m5,m6⟩:=sR (x:=a*rf-x) (y:=ch-y) (A:=60) (B:=60) zz zz zz;go_enter Tryz.func59,Tryz.ntmps59;go_wp2;all_goals go_ret2
 all_goals refine⟨WB ?_ rfl,by exact bt⟩
 all_goals simp only[nJ,I6]
 all_goals omega
def jC(b:aC)(e:Int×Int)(a:Int):Bool:=decide (b.cf*(b.rh-e.2)<nJ b.rf b.rh b.ch e a)
def Br{rf rh ch x y side:Int}(a:2<=rf)(b:rf<=30)(c:2<=rh)(d:rh<=60)(e:1<=ch)(f:ch<=60)(p: -1<=side)(s2:side<=1)(l: -30<=x)(m:x<=30)(n:0<=y)(o:y<=60):0<=nJ rf rh ch (x,y) side/\nJ rf rh ch (x,y) side<=6000:=by
 obtain⟨g,m2⟩:=sR (x:=x) (y:=rh-y) (A:=30) (B:=60) zz zz zz;obtain⟨h,i⟩:=sR (x:=side) (y:=rf) (A:=1) (B:=30) zz zz zz;obtain⟨j,k⟩:=sR (x:=side*rf-x) (y:=ch-y) (A:=60) (B:=60) zz zz zz;simp only[nJ,I6];omega
theorem N7(b:aC)(l:2<=b.rf)(m:b.rf<=30)(o:2<=b.rh)(p:b.rh<=60)(q:1<=b.ch)(r:b.ch<=60)(z:0<=b.cf)(C:b.cf<=30)(h:Nat)(a:Int)(v: -1<=a)(s2:a<=1)(E:List (Int×Int))(t:h<E.length)
  (g: -30<=(E.getD h (0,0)).1)(i:(E.getD h (0,0)).1<=30)(j:0<=(E.getD h (0,0)).2)(k:(E.getD h (0,0)).2<=60)(w:H)(u:bp w b.E E):
  PH F 56 #[b.v,.int .i64 h,.int .i64 a] w λe w'=>e=.returned (.bool (jC b (E.getD h (0,0)) a))/\X w w w':=by
 have c:=Dt b l m o p q r h a v s2 E t g i j k (w.alloc (aE b 82)) (u.below ((X.refl _ _).alloc (dj _) _));clear u t;have d:PQ (jC b (E.getD h (0,0)) a=decide (b.cf*(b.rh-(E.getD h (0,0)).2)<nJ b.rf b.rh b.ch (E.getD h (0,0)) a)):=rfl;have f:=Br l m o p q r v s2 g i j k;have e0:((E.getD h (0,0)).1,(E.getD h (0,0)).2)=E.getD h (0,0):=rfl;rw[e0]at f;clear e0;generalize nJ b.rf b.rh b.ch (E.getD h (0,0)) a=n at c f d;generalize(E.getD h (0,0)).2=y at c d j k;obtain⟨n1,L⟩:=f;obtain⟨K,m2⟩:=sR (x:=b.cf) (y:=b.rh-y) (A:=30) (B:=60) zz zz zz;clear g i;unfold aC.v at c|-;unfold aE at c;go_enter Tryz.func56,Tryz.ntmps56;go_wp2_with (go_at_call 59;refine c.mono ?_;rintro e N ⟨rfl,s⟩;obtain⟨G,J⟩:=aU s);go_ret;exact⟨bR d.out.symm,aY s⟩
end Go.Proofs.YtfcgpihkimpkcaaGreatDoor
