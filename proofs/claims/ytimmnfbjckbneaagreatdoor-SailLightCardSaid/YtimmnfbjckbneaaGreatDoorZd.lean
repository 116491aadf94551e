import Derived.Test.YtimmnfbjckbneaaGreatDoorChecked
import Derived.WalkKit
import Derived.WalkSpells
import Derived.WalkLawsBesides
import Derived.Lib.Hide
import Derived.Deep.QuietTactic
import Derived.BigQuiet
import Derived.IntWalk
import Derived.BigRegion
import Derived.RegionTactic
import Derived.Deep.RegionHeld3
import Derived.DeepKeys
import Derived.Deep.DeepCutAuto
import Derived.Test.YtimmnfbjckbneaaGreatDoorAa
set_option maxRecDepth 100000
set_option maxHeartbeats 4000000
set_option linter.all false
noncomputable section
open Go.Proofs.Tryz renaming prog->F
open Go renaming World->H,TypeId->Lk,Value->M,Calls->PH,heap_alloc_old->QR,heap_alloc_new->Sp,bodyPost_ret->bd
open Go.RowKit renaming Below->Hd,Hid->PQ,Below->X
open Go.Lib renaming hid->Hm
open Option renaming none->I,some->Y
namespace Go
def pf{p:Prop}(h:p:=by
 first|have _:=ø;have q:PQ (min (max sh b.lo) b.hi=sh):=by show _=_;omega|have _:=å;have q:PQ (min (max sh b.lo) b.hi=b.hi):=by show _=_;omega|have q:PQ (min (max sh b.lo) b.hi=b.lo):=by show _=_;omega
 go_region_held3 (λw'=>w'.cell? ⟨w.heap.size,3,I⟩=Y (.int .i64 b.lo)/\w'.cell? ⟨w.heap.size,4,I⟩=Y (.int .i64 b.hi)/\w'.cell? ⟨g,0,I⟩=Y (.int .i64 b.S)/\w'.cell? ⟨g,1,I⟩=Y (.int .i64 b.D)/\w'.cell? ⟨g,2,I⟩=Y (.int .i64 b.L)/\w'.cell? ⟨g,3,I⟩=Y (.int .i64 b.lo)/\w'.cell? ⟨g,4,I⟩=Y (.int .i64 b.hi)/\w'.cell? ⟨g,5,I⟩=Y (.slice b.C.A b.C.n b.C.c)/\w'.cell? ⟨g,6,I⟩=Y (.int .i64 b.rf)/\w'.cell? ⟨g,7,I⟩=Y (.int .i64 b.rh)/\w'.cell? ⟨g,8,I⟩=Y (.int .i64 b.cf)/\w'.cell? ⟨g,9,I⟩=Y (.int .i64 b.ch)/\w'.cell? ⟨g,10,I⟩=Y (.slice b.U.A b.U.n b.U.c)/\w'.cell? ⟨g,11,I⟩=Y (.slice b.E.A b.E.n b.E.c)/\w'.cell? ⟨g,12,I⟩=Y (.slice b.W.A b.W.n b.W.c)/\w'.cell? ⟨g+1,0,I⟩=Y (.int .i64 sh)/\w'.rangeAt (g+1) 1 [.bool (f 0),.bool (f 1),.bool (f 2),.bool (f 3),.bool (f 4),.bool (f 5),.bool (f 6),.bool (f 7),.bool (f 8),.bool (f 9),.bool (f 10),.bool (f 11)]/\X W.heap.size W w') (exact a5.out _ bf) (first|(go_at_call 39;refine(y _ (L.out.C.below bf)).mono ?_;rintro e v1 ⟨rfl,C⟩;obtain⟨d6,d8⟩:=aU C;have k2:X W.heap.size W v1:=X.tn bf (C.mono (by first|(simp only[H.size_drew,aa];omega)|(have:=(by with_reducible assumption:X W.heap.size W _).size;omega)))));all_goals go_wp2_with fail
 all_goals go_meet
 all_goals rw[q.out]
 all_goals first|with_reducible exact Wx _ _ k2|with_reducible exact Wy _ _ C k2):p:=h
def pk{p:Prop}(h:p:=by
 first|have _:=ø;have g:=λa r h2 t=>sO b l sh s d a r h2 t;by_cases i:ay b l=0|have y:=Hm o;have G:=Hm u;have E:=Hm v;have n:=o.U.1;have a8:=o.U.2.2.1;clear o u v;have g:=λa (r:aI a b l) (h2:aD a) (t:aN a s d)=>sO b l sh s d a r h2 t;by_cases i:ay b l=0
 .by_cases j:cN b.S sh d=0
  first
  |have _:=ø
   .have:=Bq b l sh s d w o u v i j;rw[dI,cd (by simp[i]),cd (by simp[j])];exact this
  |·have g:∀a,aI a b l->aD a->aN a s d->PH F 32 #[b.v,aF sh s] a λe w'=>e=.returned (.tuple #[b.v,gN sh (eM d),.int .i64 0])/\X a a w':=λa r h2 t=>
     (g a r h2 t).mono λe w' L=>by
      obtain⟨x,O⟩:=L;rw[dE i,dE j,j]at x;exact⟨x,O⟩
    have J:=λa=>oE b hour zz a;by_cases C:ax hour 0 (b.U.n-1)=true
    .obtain⟨Z,f2⟩:=cq.1 C;obtain⟨h,rfl⟩:∃h:Nat,hour=(h:Int):=⟨hour.toNat,zz⟩;have U:h<l.U.length:=zz;obtain⟨q1,q2,q3,q4⟩:=kP (bP i).2.2.1 h U;obtain⟨t1,t2,t3,t4,t5,t6,-⟩:=cS (bP i).1;obtain⟨v1,v2,-⟩:=tM j;have P:=λa (h0:bp a b.U l.U)=>qX b t1 t2 t5 t6 sh v1 v2 (eM d) h l.U U q1 q2 q3 q4 a h0;have W:=λa=>xQ (eT b.S b.L sh (eM d) (l.U.getD h (0,0))) a;have m:PQ (cT b l sh d h=(ie (eT b.S b.L sh (eM d) (l.U.getD h (0,0))) 12,0)):=by
      unfold cT;rw[cd (by simp[i]),cd (by simp[j]),<- n,cd (by simp[C])];exact rfl
     generalize a1:eT b.S b.L sh (eM d) (l.U.getD h (0,0))=D at P W m;clear a1;simp only[C]at J;have Q:=Hm n;clear n Z f2 C i j;unfold aC.v at g J P|-;unfold aF at g|-;unfold gN at g P;go_enter Tryz.func6,Tryz.ntmps6;go_wp2_with (first|(go_at_call 32;refine(g _ (aq (aq y.out _) _) (ai (ai G.out _) _) (aZ (aZ E.out _) _)).mono ?_;rintro e a ⟨rfl,k⟩;obtain⟨S,T⟩:=aU k;have q:=cB k;have N:=q.size)|(go_at_call 33;refine(J _).mono ?_;rintro e w2 ⟨rfl,z⟩;obtain⟨a3,a4⟩:=aU z;have K:=q.tn ((cB z).mono N);have a6:=(cB z).size)|(go_at_call 34;refine(P _ (y.out.U.below K)).mono ?_;rintro e w3 ⟨rfl,R⟩;obtain⟨a9,a'⟩:=aU R)|(go_at_call 35;refine(W _).mono ?_;rintro e w4 ⟨A,c,rfl,a5,a2⟩));go_ret2;rw[m.out];have b1:=R.size;have a7:=K.size;refine⟨A,c,by simp,dy (B:=w3.heap.size) zz (by simpa using a5),?_⟩;exact(K.tn (R.mono a7)).tn (a2.mono zz)
    .have m:PQ (cT b l sh d hour=([],6)):=by
      unfold cT;rw[cd (by simp[i]),cd (by simp[j]),<- n,dE (by simpa using C)];exact rfl
     have V:ax hour 0 (b.U.n-1)=false:=by simpa using C
     simp only[V]at J;have Q:=Hm n;clear n C V i j;unfold aC.v at g J|-;unfold aF at g|-;unfold gN at g;go_enter Tryz.func6,Tryz.ntmps6;go_wp2_with (first|(go_at_call 32;refine(g _ (aq (aq y.out _) _) (ai (ai G.out _) _) (aZ (aZ E.out _) _)).mono ?_;rintro e a ⟨rfl,k⟩;obtain⟨S,T⟩:=aU k;have q:=cB k;have N:=q.size)|(go_at_call 33;refine(J _).mono ?_;rintro e w2 ⟨rfl,z⟩;obtain⟨a3,a4⟩:=aU z;have K:=q.tn ((cB z).mono N);have a6:=(cB z).size));go_ret2;rw[m.out];exact ji.nil K rfl
  .first|have _:=å;skip|have y:=Hm o;have G:=Hm u;have E:=Hm v;clear o u v
   have g:∃ik f,∀a,aI a b l->aD a->aN a s d->PH F 32 #[b.v,aF sh s] a λe w'=>e=.returned (.tuple #[b.v,gN ik f,.int .i64 (cN b.S sh d)])/\X a a w':=⟨0,mI,λa r h2 t=>
    (g a r h2 t).mono λe w' L=>by
     obtain⟨x,O⟩:=L;rw[dE i,cd j]at x;exact⟨x,O⟩⟩
   obtain⟨ik,f,g⟩:=g
   first
   |have _:=å
    have m:PQ (cT b l sh d hour=([],cN b.S sh d)):=by
     unfold cT;rw[cd (by simp[i]),dE (by simpa using j)];exact rfl
   |have m:PQ (dI b l sh d=(false,cN b.S sh d)):=by
     unfold dI;rw[cd (by simp[i]),dE (by simpa using j)];exact rfl
   have U:(cN b.S sh d != 0)=true:=by simpa using j
   first|have _:=ø;clear i j|have Q:=Hm n;clear n i j
   unfold aC.v at g|-;unfold aF at g|-;unfold gN at g;first|have _:=å;go_enter Tryz.func6,Tryz.ntmps6|go_enter Tryz.func8,Tryz.ntmps8
   go_wp2_with (first|(go_at_call 32;refine(g _ (aq (aq y.out _) _) (ai (ai G.out _) _) (aZ (aZ E.out _) _)).mono ?_;rintro e a ⟨rfl,k⟩;obtain⟨S,T⟩:=aU k;have q:=cB k;have N:=q.size));go_ret2;rw[m.out];first|have _:=å;exact ji.nil (by exact bt) rfl|exact⟨rfl,by exact bt⟩
 .first|have _:=å;skip|have y:=Hm o;have G:=Hm u;have E:=Hm v;clear o u v
  have g:∀a,aI a b l->aD a->aN a s d->PH F 32 #[b.v,aF sh s] a λe w'=>e=.returned (.tuple #[bI.v,gN 0 mI,.int .i64 (ay b l)])/\X a a w':=λa r h2 t=>
   (g a r h2 t).mono λe w' L=>by
    obtain⟨x,O⟩:=L;rw[cd i]at x;exact⟨x,O⟩
  first
  |have _:=å
   have m:PQ (cT b l sh d hour=([],ay b l)):=by
    unfold cT;rw[dE (by simpa using i)];exact rfl
  |have m:PQ (dI b l sh d=(false,ay b l)):=by
    unfold dI;rw[dE (by simpa using i)];exact rfl
  have a0:(ay b l != 0)=true:=by simpa using i
  first|have _:=ø;clear i|have Q:=Hm n;clear n i
  unfold aC.v at g|-;unfold aF at g|-;unfold gN bI iy at g;simp only at g;first|have _:=å;go_enter Tryz.func6,Tryz.ntmps6|go_enter Tryz.func8,Tryz.ntmps8
  go_wp2_with (first|(go_at_call 32;refine(g _ (aq (aq y.out _) _) (ai (ai G.out _) _) (aZ (aZ E.out _) _)).mono ?_;rintro e a ⟨rfl,k⟩;obtain⟨S,T⟩:=aU k;have q:=cB k;have N:=q.size));go_ret2;rw[m.out];first|have _:=å;exact ji.nil (by exact bt) rfl|exact⟨rfl,by exact bt⟩):p:=h
def pB{p:Prop}(h:p:=by
 first
 |have _:=ø
  have O:=wM u;have HR:PQ (cN b.S sh l=0):=by unfold cN;rw[dE m];exact u
  have Q:=Hm O;clear O
 |have HR:PQ (cN b.S sh l=bS b.S I l):=by unfold cN;rw[dE m];exact rfl
  have a7:(bS b.S I l != 0)=true:=by simpa using u
  have R:=Hm u;clear u
 unfold aC.v at q|-;go_enter Tryz.func77,Tryz.ntmps77;go_wp2_with (first|(go_at_call 78;refine(eA _ _ _ _).mono ?_;rintro e w' ⟨rfl,rfl⟩)|(go_at_call 114;refine(q _ (aZ (aZ (aZ B.out _) _) _)).mono ?_;rintro e a ⟨rfl,f⟩;obtain⟨J,N⟩:=aU f;have a3:w.heap.size+1+1<a.heap.size:=(by have:=f.size;simp only[aa]at this;omega);have a':w.heap.size+1<a.heap.size:=zz;have a0:w.heap.size<a.heap.size:=zz))
 first
 |have _:=å
  refine bd (v:=.tuple #[gN 0 mI,.int .i64 (bS b.S I l)]) ?_ rfl ⟨by rw[HR.out,cd R.out],?_⟩
  .simp[results,Tryz.results77,go_sem,gN,mI, *]
  .have z:=jI f;exact bt
 |go_loopw [29] (λi wr=>∃k:Nat,k<=l.length/\i=.int .i64 k/\X a.heap.size a wr/\bA wr a.heap.size 78 sh (eM (l.take k))) (λi _=>l.length-(intOf i).toNat)
  case atStart=>
   refine⟨0,zz,rfl,by exact bt,?_⟩;have e:eM (l.take 0)=mI:=by funext n;simp[eM,mI]
   rw[e];exact bA.new a 78 sh mI
  case round=>
   obtain⟨k,hk,rfl,t,o⟩:=hrel;have a8:(a:Nat)<=wr:=t.size;by_cases y:k<l.length
   .obtain⟨g,off,rfl,S,L⟩:=P.out zz;obtain⟨d,a2⟩:∃d:Nat,l.getD k 0=(d:Int)/\(d:Int)<b.S:=by
     have V:l.getD k 0∈l:=by simp[List.getD,fg y]
     have:=Q.out _ V;exact⟨(l.getD k 0).toNat,zz,zz⟩
    obtain⟨E,a9⟩:=a2;have a5:wr (g,off+k)=Y (.int .i64 d):=by
     rw[t.cell (p:=⟨g,off+k,I⟩) (by show g<a.heap.size;omega),f.cell (p:=⟨g,off+k,I⟩) (by simp only[aa];omega),<- E,<- L k y];rw[H.cell?_alloc_lt _ _ ⟨g,off+k,I⟩ (by simp only[aa];omega),H.cell?_alloc_lt _ _ ⟨g,off+k,I⟩ (by simp only[aa];omega),H.cell?_alloc_lt _ _ ⟨g,off+k,I⟩ S]
    have W:=λv a1 f' x h2=>o.set (i:=d) (v:=v) (f':=f') a1 x h2;have G:PQ (∀n:Nat,eM (l.take (k+1)) n=if n=d then true else eM (l.take k) n):=λn=>by
     rw[q5A y];have:l[k]=(d:Int):=by rw[<- E];simp[List.getD,fg y]
     rw[this];by_cases e:n=d
     .subst e;simp[eM]
     .simp[eM,e,show¬(n:Int)=d by omega]
    have a4:=o.cell d zz;have fa:=o.free (1+d);clear E L W;go_wp2;go_roundw
    case rel=>exact⟨k+1,zz,by go_num,by exact bt,o.set zz (by rw[G.out,dE rfl]) (λj _ U=>by rw[G.out,cd U])⟩
    case measure=>simp[intOf];omega
   .obtain rfl:k=l.length:=zz;rw[List.take_length]at o;obtain⟨y0,y1,y2,y3,y4,y5,y6,y7,y8,y9,b2,b3,b4⟩:=o.all;have C:bA wr (w.heap.size+1+1) 78 0 mI:=((bA.new2 w _ _ 78 0 mI).below f (by simp only[aa];omega)).below t a3;obtain⟨z0,z1,z2,z3,z4,z5,z6,z7,z8,z9,b5,b6,b7⟩:=C.all;have b8:=λi=>C.free i;have z:=Hm ((jI f).tn (t.mono zz));clear C f t o J N;go_wp2;refine bd (v:=.tuple #[gN sh (eM l),.int .i64 0]) ?_ rfl ⟨by rw[HR.out];rfl,?_⟩
    .simp[results,Tryz.results77,go_sem,gN, *]
    .have z:=z.out;exact bt):p:=h
def xax{p:Prop}(h:p:=by
 have Z:ax sh (-3) 3=false:=by simpa using m
 have HR:PQ (cN b.S sh l=1):=by unfold cN;rw[cd m];exact rfl
 first
 |have _:=ø
  unfold aC.v aF;go_enter Tryz.func36,Tryz.ntmps36;go_wp2_with (first|(go_at_call 43;refine(bz _ _ _ _).mono ?_;rintro e a ⟨rfl,rfl⟩;rw[Z]));go_ret;exact⟨aW HR.out.symm,by exact bt⟩
 |unfold aC.v
  go_enter Tryz.func77,Tryz.ntmps77;go_wp2_with ((go_at_call 78;refine(eA _ _ _ _).mono ?_;rintro e w' ⟨rfl,rfl⟩));refine bd (v:=.tuple #[gN 0 mI,.int .i64 1]) ?_ rfl ⟨by rw[HR.out];rfl,?_⟩
  .simp[results,Tryz.results77,go_sem,gN,mI, *]
  .exact bt):p:=h
def sf{p:Prop}(h:p:=by
 have d:ax x 0 (b.S-1)=true:=by simpa using ‹(!ax x 0 (b.S-1))=false›
 first
 |have _:=ø
  go_ret;exact⟨aW (by rw[g.out,m.out,cd (by simp[d]),dE (by simp[*])]),(bT a).tn (f.mono zz)⟩
 |go_roundw
  case rel=>exact⟨k+1,zz,by go_num,a.tn (f.mono J),g.out.tn (m.out.tn (by rw[cd (by simp[d]),cd so]))⟩
  case measure=>simp[intOf];omega):p:=h
def ta{p:Prop}(h:p:=by
 first|have _:=ø;obtain⟨i0,hi,k9,e4,k'⟩:=info_parts vD|skip
 have Q:=Hm a3;have b8:=Hm b0;first|have _:=å;skip|have a7:=a3.E.1;have f4:=a3.E.2.2.1
 clear a3 b0;have P:=λa (U:aI a b l) (h2:aD a)=>cG b l a U h2
 .first|have _:=å;skip|have hk:=bP t
  simp only[t]at P
  first
  |have _:=å
   have a':=λa (U:aI a b l)=>sQ b l t a U;have N:PQ (oK b l=((((aJ b l b.D.toNat).length:Nat):Int),0)):=by
    unfold oK;rw[PQ,cd (by simp[t])]
   have k4:(aJ b l b.D.toNat).length<=1296:=by
    obtain⟨t1,t2,t3,t4,t5,t6,t7,t8,t9,l2,-⟩:=cS (bP t).1;exact ec (ln _ _) (nH t2 l2 zz)
   generalize aJ b l b.D.toNat=L at a' N k4;clear t;unfold aC.v at P a'|-;go_enter Tryz.func14,Tryz.ntmps14;go_wp2_with (first|(go_at_call 10;refine(P _ (aq Q.out _) (ai b8.out _)).mono ?_;rintro e a ⟨rfl,r⟩;obtain⟨c3,c'⟩:=aU r;have u:=di r;have e4:w.heap.size<a.heap.size:=(by have:=r.size;simp only[aa]at this;omega))|(go_at_call 45;refine(a' _ (Q.out.below u)).mono ?_;rintro e d ⟨A,c,rfl, -, o⟩));go_ret2;exact⟨by rw[N.out];rfl,u.tn (o.mono u.size)⟩
  |have _:=æ
   have f8:=λa=>KW b eye zz a
   (·obtain⟨f1,f2⟩:=cq.1 hf
     obtain⟨h,rfl⟩:∃h:Nat,eye=(h:Int):=⟨eye.toNat,zz⟩;have h4:h<l.E.length:=zz;obtain⟨q1,q2,q3,q4,q5⟩:=qY hk.2.2.2.1 h h4;obtain⟨c1,c2,O,c4,c5,c6,c7,c8,c9⟩:=wL hk.2.1;have Z:=λ(a4:Int) (s1: -1<=a4) (s2:a4<=1) a (h0:bp a b.E l.E)=>N7 b c1 c2 O c4 c7 c8 c5 zz h a4 s1 s2 l.E h4 zz zz q3 q4 a h0;have N:PQ (sv b l h=(jC b (l.E.getD h (0,0)) (-1),jC b (l.E.getD h (0,0)) 1,0)):=by
      unfold sv;rw[cd (by simp[t]),<- a7,cd (by simp[hf])];exact rfl
     have f0:=Z (-1) zz zz;have g1:=Z 1 zz zz;clear Z;generalize jC b (l.E.getD h (0,0)) (-1)=x at f0 N;generalize jC b (l.E.getD h (0,0)) 1=y at g1 N;simp only[hf]at f8;clear hk t hf f1 f2 q1 q2 q3 q4 q5 c1 c2 O c4 c5 c6 c7 c8 c9 a7 f4;unfold aC.v at P f8 f0 g1|-;go_enter Tryz.func27,Tryz.ntmps27;go_wp2_with (first|(go_at_call 10;refine(P _ (aq Q.out _) (ai b8.out _)).mono ?_;rintro e a ⟨rfl,r⟩;obtain⟨c3,c'⟩:=aU r;have u:=di r;have e4:w.heap.size<a.heap.size:=(by have:=r.size;simp only[aa]at this;omega))|(go_at_call 65;refine(f8 _).mono ?_;rintro e d ⟨rfl,o⟩;obtain⟨d8,d9⟩:=aU o));have g3:aK d a 74 b:=(o.block _ (by rw[aa];omega)).tn (Sp _ _);have a2:X w w d:=u.tn ((aY o).mono u.size);have R:=Hm (Q.out.below a2);have g6:=Hm a2;have G:=g3.lt;obtain⟨z0,z1,z2,z3,z4,z5,z6,z7,z8,z9,i2,i3,i4⟩:=aM g3;clear c3 c' d8 d9 r o a2 g3 u;generalize a.heap.size=g at*;have C:PQ (∀w',X d d w'->w' (g,0)=Y (.int .i64 b.S)/\w' (g,1)=Y (.int .i64 b.D)/\w' (g,2)=Y (.int .i64 b.L)/\w' (g,3)=Y (.int .i64 b.lo)/\w' (g,4)=Y (.int .i64 b.hi)/\w' (g,5)=Y (.slice b.C.A b.C.n b.C.c)/\w' (g,6)=Y (.int .i64 b.rf)/\w' (g,7)=Y (.int .i64 b.rh)/\w' (g,8)=Y (.int .i64 b.cf)/\w' (g,9)=Y (.int .i64 b.ch)/\w' (g,10)=Y (.slice b.U.A b.U.n b.U.c)/\w' (g,11)=Y (.slice b.E.A b.E.n b.E.c)/\w' (g,12)=Y (.slice b.W.A b.W.n b.W.c)/\X d d w'):=λw' E=>⟨(E.cell (p:=⟨_,_,I⟩) G).tn z0,(E.cell (p:=⟨_,_,I⟩) G).tn z1,(E.cell (p:=⟨_,_,I⟩) G).tn z2,(E.cell (p:=⟨_,_,I⟩) G).tn z3,(E.cell (p:=⟨_,_,I⟩) G).tn z4,(E.cell (p:=⟨_,_,I⟩) G).tn z5,(E.cell (p:=⟨_,_,I⟩) G).tn z6,(E.cell (p:=⟨_,_,I⟩) G).tn z7,(E.cell (p:=⟨_,_,I⟩) G).tn z8,(E.cell (p:=⟨_,_,I⟩) G).tn z9,(E.cell (p:=⟨_,_,I⟩) G).tn i2,(E.cell (p:=⟨_,_,I⟩) G).tn i3,(E.cell (p:=⟨_,_,I⟩) G).tn i4,E⟩;clear z0 z1 z2 z3 z4 z5 z6 z7 z8 z9 i2 i3 i4;go_region_held3 (λw'=>w'.cell? ⟨g,0,I⟩=Y (.int .i64 b.S)/\w'.cell? ⟨g,1,I⟩=Y (.int .i64 b.D)/\w'.cell? ⟨g,2,I⟩=Y (.int .i64 b.L)/\w'.cell? ⟨g,3,I⟩=Y (.int .i64 b.lo)/\w'.cell? ⟨g,4,I⟩=Y (.int .i64 b.hi)/\w'.cell? ⟨g,5,I⟩=Y (.slice b.C.A b.C.n b.C.c)/\w'.cell? ⟨g,6,I⟩=Y (.int .i64 b.rf)/\w'.cell? ⟨g,7,I⟩=Y (.int .i64 b.rh)/\w'.cell? ⟨g,8,I⟩=Y (.int .i64 b.cf)/\w'.cell? ⟨g,9,I⟩=Y (.int .i64 b.ch)/\w'.cell? ⟨g,10,I⟩=Y (.slice b.U.A b.U.n b.U.c)/\w'.cell? ⟨g,11,I⟩=Y (.slice b.E.A b.E.n b.E.c)/\w'.cell? ⟨g,12,I⟩=Y (.slice b.W.A b.W.n b.W.c)/\X d.heap.size d w')
      (exact C.out _ bf)
      (first
       | (go_at_call 66;(with_reducible refine(f0 _ (R.out.E.below bf)).mono ?_);rintro e v1 ⟨rfl,a1⟩;have k2:X d.heap.size d v1:=X.tn bf (a1.mono (by first|(simp only[H.size_drew];omega)|exact(by with_reducible assumption:X d.heap.size d _).size)))
       | (go_at_call 66;(with_reducible refine(g1 _ (R.out.E.below bf)).mono ?_);rintro e v1 ⟨rfl,a1⟩;have k2:X d.heap.size d v1:=X.tn bf (a1.mono (by first|(simp only[H.size_drew];omega)|exact(by with_reducible assumption:X d.heap.size d _).size))))
     all_goals go_wp2
     all_goals refine bd (results_tmp3 rfl _ _ _) rfl ?_
     all_goals exact⟨by rw[N.out];rfl,g6.out.tn (k2.mono g6.out.size)⟩)
  |have _:=ë
   obtain⟨c1,c2,O,c4,c5,c6,c7,c8,c9⟩:=wL hk.2.1;have e2:=λ(h:Nat) (d4:h<l.E.length) (a4:Int) (s1: -1<=a4) (s2:a4<=1) a (h0:bp a b.E l.E)=>Dt b c1 c2 O c4 c7 c8 h a4 s1 s2 l.E d4 (by have:=qY hk.2.2.2.1 h d4;omega) (by have:=qY hk.2.2.2.1 h d4;omega) (qY hk.2.2.2.1 h d4).2.2.1 (qY hk.2.2.2.1 h d4).2.2.2.1 a h0;have i5:=Hm (qY hk.2.2.2.1);have N:PQ (ve b l=(qG b 0 l.E,0)):=by
    unfold ve;rw[cd (by simp[t])];exact rfl
   have j4:b.E.n<=1000:=zz;have a5:=Hm a7;clear t hk a7 f4;unfold aC.v at P e2|-;go_enter Tryz.func29,Tryz.ntmps29;go_wp2_with (go_at_call 10;refine(P _ (aq Q.out _) (ai b8.out _)).mono ?_;rintro e a ⟨rfl,r⟩;obtain⟨c3,c'⟩:=aU r;have u:=di r;have e4:w.heap.size<a.heap.size:=(by have:=r.size;simp only[aa]at this;omega));have R:=Hm (Q.out.below u);go_loopw [22,2] (λi f wr=>∃(k:Nat) (uB:Int),k<=b.E.n/\i=.int .i64 k/\f=.int .i64 uB/\X a.heap.size a wr/\PQ (qG b 0 l.E=qG b uB (l.E.drop k))) (λi _ _=>b.E.n-(intOf i).toNat)
   case atStart=>exact⟨0,0,zz,rfl,rfl,by exact bt,rfl⟩
   (case round=>
     obtain⟨k,uB,hk,rfl,rfl,s,h5⟩:=hrel;have a0:=s.size;by_cases h6:k<b.E.n
     .have a9:k<l.E.length:=by have:=a5.out;omega
      have C:=Hm (H8 b uB l.E k a9);obtain⟨q1,q2,q3,q4,q5⟩:=i5.out k a9;have a1:=λa h0=>e2 k a9 (-1) zz zz a h0;have e3:=λa h0=>e2 k a9 1 zz zz a h0;clear e2;have b1:=Br (x:=(l.E.getD k (0,0)).1) (y:=(l.E.getD k (0,0)).2) c1 c2 O c4 c7 c8 (show -1<=(-1:Int) by omega) zz zz zz q3 q4;have b2:=Br (x:=(l.E.getD k (0,0)).1) (y:=(l.E.getD k (0,0)).2) c1 c2 O c4 c7 c8 (show -1<=(1:Int) by omega) zz zz zz q3 q4;have e0:((l.E.getD k (0,0)).1,(l.E.getD k (0,0)).2)=l.E.getD k (0,0):=rfl;rw[e0]at b1 b2;have b9:PQ (vY b (l.E.getD k (0,0)) (-1)=(nJ b.rf b.rh b.ch (l.E.getD k (0,0)) (-1)+(b.rh-(l.E.getD k (0,0)).2)-1)/(b.rh-(l.E.getD k (0,0)).2)):=rfl;have b':PQ (vY b (l.E.getD k (0,0)) 1=(nJ b.rf b.rh b.ch (l.E.getD k (0,0)) 1+(b.rh-(l.E.getD k (0,0)).2)-1)/(b.rh-(l.E.getD k (0,0)).2)):=rfl;clear e0 q1 q2;generalize nJ b.rf b.rh b.ch (l.E.getD k (0,0)) (-1)=l3 at a1 b1 b9;generalize nJ b.rf b.rh b.ch (l.E.getD k (0,0)) 1=l4 at e3 b2 b';generalize vY b (l.E.getD k (0,0)) (-1)=K at C b9;generalize vY b (l.E.getD k (0,0)) 1=b7 at C b';generalize(l.E.getD k (0,0)).2=y at a1 e3 b9 b' q3 q4 q5;obtain⟨b3,b4⟩:=b1;obtain⟨b5,b6⟩:=b2;obtain⟨T,f7⟩:∃T:Int,b.rh-y=T:=⟨_,rfl⟩;have d1:1<=T:=zz;have d2:T<=100:=zz;simp only[f7]at a1 e3;have e6:=Hm f7;clear f7;have i8:PQ (K=(l3+T-1)/T):=by have:=b9.out;rw[e6.out]at this;exact this
      have i9:PQ (b7=(l4+T-1)/T):=by have:=b'.out;rw[e6.out]at this;exact this
      clear b9 b' e6;obtain⟨W,j5⟩:∃W,W=wr:=⟨_,rfl⟩;subst j5;go_wp2;go_loopw [27,2] (λj f d=>∃n:Nat,n<=2/\j=.int .i64 n/\f=.int .i64 (ZD uB (max uB K) (max (max uB K) b7) n)/\X (W.heap.size+1) (W.alloc (.cells #[.int .i64 (-1),.int .i64 1] 3)) d) (λj _ _=>2-(intOf j).toNat)
      case atStart=>exact⟨0,zz,rfl,rfl,by exact bt⟩
      case round=>
       obtain⟨n,m5,rfl,rfl,a8⟩:=hrel;have B3:=bT a8;have g2:(W:Nat)+1<=wr:=by have:=a8.size;rw[aa]at this;exact this
       have j1:wr (W.heap.size,0)=Y (.int .i64 (-1))/\wr (W.heap.size,1)=Y (.int .i64 1):=by
        have U:=Sp W (.cells #[.int .i64 (-1),.int .i64 1] 3);exact⟨(a8.cell (p:=⟨W.heap.size,0,I⟩) (by show W.heap.size<_;omega)).tn (by rw[H.cell?,U];rfl),(a8.cell (p:=⟨W.heap.size,1,I⟩) (by show W.heap.size<_;omega)).tn (by rw[H.cell?,U];rfl)⟩
       obtain⟨l0,m1⟩:=j1;rcases(show n=0\/n=1\/n=2 from zz)with rfl|rfl|rfl
       .go_wp2_with (go_at_call 67;refine(a1 _ (R.out.E.below (s.tn (B3.mono a0)))).mono ?_;rintro e v1 ⟨rfl,o⟩);go_roundw
        case rel=>exact⟨1,zz,by first|rfl|go_num,int_eq (by rw[<- i8.out];show(if uB<K then K else uB)=max uB K;rw[Int.max_def];split<;>split<;>omega),a8.tn (o.mono g2)⟩
        case measure=>simp[intOf]
       .go_wp2_with (go_at_call 67;refine(e3 _ (R.out.E.below (s.tn (B3.mono a0)))).mono ?_;rintro e v1 ⟨rfl,o⟩);go_roundw
        case rel=>exact⟨2,zz,by first|rfl|go_num,int_eq (by rw[<- i9.out];show(if max uB K<b7 then b7 else max uB K)=max (max uB K) b7;rw[Int.max_def (max uB K)];split<;>split<;>omega),a8.tn (o.mono g2)⟩
        case measure=>simp[intOf]
       .go_wp2;go_roundw
        case rel=>exact⟨k+1,max (max uB K) b7,zz,by go_num,int_eq rfl,s.tn (B3.mono a0),h5.out.tn C.out⟩
        case measure=>simp[intOf];omega
     .obtain rfl:k=b.E.n:=zz;go_wp2;go_ret2;exact⟨by rw[N.out,h5.out];have:=a5.out;simp[this,qG],u.tn (s.mono u.size)⟩)
  |have d5:∀(k:Nat),k<b.E.n->∀a,aI a b l->aD a->PH F 27 #[b.v,.int .i64 k] a λe w'=>e=.returned (.tuple #[.bool (jC b (l.E.getD k (0,0)) (-1)),.bool (jC b (l.E.getD k (0,0)) 1),.int .i64 0])/\X a a w':=λk hk a U h2=>
    (Au b l k a U h2 t (by simp[ax];omega)).mono λe w' h7=>by
     have e1:sv b l k=(jC b (l.E.getD k (0,0)) (-1),jC b (l.E.getD k (0,0)) 1,0):=by
      unfold sv;rw[cd (by simp[t]),cd (by simp[ax];omega)];exact rfl
     rw[e1]at h7;exact h7
   have N:PQ (AU b l=((kL b l.E l.E.length).1,(kL b l.E l.E.length).2,0)):=by
    unfold AU;rw[cd (by simp[t])];exact rfl
   have j4:b.E.n<=1000:=zz;have m2:b.E.n<=b.E.c:=by have:=Q.out.E.2.1;omega
   have a5:=Hm a7;clear t hk a7 f4;unfold aC.v at P d5|-;obtain⟨g5,f3⟩:∃g5,b.E.A=g5:=⟨_,rfl⟩;simp only[f3]at P d5|-;have g8:=Hm f3;clear f3;go_enter Tryz.func28,Tryz.ntmps28;go_wp2_with (go_at_call 10;refine(P _ (aq Q.out _) (ai b8.out _)).mono ?_;rintro e a ⟨rfl,r⟩;obtain⟨c3,c'⟩:=aU r;have u:=di r;have h':w.heap.size<a.heap.size:=(by have:=r.size;simp only[aa]at this;omega));have i':PQ (aK a w 31 b):=(r.block _ (by rw[aa];omega)).tn ((Sp _ _).tn (by rw[aE,g8.out]));have R:=Hm (Q.out.below u);have g':=Hm (b8.out.below u);clear c3 c' r;go_loopw [2,3,19] (λv l1 i wr=>∃(k:Nat) (A:Option Addr) (d7:Nat),k<=b.E.n/\i=.int .i64 k/\v=.slice A (kL b l.E k).1.length d7/\l1=.int .i64 (kL b l.E k).2/\wr.ownsRow a.heap.size 3 1 v (kL b l.E k).1.length ((kL b l.E k).1.map (M.int .i64))/\X a.heap.size a wr) (λ_ _ i _=>b.E.n-(intOf i).toNat)
   case atStart=>exact⟨0,I,0,zz,rfl,rfl,rfl,H.ownsRow_nil _ _ _ _,by exact bt⟩
   case round=>
    obtain⟨k,A,d7,hk,rfl,rfl,rfl,V,s⟩:=hrel;have a0:=s.size;have k8:(w:Nat)<wr:=zz;have h1:aK wr w 31 b:=(s.block _ h').tn i'.out;obtain⟨x0,x1,x2,x3,x4,x5,x6,x7,x8,x9,m7,i1,m'⟩:=aM h1;clear h1;obtain⟨n1,n2,n3⟩:=JD b l.E k;by_cases h6:k<b.E.n
    .have a9:k<l.E.length:=by have:=a5.out;omega
     have Z:=d5 k h6;clear d5;have J:=AT b l.E k;obtain⟨S,off,g0,f5,f6⟩:=R.out.E.2.2.2 zz;rw[g8.out]at g0 i1;subst g0;have j':S<wr.heap.size:=zz;have m3:S<wr.heap.size+1:=zz;have g7:PQ (∀j,j<l.E.length->wr (S,off+j*2)=Y (.int .i64 (l.E.getD j (0,0)).1)/\wr (S,off+j*2+1)=Y (.int .i64 (l.E.getD j (0,0)).2)):=λj d'=>⟨(s.cell (p:=⟨S,_,I⟩) f5).tn (f6 j d').1,(s.cell (p:=⟨S,_,I⟩) f5).tn (f6 j d').2⟩;clear f6;obtain⟨j2,j3⟩:=g7.out k a9;obtain⟨st,a'⟩:∃st,kL b l.E k=st:=⟨_,rfl⟩;obtain⟨L,e5⟩:=st;simp only[a']at V n1 n2 n3 J|-;clear a';have e1:Ve b (l.E.getD k (0,0))=(jC b (l.E.getD k (0,0)) (-1)||jC b (l.E.getD k (0,0)) 1):=rfl;unfold JC at J;rw[e1]at J;clear e1;generalize jC b (l.E.getD k (0,0)) (-1)=x at Z J;generalize jC b (l.E.getD k (0,0)) 1=y at Z J;generalize(l.E.getD k (0,0)).1=e1 at j2;generalize(l.E.getD k (0,0)).2=e' at j3 J;cases d6:(x||y)
     .rw[d6,cd ss]at J;have C:=Hm J;have l':=Hm d6;obtain⟨rfl,rfl⟩:x=false/\y=false:=by simpa using d6
      clear J d6;go_wp2_with (go_at_call 27;refine(Z _ (aq (R.out.below s) _) (ai (g'.out.below s) _)).mono ?_;rintro e d ⟨rfl,o⟩;obtain⟨d8,d9⟩:=aU o);go_roundw
      case rel=>exact⟨k+1,A,d7,zz,by go_num,by rw[C.out],by rw[C.out],by rw[C.out];exact rK V (aY o),s.tn ((aY o).mono a0)⟩
      case measure=>simp[intOf];omega
     .rw[d6,dE rfl]at J;have C:=Hm J;clear J;go_wp2_with (first|(go_at_call 27;refine(Z _ (aq (R.out.below s) _) (ai (g'.out.below s) _)).mono ?_;rintro e d ⟨rfl,o⟩;obtain⟨d8,d9⟩:=aU o;have g2:=(aY o).size)|(at_builtin;refine wpList_append_own _ rfl _ _ 24 rfl a.heap.size 3 i0 (.int .i64 0) 1 8 Tryz.underlying24 hi k9 e4 k' rfl dd _ _ _ rfl ((rK V (aY o)).alloc _) ⟨d.heap.size,0,I⟩ 1 1 [.int .i64 k] rfl rfl (cell_one_new _ _ _) (λx h9=>by simp at h9;subst h9;rfl) (by unfold maxLen;omega) zz so ?_;intro v' w3 f' d3 k6));rotate_left 2
      .exfalso;simp_all
      all_goals
       have a2:=aY o;have k0:w3 (wr.heap.size,1)=Y (.int .i64 e'):=by
        rw[Xm d3 (by have:=o.size;rw[aa]at this;omega) (Xn V (dj _)),o.cell (p:=⟨wr.heap.size,1,I⟩) (by simp only[aa];omega),H.cell?,Sp];rfl
       have k1:w3 (w.heap.size,11)=Y (.slice (Y (S,off)) b.E.n b.E.c):=by
        rw[Xm d3 zz (PU V h'),a2.cell (p:=⟨w.heap.size,11,I⟩) k8];exact i1
       have i6:PQ (∀j,j<l.E.length->w3 (S,off+j*2+1)=Y (.int .i64 (l.E.getD j (0,0)).2)):=λj d'=>by
        rw[Xm d3 zz (PU V f5),a2.cell (p:=⟨S,off+j*2+1,I⟩) j'];exact(g7.out j d').2
       have m6:(wr:Nat)<d:=by have:=o.size;rw[aa]at this;omega
       have h3:X a a w3:=(s.tn (a2.mono a0)).tn ((X.refl _ _).alloc zz _ |>.grown d3 (by simp only[aa];omega) (λq k7=>(V.lt q k7).1));obtain⟨A3,O,h8⟩:=tK f';have e7:=Hm h3;have e8:=Hm f';have e9:=Hm h8;clear f' d3 k6 h8 h3 d8 d9;by_cases f9:e5<0
       .have k3:decide (e5<0)=true:=decide_eq_true f9;go_quiet ((fail));go_wp2;go_roundw
        case rel=>exact⟨k+1,A3,O,zz,by go_num,by rw[C.out,e9.out];simp,by rw[C.out];simp[f9],by rw[C.out];exact vf (by simpa using e8.out) _,below_drewN e7.out _⟩
        case measure=>simp[intOf];omega
       .obtain⟨m,rfl⟩:∃m:Nat,e5=(m:Int):=⟨e5.toNat,zz⟩;have k3:decide ((m:Int)<0)=false:=decide_eq_false f9;have m4:(m:Int)<b.E.n:=zz;have k5:m<l.E.length:=by have:=a5.out;omega
        have k2:=i6.out m k5;have d0:=C.out;rw[qNB]at d0;generalize(l.E.getD m (0,0)).2=z at k2 d0;have a6:=Hm d0;clear d0 C;go_quiet ((fail));go_wp2
        .have g4:e'<z:=by with_reducible assumption
         go_roundw
         case rel=>exact⟨k+1,A3,O,zz,by go_num,by rw[a6.out,e9.out];simp,by rw[a6.out];simp[g4],by rw[a6.out];exact vf (by simpa using e8.out) _,below_drewN e7.out _⟩
         case measure=>simp[intOf];omega
        .have g4:¬e'<z:=zz;go_roundw
         case rel=>exact⟨k+1,A3,O,zz,by go_num,by rw[a6.out,e9.out];simp,by rw[a6.out];simp[g4];intro h;omega,by rw[a6.out];exact vf (by simpa using e8.out) _,below_drewN e7.out _⟩
         case measure=>simp[intOf];omega
    .obtain rfl:k=b.E.n:=zz;clear d5;go_wp2;refine bd (results_tmp3 rfl _ _ _) rfl ?_;have i7:=a5.out;have g9:=N.out;rw[<- i7]at g9;rw[g9];exact⟨A,d7,rfl,dy (B:=a.heap.size) zz V,u.tn (s.mono u.size)⟩):p:=h
def ub{p:Prop}(h:p:=by
 first|have _:=ø;have o:ax b.D 0 2=false:=by simpa using g|have _:=å;have r:ax b.S 4 12=false:=by simpa using f|have _:=æ;have q:ax b.L 1 4=false:=by simpa using i|have n:lF b.lo b.hi (-3) 3=false:=by simpa using hB
 unfold aC.v at d|-;go_enter Tryz.func155,Tryz.ntmps155;go_wp2_with (first|(go_at_call 78;refine(eA _ _ _ _).mono ?_;rintro e w' ⟨rfl,rfl⟩)|(go_at_call 160;refine(lG _ _ _ _ _).mono ?_;rintro e c ⟨rfl,a⟩;obtain⟨t,u⟩:=aU a))
 first
 |have _:=ø
  go_ret;exact⟨aW (by rw[cA,cd (by simp[o])]),(X.refl _ _).alloc (dj _) _⟩
 |have _:=å
  go_ret;exact⟨aW (by rw[cA,cd (by simp[r])]),(X.refl _ _).alloc (dj _) _⟩
 |have _:=æ
  go_ret;exact⟨aW (by rw[cA,cd (by simp[q])]),(X.refl _ _).alloc (dj _) _⟩
 |all_goals go_ret
  all_goals exact⟨aW (by rw[cA,cd (by simp[n])]),by first|exact(X.refl _ _).alloc (dj _) _|exact aY a⟩):p:=h
def ui{p:Prop}(h:p:=by
 first|have _:=ø;go_enter Tryz.func160,Tryz.ntmps160|go_enter Tryz.func85,Tryz.ntmps85
 go_wp2;all_goals go_ret
 .exact⟨bR (by simp[lF, *]),(X.refl _ _).alloc (dj _) _⟩
 .exact⟨bR (by simp[lF, *];omega),(X.refl _ _).alloc (dj _) _⟩
 .exact⟨bR (by simp[lF, *];omega),(X.refl _ _).alloc (dj _) _⟩):p:=h
def H2{p:Prop}(h:p:=by
 first
 |have _:=ø
  have key:∀i v,(#[.int .i64 b.S,.int .i64 b.D,.int .i64 b.L,.int .i64 b.lo,.int .i64 b.hi,.slice b.C.A b.C.n b.C.c,.int .i64 b.rf,.int .i64 b.rh,.int .i64 b.cf,.int .i64 b.ch,.slice b.U.A b.U.n b.U.c,.slice b.E.A b.E.n b.E.c,.slice b.W.A b.W.n b.W.c]:Array M)[i]?=Y v->w.cell? ⟨g,i,I⟩=Y v:=by
   intro i v a;unfold aK at h;rw[H.cell?,h];exact a
 |have key:∀i v,(#[.int .i64 b.S,.int .i64 b.D,.int .i64 b.L,.int .i64 b.lo,.int .i64 b.hi,.slice b.C.A b.C.n b.C.c,.int .i64 b.rf,.int .i64 b.rh,.int .i64 b.cf,.int .i64 b.ch,.slice b.U.A b.U.n b.U.c,.slice b.E.A b.E.n b.E.c,.slice b.W.A b.W.n b.W.c]:Array M)[i]?=Y v->wr.cell? ⟨w.heap.size,i,I⟩=Y v:=by
   intro i v a;rw[h.cell (p:=⟨w.heap.size,i,I⟩) (by show w.heap.size<w.heap.size+1;omega)];show(match(w.alloc (aE b t)).heap[w.heap.size]? with|some (.cells c _ _)=>c[i]?|_=>I)=Y v;rw[Sp];exact a
 refine⟨key _ _ rfl,key _ _ rfl,key _ _ rfl,key _ _ rfl,key _ _ rfl,key _ _ rfl,key _ _ rfl,key _ _ rfl,key _ _ rfl,key _ _ rfl,key _ _ rfl,key _ _ rfl,key _ _ rfl⟩):p:=h
def xae{p:Prop}(h:p:=by
 unfold aC.v;first|have _:=ø;go_enter Tryz.func33,Tryz.ntmps33|have _:=å;go_enter Tryz.func65,Tryz.ntmps65|go_enter Tryz.func51,Tryz.ntmps51
 go_wp2_with ((go_at_call 78;refine(eA _ _ _ _).mono ?_;rintro e w' ⟨rfl,rfl⟩));go_ret;exact⟨rfl,(X.refl _ _).alloc (dj _) _⟩):p:=h
def xaf{p:Prop}(h:p:=by
 first|have _:=ø;intro hk w|unfold tJ
 rcases(show k=0\/k=1\/k=2\/k=3\/k=4\/k=5\/k=6\/k=7\/k=8\/k=9\/k=10\/k=11 from zz)with rfl|rfl|rfl|rfl|rfl|rfl|rfl|rfl|rfl|rfl|rfl|rfl<;>kernel_rfl):p:=h
def xau{p:Prop}(h:p:=by
 have e0:cA b l.C=0:=a 0 zz;have e1:cZ b=0:=a 1 zz;have c:fH b.S l.U=0:=a 2 zz;first|have _:=ø;rw[cd (by simp[e0]),cd (by simp[e1]),cd (by simp[c]),dE (show fT b.rf b.ch l.E≠0 from hne)];rfl|have _:=å;have d:fT b.rf b.ch l.E=0:=a 3 zz;rw[cd (by simp[e0]),cd (by simp[e1]),cd (by simp[c]),cd (by simp[d])];rfl|have d:fT b.rf b.ch l.E=0:=a 3 zz;have e:ki b.S l.U.length l.W=0:=a 4 zz;simp[ay,e0,e1,c,d,e]):p:=h
def xaQ{p:Prop}(h:p:=by
 obtain⟨cs,e1,a⟩:=h;exact⟨cs,(QR _ _ (du.1 e1).1).tn e1,a⟩):p:=h
def xaR{p:Prop}(h:p:=by
 first|have _:=ø;go_enter Tryz.func78,Tryz.ntmps78|go_enter Tryz.func43,Tryz.ntmps43
 go_wp2;all_goals go_ret
 .exact⟨bR (by simp[ax, *]),rfl⟩
 .exact⟨bR (by simp[ax];omega),rfl⟩):p:=h
def xaT{p:Prop}(h:p:=by
 rw[lL hk];have e:l.getD k (0,0,false)=l[k]:=by simp[List.getD,fg hk]
 rw[e];rfl):p:=h
def xbe{p:Prop}(h:p:=by
 obtain⟨cs,e1,c⟩:=h;exact⟨cs,(a.block g b).tn e1,c⟩):p:=h
def xbp{p:Prop}(h:p:=by
 go_ret;exact⟨aW (by rw[fT,cd zz,c.out,f.out,dE (by simp[g,j])]),(bT a).tn ((X.refl _ _).alloc zz _)⟩):p:=h
def xbq{p:Prop}(h:p:=by
 rw[lL hk];have e:l.getD k (0,0)=l[k]:=by simp[List.getD,fg hk]
 rw[e];rfl):p:=h
def xbr{p:Prop}(h:p:=by
 go_ret;exact⟨aW (by rw[ki,cd zz,g.out,v.out,dE (by simp[J,K])]),(bT a).tn ((aY d).mono zz)⟩):p:=h
def xbt{p:Prop}(h:p:=by
 show Hd (w.heap.size+1) (w.alloc (aE _ 74)) _;simp only[aE];exact bt):p:=h
end Go
namespace Go.Proofs.YtimmnfbjckbneaaGreatDoor
open Go.RowKit
def bR{a b:Bool}(h:a=b):Ending.returned (.bool a)=.returned (.bool b):=by rw[h]
def aW{k:IntKind}{a b:Int}(h:a=b):Ending.returned (.int k a)=.returned (.int k b):=by rw[h]
def ax(n l h:Int):Bool:=decide (l<=n)&&decide (n<=h)
theorem eA(n l h:Int)(w:H):
  PH F 78 #[.int .i64 n,.int .i64 l,.int .i64 h] w λe w'=>e=.returned (.bool (ax n l h))/\w=w':=by
 have ø:=0;exact xaR
def lF(lo hi l h:Int):Bool:=decide (l<=lo)&&decide (lo<=hi)&&decide (hi<=h)
theorem lG(lo hi l h:Int)(w:H):
  PH F 160 #[.agg #[.int .i64 lo,.int .i64 hi],.int .i64 l,.int .i64 h] w λe w'=>e=.returned (.bool (lF lo hi l h))/\X w w w':=by
 have ø:=0;exact ui
structure Sl where
 A:Option Addr
 n:Nat
 c:Nat
structure aC where
 S:Int
 D:Int
 L:Int
 lo:Int
 hi:Int
 C:Sl
 rf:Int
 rh:Int
 cf:Int
 ch:Int
 U:Sl
 E:Sl
 W:Sl
def aC.v(b:aC):M:=.agg #[.int .i64 b.S,.int .i64 b.D,.int .i64 b.L,.int .i64 b.lo,.int .i64 b.hi,.slice b.C.A b.C.n b.C.c,.int .i64 b.rf,.int .i64 b.rh,.int .i64 b.cf,.int .i64 b.ch,.slice b.U.A b.U.n b.U.c,.slice b.E.A b.E.n b.E.c,.slice b.W.A b.W.n b.W.c]
theorem fB(b:aC)(n:Int)(a: -1000<=b.S)(h2:b.S<=1000)(w:H):
  PH F 51 #[b.v,.int .i64 n] w λe w'=>e=.returned (.bool (ax n 0 (b.S-1)))/\X w w w':=xae
theorem oE(b:aC)(n:Int)(a:b.U.n<=1000)(w:H):
  PH F 33 #[b.v,.int .i64 n] w λe w'=>e=.returned (.bool (ax n 0 (b.U.n-1)))/\X w w w':=by
 have ø:=0;exact xae
theorem KW(b:aC)(n:Int)(a:b.E.n<=1000)(w:H):
  PH F 65 #[b.v,.int .i64 n] w λe w'=>e=.returned (.bool (ax n 0 (b.E.n-1)))/\X w w w':=by
 have å:=0;exact xae
variable{d:Nat->Bool}{k:Nat}
def tJ(d:Nat->Bool):M:=.agg #[.bool (d 0),.bool (d 1),.bool (d 2),.bool (d 3),.bool (d 4),.bool (d 5),.bool (d 6),.bool (d 7),.bool (d 8),.bool (d 9),.bool (d 10),.bool (d 11)]
def ie(d:Nat->Bool)(k:Nat):List Int:=((List.range k).filter d).map λ(i:Nat)=>(i:Int)
def oG(h:d k=true):ie d (k+1)=ie d k++[(k:Int)]:=by simp[ie,List.range_succ,h]
def mV(h:d k=false):ie d (k+1)=ie d k:=by simp[ie,List.range_succ,h]
def kO(d:Nat->Bool)(k:Nat):(ie d k).length<=k:=by
 simp only[ie,my];exact ec (ln _ _) ss
def vD:(F.info? 3).map (λi=>(i.zero,i.size,i.bytes))=Y (Y (.int .i64 0),1,8):=by kernel_rfl
def tK{w:H}{B e size n:Nat}{v:M}{xs:List M}(h:w.ownsRow B e size v n xs):∃A c,v=.slice A n c:=by
 rcases h.2 with⟨a,h2⟩|⟨g,b,d,a,_⟩
 .exact⟨I,0,by rw[a,h2]⟩
 .exact⟨_,_,a⟩
def Made(B e:Nat)(l:List M)(a:Ending)(w w':H):Prop:=∃A c,a=.returned (.slice A l.length c)/\w'.ownsRow B e 1 (.slice A l.length c) l.length l/\X B w w'
theorem xQ(d:Nat->Bool)(w:H):
  PH F 35 #[tJ d] w λe w'=>Made w 3 ((ie d 12).map (M.int .i64)) e w w':=by
 obtain⟨i0,hi,y,z,B⟩:=info_parts vD;unfold tJ;go_enter Tryz.func35,Tryz.ntmps35;go_wp2;go_loopw [3,7] (λv i wr=>∃(k:Nat) (a:Option Addr) (b:Nat),k<=12/\i=.int .i64 k/\v=.slice a (ie d k).length b/\wr.ownsRow w.heap.size 3 1 v (ie d k).length ((ie d k).map (M.int .i64))/\X w.heap.size w wr)
  (λ_ i _=>12-(intOf i).toNat)
 case atStart=>exact⟨0,I,0,fi _,rfl,rfl,H.ownsRow_nil _ _ _ _,(X.refl _ _).alloc (dj _) _⟩
 case round=>
  obtain⟨k,a,b,hk,rfl,rfl,g,f⟩:=hrel;have t:=f.size;have C:=kO d k;have l:k<12->∀w:H,(Instr.index 76 (.agg #[.bool (d 0),.bool (d 1),.bool (d 2),.bool (d 3),.bool (d 4),.bool (d 5),.bool (d 6),.bool (d 7),.bool (d 8),.bool (d 9),.bool (d 10),.bool (d 11)]) (.int .i64 k)).run F w=.ok (.bool (d k)) w:=by
   have ø:=0;exact xaf
  by_cases r:k<12
  .have m:=l r;clear l;go_wp2_with (at_builtin;refine wpList_append_own _ rfl _ _ 24 rfl w.heap.size 3 i0 (.int .i64 0) 1 8 Tryz.underlying24 hi y z B rfl dd _ _ _ rfl (g.alloc _) ⟨wr.heap.size,0,I⟩ 1 1 [.int .i64 k] rfl rfl (cell_one_new _ _ _) (λx m=>by simp at m;subst m;rfl) (by unfold maxLen;omega) zz so ?_;intro v' G n o E)
   .have j:d k=true:=by assumption
    have e1:=oG j;go_roundw
    case rel=>
     obtain⟨A,c,u⟩:=tK n;exact⟨k+1,A,c,zz,by go_num,by rw[u,e1];simp,by rw[e1];simpa using n,(f.alloc t _).grown o so (λq s=>(g.lt q s).1)⟩
    case measure=>simp[intOf];omega
   .have j:d k=false:=by assumption
    have e1:=mV j;go_roundw
    case rel=>exact⟨k+1,a,b,zz,by go_num,by rw[e1],by rw[e1];exact g,f⟩
    case measure=>simp[intOf];omega
  .clear l;obtain rfl:k=12:=zz;go_wp2;go_ret;exact⟨a,b,by simp,by simpa using g,f⟩
variable{w wr a:H}{b B i:Nat}{o:Obj}
def aN(w:H)(s:Sl)(l:List Int):Prop:=s.n=l.length/\l.length<=s.c/\l.length<=1000/\(0<l.length->∃b off,s.A=Y ⟨b,off,I⟩/\b<w.heap.size/\∀k,k<l.length->w (b,off+k)=Y (.int .i64 (l.getD k 0)))
theorem aN.below{w w':H}{s:Sl}{l:List Int}(h:aN w s l)(a:X w w w'):aN w' s l:=
 ⟨h.1,h.2.1,h.2.2.1,λc=>by
  obtain⟨b,off,d,h2,e⟩:=h.2.2.2 c;exact⟨b,off,d,iv h2 a.size,λk hk=>(a.cell (p:=⟨b,off+k,I⟩) h2).tn (e k hk)⟩⟩
def bS(S:Int):Option Int->List Int->Int
 | _,[]=>0
 | p,n::r=>if ax n 0 (S-1)=false then 6 else if(match p with|some x=>decide (n<=x)|none=>false)=true then 7 else bS S (Y n) r
def qh(l:List Int)(k:Nat):Option Int:=if k=0 then I else Y (l.getD (k-1) 0)
def vE(S:Int)(l:List Int)(k:Nat)(hk:k<l.length):bS S (qh l k) (l.drop k)=
  if ax (l.getD k 0) 0 (S-1)=false then 6 else if(decide (0<k)&&decide (l.getD k 0<=l.getD (k-1) 0))=true then 7 else bS S (qh l (k+1)) (l.drop (k+1)):=by
 rw[lL hk];have e:l.getD k 0=l[k]:=by simp[List.getD,fg hk]
 simp only[bS,<- e];rcases mT k with rfl|a
 .simp[qh]
 .have:k≠0:=zz;simp[qh,this,a]
def xR(S:Int)(l:List Int)(p:Option Int):bS S p (l.drop l.length)=0:=by simp[bS]
def aU{W w1:H}(a:X W.heap.size W w1):(∀b o,b<W.heap.size->w1.cell? ⟨b,o,I⟩=W.cell? ⟨b,o,I⟩)/\(∀b o,b<W.heap.size->w1.frozen? ⟨b,o,I⟩=W.frozen? ⟨b,o,I⟩):=
 ⟨λb o h=>a.cell h,λb o h=>a.frozen h⟩
def aE(b:aC)(t:Lk):Obj:=.cells #[.int .i64 b.S,.int .i64 b.D,.int .i64 b.L,.int .i64 b.lo,.int .i64 b.hi,.slice b.C.A b.C.n b.C.c,.int .i64 b.rf,.int .i64 b.rh,.int .i64 b.cf,.int .i64 b.ch,.slice b.U.A b.U.n b.U.c,.slice b.E.A b.E.n b.E.c,.slice b.W.A b.W.n b.W.c] t
abbrev Dg(b:aC):Obj:=aE b 74
def iw{b:aC}{t:Lk}(h:X (w.heap.size+1) (w.alloc (aE b t)) wr):
  wr.cell? ⟨w.heap.size,0,I⟩=Y (.int .i64 b.S)/\wr.cell? ⟨w.heap.size,1,I⟩=Y (.int .i64 b.D)/\wr.cell? ⟨w.heap.size,2,I⟩=Y (.int .i64 b.L)/\wr.cell? ⟨w.heap.size,3,I⟩=Y (.int .i64 b.lo)/\wr.cell? ⟨w.heap.size,4,I⟩=Y (.int .i64 b.hi)/\
  wr.cell? ⟨w.heap.size,5,I⟩=Y (.slice b.C.A b.C.n b.C.c)/\wr.cell? ⟨w.heap.size,6,I⟩=Y (.int .i64 b.rf)/\wr.cell? ⟨w.heap.size,7,I⟩=Y (.int .i64 b.rh)/\wr.cell? ⟨w.heap.size,8,I⟩=Y (.int .i64 b.cf)/\wr.cell? ⟨w.heap.size,9,I⟩=Y (.int .i64 b.ch)/\
  wr.cell? ⟨w.heap.size,10,I⟩=Y (.slice b.U.A b.U.n b.U.c)/\wr.cell? ⟨w.heap.size,11,I⟩=Y (.slice b.E.A b.E.n b.E.c)/\wr.cell? ⟨w.heap.size,12,I⟩=Y (.slice b.W.A b.W.n b.W.c):=H2
def below_drewN(h:X B a w)(n:Nat):X B a (w.drewN n):=⟨h.os,h.tape,h.output,h.size,h.block⟩
def lH(h:X B a w):X B a w.drew:=⟨h.os,h.tape,h.output,h.size,h.block⟩
def aa(w:H)(o:Obj):(w.alloc o).heap.size=w.heap.size+1:=by simp
def aP(h:X B a w)(hB:B<=a.heap.size)(o:Obj):X B a (w.alloc o):=h.alloc (ec hB h.size) o
def jH(h:X B a w)(hB:B<=b)(v:M):X B a (w.setCell (b,i) v):=h.setCell hB v
theorem jN(h:X (w.heap.size+1) (w.alloc o) wr)(a:b<w):wr (b,i)=w (b,i):=
 (h.cell (by show b<_;omega)).tn (H.cell?_alloc_lt w o ⟨b,i,I⟩ a)
theorem bT(h:X (w.heap.size+1) (w.alloc o) wr):X w w wr:=
 ((X.refl _ _).alloc (dj _) o).tn (h.mono (Nat.le_succ _))
theorem xS(b:aC)(B: -1000<=b.S)(h2:b.S<=1000)(s:Sl)(l:List Int)(w:H)(G:aN w s l):
  PH F 114 #[b.v,.slice s.A s.n s.c] w λe w'=>e=.returned (.int .i64 (bS b.S I l))/\X w.heap.size w w':=by
 have r:=λn w=>fB b n B h2 w;obtain⟨A,R,c⟩:=s;obtain⟨rfl,N,Q,u⟩:=G;have z:PQ (0<l.length->∃b off,A=Y ⟨b,off,I⟩/\b<w.heap.size/\∀k,k<l.length->w.cell? ⟨b,off+k,I⟩=Y (.int .i64 (l.getD k 0))):=u;clear u;unfold aC.v at r|-;simp only at|-;go_enter Tryz.func114,Tryz.ntmps114;go_wp2;go_loopw [9] (λi wr=>∃k:Nat,k<=l.length/\i=.int .i64 k/\X (w.heap.size+1) (w.alloc (Dg b)) wr/\PQ (bS b.S I l=bS b.S (qh l k) (l.drop k))) (λi _=>l.length-(intOf i).toNat)
 case atStart=>exact⟨0,fi _,rfl,X.refl _ _,by simp[qh,PQ]⟩
 case round=>
  obtain⟨k,hk,rfl,a,g⟩:=hrel;have J:w.heap.size+1<=wr.heap.size:=by have:=a.size;rw[aa]at this;exact this
  by_cases v:k<l.length
  .have j:=vE b.S l k v;obtain⟨T,U,x2,x3,x4,x5,x6,x7,x8,x9,V,W,Z⟩:=iw a;obtain⟨o,off,rfl,t,q⟩:=z.out zz;have L:o<wr.heap.size:=zz;have C:wr.cell? ⟨o,off+k,I⟩=Y (.int .i64 (l.getD k 0)):=(jN a t).tn (q k v);have E:0<k->wr.cell? ⟨o,off+(k-1),I⟩=Y (.int .i64 (l.getD (k-1) 0)):=λK=>(jN a t).tn (q (k-1) zz);clear q;generalize l.getD k 0=x at j C;generalize l.getD (k-1) 0=y at j E;have m:=Hm j;clear j;go_wp2_with ((go_at_call 51;refine(r _ _).mono ?_;rintro e S ⟨rfl,f⟩;obtain⟨O,P⟩:=aU f))
   .have d:ax x 0 (b.S-1)=false:=by simpa using ‹(!ax x 0 (b.S-1))=true›
    go_ret;exact⟨aW (by rw[g.out,m.out,dE d]),(bT a).tn (f.mono zz)⟩
   .have ø:=0;exact sf
   .exact sf
   .exact sf
  .obtain rfl:k=l.length:=zz;go_wp2;go_ret;exact⟨aW (by rw[g.out,xR]),bT a⟩
def cA(b:aC)(l:List Int):Int:=
 if ax b.S 4 12=true/\ax b.D 0 2=true/\ax b.L 1 4=true/\lF b.lo b.hi (-3) 3=true/\b.hi-b.lo<3 then bS b.S I l else 1
def cq{n l h:Int}:ax n l h=true↔l<=n/\n<=h:=by simp[ax]
def uJ{lo hi l h:Int}:lF lo hi l h=true↔l<=lo/\lo<=hi/\hi<=h:=by simp[lF,and_assoc]
theorem aY{w w':H}{o:Obj}(h:X (w.alloc o).heap.size (w.alloc o) w'):X w w w':=
 ((X.refl _ _).alloc (dj _) o).tn (h.mono (by rw[aa];omega))
def aZ{w:H}{s:Sl}{l:List Int}(h:aN w s l)(o:Obj):aN (w.alloc o) s l:=h.below ((X.refl _ _).alloc (dj _) o)
theorem KX(b:aC)(l:List Int)(w:H)(j:aN w b.C l):
  PH F 155 #[b.v] w λe w'=>e=.returned (.int .i64 (cA b l))/\X w w w':=by
 have k:=Hm j;clear j;have d:=λ(m: -1000<=b.S) (h2:b.S<=1000) (c:H) (h:aN c b.C l)=>xS b m h2 b.C l c h;by_cases hB:lF b.lo b.hi (-3) 3=true
 .obtain⟨v,x,y⟩:=uJ.1 hB;by_cases f:ax b.S 4 12=true
  .obtain⟨z,A⟩:=cq.1 f;by_cases g:ax b.D 0 2=true
   .by_cases i:ax b.L 1 4=true
    .unfold aC.v at d|-;go_enter Tryz.func155,Tryz.ntmps155;go_wp2_with (first|(go_at_call 78;refine(eA _ _ _ _).mono ?_;rintro e w' ⟨rfl,rfl⟩)|(go_at_call 160;refine(lG _ _ _ _ _).mono ?_;rintro e c ⟨rfl,a⟩;obtain⟨t,u⟩:=aU a)|(go_at_call 114;refine(d zz zz _ (aZ k.out _ |>.below a)).mono ?_;rintro e B ⟨rfl,s⟩))
     .go_ret;exact⟨aW (by rw[cA,cd zz]),aY a⟩
     .go_ret;exact⟨aW (by rw[cA,dE ⟨f,g,i,hB,zz⟩]),(aY a).tn (s.mono (by have h:=a.size;rw[aa]at h;omega))⟩
    .have æ:=0;exact ub
   .have ø:=0;exact ub
  .have å:=0;exact ub
 .exact ub
def cZ(b:aC):Int:=
 if ax b.rf 2 30=true/\ax b.rh 2 60=true/\ax b.cf 0 b.rf=true/\ax b.ch 1 60=true then(if b.rh<=b.ch then 7 else 0)else 1
theorem FQ(b:aC)(w:H):
  PH F 156 #[b.v] w λe w'=>e=.returned (.int .i64 (cZ b))/\X w w w':=by
 unfold aC.v;go_enter Tryz.func156,Tryz.ntmps156;go_wp2_with ((go_at_call 78;refine(eA _ _ _ _).mono ?_;rintro e w' ⟨rfl,rfl⟩));all_goals go_ret
 all_goals exact⟨aW (by simp_all[cZ]),(X.refl _ _).alloc (dj _) _⟩
def bp(w:H)(s:Sl)(l:List (Int×Int)):Prop:=s.n=l.length/\l.length<=s.c/\l.length<=1000/\(0<l.length->∃b off,s.A=Y ⟨b,off,I⟩/\b<w.heap.size/\∀k,k<l.length->w (b,off+k*2)=Y (.int .i64 (l.getD k (0,0)).1)/\w (b,off+k*2+1)=Y (.int .i64 (l.getD k (0,0)).2))
theorem bp.below{w w':H}{s:Sl}{l:List (Int×Int)}(h:bp w s l)(a:X w w w'):bp w' s l:=
 ⟨h.1,h.2.1,h.2.2.1,λd=>by
  obtain⟨b,off,e,h2,c⟩:=h.2.2.2 d;exact⟨b,off,e,iv h2 a.size,λk hk=>⟨(a.cell (p:=⟨b,off+k*2,I⟩) h2).tn (c k hk).1,(a.cell (p:=⟨b,off+k*2+1,I⟩) h2).tn (c k hk).2⟩⟩⟩
def nD(S:Int):List (Int×Int)->Int
 | []=>0
 | (a,h)::r=>if ax a 0 (S-1)=false then 6 else if ax h (-9) 9=false then 1 else nD S r
def fH(S:Int)(l:List (Int×Int)):Int:=if ax (l.length:Int) 1 4=true then nD S l else 2
def Al(S:Int)(l:List (Int×Int))(k:Nat)(hk:k<l.length):nD S (l.drop k)=
  if ax (l.getD k (0,0)).1 0 (S-1)=false then 6 else if ax (l.getD k (0,0)).2 (-9) 9=false then 1 else nD S (l.drop (k+1)):=xbq
theorem NV(b:aC)(J: -1000<=b.S)(h2:b.S<=1000)(l:List (Int×Int))(w:H)(W:bp w b.U l):
  PH F 157 #[b.v] w λe w'=>e=.returned (.int .i64 (fH b.S l))/\X w w w':=by
 obtain⟨S,D,L,lo,hi,⟨q,s,r⟩,rf,rh,cf,ch,⟨z,R,A⟩,⟨t,v,u⟩,⟨B,E,C⟩⟩:=b;have K:=λn w=>fB ⟨S,D,L,lo,hi,⟨q,s,r⟩,rf,rh,cf,ch,⟨z,R,A⟩,⟨t,v,u⟩,⟨B,E,C⟩⟩ n J h2 w;obtain⟨O,T,a7,m⟩:=W;simp only[aC.v]at K O T m J h2|-;subst O;have Q:=Hm m;clear m;by_cases hF:ax (l.length:Int) 1 4=true
 .go_enter Tryz.func157,Tryz.ntmps157;go_wp2_with ((go_at_call 78;refine(eA _ _ _ _).mono ?_;rintro e w' ⟨rfl,rfl⟩));go_loopw [15] (λi wr=>∃k:Nat,k<=l.length/\i=.int .i64 k/\X (w.heap.size+1) (w.alloc (Dg ⟨S,D,L,lo,hi,⟨q,s,r⟩,rf,rh,cf,ch,⟨z,l.length,A⟩,⟨t,v,u⟩,⟨B,E,C⟩⟩)) wr/\PQ (nD S l=nD S (l.drop k))) (λi _=>l.length-(intOf i).toNat)
  case atStart=>exact⟨0,fi _,rfl,X.refl _ _,rfl⟩
  case round=>
   obtain⟨k,hk,rfl,a,f⟩:=hrel;have P:(w:Nat)+1<=wr:=by have:=a.size;rw[aa]at this;exact this
   have a8:(w:Nat)<wr:=P;by_cases p:k<l.length
   .have g:=Al S l k p
    (obtain⟨Z,x1,x2,x3,x4,x5,x6,x7,x8,x9,a1,a2,a3⟩:=iw a;dsimp only at Z x1 x2 x3 x4 x5 x6 x7 x8 x9 a1 a2 a3)
    obtain⟨G,off,rfl,N,o⟩:=Q.out zz;have U:wr (G,off+k*2)=Y (.int .i64 (l.getD k (0,0)).1):=(jN a N).tn (o k p).1;have V:wr (G,off+k*2+1)=Y (.int .i64 (l.getD k (0,0)).2):=(jN a N).tn (o k p).2;clear o;generalize(l.getD k (0,0)).1=x at g U;generalize(l.getD k (0,0)).2=y at g V;have h:=Hm g;clear g;go_wp2_with (first|(go_at_call 51;refine(K _ _).mono ?_;rintro e w1 ⟨rfl,d⟩;obtain⟨a5,a6⟩:=aU d)|(go_at_call 78;refine(eA _ _ _ _).mono ?_;rintro e w' ⟨rfl,rfl⟩))
    .have c:ax x 0 (S-1)=false:=by simpa using ‹(!ax x 0 (S-1))=true›
     go_ret;exact⟨aW (by rw[fH,dE hF,f.out,h.out,dE c]),(bT a).tn ((aY d).mono zz)⟩
    .have c:ax x 0 (S-1)=true:=by simpa using ‹(!ax x 0 (S-1))=false›
     have j:ax y (-9) 9=false:=by simpa using ‹(!ax y (-9) 9)=true›
     go_ret;exact⟨aW (by rw[fH,dE hF,f.out,h.out,cd (by simp[c]),dE j]),(bT a).tn ((aY d).mono zz)⟩
    .have c:ax x 0 (S-1)=true:=by simpa using ‹(!ax x 0 (S-1))=false›
     have j:ax y (-9) 9=true:=by simpa using ‹(!ax y (-9) 9)=false›
     go_roundw
     case rel=>exact⟨k+1,zz,by go_num,a.tn ((aY d).mono P),f.out.tn (h.out.tn (by rw[cd (by simp[c]),cd (by simp[j])]))⟩
     case measure=>simp[intOf];omega
   .obtain rfl:k=l.length:=zz;go_wp2;go_ret;exact⟨aW (by rw[fH,dE hF,f.out];simp[nD]),bT a⟩
 .have a4:ax (l.length:Int) 1 4=false:=by simpa using hF
  go_enter Tryz.func157,Tryz.ntmps157;go_wp2_with ((go_at_call 78;refine(eA _ _ _ _).mono ?_;rintro e w' ⟨rfl,rfl⟩));go_ret;exact⟨aW (by rw[fH,cd hF]),(X.refl _ _).alloc (dj _) _⟩
def nF(rf ch:Int):List (Int×Int)->Int
 | []=>0
 | (a,h)::r=>if(ax a (1-rf) (rf-1)&&ax h 0 60)=false then 1 else if ch<=h then 7 else nF rf ch r
def fT(rf ch:Int)(l:List (Int×Int)):Int:=if 3<l.length then 2 else nF rf ch l
def Am(rf ch:Int)(l:List (Int×Int))(k:Nat)(hk:k<l.length):nF rf ch (l.drop k)=
  if(ax (l.getD k (0,0)).1 (1-rf) (rf-1)&&ax (l.getD k (0,0)).2 0 60)=false then 1 else if ch<=(l.getD k (0,0)).2 then 7 else nF rf ch (l.drop (k+1)):=xbq
theorem NX(b:aC)(P:2<=b.rf)(h2:b.rf<=30)(l:List (Int×Int))(w:H)(U:bp w b.E l):
  PH F 158 #[b.v] w λe w'=>e=.returned (.int .i64 (fT b.rf b.ch l))/\X w w w':=by
 obtain⟨S,D,L,lo,hi,⟨u,z,v⟩,rf,rh,cf,ch,⟨E,J,G⟩,⟨A,a3,B⟩,⟨K,O,N⟩⟩:=b;obtain⟨s,Q,a4,m⟩:=U;simp only[aC.v]at s Q m P h2|-;subst s;have C:=Hm m;clear m;by_cases hF:l.length<=3
 .go_enter Tryz.func158,Tryz.ntmps158;go_wp2;go_loopw [14] (λi wr=>∃k:Nat,k<=l.length/\i=.int .i64 k/\X (w.heap.size+1) (w.alloc (Dg ⟨S,D,L,lo,hi,⟨u,z,v⟩,rf,rh,cf,ch,⟨E,J,G⟩,⟨A,l.length,B⟩,⟨K,O,N⟩⟩)) wr/\PQ (nF rf ch l=nF rf ch (l.drop k))) (λi _=>l.length-(intOf i).toNat)
  case atStart=>exact⟨0,fi _,rfl,X.refl _ _,rfl⟩
  case round=>
   obtain⟨k,hk,rfl,a,c⟩:=hrel;have t:(w:Nat)+1<=wr:=by have:=a.size;rw[aa]at this;exact this
   have a5:(w:Nat)<wr:=t;by_cases o:k<l.length
   .have d:=Am rf ch l k o
    (obtain⟨V,W,x2,x3,x4,x5,x6,x7,x8,x9,Z,a1,a2⟩:=iw a;dsimp only at V W x2 x3 x4 x5 x6 x7 x8 x9 Z a1 a2)
    obtain⟨q,off,rfl,r,n⟩:=C.out zz;have R:wr (q,off+k*2)=Y (.int .i64 (l.getD k (0,0)).1):=(jN a r).tn (n k o).1;have T:wr (q,off+k*2+1)=Y (.int .i64 (l.getD k (0,0)).2):=(jN a r).tn (n k o).2;clear n;generalize(l.getD k (0,0)).1=x at d R;generalize(l.getD k (0,0)).2=y at d T;have f:=Hm d;clear d;cases g:ax x (1-rf) (rf-1)<;>cases j:ax y 0 60;all_goals go_wp2_with ((go_at_call 78;refine(eA _ _ _ _).mono ?_;rintro e w' ⟨rfl,rfl⟩))
    .exact xbp
    .exact xbp
    .exact xbp
    .go_ret;exact⟨aW (by rw[fT,cd zz,c.out,f.out,cd (by simp[g,j]),dE (by assumption)]),(bT a).tn ((X.refl _ _).alloc zz _)⟩
    go_roundw
    case rel=>exact⟨k+1,zz,by go_num,a.tn ((X.refl _ _).alloc t _),c.out.tn (f.out.tn (by rw[cd (by simp[g,j]),cd zz]))⟩
    case measure=>simp[intOf];omega
   .obtain rfl:k=l.length:=zz;go_wp2;go_ret;exact⟨aW (by rw[fT,cd zz,c.out];simp[nF]),bT a⟩
 .go_enter Tryz.func158,Tryz.ntmps158;go_wp2;go_ret;exact⟨aW (by rw[fT,dE zz]),(X.refl _ _).alloc (dj _) _⟩
def fL(w:H)(s:Sl)(l:List (Int×Int×Bool)):Prop:=s.n=l.length/\l.length<=s.c/\l.length<=1000/\(0<l.length->∃b off,s.A=Y ⟨b,off,I⟩/\b<w.heap.size/\∀k,k<l.length->w (b,off+k*3)=Y (.int .i64 (l.getD k (0,0,false)).1)/\w (b,off+k*3+1)=Y (.int .i64 (l.getD k (0,0,false)).2.1)/\w (b,off+k*3+2)=Y (.bool (l.getD k (0,0,false)).2.2))
theorem fL.below{w w':H}{s:Sl}{l:List (Int×Int×Bool)}(h:fL w s l)(a:X w w w'):fL w' s l:=
 ⟨h.1,h.2.1,h.2.2.1,λd=>by
  obtain⟨b,off,e,h2,c⟩:=h.2.2.2 d;exact⟨b,off,e,iv h2 a.size,λk hk=>⟨(a.cell (p:=⟨b,off+k*3,I⟩) h2).tn (c k hk).1,(a.cell (p:=⟨b,off+k*3+1,I⟩) h2).tn (c k hk).2.1,(a.cell (p:=⟨b,off+k*3+2,I⟩) h2).tn (c k hk).2.2⟩⟩⟩
def qi(S n:Int):List (Int×Int×Bool)->Int
 | []=>0
 | (a,s,_)::r=>if(ax a 0 (n-1)&&ax s 0 (S-1))=false then 6 else qi S n r
def ki(S n:Int)(l:List (Int×Int×Bool)):Int:=if 4<l.length then 2 else qi S n l
def Dh(S n:Int)(l:List (Int×Int×Bool))(k:Nat)(hk:k<l.length):qi S n (l.drop k)=
  if(ax (l.getD k (0,0,false)).1 0 (n-1)&&ax (l.getD k (0,0,false)).2.1 0 (S-1))=false then 6 else qi S n (l.drop (k+1)):=xaT
theorem Dj(b:aC)(R: -1000<=b.S)(h2:b.S<=1000)(T:b.U.n<=1000)(l:List (Int×Int×Bool))(w:H)(a6:fL w b.W l):
  PH F 159 #[b.v] w λe w'=>e=.returned (.int .i64 (ki b.S b.U.n l))/\X w w w':=by
 obtain⟨S,D,L,lo,hi,⟨o,r,q⟩,rf,rh,cf,ch,⟨A,c,B⟩,⟨s,u,t⟩,⟨C,a',E⟩⟩:=b;obtain⟨W,a2,b4,Q⟩:=a6;simp only at W;subst W;have U:=λn w=>fB ⟨S,D,L,lo,hi,⟨o,r,q⟩,rf,rh,cf,ch,⟨A,c,B⟩,⟨s,u,t⟩,⟨C,l.length,E⟩⟩ n R h2 w;have V:=λn w=>oE ⟨S,D,L,lo,hi,⟨o,r,q⟩,rf,rh,cf,ch,⟨A,c,B⟩,⟨s,u,t⟩,⟨C,l.length,E⟩⟩ n T w;simp only[aC.v]at U V a2 Q R h2 T|-;have a1:=Hm Q;clear Q;by_cases hF:l.length<=4
 .go_enter Tryz.func159,Tryz.ntmps159;go_wp2;go_loopw [14] (λi wr=>∃k:Nat,k<=l.length/\i=.int .i64 k/\X (w.heap.size+1) (w.alloc (Dg ⟨S,D,L,lo,hi,⟨o,r,q⟩,rf,rh,cf,ch,⟨A,c,B⟩,⟨s,u,t⟩,⟨C,l.length,E⟩⟩)) wr/\PQ (qi S c l=qi S c (l.drop k))) (λi _=>l.length-(intOf i).toNat)
  case atStart=>exact⟨0,fi _,rfl,X.refl _ _,rfl⟩
  case round=>
   obtain⟨k,hk,rfl,a,g⟩:=hrel;have Z:(w:Nat)+1<=wr:=by have:=a.size;rw[aa]at this;exact this
   have b5:(w:Nat)<wr:=Z;by_cases j:k<l.length
   .have m:=Dh S c l k j
    (obtain⟨x0,x1,x2,x3,x4,x5,x6,x7,x8,x9,a7,a8,a9⟩:=iw a;dsimp only at x0 x1 x2 x3 x4 x5 x6 x7 x8 x9 a7 a8 a9)
    obtain⟨G,off,rfl,P,f⟩:=a1.out zz;have a3:wr (G,off+k*3)=Y (.int .i64 (l.getD k (0,0,false)).1):=(jN a P).tn (f k j).1;have a4:wr (G,off+k*3+1)=Y (.int .i64 (l.getD k (0,0,false)).2.1):=(jN a P).tn (f k j).2.1;have a5:wr (G,off+k*3+2)=Y (.bool (l.getD k (0,0,false)).2.2):=(jN a P).tn (f k j).2.2;clear f;generalize(l.getD k (0,0,false)).1=x at m a3;generalize(l.getD k (0,0,false)).2.1=y at m a4;generalize(l.getD k (0,0,false)).2.2=z at a5;have v:=Hm m;clear m;cases J:ax x 0 (c-1)<;>cases K:ax y 0 (S-1);all_goals go_wp2_with (first|(go_at_call 33;refine(V _ _).mono ?_;rintro e w1 ⟨rfl,d⟩;obtain⟨a0,b2⟩:=aU d)|(go_at_call 51;refine(U _ _).mono ?_;rintro e w2 ⟨rfl,N⟩;obtain⟨b1,b3⟩:=aU N))
    .exact xbr
    .exact xbr
    .have O:=(aY d).tn (N.mono (by have h:=(aY d).size;omega));go_ret;exact⟨aW (by rw[ki,cd zz,g.out,v.out,dE (by simp[J,K])]),(bT a).tn (O.mono zz)⟩
    .have O:=(aY d).tn (N.mono (by have h:=(aY d).size;omega));go_roundw
     case rel=>exact⟨k+1,zz,by go_num,a.tn (O.mono Z),g.out.tn (v.out.tn (by rw[cd (by simp[J,K])]))⟩
     case measure=>simp[intOf];omega
   .obtain rfl:k=l.length:=zz;go_wp2;go_ret;exact⟨aW (by rw[ki,cd zz,g.out];simp[qi]),bT a⟩
 .go_enter Tryz.func159,Tryz.ntmps159;go_wp2;go_ret;exact⟨aW (by rw[ki,dE zz]),(X.refl _ _).alloc (dj _) _⟩
variable{w':H}{b:aC}
def aD(w:H):Prop:=0<w.heap.size/\w (0,0)=Y (.func (.func 155) #[] #[])/\w (0,1)=Y (.func (.func 156) #[] #[])/\w (0,2)=Y (.func (.func 157) #[] #[])/\w (0,3)=Y (.func (.func 158) #[] #[])/\w (0,4)=Y (.func (.func 159) #[] #[])
theorem aD.below(h:aD w)(b:X w w w'):aD w':=by
 obtain⟨a,c,h2,d,e,f⟩:=h;exact⟨iv a b.size,(b.cell (p:=⟨0,0,I⟩) a).tn c,(b.cell (p:=⟨0,1,I⟩) a).tn h2,(b.cell (p:=⟨0,2,I⟩) a).tn d,(b.cell (p:=⟨0,3,I⟩) a).tn e,(b.cell (p:=⟨0,4,I⟩) a).tn f⟩
structure bN where
 C:List Int
 U:List (Int×Int)
 E:List (Int×Int)
 W:List (Int×Int×Bool)
structure aI(w:H)(b:aC)(l:bN):Prop where
 C:aN w b.C l.C
 U:bp w b.U l.U
 E:bp w b.E l.E
 W:fL w b.W l.W
def aI.below{l:bN}(h:aI w b l)(a:X w w w'):aI w' b l:=⟨h.C.below a,h.U.below a,h.E.below a,h.W.below a⟩
def eD(b:aC)(l:bN):Nat->Int
 | 0=>cA b l.C
 | 1=>cZ b
 | 2=>fH b.S l.U
 | 3=>fT b.rf b.ch l.E
 | _=>ki b.S l.U.length l.W
def ay(b:aC)(l:bN):Int:=
 if cA b l.C≠0 then cA b l.C else if cZ b≠0 then cZ b else if fH b.S l.U≠0 then fH b.S l.U else if fT b.rf b.ch l.E≠0 then fT b.rf b.ch l.E else ki b.S l.U.length l.W
def cS{l:List Int}(h:cA b l=0):4<=b.S/\b.S<=12/\0<=b.D/\b.D<=2/\1<=b.L/\b.L<=4/\ -3<=b.lo/\b.lo<=b.hi/\b.hi<=3/\b.hi-b.lo<3/\bS b.S I l=0:=by
 unfold cA at h;split at h
 .rename_i a;simp only[cq,uJ]at a;obtain⟨⟨c,e⟩,⟨f,g⟩,⟨i,j⟩,⟨k,m,n⟩,d⟩:=a;exact⟨c,e,f,g,i,j,k,m,n,d,h⟩
 .omega
def wL(h:cZ b=0):2<=b.rf/\b.rf<=30/\2<=b.rh/\b.rh<=60/\0<=b.cf/\b.cf<=b.rf/\1<=b.ch/\b.ch<=60/\b.ch<b.rh:=by
 unfold cZ at h;split at h
 .rename_i a;simp only[cq]at a;split at h
  .omega
  .omega
 .omega
def UU{S:Int}{l:List (Int×Int)}(h:fH S l=0):1<=l.length/\l.length<=4:=by
 unfold fH at h;split at h
 .rename_i a;simp only[cq]at a;omega
 .omega
def Bn{l:bN}:eD b l 4=ki b.S l.U.length l.W:=rfl
def tL{f:Nat->Int}{k:Nat}(h:∀j,j<k->f j=0)(b:f k=0):∀j,j<k+1->f j=0:=λj c=>by
 rcases Nat.lt_or_ge j k with a|a
 .exact h j a
 .have:j=k:=zz;rw[this];exact b
def qj{l:bN}:∀k,k<5->(∀j,j<k->eD b l j=0)->eD b l k≠0->ay b l=eD b l k:=by
 intro k hk a hne;unfold ay;rcases(show k=0\/k=1\/k=2\/k=3\/k=4 from zz)with rfl|rfl|rfl|rfl|rfl
 .rw[dE (show cA b l.C≠0 from hne)];rfl
 .have e0:cA b l.C=0:=a 0 zz;rw[cd (by simp[e0]),dE (show cZ b≠0 from hne)];rfl
 .have e0:cA b l.C=0:=a 0 zz;have e1:cZ b=0:=a 1 zz;rw[cd (by simp[e0]),cd (by simp[e1]),dE (show fH b.S l.U≠0 from hne)];rfl
 .have ø:=0;exact xau
 .have å:=0;exact xau
def KY{l:bN}(a:∀j,j<5->eD b l j=0):ay b l=0:=xau
def Ww{w wr:H}{b b':aC}{t:Lk}{l:bN}(h:aI w b l)(a:X (w.heap.size+1) (w.alloc (aE b' t)) wr):aI wr b l:=h.below (bT a)
theorem cG(b:aC)(l:bN)(w:H)(v:aI w b l)(B:aD w):
  PH F 10 #[b.v] w λe w'=>e=.returned (.int .i64 (ay b l))/\X w w w':=by
 have J:=Hm v;have N:=Hm B;obtain⟨g,O,P,Q,R,S⟩:=B;have C:b.U.n=l.U.length:=v.U.1;have q:=Hm C;clear v C;have c0:=λ(wr:H) (m:aI wr b l)=>KX b l.C wr m.C;have x:=λ(wr:H)=>FQ b wr;have y:=λ(wr:H) (m:aI wr b l) (o: -1000<=b.S) (p:b.S<=1000)=>NV b o p l.U wr m.U;have z:=λ(wr:H) (m:aI wr b l) (o:2<=b.rf) (p:b.rf<=30)=>NX b o p l.E wr m.E;have A:=λ(wr:H) (m:aI wr b l) (o: -1000<=b.S) (p:b.S<=1000) (K:b.U.n<=1000)=>Dj b o p K l.W wr m.W;have L:PQ (b.v=b.v):=rfl;simp only[aC.v]at c0 x y z A|-;go_enter Tryz.func10,Tryz.ntmps10;go_wp2;go_loopw [7] (λi wr=>∃k:Nat,k<=5/\i=.int .i64 k/\X (w.heap.size+1) (w.alloc (aE b 31)) wr/\PQ (∀j,j<k->eD b l j=0)) (λi _=>5-(intOf i).toNat)
 case atStart=>exact⟨0,zz,rfl,X.refl _ _,λj V=>zz⟩
 case round=>
  obtain⟨k,hk,rfl,d,c⟩:=hrel;have n:(w:Nat)+1<=wr:=by have:=d.size;rw[aa]at this;exact this
  have W:(w:Nat)<wr:=n;obtain⟨x0,x1,x2,x3,x4,x5,x6,x7,x8,x9,a1,a2,a3⟩:=iw d;have hB:=Hm (Ww J.out d);rcases(show k=0\/k=1\/k=2\/k=3\/k=4\/k=5 from zz)with rfl|rfl|rfl|rfl|rfl|rfl
  .have t:∀w:H,(Instr.index 91 (.agg #[.func (.func 155) #[] #[],.func (.func 156) #[] #[],.func (.func 157) #[] #[],.func (.func 158) #[] #[],.func (.func 159) #[] #[]]) (.int .i64 0)).run F w=.ok (.func (.func 155) #[] #[]) w:=λ_=>by kernel_rfl
   go_wp2_with (go_at_call 155;refine(c0 _ hB.out).mono ?_;rintro e u ⟨rfl,a⟩;obtain⟨r,s⟩:=aU a)
   .have h:eD b l 0≠0:=by simpa[eD]using ‹(cA b l.C != 0)=true›
    go_ret;exact⟨aW (qj 0 zz c.out h).symm,(bT d).tn (a.mono zz)⟩
   .have f:eD b l 0=0:=by simpa[eD]using ‹(cA b l.C != 0)=false›
    go_roundw
    case rel=>exact⟨1,zz,by first|rfl|go_num,d.tn (a.mono n),tL c.out f⟩
    case measure=>simp[intOf]
  .have t:∀w:H,(Instr.index 91 (.agg #[.func (.func 155) #[] #[],.func (.func 156) #[] #[],.func (.func 157) #[] #[],.func (.func 158) #[] #[],.func (.func 159) #[] #[]]) (.int .i64 1)).run F w=.ok (.func (.func 156) #[] #[]) w:=λ_=>by kernel_rfl
   go_wp2_with (go_at_call 156;refine(x _).mono ?_;rintro e u ⟨rfl,a⟩;obtain⟨r,s⟩:=aU a)
   .have h:eD b l 1≠0:=by simpa[eD]using ‹(cZ b != 0)=true›
    go_ret;exact⟨aW (qj 1 zz c.out h).symm,(bT d).tn (a.mono zz)⟩
   .have f:eD b l 1=0:=by simpa[eD]using ‹(cZ b != 0)=false›
    go_roundw
    case rel=>exact⟨2,zz,by first|rfl|go_num,d.tn (a.mono n),tL c.out f⟩
    case measure=>simp[intOf]
  .have t:∀w:H,(Instr.index 91 (.agg #[.func (.func 155) #[] #[],.func (.func 156) #[] #[],.func (.func 157) #[] #[],.func (.func 158) #[] #[],.func (.func 159) #[] #[]]) (.int .i64 2)).run F w=.ok (.func (.func 157) #[] #[]) w:=λ_=>by kernel_rfl
   obtain⟨E,G,-⟩:=cS (c.out 0 zz);go_wp2_with (go_at_call 157;refine(y _ hB.out zz zz).mono ?_;rintro e u ⟨rfl,a⟩;obtain⟨r,s⟩:=aU a)
   .have h:eD b l 2≠0:=by simpa[eD]using ‹(fH b.S l.U != 0)=true›
    go_ret;exact⟨aW (qj 2 zz c.out h).symm,(bT d).tn (a.mono zz)⟩
   .have f:eD b l 2=0:=by simpa[eD]using ‹(fH b.S l.U != 0)=false›
    go_roundw
    case rel=>exact⟨3,zz,by first|rfl|go_num,d.tn (a.mono n),tL c.out f⟩
    case measure=>simp[intOf]
  .have t:∀w:H,(Instr.index 91 (.agg #[.func (.func 155) #[] #[],.func (.func 156) #[] #[],.func (.func 157) #[] #[],.func (.func 158) #[] #[],.func (.func 159) #[] #[]]) (.int .i64 3)).run F w=.ok (.func (.func 158) #[] #[]) w:=λ_=>by kernel_rfl
   obtain⟨E,G,-⟩:=wL (c.out 1 zz);go_wp2_with (go_at_call 158;refine(z _ hB.out zz zz).mono ?_;rintro e u ⟨rfl,a⟩;obtain⟨r,s⟩:=aU a)
   .have h:eD b l 3≠0:=by simpa[eD]using ‹(fT b.rf b.ch l.E != 0)=true›
    go_ret;exact⟨aW (qj 3 zz c.out h).symm,(bT d).tn (a.mono zz)⟩
   .have f:eD b l 3=0:=by simpa[eD]using ‹(fT b.rf b.ch l.E != 0)=false›
    go_roundw
    case rel=>exact⟨4,zz,by first|rfl|go_num,d.tn (a.mono n),tL c.out f⟩
    case measure=>simp[intOf]
  .have t:∀w:H,(Instr.index 91 (.agg #[.func (.func 155) #[] #[],.func (.func 156) #[] #[],.func (.func 157) #[] #[],.func (.func 158) #[] #[],.func (.func 159) #[] #[]]) (.int .i64 4)).run F w=.ok (.func (.func 159) #[] #[]) w:=λ_=>by kernel_rfl
   obtain⟨E,G,-⟩:=cS (c.out 0 zz);have Z:b.U.n<=1000:=by have h2:=c.out 2 zz;have T:=q.out;have U:=UU h2;omega
   go_wp2_with (go_at_call 159;refine(A _ hB.out zz zz zz).mono ?_;rintro e u ⟨rfl,a⟩;obtain⟨r,s⟩:=aU a)
   .have h:eD b l 4≠0:=by rw[Bn,<- q.out];simpa using ‹(ki b.S (b.U.n:Int) l.W != 0)=true›
    go_ret;exact⟨aW (qj 4 zz c.out h |>.trans (by rw[Bn,q.out])).symm,(bT d).tn (a.mono zz)⟩
   .have f:eD b l 4=0:=by rw[Bn,<- q.out];simpa using ‹(ki b.S (b.U.n:Int) l.W != 0)=false›
    go_roundw
    case rel=>exact⟨5,zz,by first|rfl|go_num,d.tn (a.mono n),tL c.out f⟩
    case measure=>simp[intOf]
  .go_wp2;go_ret;exact⟨aW (KY c.out).symm,bT d⟩
variable{g:Nat}{t:Lk}{f:Nat->Bool}
def gN(sh:Int)(d:Nat->Bool):M:=.agg #[.int .i64 sh,.bool (d 0),.bool (d 1),.bool (d 2),.bool (d 3),.bool (d 4),.bool (d 5),.bool (d 6),.bool (d 7),.bool (d 8),.bool (d 9),.bool (d 10),.bool (d 11)]
def FT(S L step hi:Int)(n:Int):Bool:=decide (min ((n-(step+S/2)%S+S)%S) (S-(n-(step+S/2)%S+S)%S)<=hi/L)
def eT(S L sh:Int)(d:Nat->Bool)(p:Int×Int):Nat->Bool:=λn=>
 if p.2+sh<=0\/d p.1.toNat=true then false else decide ((n:Int)<S)&&FT S L p.1 (p.2+sh) n
def iB(w:H)(g:Nat)(t:Lk)(f:Nat->Bool):Prop:=∃cs:Array M,w.heap[g]?=Y (.cells cs t (0,0))/\cs.size=12/\∀i,i<12->cs[i]?=Y (.bool (f i))
def iB.cell(h:iB w g t f)(i:Nat)(hi:i<12):w (g,i)=Y (.bool (f i)):=by
 obtain⟨cs,a, -, b⟩:=h;rw[H.cell?,a];exact b i hi
def iB.free(h:iB w g t f)(i:Nat):w.frozen? (g,i)=false:=by
 obtain⟨cs,a, -,-⟩:=h;simp[H.frozen?,a]
def iB.set{f f':Nat->Bool}(h:iB w g t f){i:Nat}(hi:i<12){v:Bool}(d:f' i=v)(h2:∀j,j<12->j≠i->f' j=f j):iB (w.setCell (g,i) (.bool v)) g t f':=by
 obtain⟨cs,e1,a,c⟩:=h;refine⟨cs.setIfInBounds i (.bool v),by simp[H.setCell,ml,e1],by simpa using a,λj b=>?_⟩;by_cases e:i=j
 .subst e;simp[a,hi,d]
 .rw[lO e,c j b,h2 j b (λx=>e x.symm)]
def An(w:H)(b c a d:Obj):((((w.alloc b).alloc c).alloc a).alloc d).heap[w.heap.size+1+1]?=Y a:=by
 rw[QR _ _ (by simp only[aa];omega)];have:=Sp ((w.alloc b).alloc c) a;simp only[aa]at this;exact this
theorem qX(b:aC)(g1:4<=b.S)(g2:b.S<=12)(g3:1<=b.L)(g4:b.L<=4)(sh:Int)(g5: -3<=sh)(g6:sh<=3)(d:Nat->Bool)(h:Nat)(U:List (Int×Int))(c3:h<U.length)
  (q1:0<=(U.getD h (0,0)).1)(q2:(U.getD h (0,0)).1<b.S)(q3: -9<=(U.getD h (0,0)).2)(q4:(U.getD h (0,0)).2<=9)(w:H)(b5:bp w b.U U):
  PH F 34 #[b.v,gN sh d,.int .i64 h] w λe w'=>e=.returned (tJ (eT b.S b.L sh d (U.getD h (0,0))))/\Hd w w w':=by
 obtain⟨S,D,L,lo,hi,⟨s,b8,t⟩,rf,rh,cf,ch,⟨b1,b2,B⟩,⟨u,A,z⟩,⟨C,G,E⟩⟩:=b;obtain⟨r,b4,c9,g⟩:=b5;simp only[aC.v]at r b4 g g1 g2 g3 g4 q2|-;subst r;obtain⟨o,off,rfl,b0,J⟩:=g zz;obtain⟨c1,c2⟩:=J h c3;clear J g;generalize U.getD h (0,0)=p at q1 q2 q3 q4 c1 c2|-;obtain⟨x,y⟩:=p;simp only at q1 q2 q3 q4 c1 c2;obtain⟨k,rfl⟩:∃k:Nat,x=(k:Int):=⟨x.toNat,zz⟩;have d5:(#[.int .i64 sh,.bool (d 0),.bool (d 1),.bool (d 2),.bool (d 3),.bool (d 4),.bool (d 5),.bool (d 6),.bool (d 7),.bool (d 8),.bool (d 9),.bool (d 10),.bool (d 11)]:Array M)[1+k]?=Y (.bool (d k)):=by
  rcases(show k=0\/k=1\/k=2\/k=3\/k=4\/k=5\/k=6\/k=7\/k=8\/k=9\/k=10\/k=11 from zz)with rfl|rfl|rfl|rfl|rfl|rfl|rfl|rfl|rfl|rfl|rfl|rfl<;>rfl
 have e1:o<w.heap.size+1:=zz;have e2:o<w.heap.size+2:=zz;have e3:o<w.heap.size+3:=zz;unfold gN;go_enter Tryz.func34,Tryz.ntmps34;go_wp2
 .have q:eT S L sh d (↑k,y)=λ_=>false:=by funext n;unfold eT;simp only[qNB];rw[dE ‹y+sh<=0\/d k=true›]
  rw[q];refine bd (v:=tJ λ_=>false) ?_ rfl ⟨rfl,?_⟩
  .simp[results,Tryz.results34,go_sem,tJ]
  .exact bt
 .go_quiet ((fail));have m0:0<=(↑k+S/2)%S:=Int.emod_nonneg _ zz;have m1:(↑k+S/2)%S<S:=Int.emod_lt_of_pos _ zz;go_wp2;generalize N:(↑k+S/2)%S=m at m0 m1|-;have a':=Hm N;clear N;go_loopw [53] (λi wr=>∃n:Nat,(n:Int)<=S/\i=.int .i64 n/\Hd (w.heap.size+1) (w.alloc (Dg ⟨S,D,L,lo,hi,⟨s,b8,t⟩,rf,rh,cf,ch,⟨Y ⟨o,off,I⟩,U.length,B⟩,⟨u,A,z⟩,⟨C,G,E⟩⟩)) wr/\iB wr (w.heap.size+1+1) 76 (λi=>decide (i<n)&&FT S L k (y+sh) i)) (λi _=>S.toNat-(intOf i).toNat)
  case atStart=>
   refine⟨0,zz,rfl,?_,?_⟩
   .exact xbt
   .refine⟨#[.bool false,.bool false,.bool false,.bool false,.bool false,.bool false,.bool false,.bool false,.bool false,.bool false,.bool false,.bool false],?_,rfl,λi hi=>?_⟩
    .exact An w _ _ _ _
    .rcases(show i=0\/i=1\/i=2\/i=3\/i=4\/i=5\/i=6\/i=7\/i=8\/i=9\/i=10\/i=11 from zz)with rfl|rfl|rfl|rfl|rfl|rfl|rfl|rfl|rfl|rfl|rfl|rfl<;>simp
  case round=>
   obtain⟨n,r,rfl,c,a⟩:=hrel;have b6:(w:Nat)+1<=wr:=by have:=c.size;rw[aa]at this;exact this
   have d1:(w:Nat)<wr:=b6;by_cases K:(n:Int)<S
   ·(obtain⟨O,P,V,W,Z,x5,x6,x7,x8,x9,Q,R,T⟩:=iw c;dsimp only at O P V W Z x5 x6 x7 x8 x9 Q R T)
    have c8:=a.cell n zz;have fa:=a.free n;have r0:0<=((n:Int)-m)%S:=Int.emod_nonneg _ zz;have r1:((n:Int)-m)%S<S:=Int.emod_lt_of_pos _ zz;go_wp2;go_roundw
    case rel=>
     refine⟨n+1,zz,by go_num,c.setCell ss _,a.set zz ?_ ?_⟩
     .simp only[FT,a'.out];simp;all_goals (generalize((n:Int)-m)%S=X;rw[Int.min_def];split<;>split<;>omega)
     .intro j _ hj;have:decide (j<n+1)=decide (j<n):=by simp;omega
      rw[this]
    case measure=>simp[intOf];omega
   .have d3:(n:Int)=S:=zz
    (obtain⟨O,P,V,W,Z,x5,x6,x7,x8,x9,Q,R,T⟩:=iw c;dsimp only at O P V W Z x5 x6 x7 x8 x9 Q R T)
    have a0:=a.cell 0 zz;have a1:=a.cell 1 zz;have a2:=a.cell 2 zz;have a3:=a.cell 3 zz;have a4:=a.cell 4 zz;have a5:=a.cell 5 zz;have a6:=a.cell 6 zz;have a7:=a.cell 7 zz;have a8:=a.cell 8 zz;have a9:=a.cell 9 zz;have c6:=a.cell 10 zz;have c7:=a.cell 11 zz;have fr:=λi=>a.free i;have q:eT S L sh d (↑k,y)=λi=>decide (i<n)&&FT S L k (y+sh) i:=by
     funext i;unfold eT;simp only[qNB];rw[cd (by rename_i c3 _;simp;omega)];congr 1;simp;omega
    have c5:=Hm q;clear q;go_wp2;rw[c5.out];refine bd (v:=tJ λi=>decide (i<n)&&FT S L k (y+sh) i) ?_ rfl ⟨rfl,?_⟩
    .simp[results,Tryz.results34,go_sem,tJ,a0,a1,a2,a3,a4,a5,a6,a7,a8,a9,c6,c7]
    .exact bt
 .have q:eT S L sh d (↑k,y)=λ_=>false:=by funext n;exact dE (Or.inl (show y+sh<=0 by with_reducible assumption))
  rw[q];refine bd (v:=tJ λ_=>false) ?_ rfl ⟨rfl,?_⟩
  .simp[results,Tryz.results34,go_sem,tJ]
  .exact bt
variable{sh:Int}{f':Nat->Bool}
def bA(w:H)(g:Nat)(t:Lk)(sh:Int)(f:Nat->Bool):Prop:=∃cs:Array M,w.heap[g]?=Y (.cells cs t (0,0))/\cs.size=13/\cs[0]?=Y (.int .i64 sh)/\∀i,i<12->cs[1+i]?=Y (.bool (f i))
def bA.cell(h:bA w g t sh f)(i:Nat)(hi:i<12):w (g,1+i)=Y (.bool (f i)):=by
 obtain⟨cs,a, -, -, b⟩:=h;rw[H.cell?,a];exact b i hi
def bA.cell0(h:bA w g t sh f):w (g,0)=Y (.int .i64 sh):=by
 obtain⟨cs,a, -, b,-⟩:=h;rw[H.cell?,a];exact b
def bA.free(h:bA w g t sh f)(i:Nat):w.frozen? (g,i)=false:=by
 obtain⟨cs,a, -, -,-⟩:=h;simp[H.frozen?,a]
def bA.set(h:bA w g t sh f){i:Nat}(hi:i<12){v:Bool}(d:f' i=v)(h2:∀j,j<12->j≠i->f' j=f j):bA (w.setCell (g,1+i) (.bool v)) g t sh f':=by
 obtain⟨cs,e1,a,e0,c⟩:=h;refine⟨cs.setIfInBounds (1+i) (.bool v),by simp[H.setCell,ml,e1],by simpa using a,?_,λj b=>?_⟩
 .rw[lO zz,e0]
 .by_cases e:i=j
  .subst e;simp[ma,a,d,show 1+i<13 by omega]
  .rw[lO zz,c j b,h2 j b (λx=>e x.symm)]
def bA.below{B:Nat}(h:bA w g t sh f)(a:X B w w')(b:g<B):bA w' g t sh f:=xbe
theorem jI{o1 o2 o3:Obj}(h:X (((w.alloc o1).alloc o2).alloc o3).heap.size (((w.alloc o1).alloc o2).alloc o3) w'):X w w w':=
 ((((X.refl _ _).alloc (dj _) o1).alloc (by simp only[aa];omega) o2).alloc (by simp only[aa];omega) o3).tn (h.mono (by simp only[aa];omega))
def bA.alloc(h:bA w g t sh f)(o:Obj):bA (w.alloc o) g t sh f:=xaQ
def bA.new(w:H)(t:Lk)(sh:Int)(f:Nat->Bool):bA (w.alloc (.cells #[.int .i64 sh,.bool (f 0),.bool (f 1),.bool (f 2),.bool (f 3),.bool (f 4),.bool (f 5),.bool (f 6),.bool (f 7),.bool (f 8),.bool (f 9),.bool (f 10),.bool (f 11)] t)) w t sh f:=
 ⟨_,Sp _ _,rfl,rfl,λi hi=>by
  rcases(show i=0\/i=1\/i=2\/i=3\/i=4\/i=5\/i=6\/i=7\/i=8\/i=9\/i=10\/i=11 from zz)with rfl|rfl|rfl|rfl|rfl|rfl|rfl|rfl|rfl|rfl|rfl|rfl<;>rfl⟩
def bA.new2(w:H)(a b:Obj)(t:Lk)(sh:Int)(f:Nat->Bool):bA (((w.alloc a).alloc b).alloc (.cells #[.int .i64 sh,.bool (f 0),.bool (f 1),.bool (f 2),.bool (f 3),.bool (f 4),.bool (f 5),.bool (f 6),.bool (f 7),.bool (f 8),.bool (f 9),.bool (f 10),.bool (f 11)] t)) (w.heap.size+1+1) t sh f:=by
 have:=bA.new ((w.alloc a).alloc b) t sh f;simp only[aa]at this;exact this
def bA.all(h:bA w g t sh f):w (g,0)=Y (.int .i64 sh)/\w (g,1)=Y (.bool (f 0))/\w (g,2)=Y (.bool (f 1))/\w (g,3)=Y (.bool (f 2))/\w (g,4)=Y (.bool (f 3))/\w (g,5)=Y (.bool (f 4))/\w (g,6)=Y (.bool (f 5))/\w (g,7)=Y (.bool (f 6))/\w (g,8)=Y (.bool (f 7))/\w (g,9)=Y (.bool (f 8))/\w (g,10)=Y (.bool (f 9))/\w (g,11)=Y (.bool (f 10))/\w (g,12)=Y (.bool (f 11)):=
 ⟨h.cell0,h.cell 0 zz,h.cell 1 zz,h.cell 2 zz,h.cell 3 zz,h.cell 4 zz,h.cell 5 zz,h.cell 6 zz,h.cell 7 zz,h.cell 8 zz,h.cell 9 zz,h.cell 10 zz,h.cell 11 zz⟩
def wM{S:Int}:∀{l:List Int} {p:Option Int},bS S p l=0->∀x∈l,0<=x/\x<S
 | [],_,_=>λx a=>by simp at a
 | n::r,p,h=>by
  have key:ax n 0 (S-1)=true/\bS S (Y n) r=0:=by
   by_cases b:ax n 0 (S-1)=false
   .cases p<;>(simp only[bS]at h;rw[dE b]at h;omega)
   .refine⟨by simpa using b,?_⟩
    cases p with
    | none=>simp only[bS]at h;rw[cd b,cd ss]at h;exact h
    | some y=>
     simp only[bS]at h;rw[cd b]at h;by_cases c:decide (n<=y)=true
     .rw[dE c]at h;omega
     .rw[cd c]at h;exact h
  intro x a;rcases fc.1 a with rfl|a
  .have:=cq.1 key.1;omega
  .exact wM key.2 x a
def cN(S sh:Int)(l:List Int):Int:=if ax sh (-3) 3=true then bS S I l else 1
def eM(l:List Int):Nat->Bool:=λn=>decide ((n:Int)∈l)
def mI:Nat->Bool:=λ_=>false
def NY(b:aC)(sh:Int)(l:List Int)(w:H)(e:Ending)(w':H):Prop:=e=.returned (.tuple #[if cN b.S sh l=0 then gN sh (eM l)else gN 0 mI,.int .i64 (cN b.S sh l)])/\X w w w'
theorem FU(b:aC)(x:4<=b.S)(h2:b.S<=12)(sh:Int)(s:Sl)(l:List Int)(w:H)(r:aN w s l):
  PH F 77 #[b.v,.agg #[.int .i64 sh,.slice s.A s.n s.c]] w (NY b sh l w):=by
 have q:=λa (h:aN a s l)=>xS b zz zz s l a h;have B:=Hm r;obtain⟨A,b1,c⟩:=s;obtain⟨rfl,T,a6,K⟩:=r;have P:=Hm K;clear K;simp only at q T;by_cases m:ax sh (-3) 3=true
 .by_cases u:bS b.S I l=0
  .have ø:=0;exact pB
  .have å:=0;exact pB
 .exact xax
variable{l:bN}{w1 w2:H}{o1 o2 o3 o4:Obj}
def iy:Sl:=⟨I,0,0⟩
def bI:aC:=⟨0,0,0,0,0,iy,0,0,0,0,iy,iy,iy⟩
def aF(sh:Int)(s:Sl):M:=.agg #[.int .i64 sh,.slice s.A s.n s.c]
def NZ(b:aC)(l:bN)(sh:Int)(d:List Int)(w:H)(e:Ending)(w':H):Prop:=
 (if ay b l=0 then e=.returned (.tuple #[b.v,if cN b.S sh d=0 then gN sh (eM d)else gN 0 mI,.int .i64 (cN b.S sh d)])else e=.returned (.tuple #[bI.v,gN 0 mI,.int .i64 (ay b l)]))/\X w w w'
def bP(h:ay b l=0):cA b l.C=0/\cZ b=0/\fH b.S l.U=0/\fT b.rf b.ch l.E=0/\ki b.S l.U.length l.W=0:=by
 unfold ay at h;by_cases a:cA b l.C=0
 .by_cases c:cZ b=0
  .by_cases h2:fH b.S l.U=0
   .by_cases d:fT b.rf b.ch l.E=0
    .simp[a,c,h2,d]at h;exact⟨a,c,h2,d,h⟩
    .simp[a,c,h2,d]at h
   .simp[a,c,h2]at h
  .simp[a,c]at h
 .simp[a]at h
def aq(h:aI w b l)(o:Obj):aI (w.alloc o) b l:=h.below ((X.refl _ _).alloc (dj _) o)
def ai(h:aD w)(o:Obj):aD (w.alloc o):=h.below ((X.refl _ _).alloc (dj _) o)
theorem lI{w w':H}(h:X ((((w.alloc o1).alloc o2).alloc o3).alloc o4).heap.size ((((w.alloc o1).alloc o2).alloc o3).alloc o4) w'):X w w w':=
 (((((X.refl _ _).alloc (dj _) o1).alloc (by simp only[aa];omega) o2).alloc (by simp only[aa];omega) o3).alloc (by simp only[aa];omega) o4).tn (h.mono (by simp only[aa];omega))
theorem I2(a:X ((((w.alloc o1).alloc o2).alloc o3).alloc o4).heap.size ((((w.alloc o1).alloc o2).alloc o3).alloc o4) w1)(h2:X w1 w1 w2)(o:Obj):X (w.heap.size+1+1+1+1) ((((w.alloc o1).alloc o2).alloc o3).alloc o4) (w2.alloc o):=by
 simp only[aa]at a;have b:=a.size;simp only[aa]at b;exact(a.tn (h2.mono b)).alloc (ec b h2.size) o
theorem Sf(a:X ((((w.alloc o1).alloc o2).alloc o3).alloc o4).heap.size ((((w.alloc o1).alloc o2).alloc o3).alloc o4) w1)(h2:X w1 w1 w2)(o:Obj):X (w.heap.size+1) (w.alloc o1) (w2.alloc o):=
 ((((X.refl _ _).alloc (by simp only[aa];omega) o2).alloc (by simp only[aa];omega) o3).alloc (by simp only[aa];omega) o4).tn ((I2 a h2 o).mono zz)
theorem Sg(a:X ((((w.alloc o1).alloc o2).alloc o3).alloc o4).heap.size ((((w.alloc o1).alloc o2).alloc o3).alloc o4) w1)(h2:X w1 w1 w2)(o:Obj):X w w (w2.alloc o):=
 ((lI a).tn (h2.mono (lI a).size)).alloc (ec (lI a).size h2.size) o
def aK(w:H)(g:Nat)(t:Lk)(b:aC):Prop:=w.heap[g]?=Y (aE b t)
theorem Si{f:Nat->Bool}{sh:Int}(d:X ((((w.alloc o1).alloc o2).alloc (aE b 74)).alloc (.cells #[.int .i64 sh,.bool (f 0),.bool (f 1),.bool (f 2),.bool (f 3),.bool (f 4),.bool (f 5),.bool (f 6),.bool (f 7),.bool (f 8),.bool (f 9),.bool (f 10),.bool (f 11)] 78)).heap.size ((((w.alloc o1).alloc o2).alloc (aE b 74)).alloc (.cells #[.int .i64 sh,.bool (f 0),.bool (f 1),.bool (f 2),.bool (f 3),.bool (f 4),.bool (f 5),.bool (f 6),.bool (f 7),.bool (f 8),.bool (f 9),.bool (f 10),.bool (f 11)] 78)) w1)(h2:X w1 w1 w2)(o:Obj):
  aK (w2.alloc o) (w.heap.size+1+1) 74 b/\bA (w2.alloc o) (w.heap.size+1+1+1) 78 sh f:=by
 have a:=I2 d h2 o;refine⟨(a.block _ zz).tn (An w _ _ _ _),?_⟩;have c:=bA.new (((w.alloc o1).alloc o2).alloc (aE b 74)) 78 sh f;simp only[aa]at c;exact c.below a zz
def dx(h:aK w g t b):∀i,w.frozen? ⟨g,i,I⟩=false:=λi=>by
 unfold aK aE at h;simp[H.frozen?,h]
def aM(h:aK w g t b):
  w.cell? ⟨g,0,I⟩=Y (.int .i64 b.S)/\w.cell? ⟨g,1,I⟩=Y (.int .i64 b.D)/\w.cell? ⟨g,2,I⟩=Y (.int .i64 b.L)/\w.cell? ⟨g,3,I⟩=Y (.int .i64 b.lo)/\w.cell? ⟨g,4,I⟩=Y (.int .i64 b.hi)/\
  w.cell? ⟨g,5,I⟩=Y (.slice b.C.A b.C.n b.C.c)/\w.cell? ⟨g,6,I⟩=Y (.int .i64 b.rf)/\w.cell? ⟨g,7,I⟩=Y (.int .i64 b.rh)/\w.cell? ⟨g,8,I⟩=Y (.int .i64 b.cf)/\w.cell? ⟨g,9,I⟩=Y (.int .i64 b.ch)/\
  w.cell? ⟨g,10,I⟩=Y (.slice b.U.A b.U.n b.U.c)/\w.cell? ⟨g,11,I⟩=Y (.slice b.E.A b.E.n b.E.c)/\w.cell? ⟨g,12,I⟩=Y (.slice b.W.A b.W.n b.W.c):=by
 have ø:=0;exact H2
theorem sO(b:aC)(l:bN)(sh:Int)(s:Sl)(d:List Int)(w:H)(B:aI w b l)(x:aD w)(z:aN w s d):
  PH F 32 #[b.v,aF sh s] w (NZ b l sh d w):=by
 have u:=Hm B;have t:=Hm x;have G:=Hm z;clear B x z;have k:=λw1 (N:aI w1 b l) (h2:aD w1)=>cG b l w1 N h2;by_cases c:ay b l=0
 .obtain⟨Z,q2,-⟩:=cS (bP c).1;have j:∃ik f,(if cN b.S sh d=0 then gN sh (eM d)else gN 0 mI)=gN ik f:=by
   by_cases h:cN b.S sh d=0
   .exact⟨sh,eM d,by rw[dE h]⟩
   .exact⟨0,mI,by rw[cd h]⟩
  obtain⟨ik,f,j⟩:=j;have m:∀w1,aN w1 s d->PH F 77 #[b.v,.agg #[.int .i64 sh,.slice s.A s.n s.c]] w1 λe w'=>e=.returned (.tuple #[gN ik f,.int .i64 (cN b.S sh d)])/\X w1 w1 w':=λw1 h=>
   (FU b Z q2 sh s d w1 h).mono λe w' Q=>by
    obtain⟨E,V⟩:=Q;rw[j]at E;exact⟨E,V⟩
  have L:=Hm j;have HR:=Hm c;clear j;simp only[c]at k;clear c;obtain⟨r,q⟩:∃r,cN b.S sh d=r:=⟨_,rfl⟩;simp only[q]at m;have K:=Hm q;clear q;unfold aC.v at k m|-;unfold aF;unfold gN at m;go_enter Tryz.func32,Tryz.ntmps32;go_wp2_with (first|(go_at_call 10;refine(k _ (aq (aq (aq (aq u.out _) _) _) _) (ai (ai (ai (ai t.out _) _) _) _)).mono ?_;rintro e w1 ⟨rfl,a⟩;obtain⟨y,A⟩:=aU a;have R:w.heap.size+1+1+1<w1.heap.size:=(by have:=a.size;simp only[aa]at this;omega);have S:w.heap.size+1+1<w1.heap.size:=zz;have T:w.heap.size+1<w1.heap.size:=zz;have U:w.heap.size<w1.heap.size:=zz)|(go_at_call 77;refine(m _ (G.out.below (lI a))).mono ?_;rintro e w2 ⟨rfl,g⟩;obtain⟨O,P⟩:=aU g;have a8:w1.heap.size<=w2.heap.size:=g.size;have a9:w.heap.size+1+1+1<w2.heap.size:=zz;have a':w.heap.size+1+1<w2.heap.size:=zz;have a0:w.heap.size+1<w2.heap.size:=zz;have b1:w.heap.size<w2.heap.size:=zz));have C:X (w.heap.size+1) (w.alloc (aE b 31)) (w2.alloc (.cells #[.int .i64 ik,.bool (f 0),.bool (f 1),.bool (f 2),.bool (f 3),.bool (f 4),.bool (f 5),.bool (f 6),.bool (f 7),.bool (f 8),.bool (f 9),.bool (f 10),.bool (f 11)] 78)):=Sf a g _;obtain⟨x0,x1,x2,x3,x4,x5,x6,x7,x8,x9,a1,a2,a3⟩:=iw C;have hk:=bA.new w2 78 ik f;obtain⟨y0,y1,y2,y3,y4,y5,y6,y7,y8,y9,a4,a5,a6⟩:=hk.all;obtain⟨o,n⟩:=Si (b:=bI) (f:=mI) (sh:=0) a g (.cells #[.int .i64 ik,.bool (f 0),.bool (f 1),.bool (f 2),.bool (f 3),.bool (f 4),.bool (f 5),.bool (f 6),.bool (f 7),.bool (f 8),.bool (f 9),.bool (f 10),.bool (f 11)] 78);have hB:=Sg a g (.cells #[.int .i64 ik,.bool (f 0),.bool (f 1),.bool (f 2),.bool (f 3),.bool (f 4),.bool (f 5),.bool (f 6),.bool (f 7),.bool (f 8),.bool (f 9),.bool (f 10),.bool (f 11)] 78);clear C hk y O A P;generalize(w2.alloc (.cells #[.int .i64 ik,.bool (f 0),.bool (f 1),.bool (f 2),.bool (f 3),.bool (f 4),.bool (f 5),.bool (f 6),.bool (f 7),.bool (f 8),.bool (f 9),.bool (f 10),.bool (f 11)] 78))=W at x0 x1 x2 x3 x4 x5 x6 x7 x8 x9 a1 a2 a3 y0 y1 y2 y3 y4 y5 y6 y7 y8 y9 a4 a5 a6 o n hB|-;obtain⟨z0,z1,z2,z3,z4,z5,z6,z7,z8,z9,b6,b7,b8⟩:=aM o;obtain⟨u0,u1,u2,u3,u4,u5,u6,u7,u8,u9,b2,b3,b4⟩:=n.all;have b9:=dx o;have b5:=λi=>n.free i;have p:=Hm hB;clear a g o n hB;go_region;go_wp2;refine bd (v:=.tuple #[b.v,gN ik f,.int .i64 r]) ?_ rfl ⟨by rw[dE HR.out,L.out,K.out],?_⟩
  .simp[results,Tryz.results32,go_sem,gN,aC.v, *]
  .have p:=p.out;exact bt
 .have a7:(ay b l != 0)=true:=by simpa using c
  have J:=Hm c;clear c;unfold aC.v aF at*;go_enter Tryz.func32,Tryz.ntmps32;go_wp2_with (go_at_call 10;refine(k _ (aq (aq (aq (aq u.out _) _) _) _) (ai (ai (ai (ai t.out _) _) _) _)).mono ?_;rintro e w1 ⟨rfl,a⟩;obtain⟨y,A⟩:=aU a;have R:w.heap.size+1+1+1<w1.heap.size:=(by have:=a.size;simp only[aa]at this;omega);have S:w.heap.size+1+1<w1.heap.size:=zz;have T:w.heap.size+1<w1.heap.size:=zz;have U:w.heap.size<w1.heap.size:=zz);refine bd (v:=.tuple #[bI.v,gN 0 mI,.int .i64 (ay b l)]) ?_ rfl ⟨by rw[cd J.out],?_⟩
  .simp[results,Tryz.results32,go_sem,gN,bI,aC.v,iy,mI, *]
  .have p:=lI a;exact bt
variable{S:Int}
def N1:∀{l:List (Int×Int)},nD S l=0->∀p∈l,0<=p.1/\p.1<S/\ -9<=p.2/\p.2<=9
 | [],_=>λp c=>by simp at c
 | (a,h)::r,b=>by
  simp only[nD]at b;by_cases d:ax a 0 (S-1)=false
  .rw[dE d]at b;omega
  .rw[cd d]at b;by_cases h2:ax h (-9) 9=false
   .rw[dE h2]at b;omega
   .rw[cd h2]at b;intro p c;rcases fc.1 c with rfl|c
    .have e1:=cq.1 (by simpa using d:ax a 0 (S-1)=true);have e:=cq.1 (by simpa using h2:ax h (-9) 9=true);exact⟨e1.1,by show a<S;omega,e.1,e.2⟩
    .exact N1 b p c
def kP{l:List (Int×Int)}(h:fH S l=0)(k:Nat)(hk:k<l.length):0<=(l.getD k (0,0)).1/\(l.getD k (0,0)).1<S/\ -9<=(l.getD k (0,0)).2/\(l.getD k (0,0)).2<=9:=by
 unfold fH at h;split at h
 .exact N1 h _ (by simp[List.getD,fg hk])
 .omega
def tM{S sh:Int}{l:List Int}(h:cN S sh l=0): -3<=sh/\sh<=3/\bS S I l=0:=by
 unfold cN at h;split at h
 .rename_i a;have:=cq.1 a;exact⟨this.1,this.2,h⟩
 .omega
def dy{B B' e size n:Nat}{v:M}{xs:List M}(hB:B'<=B)(h:w.ownsRow B e size v n xs):w.ownsRow B' e size v n xs:=by
 refine⟨h.1,h.2.imp id ?_⟩;rintro⟨g,a,b,c,h2,d⟩;exact⟨g,a,b,c,ec hB h2,d⟩
theorem cB{o1 o2:Obj}(h:X ((w.alloc o1).alloc o2).heap.size ((w.alloc o1).alloc o2) w'):X w w w':=
 (((X.refl _ _).alloc (dj _) o1).alloc (by simp only[aa];omega) o2).tn (h.mono (by simp only[aa];omega))
def cT(b:aC)(l:bN)(sh:Int)(d:List Int)(a:Int):List Int×Int:=
 if ay b l≠0 then([],ay b l)else if cN b.S sh d≠0 then([],cN b.S sh d)else if ax a 0 (l.U.length-1)=false then([],6)
 else(ie (eT b.S b.L sh (eM d) (l.U.getD a.toNat (0,0))) 12,0)
def ji(B:Nat)(L:List Int)(r:Int)(w:H)(e:Ending)(w':H):Prop:=
 ∃A c,e=.returned (.tuple #[.slice A L.length c,.int .i64 r])/\w'.ownsRow B 3 1 (.slice A L.length c) L.length (L.map (M.int .i64))/\X B w w'
def ji.nil{r:Int}{e:Ending}(h:X B w w')(a:e=.returned (.tuple #[.slice I 0 0,.int .i64 r])):ji B [] r w e w':=⟨I,0,a,H.ownsRow_nil _ _ _ _,h⟩
theorem oH(b:aC)(l:bN)(sh:Int)(s:Sl)(d:List Int)(hour:Int)(w:H)(o:aI w b l)(u:aD w)(v:aN w s d):
  PH F 6 #[b.v,aF sh s,.int .i64 hour] w λe w'=>ji w (cT b l sh d hour).1 (cT b l sh d hour).2 w e w':=by
 have å:=0;exact pk
def Dl(D:Nat->Bool)(k:Nat)(hk:k<12)(w:H):(Instr.index 76 (tJ D) (.int .i64 k)).run F w=.ok (.bool (D k)) w:=xaf
def aK.lt{b:aC}(h:aK w g t b):g<w.heap.size:=(du.1 h).1
def bA.lt{sh:Int}{f:Nat->Bool}(h:bA w g t sh f):g<w.heap.size:=let⟨_,h,_⟩:=h;(du.1 h).1
theorem FW(b:aC)(u:4<=b.S)(v:b.S<=12)(x:1<=b.L)(y:b.L<=4)(sh:Int)(z: -3<=sh)(A:sh<=3)(d:Nat->Bool)(U:List (Int×Int))
  (m:∀k,k<U.length->0<=(U.getD k (0,0)).1/\(U.getD k (0,0)).1<b.S/\ -9<=(U.getD k (0,0)).2/\(U.getD k (0,0)).2<=9)(h s:Nat)(g:Bool)(l:h<U.length)(K:(s:Int)<b.S)(a bs:Nat)(w:H)
  (n:bp w b.U U)(hB:aK w a 74 b)(i:bA w bs 78 sh d):
  PH F 82 #[.agg #[.int .i64 h,.int .i64 s,.bool g],.pointer (Y (a,0)),.pointer (Y (bs,0))] w λe w'=>e=.returned (.bool (eT b.S b.L sh d (U.getD h (0,0)) s != g))/\X w w w':=by
 obtain⟨o,p,q,r⟩:=m h l;clear m;have j:=λc (B:bp c b.U U)=>qX b u v x y sh z A d h U l o p q r c B;clear o p q r l;generalize eT b.S b.L sh d (U.getD h (0,0))=D at j|-;have J:=λw=>Dl D s zz w;have N:=hB.lt;have P:=i.lt;have O:a<w.heap.size+1:=zz;have Q:bs<w.heap.size+1:=zz;obtain⟨R,S,Z,x3,x4,x5,x6,x7,x8,x9,T,V,W⟩:=aM hB;obtain⟨y0,y1,y2,y3,y4,y5,y6,y7,y8,y9,a1,a2,a3⟩:=i.all;have t:=Hm n;clear n hB i;unfold aC.v gN at j;go_enter Tryz.func82,Tryz.ntmps82;go_wp2_with fail;go_region_held3 (λw'=>w'.cell? ⟨a,0,I⟩=Y (.int .i64 b.S)/\w'.cell? ⟨a,1,I⟩=Y (.int .i64 b.D)/\w'.cell? ⟨a,2,I⟩=Y (.int .i64 b.L)/\w'.cell? ⟨a,3,I⟩=Y (.int .i64 b.lo)/\w'.cell? ⟨a,4,I⟩=Y (.int .i64 b.hi)/\w'.cell? ⟨a,5,I⟩=Y (.slice b.C.A b.C.n b.C.c)/\w'.cell? ⟨a,6,I⟩=Y (.int .i64 b.rf)/\w'.cell? ⟨a,7,I⟩=Y (.int .i64 b.rh)/\w'.cell? ⟨a,8,I⟩=Y (.int .i64 b.cf)/\w'.cell? ⟨a,9,I⟩=Y (.int .i64 b.ch)/\w'.cell? ⟨a,10,I⟩=Y (.slice b.U.A b.U.n b.U.c)/\w'.cell? ⟨a,11,I⟩=Y (.slice b.E.A b.E.n b.E.c)/\w'.cell? ⟨a,12,I⟩=Y (.slice b.W.A b.W.n b.W.c)/\w'.cell? ⟨bs,0,I⟩=Y (.int .i64 sh)/\w'.cell? ⟨bs,1,I⟩=Y (.bool (d 0))/\w'.cell? ⟨bs,2,I⟩=Y (.bool (d 1))/\w'.cell? ⟨bs,3,I⟩=Y (.bool (d 2))/\w'.cell? ⟨bs,4,I⟩=Y (.bool (d 3))/\w'.cell? ⟨bs,5,I⟩=Y (.bool (d 4))/\w'.cell? ⟨bs,6,I⟩=Y (.bool (d 5))/\w'.cell? ⟨bs,7,I⟩=Y (.bool (d 6))/\w'.cell? ⟨bs,8,I⟩=Y (.bool (d 7))/\w'.cell? ⟨bs,9,I⟩=Y (.bool (d 8))/\w'.cell? ⟨bs,10,I⟩=Y (.bool (d 9))/\w'.cell? ⟨bs,11,I⟩=Y (.bool (d 10))/\w'.cell? ⟨bs,12,I⟩=Y (.bool (d 11))/\w'.cell? ⟨w.heap.size,0,I⟩=Y (.int .i64 h)/\w'.cell? ⟨w.heap.size,1,I⟩=Y (.int .i64 s)/\w'.cell? ⟨w.heap.size,2,I⟩=Y (.bool g)/\a<w'.heap.size/\bs<w'.heap.size/\w.heap.size<w'.heap.size/\X w.heap.size w w')
  ((repeat' apply And.intro)<;>(first|with_reducible assumption|omega|(go_keep;done)|(simp;omega)|exact bt|exact X.tn wa (f.mono zz)))
  (first|(go_at_call 34;refine(j _ (t.out.below bf)).mono ?_;rintro e c ⟨rfl,f⟩;obtain⟨E,G⟩:=aU f;have L:w.heap.size+1<=c.heap.size:=(by have:=f.size;simpa using this);have C:X w.heap.size w c:=X.tn bf (f.mono ss)))
 go_wp2;go_ret;exact⟨bR (by cases D s<;>cases g<;>rfl),C⟩
def jk(S L sh:Int)(d:Nat->Bool)(U:List (Int×Int))(x:Int×Int×Bool):Bool:=eT S L sh d (U.getD x.1.toNat (0,0)) x.2.1.toNat != x.2.2
def zP(t:Int×Int×Bool->Bool):List (Int×Int×Bool)->Nat->Int
 | [],_=> -1
 | x::r,k=>if t x=true then k else zP t r (k+1)
def N2(t:Int×Int×Bool->Bool)(l:List (Int×Int×Bool))(k:Nat)(hk:k<l.length):zP t (l.drop k) k=if t (l.getD k (0,0,false))=true then(k:Int)else zP t (l.drop (k+1)) (k+1):=xaT
def I3(t:Int×Int×Bool->Bool):∀(l:List (Int×Int×Bool)) (k:Nat),decide (0<=zP t l k)=l.any t
 | [],_=>rfl
 | x::r,k=>by
  simp only[zP,List.any_cons];by_cases h:t x=true
  .simp[h]
  .have a:=I3 t r (k+1);simp[h,<- a]
def N3(a bs:Nat):M:=.func (.func 82) #[] #[.pointer (Y (a,0)),.pointer (Y (bs,0))]
theorem La(b:aC)(g1:4<=b.S)(g2:b.S<=12)(g3:1<=b.L)(g4:b.L<=4)(sh:Int)(g5: -3<=sh)(g6:sh<=3)(d:Nat->Bool)(U:List (Int×Int))
  (C:∀k,k<U.length->0<=(U.getD k (0,0)).1/\(U.getD k (0,0)).1<b.S/\ -9<=(U.getD k (0,0)).2/\(U.getD k (0,0)).2<=9)(s:Sl)(l:List (Int×Int×Bool))
  (E:∀k,k<l.length->0<=(l.getD k (0,0,false)).1/\(l.getD k (0,0,false)).1<U.length/\0<=(l.getD k (0,0,false)).2.1/\(l.getD k (0,0,false)).2.1<b.S)(n bs:Nat)(w:H)
  (O:bp w b.U U)(hB:aK w n 74 b)(r:bA w bs 78 sh d)(a5:fL w s l):
  PH F 115 #[.slice s.A s.n s.c,N3 n bs] w λe w'=>e=.returned (.int .i64 (zP (jk b.S b.L sh d U) l 0))/\X w w w':=by
 have a4:=λ(h k:Nat) (a7:Bool) (a3:h<U.length) (j:(k:Int)<b.S) g (p1:bp g b.U U) (p2:aK g n 74 b) (p3:bA g bs 78 sh d)=>FW b g1 g2 g3 g4 sh g5 g6 d U C h k a7 a3 j n bs g p1 p2 p3;have a6:=hB.lt;have a8:=r.lt;have W:=Hm O;have T:=Hm hB;have Z:=Hm r;have a1:=Hm E;clear O hB r E C;obtain⟨A,b1,c⟩:=s;obtain⟨rfl,a2,a0,J⟩:=a5;have V:=Hm J;clear J;simp only at a2|-;unfold N3;go_enter Tryz.func115,Tryz.ntmps115;go_wp2;go_loopw [8] (λi wr=>∃k:Nat,k<=l.length/\i=.int .i64 k/\X w.heap.size w wr/\PQ (zP (jk b.S b.L sh d U) l 0=zP (jk b.S b.L sh d U) (l.drop k) k)) (λi _=>l.length-(intOf i).toNat)
 case atStart=>exact⟨0,fi _,rfl,X.refl _ _,rfl⟩
 case round=>
  obtain⟨k,hk,rfl,a,v⟩:=hrel;have P:=a.size;by_cases m:k<l.length
  .have j:=N2 (jk b.S b.L sh d U) l k m;obtain⟨f,off,rfl,t,o⟩:=V.out zz;have a':f<wr.heap.size:=zz;obtain⟨g,Q,R,z⟩:=a1.out k m;have K:wr (f,off+k*3)=Y (.int .i64 (l.getD k (0,0,false)).1):=(a.cell (p:=⟨f,_,I⟩) t).tn (o k m).1;have L:wr (f,off+k*3+1)=Y (.int .i64 (l.getD k (0,0,false)).2.1):=(a.cell (p:=⟨f,_,I⟩) t).tn (o k m).2.1;have N:wr (f,off+k*3+2)=Y (.bool (l.getD k (0,0,false)).2.2):=(a.cell (p:=⟨f,_,I⟩) t).tn (o k m).2.2;clear o;generalize l.getD k (0,0,false)=x at j g Q R z K L N;obtain⟨S,xs,q⟩:=x;simp only at g Q R z K L N;obtain⟨h,rfl⟩:∃h:Nat,S=(h:Int):=⟨S.toNat,zz⟩;obtain⟨p,rfl⟩:∃h:Nat,xs=(h:Int):=⟨xs.toNat,zz⟩;have u:=a4 h p q zz z wr (W.out.below a) ((a.block _ a6).tn T.out) (Z.out.below a a8);have e1:jk b.S b.L sh d U (h,p,q)=(eT b.S b.L sh d (U.getD h (0,0)) p != q):=rfl;rw[<- e1]at u;clear e1;cases y:jk b.S b.L sh d U (h,p,q)
   all_goals
    rw[y]at j u;have B:=Hm j;have a9:=Hm y;clear j y;go_wp2_with (go_at_call 82;refine u.mono ?_;rintro e v1 ⟨rfl,G⟩)
   .go_roundw
    case rel=>exact⟨k+1,zz,by go_num,a.tn (G.mono P),v.out.tn (B.out.tn (cd ss))⟩
    case measure=>simp[intOf];omega
   .go_ret;exact⟨aW (by rw[v.out,B.out];simp),a.tn (G.mono P)⟩
  .obtain rfl:k=l.length:=zz;go_wp2;go_ret;exact⟨aW (by rw[v.out];simp[zP]),a⟩
theorem Bo(b:aC)(m:4<=b.S)(n:b.S<=12)(o:1<=b.L)(p:b.L<=4)(sh:Int)(q: -3<=sh)(t:sh<=3)(d:Nat->Bool)(U:List (Int×Int))
  (g:∀k,k<U.length->0<=(U.getD k (0,0)).1/\(U.getD k (0,0)).1<b.S/\ -9<=(U.getD k (0,0)).2/\(U.getD k (0,0)).2<=9)(s:Sl)(l:List (Int×Int×Bool))
  (h:∀k,k<l.length->0<=(l.getD k (0,0,false)).1/\(l.getD k (0,0,false)).1<U.length/\0<=(l.getD k (0,0,false)).2.1/\(l.getD k (0,0,false)).2.1<b.S)(a bs:Nat)(w:H)
  (i:bp w b.U U)(hB:aK w a 74 b)(f:bA w bs 78 sh d)(j:fL w s l):
  PH F 81 #[.slice s.A s.n s.c,N3 a bs] w λe w'=>e=.returned (.bool (l.any (jk b.S b.L sh d U)))/\X w w w':=by
 have hi:=La b m n o p sh q t d U g s l h a bs w i hB f j;have c:=Hm (I3 (jk b.S b.L sh d U) l 0);clear i hB f j h g;generalize zP (jk b.S b.L sh d U) l 0=r at hi c;unfold N3 at hi|-;go_enter Tryz.func81,Tryz.ntmps81;go_wp2_with (go_at_call 115;refine hi.mono ?_;rintro e v ⟨rfl,u⟩);go_ret;exact⟨bR c.out,u⟩
def oI(S L sh:Int)(d:Nat->Bool)(U:List (Int×Int))(l:List (Int×Int×Bool)):Bool:= !l.any (jk S L sh d U)
theorem Ao(b:aC)(i:4<=b.S)(j:b.S<=12)(m:1<=b.L)(n:b.L<=4)(sh:Int)(o: -3<=sh)(p:sh<=3)(d:Nat->Bool)(U:List (Int×Int))
  (c:∀k,k<U.length->0<=(U.getD k (0,0)).1/\(U.getD k (0,0)).1<b.S/\ -9<=(U.getD k (0,0)).2/\(U.getD k (0,0)).2<=9)(l:List (Int×Int×Bool))
  (f:∀k,k<l.length->0<=(l.getD k (0,0,false)).1/\(l.getD k (0,0,false)).1<U.length/\0<=(l.getD k (0,0,false)).2.1/\(l.getD k (0,0,false)).2.1<b.S)(w:H)
  (g:bp w b.U U)(h:fL w b.W l):
  PH F 40 #[b.v,gN sh d] w λe w'=>e=.returned (.bool (oI b.S b.L sh d U l))/\X w w w':=by
 have a:=Bo b i j m n sh o p d U c b.W l f w.heap.size (w.heap.size+1) ((w.alloc (aE b 74)).alloc (.cells #[.int .i64 sh,.bool (d 0),.bool (d 1),.bool (d 2),.bool (d 3),.bool (d 4),.bool (d 5),.bool (d 6),.bool (d 7),.bool (d 8),.bool (d 9),.bool (d 10),.bool (d 11)] 78))
  (g.below (by exact bt)) ((QR _ _ (by simp only[aa];omega)).tn (Sp _ _)) (by have:=bA.new (w.alloc (aE b 74)) 78 sh d;rw[aa]at this;exact this) (h.below (by exact bt))
 clear g h f c;have HR:PQ (oI b.S b.L sh d U l= !l.any (jk b.S b.L sh d U)):=rfl;generalize l.any (jk b.S b.L sh d U)=r at a HR;unfold aE N3 at a;unfold aC.v gN;go_enter Tryz.func40,Tryz.ntmps40;go_wp2_with (go_at_call 81;refine a.mono ?_;rintro e s ⟨rfl,q⟩);go_ret;exact⟨bR HR.out.symm,cB q⟩
def iB.all(h:iB w g t f):w (g,0)=Y (.bool (f 0))/\w (g,1)=Y (.bool (f 1))/\w (g,2)=Y (.bool (f 2))/\w (g,3)=Y (.bool (f 3))/\w (g,4)=Y (.bool (f 4))/\w (g,5)=Y (.bool (f 5))/\w (g,6)=Y (.bool (f 6))/\w (g,7)=Y (.bool (f 7))/\w (g,8)=Y (.bool (f 8))/\w (g,9)=Y (.bool (f 9))/\w (g,10)=Y (.bool (f 10))/\w (g,11)=Y (.bool (f 11)):=
 ⟨h.cell 0 zz,h.cell 1 zz,h.cell 2 zz,h.cell 3 zz,h.cell 4 zz,h.cell 5 zz,h.cell 6 zz,h.cell 7 zz,h.cell 8 zz,h.cell 9 zz,h.cell 10 zz,h.cell 11 zz⟩
def iB.below{B:Nat}(h:iB w g t f)(a:X B w w')(b:g<B):iB w' g t f:=xbe
def iB.alloc(h:iB w g t f)(o:Obj):iB (w.alloc o) g t f:=xaQ
def iB.new(w:H)(t:Lk)(f:Nat->Bool):iB (w.alloc (.cells #[.bool (f 0),.bool (f 1),.bool (f 2),.bool (f 3),.bool (f 4),.bool (f 5),.bool (f 6),.bool (f 7),.bool (f 8),.bool (f 9),.bool (f 10),.bool (f 11)] t)) w t f:=
 ⟨_,Sp _ _,rfl,λi hi=>by
  rcases(show i=0\/i=1\/i=2\/i=3\/i=4\/i=5\/i=6\/i=7\/i=8\/i=9\/i=10\/i=11 from zz)with rfl|rfl|rfl|rfl|rfl|rfl|rfl|rfl|rfl|rfl|rfl|rfl<;>rfl⟩
theorem iB.uB(h:iB w g t f){p i:Nat}(b:g≠p)(v:M):iB (w.setCell (p,i) v) g t f:=by
 obtain⟨cs,e1,a⟩:=h;exact⟨cs,(X.heap_setCell w ⟨p,i,I⟩ v g b).tn e1,a⟩
def lJ(d:Nat->Bool)(C:List Int):Nat->Bool:=λi=>d i && !eM C i
theorem FX(b:aC)(g2:b.S<=12)(d:Nat->Bool)(l:List Int)(N:∀x∈l,0<=x/\x<b.S)(w:H)(b5:aN w b.C l):
  PH F 39 #[b.v,tJ d] w λe w'=>e=.returned (tJ (lJ d l))/\X w w w':=by
 have a':=Hm N;clear N;obtain⟨S,D,L,lo,hi,⟨s,b8,t⟩,rf,rh,cf,ch,⟨b1,b2,B⟩,⟨u,A,z⟩,⟨C,G,E⟩⟩:=b;obtain⟨r,b4,c9,g⟩:=b5;simp only at r b4 g g2 a';subst r;have c4:=Hm g;clear g;simp only[aC.v,tJ];go_enter Tryz.func39,Tryz.ntmps39;go_wp2;go_loopw [11] (λi wr=>∃k:Nat,k<=l.length/\i=.int .i64 k/\X (w.heap.size+1) (w.alloc (Dg ⟨S,D,L,lo,hi,⟨s,l.length,t⟩,rf,rh,cf,ch,⟨b1,b2,B⟩,⟨u,A,z⟩,⟨C,G,E⟩⟩)) wr/\iB wr (w.heap.size+1) 76 (lJ d (l.take k))/\iB wr (w.heap.size+1+1) 76 mI) (λi _=>l.length-(intOf i).toNat)
 case atStart=>
  have e:lJ d (l.take 0)=d:=by funext n;simp[lJ,eM]
  refine⟨0,zz,rfl,?_,?_,?_⟩
  .exact xbt
  .have:=iB.new (w.alloc (Dg ⟨S,D,L,lo,hi,⟨s,l.length,t⟩,rf,rh,cf,ch,⟨b1,b2,B⟩,⟨u,A,z⟩,⟨C,G,E⟩⟩)) 76 d;rw[aa]at this;rw[e];exact this.alloc _
  .have:=iB.new ((w.alloc (Dg ⟨S,D,L,lo,hi,⟨s,l.length,t⟩,rf,rh,cf,ch,⟨b1,b2,B⟩,⟨u,A,z⟩,⟨C,G,E⟩⟩)).alloc (.cells #[.bool (d 0),.bool (d 1),.bool (d 2),.bool (d 3),.bool (d 4),.bool (d 5),.bool (d 6),.bool (d 7),.bool (d 8),.bool (d 9),.bool (d 10),.bool (d 11)] 76)) 76 mI;rw[aa,aa]at this;exact this
 case round=>
  obtain⟨k,hk,rfl,c,a,b3⟩:=hrel;have b6:(w:Nat)+1<=wr:=by have:=c.size;rw[aa]at this;exact this
  have d1:(w:Nat)<wr:=b6;by_cases K:k<l.length
  ·(obtain⟨O,P,V,W,Z,x5,x6,x7,x8,x9,Q,R,T⟩:=iw c;dsimp only at O P V W Z x5 x6 x7 x8 x9 Q R T)
   obtain⟨o,off,rfl,b0,J⟩:=c4.out zz;obtain⟨f,d2⟩:∃f:Nat,l.getD k 0=(f:Int)/\(f:Int)<S:=by
    have c':l.getD k 0∈l:=by simp[List.getD,fg K]
    have:=a'.out _ c';exact⟨(l.getD k 0).toNat,zz,zz⟩
   obtain⟨b7,d6⟩:=d2;have d4:wr (o,off+k)=Y (.int .i64 f):=(jN c b0).tn ((J k K).tn (by rw[b7]));have b':PQ (∀n:Nat,lJ d (l.take (k+1)) n=if n=f then false else lJ d (l.take k) n):=λn=>by
    rw[q5A K];have:l[k]=(f:Int):=by rw[<- b7];simp[List.getD,fg K]
    rw[this];by_cases e:n=f
    .subst e;simp[lJ,eM]
    .simp[lJ,eM,e,show¬(n:Int)=f by omega]
   have c8:=a.cell f zz;have fa:=a.free f;clear b7 J;go_wp2;go_roundw
   case rel=>exact⟨k+1,zz,by go_num,by exact bt,a.set zz (by rw[b'.out,dE rfl]) (λj _ hj=>by rw[b'.out,cd hj]),b3.uB zz _⟩
   case measure=>simp[intOf];omega
  .obtain rfl:k=l.length:=zz;rw[List.take_length]at a;obtain⟨y0,y1,y2,y3,y4,y5,y6,y7,y8,y9,d7,d8⟩:=a.all;obtain⟨z0,z1,z2,z3,z4,z5,z6,z7,z8,z9,d9,d'⟩:=b3.all;have d0:=λi=>b3.free i;have b9:=Hm (bT c);clear a b3 c;go_wp2;refine bd (v:=tJ (lJ d l)) ?_ rfl ⟨rfl,?_⟩
   .simp[results,Tryz.results39,go_sem,tJ, *]
   .have b9:=b9.out;exact bt
def nG(f g:Nat->Bool):Bool:=(f 0==g 0)&&(f 1==g 1)&&(f 2==g 2)&&(f 3==g 3)&&(f 4==g 4)&&(f 5==g 5)&&(f 6==g 6)&&(f 7==g 7)&&(f 8==g 8)&&(f 9==g 9)&&(f 10==g 10)&&(f 11==g 11)
def I5(d:Nat)(f g:Nat->Bool)(w:H):(Op.equalIn (d+3) 76 (tJ f) (tJ g)).run F w=.ok (nG f g) w:=by
 obtain⟨r,a,h2⟩:=run_equalIn_deep (P:=F) d 3 76 kr w 5 5 (tJ f) (tJ g) [.bool (f 0),.bool (f 1),.bool (f 2),.bool (f 3),.bool (f 4),.bool (f 5),.bool (f 6),.bool (f 7),.bool (f 8),.bool (f 9),.bool (f 10),.bool (f 11)] [.bool (g 0),.bool (g 1),.bool (g 2),.bool (g 3),.bool (g 4),.bool (g 5),.bool (g 6),.bool (g 7),.bool (g 8),.bool (g 9),.bool (g 10),.bool (g 11)] kr kr kr kr;have b:r=nG f g:=by
  rw[Bool.eq_iff_iff,h2];simp[nG,and_assoc]
 subst b;exact a
theorem aa1(f g:Nat->Bool)(w:H):(binOp .eql 76 (tJ f) (tJ g)).run F w=.ok (.bool (nG f g)) w:=by
 have a:=I5 9997 f g w;unfold tJ at a|-;go_simp
theorem aa2(m sh:Int)(f g:Nat->Bool)(w:H):(binOp .eql 78 (gN m f) (gN sh g)).run F w=.ok (.bool (decide (m=sh)&&nG f g)) w:=by
 have a:=I5 9996 f g w;unfold tJ at a;unfold gN;go_simp;by_cases h:m=sh
 .cases b:nG f g<;>simp[h]
 .simp[h]
variable{n:Int}{W v1:H}{f0:Nat->Bool}
def dI(b:aC)(l:bN)(sh:Int)(d:List Int):Bool×Int:=
 if ay b l≠0 then(false,ay b l)else if cN b.S sh d≠0 then(false,cN b.S sh d)else
 (decide (min (max sh b.lo) b.hi=sh)&&nG (lJ (eM d) l.C) (eM d)&&decide ((d.length:Int)<=b.D)&&oI b.S b.L sh (eM d) l.U l.W,0)
def wN(p:Bool×Int)(w:H)(e:Ending)(w':H):Prop:=e=.returned (.tuple #[.bool p.1,.int .i64 p.2])/\X w w w'
def N5:∀{l:List (Int×Int×Bool)},qi S n l=0->∀x∈l,0<=x.1/\x.1<n/\0<=x.2.1/\x.2.1<S
 | [],_=>λx c=>by simp at c
 | (a,s,t)::r,d=>by
  simp only[qi]at d;by_cases b:(ax a 0 (n-1)&&ax s 0 (S-1))=false
  .rw[dE b]at d;omega
  .rw[cd b]at d;intro x c;rcases fc.1 c with rfl|c
   .simp only[Bool.and_eq_false_iff,not_or,Bool.not_eq_false]at b;have e1:=cq.1 b.1;have e:=cq.1 b.2;exact⟨e1.1,by show a<n;omega,e.1,by show s<S;omega⟩
   .exact N5 d x c
def Gb{l:List (Int×Int×Bool)}(h:ki S n l=0)(k:Nat)(hk:k<l.length):0<=(l.getD k (0,0,false)).1/\(l.getD k (0,0,false)).1<n/\0<=(l.getD k (0,0,false)).2.1/\(l.getD k (0,0,false)).2.1<S:=by
 unfold ki at h;split at h
 .omega
 .exact N5 h _ (by simp[List.getD,fg hk])
def bA.range(h:bA w g t sh f):w.rangeAt g 1 [.bool (f 0),.bool (f 1),.bool (f 2),.bool (f 3),.bool (f 4),.bool (f 5),.bool (f 6),.bool (f 7),.bool (f 8),.bool (f 9),.bool (f 10),.bool (f 11)]:=λj v a=>by
 have b:j<12:=(List.getElem?_eq_some_iff.1 a).1;rw[h.cell j b,<- a];rcases(show j=0\/j=1\/j=2\/j=3\/j=4\/j=5\/j=6\/j=7\/j=8\/j=9\/j=10\/j=11 from zz)with rfl|rfl|rfl|rfl|rfl|rfl|rfl|rfl|rfl|rfl|rfl|rfl<;>rfl
theorem Dq{w w':H}{b o B:Nat}{cs:List M}(h:w.rangeAt b o cs)(a:X B w w')(hB:b<B):w'.rangeAt b o cs:=λj v c=>(a.cell (p:=⟨b,o+j,I⟩) hB).tn (h j v c)
def bA.aa3{sh ik:Int}(h:bA w g t sh f):bA (w.setCell (g,0) (.int .i64 ik)) g t ik f:=by
 obtain⟨cs,e1,a,e0,b⟩:=h;refine⟨cs.setIfInBounds 0 (.int .i64 ik),by simp[H.setCell,ml,e1],by simpa using a,by simp[a],λj c=>?_⟩;rw[lO zz];exact b j c
def Gc(f f0:Nat->Bool)(n:Nat):Nat->Bool:=λi=>if i<n then f i else f0 i
def bA.next{n:Nat}(h:bA w g t sh (Gc f f0 n))(a:n<12):bA (w.setCell (g,1+n) (.bool (f n))) g t sh (Gc f f0 (n+1)):=
 h.set a (by simp[Gc]) λj _ b=>by
  simp only[Gc];by_cases e:j<n
  .rw[dE e,dE zz]
  .rw[cd e,cd zz]
def bA.same{f f':Nat->Bool}(h:bA w g t sh f)(e:∀i,i<12->f' i=f i):bA w g t sh f':=by
 obtain⟨cs,e1,a,e0,b⟩:=h;exact⟨cs,e1,a,e0,λi hi=>by rw[e i hi];exact b i hi⟩
def Lf{sh0 sh:Int}(h:bA w g t sh0 f0):bA (((((((((((((w.setCell (g,0) (.int .i64 sh)).setCell (g,1) (.bool (f 0))).setCell (g,2) (.bool (f 1))).setCell (g,3) (.bool (f 2))).setCell (g,4) (.bool (f 3))).setCell (g,5) (.bool (f 4))).setCell (g,6) (.bool (f 5))).setCell (g,7) (.bool (f 6))).setCell (g,8) (.bool (f 7))).setCell (g,9) (.bool (f 8))).setCell (g,10) (.bool (f 9))).setCell (g,11) (.bool (f 10))).setCell (g,12) (.bool (f 11))) g t sh f:=by
 have a:bA (w.setCell (g,0) (.int .i64 sh)) g t sh (Gc f f0 0):=h.aa3.same λi _=>by simp[Gc]
 exact((((((((((((a.next zz).next zz).next zz).next zz).next zz).next zz).next zz).next zz).next zz).next zz).next zz).next zz).same λi hi=>by simp[Gc,hi]
def Lg(h:X (W.alloc (.cells #[.int .i64 0,.bool false,.bool false,.bool false,.bool false,.bool false,.bool false,.bool false,.bool false,.bool false,.bool false,.bool false,.bool false] 78)).drew.heap.size (W.alloc (.cells #[.int .i64 0,.bool false,.bool false,.bool false,.bool false,.bool false,.bool false,.bool false,.bool false,.bool false,.bool false,.bool false,.bool false] 78)).drew v1):bA v1 W 78 0 mI:=by
 have a:bA (W.alloc (.cells #[.int .i64 0,.bool false,.bool false,.bool false,.bool false,.bool false,.bool false,.bool false,.bool false,.bool false,.bool false,.bool false,.bool false] 78)).drew W 78 0 mI:=bA.new W 78 0 mI;exact a.below h ss
def uL{x y:Bool}(h:x=y):Ending.returned (.tuple #[.bool x,.int .i64 0])=.returned (.tuple #[.bool y,.int .i64 0]):=by rw[h]
def Wx(m:Int)(f:Nat->Bool)(b:X W W v1):∃a,M.pointer (Y (v1.heap.size,0))=.pointer (Y (a,0))/\X W W (v1.alloc (.cells #[.int .i64 m,.bool (f 0),.bool (f 1),.bool (f 2),.bool (f 3),.bool (f 4),.bool (f 5),.bool (f 6),.bool (f 7),.bool (f 8),.bool (f 9),.bool (f 10),.bool (f 11)] 78))/\bA (v1.alloc (.cells #[.int .i64 m,.bool (f 0),.bool (f 1),.bool (f 2),.bool (f 3),.bool (f 4),.bool (f 5),.bool (f 6),.bool (f 7),.bool (f 8),.bool (f 9),.bool (f 10),.bool (f 11)] 78)) a 78 m f:=
 ⟨v1.heap.size,rfl,aP b (dj _) _,bA.new v1 78 m f⟩
def Wy(m:Int)(f:Nat->Bool)(b:X (W.alloc (.cells #[.int .i64 0,.bool false,.bool false,.bool false,.bool false,.bool false,.bool false,.bool false,.bool false,.bool false,.bool false,.bool false,.bool false] 78)).drew.heap.size (W.alloc (.cells #[.int .i64 0,.bool false,.bool false,.bool false,.bool false,.bool false,.bool false,.bool false,.bool false,.bool false,.bool false,.bool false,.bool false] 78)).drew v1)(c:X W W v1):∃a,M.pointer (Y (W.heap.size,0))=.pointer (Y (a,0))/\X W W (((((((((((((v1.setCell (W.heap.size,0) (.int .i64 m)).setCell (W.heap.size,1) (.bool (f 0))).setCell (W.heap.size,2) (.bool (f 1))).setCell (W.heap.size,3) (.bool (f 2))).setCell (W.heap.size,4) (.bool (f 3))).setCell (W.heap.size,5) (.bool (f 4))).setCell (W.heap.size,6) (.bool (f 5))).setCell (W.heap.size,7) (.bool (f 6))).setCell (W.heap.size,8) (.bool (f 7))).setCell (W.heap.size,9) (.bool (f 8))).setCell (W.heap.size,10) (.bool (f 9))).setCell (W.heap.size,11) (.bool (f 10))).setCell (W.heap.size,12) (.bool (f 11)))/\bA (((((((((((((v1.setCell (W.heap.size,0) (.int .i64 m)).setCell (W.heap.size,1) (.bool (f 0))).setCell (W.heap.size,2) (.bool (f 1))).setCell (W.heap.size,3) (.bool (f 2))).setCell (W.heap.size,4) (.bool (f 3))).setCell (W.heap.size,5) (.bool (f 4))).setCell (W.heap.size,6) (.bool (f 5))).setCell (W.heap.size,7) (.bool (f 6))).setCell (W.heap.size,8) (.bool (f 7))).setCell (W.heap.size,9) (.bool (f 8))).setCell (W.heap.size,10) (.bool (f 9))).setCell (W.heap.size,11) (.bool (f 10))).setCell (W.heap.size,12) (.bool (f 11))) a 78 m f:=
 ⟨W.heap.size,rfl,by exact bt,Lf (Lg b)⟩
theorem Dr{w w1:H}{b:aC}{s:Sl}(h:X ((w.alloc (aE b 31)).alloc (.cells #[.int .i64 sh,.slice s.A s.n s.c] 33)).heap.size ((w.alloc (aE b 31)).alloc (.cells #[.int .i64 sh,.slice s.A s.n s.c] 33)) w1):
  aK ((w1.alloc (aE b 74)).alloc (.cells #[.int .i64 sh,.bool (f 0),.bool (f 1),.bool (f 2),.bool (f 3),.bool (f 4),.bool (f 5),.bool (f 6),.bool (f 7),.bool (f 8),.bool (f 9),.bool (f 10),.bool (f 11)] 78)) w 31 b/\((w1.alloc (aE b 74)).alloc (.cells #[.int .i64 sh,.bool (f 0),.bool (f 1),.bool (f 2),.bool (f 3),.bool (f 4),.bool (f 5),.bool (f 6),.bool (f 7),.bool (f 8),.bool (f 9),.bool (f 10),.bool (f 11)] 78)).cell? (w.heap.size+1,1)=Y (.slice s.A s.n s.c)/\aK ((w1.alloc (aE b 74)).alloc (.cells #[.int .i64 sh,.bool (f 0),.bool (f 1),.bool (f 2),.bool (f 3),.bool (f 4),.bool (f 5),.bool (f 6),.bool (f 7),.bool (f 8),.bool (f 9),.bool (f 10),.bool (f 11)] 78)) w1 74 b/\bA ((w1.alloc (aE b 74)).alloc (.cells #[.int .i64 sh,.bool (f 0),.bool (f 1),.bool (f 2),.bool (f 3),.bool (f 4),.bool (f 5),.bool (f 6),.bool (f 7),.bool (f 8),.bool (f 9),.bool (f 10),.bool (f 11)] 78)) (w1.heap.size+1) 78 sh f/\X w w ((w1.alloc (aE b 74)).alloc (.cells #[.int .i64 sh,.bool (f 0),.bool (f 1),.bool (f 2),.bool (f 3),.bool (f 4),.bool (f 5),.bool (f 6),.bool (f 7),.bool (f 8),.bool (f 9),.bool (f 10),.bool (f 11)] 78)):=by
 have a:=h.size;simp only[aa]at a;simp only[aa]at h;have h2:X (w.heap.size+1+1) ((w.alloc (aE b 31)).alloc (.cells #[.int .i64 sh,.slice s.A s.n s.c] 33)) ((w1.alloc (aE b 74)).alloc (.cells #[.int .i64 sh,.bool (f 0),.bool (f 1),.bool (f 2),.bool (f 3),.bool (f 4),.bool (f 5),.bool (f 6),.bool (f 7),.bool (f 8),.bool (f 9),.bool (f 10),.bool (f 11)] 78)):=(h.alloc a _).alloc (by rw[aa];omega) _;refine⟨?_,?_,?_,?_,?_⟩
 .refine(h2.block _ zz).tn ?_;exact(QR _ _ (by rw[aa];omega)).tn (Sp _ _)
 .rw[h2.cell (p:=⟨w.heap.size+1,1,I⟩) (by show w.heap.size+1<_;omega)];have:=Sp (w.alloc (aE b 31)) (.cells #[.int .i64 sh,.slice s.A s.n s.c] 33);rw[aa]at this;rw[H.cell?,this];rfl
 .exact(QR _ _ (by rw[aa];omega)).tn (Sp _ _)
 .have:=bA.new (w1.alloc (aE b 74)) 78 sh f;rw[aa]at this;exact this
 .exact(((X.refl _ _).alloc (dj _) _).alloc (by rw[aa];omega) _).tn (h2.mono zz)
theorem Bq(b:aC)(l:bN)(sh:Int)(s:Sl)(d:List Int)(w:H)(b2:aI w b l)(a':aD w)(a0:aN w s d)(T:ay b l=0)(J:cN b.S sh d=0):
  PH F 8 #[b.v,aF sh s] w (wN (decide (min (max sh b.lo) b.hi=sh)&&nG (lJ (eM d) l.C) (eM d)&&decide ((d.length:Int)<=b.D)&&oI b.S b.L sh (eM d) l.U l.W,0) w):=by
 have a4:=Hm b2;have c5:=Hm a';have K:=Hm a0;clear b2 a' a0;have u:∀a,aI a b l->aD a->aN a s d->PH F 32 #[b.v,aF sh s] a λe w'=>e=.returned (.tuple #[b.v,gN sh (eM d),.int .i64 0])/\X a a w':=λa h1 h2 Q=>
  (sO b l sh s d a h1 h2 Q).mono λe w' d4=>by
   obtain⟨p1,p2⟩:=d4;rw[dE T,dE J,J]at p1;exact⟨p1,p2⟩
 have hk:=bP T;obtain⟨t1,t2,t3,t4,t5,t6,t7,t8,t9,e1,b8⟩:=cS hk.1;obtain⟨v1,v2,v3⟩:=tM J;have y:=λa (P:aN a b.C l.C)=>FX b t2 (eM d) l.C (wM b8) a P;have x:=λa (P:bp a b.U l.U) (Q:fL a b.W l.W)=>Ao b t1 t2 t5 t6 sh v1 v2 (eM d) l.U (λk S=>kP hk.2.2.1 k S) l.W (λk S=>Gb hk.2.2.2.2 k S) a P Q;have b1:=K.out.1;have d7:s.n<=1000:=by have:=K.out.2.2.1;omega
 rw[<- b1];clear b1;generalize oI b.S b.L sh (eM d) l.U l.W=R at x|-;generalize lJ (eM d) l.C=f' at y|-;generalize eM d=f at y x u|-;clear T J hk b8 v3;unfold aC.v at u y x|-;unfold aF at u|-;unfold gN at u x;unfold tJ at y;go_enter Tryz.func8,Tryz.ntmps8;go_wp2_with (go_at_call 32;refine(u _ (aq (aq a4.out _) _) (ai (ai c5.out _) _) (aZ (aZ K.out _) _)).mono ?_;rintro e a ⟨rfl,B⟩;obtain⟨c',d2⟩:=aU B;have B1:=cB B;have b6:w.heap.size+1<a.heap.size:=(by have:=B.size;simp only[aa]at this;omega);have b7:w.heap.size<a.heap.size:=zz);obtain⟨o,z,r,j,A⟩:=Dr (b:=b) (s:=s) (sh:=sh) (f:=f) B;simp only[aE]at o z r j A;clear c' d2 B;generalize(a.alloc (.cells #[.int .i64 b.S,.int .i64 b.D,.int .i64 b.L,.int .i64 b.lo,.int .i64 b.hi,.slice b.C.A b.C.n b.C.c,.int .i64 b.rf,.int .i64 b.rh,.int .i64 b.cf,.int .i64 b.ch,.slice b.U.A b.U.n b.U.c,.slice b.E.A b.E.n b.E.c,.slice b.W.A b.W.n b.W.c] 74)).alloc (.cells #[.int .i64 sh,.bool (f 0),.bool (f 1),.bool (f 2),.bool (f 3),.bool (f 4),.bool (f 5),.bool (f 6),.bool (f 7),.bool (f 8),.bool (f 9),.bool (f 10),.bool (f 11)] 78)=W at o z r j A|-;generalize a.heap.size=g at o z r j A b6 b7|-;obtain⟨x0,x1,x2,x3,x4,x5,x6,x7,x8,x9,b',b0,c1⟩:=aM o;obtain⟨z0,z1,z2,z3,z4,z5,z6,z7,z8,z9,a1,a2,a3⟩:=aM r;obtain⟨y0,y1,y2,y3,y4,y5,y6,y7,y8,y9,c2,c3,c4⟩:=j.all;have i:=r.lt;have V:=j.lt;have Z:(w:Nat)<W:=zz;have l4:(w:Nat)+1<W:=zz;have b4:=j.range;have d':=Tryz.underlying76;have d9:(F.info? 76).map (·.size)=Y 12:=by kernel_rfl
 have a6:=Hm o;have c6:=Hm z;have c8:=Hm j;have c9:=Hm r;have c7:PQ ((w:Nat)+1<W):=l4;have a7:=Hm A;have L:=Hm (a4.out.below A);have a5:PQ (∀w',X W W w'->w' (w.heap.size,3)=Y (.int .i64 b.lo)/\w' (w.heap.size,4)=Y (.int .i64 b.hi)/\w' (g,0)=Y (.int .i64 b.S)/\w' (g,1)=Y (.int .i64 b.D)/\w' (g,2)=Y (.int .i64 b.L)/\w' (g,3)=Y (.int .i64 b.lo)/\w' (g,4)=Y (.int .i64 b.hi)/\w' (g,5)=Y (.slice b.C.A b.C.n b.C.c)/\w' (g,6)=Y (.int .i64 b.rf)/\w' (g,7)=Y (.int .i64 b.rh)/\w' (g,8)=Y (.int .i64 b.cf)/\w' (g,9)=Y (.int .i64 b.ch)/\w' (g,10)=Y (.slice b.U.A b.U.n b.U.c)/\w' (g,11)=Y (.slice b.E.A b.E.n b.E.c)/\w' (g,12)=Y (.slice b.W.A b.W.n b.W.c)/\w' (g+1,0)=Y (.int .i64 sh)/\w'.rangeAt (g+1) 1 [.bool (f 0),.bool (f 1),.bool (f 2),.bool (f 3),.bool (f 4),.bool (f 5),.bool (f 6),.bool (f 7),.bool (f 8),.bool (f 9),.bool (f 10),.bool (f 11)]/\X W W w'):=λw' c=>⟨(c.cell (p:=⟨_,_,I⟩) Z).tn x3,(c.cell (p:=⟨_,_,I⟩) Z).tn x4,(c.cell (p:=⟨_,_,I⟩) i).tn z0,(c.cell (p:=⟨_,_,I⟩) i).tn z1,(c.cell (p:=⟨_,_,I⟩) i).tn z2,(c.cell (p:=⟨_,_,I⟩) i).tn z3,(c.cell (p:=⟨_,_,I⟩) i).tn z4,(c.cell (p:=⟨_,_,I⟩) i).tn z5,(c.cell (p:=⟨_,_,I⟩) i).tn z6,(c.cell (p:=⟨_,_,I⟩) i).tn z7,(c.cell (p:=⟨_,_,I⟩) i).tn z8,(c.cell (p:=⟨_,_,I⟩) i).tn z9,(c.cell (p:=⟨_,_,I⟩) i).tn a1,(c.cell (p:=⟨_,_,I⟩) i).tn a2,(c.cell (p:=⟨_,_,I⟩) i).tn a3,(c.cell (p:=⟨_,_,I⟩) V).tn y0,Dq b4 c V,c⟩;clear o z r j A b4 Z l4 b6 b7 x0 x1 x2 x3 x4 x5 x6 x7 x8 x9 b' b0 c1 y0 y1 y2 y3 y4 y5 y6 y7 y8 y9 c2 c3 c4 z0 z1 z2 z3 z4 z5 z6 z7 z8 z9 a1 a2 a3;go_cut [9] (λs9 b9=>∃O,s9=.pointer (Y ⟨O,0,I⟩)/\X W.heap.size W b9/\bA b9 O 78 (min (max sh b.lo) b.hi) f')
 case first=>
  rcases(show sh<b.lo\/(b.lo<=sh/\sh<=b.hi)\/(b.lo<=sh/\b.hi<sh)from zz)with v|⟨v,d3⟩|⟨v,d3⟩
  .exact pf
  .have ø:=0;exact pf
  .have å:=0;exact pf
 case rest=>
  obtain⟨O,rfl,n,U⟩:=hcut;obtain⟨m,v⟩:∃m,min (max sh b.lo) b.hi=m:=⟨_,rfl⟩;rw[v]at U;have N:=Hm v;clear v;have d0:=n.size;have o:aK wc w 31 b:=(n.block _ a6.out.lt).tn a6.out;have b5:aK wc g 74 b:=(n.block _ i).tn c9.out;have j:=c8.out.below n V;have z:wc (w.heap.size+1,1)=Y (.slice s.A s.n s.c):=(n.cell (p:=⟨w.heap.size+1,1,I⟩) c7.out).tn c6.out;have a9:=λw=>aa2 m sh f' f w;have a8:=λw=>aa1 f' f w;unfold gN at a9;unfold tJ at a8;obtain⟨x0,x1,x2,x3,x4,x5,x6,x7,x8,x9,b',b0,c1⟩:=aM o;obtain⟨z0,z1,z2,z3,z4,z5,z6,z7,z8,z9,a1,a2,a3⟩:=aM b5;obtain⟨y0,y1,y2,y3,y4,y5,y6,y7,y8,y9,c2,c3,c4⟩:=j.all;obtain⟨u0,u1,u2,u3,u4,u5,u6,u7,u8,u9,e2,e3,e4⟩:=U.all;have G:=Hm (a7.out.tn (n.mono a7.out.size));have d5:=x wc (L.out.U.below n) (L.out.W.below n);clear n U o b5 j a5 y u x;obtain⟨E,t⟩:∃E,(decide (m=sh)&&nG f' f)=E:=⟨_,rfl⟩;have q:=Hm t;simp only[t]at a9;cases E
  .clear t;go_wp2;go_ret2;exact⟨uL (by rw[N.out,q.out];rfl),G.out⟩
  .have b3:nG f' f=true:=by simp only[ed]at t;exact t.2
   simp only[b3]at a8;clear t b3;by_cases d1:(s.n:Int)<=b.D
   .go_wp2_with (go_at_call 40;refine d5.mono ?_;rintro e v1 ⟨rfl,C⟩);go_ret2;exact⟨uL (by rw[N.out,q.out];simp[d1]),G.out.tn (C.mono G.out.size)⟩
   .go_wp2;go_ret2;exact⟨uL (by rw[N.out,q.out];simp;intro h;omega),G.out⟩
def I6(rf rh ch:Int)(e:Int×Int)(a:Int):Int:=e.1*(rh-e.2)+(a*rf-e.1)*(ch-e.2)
def nJ(rf rh ch:Int)(e:Int×Int)(a:Int):Int:=max (I6 rf rh ch e a) (-I6 rf rh ch e a)
def sR{x y A B:Int}(d: -A<=x/\x<=A)(e: -B<=y/\y<=B)(b:0<=A): -(A*B)<=x*y/\x*y<=A*B:=by
 have hB:0<=B:=zz;have a:x.natAbs*y.natAbs<=A.natAbs*B.natAbs:=Nat.mul_le_mul zz zz;have h2:(x*y).natAbs<=(A*B).natAbs:=by rw[Int.natAbs_mul,Int.natAbs_mul];exact a
 have c:0<=A*B:=Int.mul_nonneg b hB;omega
def WB{k:IntKind}{a b c d:Int}(h:a=c)(e:b=d):Ending.returned (.tuple #[.int k a,.int k b])=.returned (.tuple #[.int k c,.int k d]):=by rw[h,e]
theorem Dt(b:aC)(o:2<=b.rf)(q:b.rf<=30)(r:2<=b.rh)(s:b.rh<=60)(t:1<=b.ch)(u:b.ch<=60)(h:Nat)(a:Int)(s1: -1<=a)(s2:a<=1)(E:List (Int×Int))(z:h<E.length)
  (k: -30<=(E.getD h (0,0)).1)(l:(E.getD h (0,0)).1<=30)(m:0<=(E.getD h (0,0)).2)(n:(E.getD h (0,0)).2<=60)(w:H)(C:bp w b.E E):
  PH F 67 #[b.v,.int .i64 h,.int .i64 a] w λe w'=>e=.returned (.tuple #[.int .i64 (nJ b.rf b.rh b.ch (E.getD h (0,0)) a),.int .i64 (b.rh-(E.getD h (0,0)).2)])/\X w w w':=by
 obtain⟨S,D,L,lo,hi,⟨G,K,J⟩,rf,rh,cf,ch,⟨Q,T,R⟩,⟨N,P,O⟩,⟨U,W,V⟩⟩:=b;obtain⟨j,v,a2,c⟩:=C;simp only[aC.v]at j v c o q r s t u|-;subst j;obtain⟨d,off,rfl,a1,i⟩:=c zz;obtain⟨f,g⟩:=i h z;clear i c;generalize E.getD h (0,0)=p at k l m n f g|-;obtain⟨x,y⟩:=p;simp only at k l m n f g;have e1:d<w.heap.size+1:=zz;have Z:d<w.heap.size+2:=zz;obtain⟨m1,m2⟩:=sR (x:=x) (y:=rh-y) (A:=30) (B:=60) zz zz zz;obtain⟨m3,m4⟩:=sR (x:=a) (y:=rf) (A:=1) (B:=30) zz zz zz;obtain⟨m5,m6⟩:=sR (x:=a*rf-x) (y:=ch-y) (A:=60) (B:=60) zz zz zz;go_enter Tryz.func67,Tryz.ntmps67;go_wp2;all_goals go_ret2
 all_goals refine⟨WB ?_ rfl,by exact bt⟩
 all_goals simp only[nJ,I6]
 all_goals omega
def jC(b:aC)(e:Int×Int)(a:Int):Bool:=decide (b.cf*(b.rh-e.2)<nJ b.rf b.rh b.ch e a)
def Br{rf rh ch x y side:Int}(a:2<=rf)(b:rf<=30)(c:2<=rh)(d:rh<=60)(e:1<=ch)(f:ch<=60)(p: -1<=side)(s2:side<=1)(l: -30<=x)(m:x<=30)(n:0<=y)(o:y<=60):0<=nJ rf rh ch (x,y) side/\nJ rf rh ch (x,y) side<=6000:=by
 obtain⟨g,m2⟩:=sR (x:=x) (y:=rh-y) (A:=30) (B:=60) zz zz zz;obtain⟨h,i⟩:=sR (x:=side) (y:=rf) (A:=1) (B:=30) zz zz zz;obtain⟨j,k⟩:=sR (x:=side*rf-x) (y:=ch-y) (A:=60) (B:=60) zz zz zz;simp only[nJ,I6];omega
theorem N7(b:aC)(l:2<=b.rf)(m:b.rf<=30)(o:2<=b.rh)(p:b.rh<=60)(q:1<=b.ch)(r:b.ch<=60)(z:0<=b.cf)(C:b.cf<=30)(h:Nat)(a:Int)(v: -1<=a)(s2:a<=1)(E:List (Int×Int))(t:h<E.length)
  (g: -30<=(E.getD h (0,0)).1)(i:(E.getD h (0,0)).1<=30)(j:0<=(E.getD h (0,0)).2)(k:(E.getD h (0,0)).2<=60)(w:H)(u:bp w b.E E):
  PH F 66 #[b.v,.int .i64 h,.int .i64 a] w λe w'=>e=.returned (.bool (jC b (E.getD h (0,0)) a))/\X w w w':=by
 have c:=Dt b l m o p q r h a v s2 E t g i j k (w.alloc (aE b 74)) (u.below ((X.refl _ _).alloc (dj _) _));clear u t;have d:PQ (jC b (E.getD h (0,0)) a=decide (b.cf*(b.rh-(E.getD h (0,0)).2)<nJ b.rf b.rh b.ch (E.getD h (0,0)) a)):=rfl;have f:=Br l m o p q r v s2 g i j k;have e0:((E.getD h (0,0)).1,(E.getD h (0,0)).2)=E.getD h (0,0):=rfl;rw[e0]at f;clear e0;generalize nJ b.rf b.rh b.ch (E.getD h (0,0)) a=n at c f d;generalize(E.getD h (0,0)).2=y at c d j k;obtain⟨n1,L⟩:=f;obtain⟨K,m2⟩:=sR (x:=b.cf) (y:=b.rh-y) (A:=30) (B:=60) zz zz zz;clear g i;unfold aC.v at c|-;unfold aE at c;go_enter Tryz.func66,Tryz.ntmps66;go_wp2_with (go_at_call 67;refine c.mono ?_;rintro e N ⟨rfl,s⟩;obtain⟨G,J⟩:=aU s);go_ret;exact⟨bR d.out.symm,aY s⟩
variable{rf ch:Int}
def N8:∀{l:List (Int×Int)},nF rf ch l=0->∀p∈l,1-rf<=p.1/\p.1<=rf-1/\0<=p.2/\p.2<=60/\p.2<ch
 | [],_=>λp d=>by simp at d
 | (a,h)::r,b=>by
  simp only[nF]at b;by_cases c:(ax a (1-rf) (rf-1)&&ax h 0 60)=false
  .rw[dE c]at b;omega
  .rw[cd c]at b;by_cases h2:ch<=h
   .rw[dE h2]at b;omega
   .rw[cd h2]at b;intro p d;rcases fc.1 d with rfl|d
    .simp only[Bool.and_eq_false_iff,not_or,Bool.not_eq_false]at c;have e1:=cq.1 c.1;have e:=cq.1 c.2;exact⟨e1.1,e1.2,e.1,e.2,by show h<ch;omega⟩
    .exact N8 b p d
def qY{l:List (Int×Int)}(h:fT rf ch l=0)(k:Nat)(hk:k<l.length):1-rf<=(l.getD k (0,0)).1/\(l.getD k (0,0)).1<=rf-1/\0<=(l.getD k (0,0)).2/\(l.getD k (0,0)).2<=60/\(l.getD k (0,0)).2<ch:=by
 unfold fT at h;split at h
 .omega
 .exact N8 h _ (by simp[List.getD,fg hk])
def sv(b:aC)(l:bN)(a:Int):Bool×Bool×Int:=
 if ay b l≠0 then(false,false,ay b l)else if ax a 0 (l.E.length-1)=false then(false,false,6)else(jC b (l.E.getD a.toNat (0,0)) (-1),jC b (l.E.getD a.toNat (0,0)) 1,0)
def Lh(p:Bool×Bool×Int)(w:H)(e:Ending)(w':H):Prop:=e=.returned (.tuple #[.bool p.1,.bool p.2.1,.int .i64 p.2.2])/\X w w w'
def di{w w':H}{o:Obj}(h:X (w.alloc o).heap.size (w.alloc o) w'):X w w w':=aY h
theorem Au(b:aC)(l:bN)(eye:Int)(w:H)(a3:aI w b l)(b0:aD w)(t:ay b l=0:=by kernel_rfl)(hf:ax eye 0 (b.E.n-1)=true:=by kernel_rfl):
  PH F 27 #[b.v,.int .i64 eye] w (Lh (sv b l eye) w):=by
 have æ:=0;exact ta
def vY(b:aC)(e:Int×Int)(a:Int):Int:=(nJ b.rf b.rh b.ch e a+(b.rh-e.2)-1)/(b.rh-e.2)
def qG(b:aC):Int->List (Int×Int)->Int
 | uB,[]=>uB
 | uB,e::r=>qG b (max (max uB (vY b e (-1))) (vY b e 1)) r
def H8(b:aC)(uB:Int)(l:List (Int×Int))(k:Nat)(hk:k<l.length):qG b uB (l.drop k)=qG b (max (max uB (vY b (l.getD k (0,0)) (-1))) (vY b (l.getD k (0,0)) 1)) (l.drop (k+1)):=xbq
def ve(b:aC)(l:bN):Int×Int:=if ay b l≠0 then(0,ay b l)else(qG b 0 l.E,0)
def Tl(p:Int×Int)(w:H)(e:Ending)(w':H):Prop:=e=.returned (.tuple #[.int .i64 p.1,.int .i64 p.2])/\X w w w'
def int_eq{k:IntKind}{a b:Int}(h:a=b):M.int k a=.int k b:=by rw[h]
def ZD(a b c:Int)(j:Nat):Int:=if j=0 then a else if j=1 then b else c
theorem Ia(b:aC)(l:bN)(w:H)(a3:aI w b l)(b0:aD w)(t:ay b l=0:=by kernel_rfl):
  PH F 29 #[b.v] w (Tl (ve b l) w):=by
 have ë:=0;exact ta
variable{e size n:Nat}{v:M}{xs:List M}
def Ve(b:aC)(e:Int×Int):Bool:=jC b e (-1)||jC b e 1
def JC(b:aC)(E:List (Int×Int))(st:List Int×Int)(k:Nat):List Int×Int:=
 if Ve b (E.getD k (0,0))=true then(st.1++[(k:Int)],if st.2<0\/(E.getD k (0,0)).2<(E.getD st.2.toNat (0,0)).2 then(k:Int)else st.2)else st
def kL(b:aC)(E:List (Int×Int))(k:Nat):List Int×Int:=(List.range k).foldl (JC b E) ([], -1)
def AT(b:aC)(E:List (Int×Int))(k:Nat):kL b E (k+1)=JC b E (kL b E k) k:=by simp[kL,List.range_succ]
def JD(b:aC)(E:List (Int×Int)):∀k,(kL b E k).1.length<=k/\ -1<=(kL b E k).2/\(kL b E k).2<k
 | 0=>by simp[kL]
 | k+1=>by
  have a:=JD b E k;rw[AT,JC];split
  .refine⟨by simp;omega,?_,?_⟩<;>(dsimp only;split<;>omega)
  .omega
theorem rK{w w':H}(h:w.ownsRow B e size v n xs)(i:X w w w'):w'.ownsRow B e size v n xs:=by
 refine⟨h.1,h.2.imp id ?_⟩;rintro⟨g,b,c,d,h2,a,f⟩;exact⟨g,b,c,d,h2,(i.block g (du.1 a).1).tn a,f⟩
def vf(h:w.ownsRow B e size v n xs)(k:Nat):(w.drewN k).ownsRow B e size v n xs:=h
theorem Xm{w2 w3:H}{o:Obj}{g i:Nat}(b:(w2.alloc o).grownBy w3 v.ownBlock)(a:g<w2)(c:v.ownBlock≠Y g):w3 (g,i)=w2 (g,i):=
 H.cell?_of_block ((b.block g (by rw[aa];omega) (λe=>c e.symm)).tn (QR _ _ a))
def PU(h:w.ownsRow B e size v n xs)(d:g<B):v.ownBlock≠Y g:=by
 rcases h.2 with⟨rfl,-⟩|⟨b,a,c,rfl,h2,-⟩
 .simp[M.ownBlock]
 .simp[M.ownBlock];omega
def Xn(h:w.ownsRow B e size v n xs)(d:w.heap.size<=g):v.ownBlock≠Y g:=by
 rcases h.2 with⟨rfl,-⟩|⟨b,a,c,rfl, -, h2,-⟩
 .simp[M.ownBlock]
 .have:=(du.1 h2).1;simp[M.ownBlock];omega
def AU(b:aC)(l:bN):List Int×Int×Int:=if ay b l≠0 then([],0,ay b l)else((kL b l.E l.E.length).1,(kL b l.E l.E.length).2,0)
def EN(p:List Int×Int×Int)(w:H)(e:Ending)(w':H):Prop:=
 ∃A c,e=.returned (.tuple #[.slice A p.1.length c,.int .i64 p.2.1,.int .i64 p.2.2])/\w'.ownsRow w.heap.size 3 1 (.slice A p.1.length c) p.1.length (p.1.map (M.int .i64))/\X w w w'
theorem MG(b:aC)(l:bN)(w:H)(a3:aI w b l)(b0:aD w)(t:ay b l=0:=by kernel_rfl):
  PH F 28 #[b.v] w (EN (AU b l) w):=by
 have ø:=0;exact ta
theorem pE(b:aC)(l:bN)(sh:Int)(s:Sl)(d:List Int)(w:H)(o:aI w b l)(u:aD w)(v:aN w s d):
  PH F 8 #[b.v,aF sh s] w (wN (dI b l sh d) w):=by
 have ø:=0;exact pk
end Go.Proofs.YtimmnfbjckbneaaGreatDoor
