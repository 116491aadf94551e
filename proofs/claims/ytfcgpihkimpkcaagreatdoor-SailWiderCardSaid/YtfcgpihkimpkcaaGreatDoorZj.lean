import Derived.BigQuiet
import Derived.IntWalk
import Derived.Deep.RegionHeld3
import Derived.DeepKeys
import Derived.Deep.DeepCutAuto
import Derived.Deep.QuietTactic
import Derived.Test.YtfcgpihkimpkcaaGreatDoorZi
set_option maxRecDepth 100000
set_option maxHeartbeats 4000000
set_option linter.all false
noncomputable section
open Go.Proofs.Tryz renaming prog->F
open Go renaming World->H,TypeId->Lk,Value->M,Calls->PH,heap_alloc_old->QR,heap_alloc_new->Sp,bodyPost_ret->bd
open Go.RowKit renaming Below->Hd,Hid->PQ,Below->X
open Go.Lib renaming hid->Hm
open Option renaming none->I,some->Y
namespace Go
def pf{p:Prop}(h:p:=by
 first|have _:=ø;have q:PQ (min (max sh b.lo) b.hi=sh):=by show _=_;omega|have _:=å;have q:PQ (min (max sh b.lo) b.hi=b.hi):=by show _=_;omega|have q:PQ (min (max sh b.lo) b.hi=b.lo):=by show _=_;omega
 go_region_held3 (λw'=>w'.cell? ⟨w.heap.size,3,I⟩=Y (.int .i64 b.lo)/\w'.cell? ⟨w.heap.size,4,I⟩=Y (.int .i64 b.hi)/\w'.cell? ⟨g,0,I⟩=Y (.int .i64 b.S)/\w'.cell? ⟨g,1,I⟩=Y (.int .i64 b.D)/\w'.cell? ⟨g,2,I⟩=Y (.int .i64 b.L)/\w'.cell? ⟨g,3,I⟩=Y (.int .i64 b.lo)/\w'.cell? ⟨g,4,I⟩=Y (.int .i64 b.hi)/\w'.cell? ⟨g,5,I⟩=Y (.slice b.C.A b.C.n b.C.c)/\w'.cell? ⟨g,6,I⟩=Y (.int .i64 b.rf)/\w'.cell? ⟨g,7,I⟩=Y (.int .i64 b.rh)/\w'.cell? ⟨g,8,I⟩=Y (.int .i64 b.cf)/\w'.cell? ⟨g,9,I⟩=Y (.int .i64 b.ch)/\w'.cell? ⟨g,10,I⟩=Y (.slice b.U.A b.U.n b.U.c)/\w'.cell? ⟨g,11,I⟩=Y (.slice b.E.A b.E.n b.E.c)/\w'.cell? ⟨g,12,I⟩=Y (.slice b.W.A b.W.n b.W.c)/\w'.cell? ⟨g+1,0,I⟩=Y (.int .i64 sh)/\w'.rangeAt (g+1) 1 [.bool (f 0),.bool (f 1),.bool (f 2),.bool (f 3),.bool (f 4),.bool (f 5),.bool (f 6),.bool (f 7),.bool (f 8),.bool (f 9),.bool (f 10),.bool (f 11)]/\X W.heap.size W w') (exact a5.out _ bf) (first|(go_at_call 50;refine(y _ (L.out.C.below bf)).mono ?_;rintro e v1 ⟨rfl,C⟩;obtain⟨d6,d8⟩:=aU C;have k2:X W.heap.size W v1:=X.tn bf (C.mono (by first|(simp only[H.size_drew,aa];omega)|(have:=(by with_reducible assumption:X W.heap.size W _).size;omega)))));all_goals go_wp2_with fail
 all_goals go_meet
 all_goals rw[q.out]
 all_goals first|with_reducible exact Wx _ _ k2|with_reducible exact Wy _ _ C k2):p:=h
def po{p:Prop}(h:p:=by
 first
 |have _:=ø
  skip;have c:PQ (dZ b l=7):=(by show _=_;rw[f.out,cZ,dE ⟨o,q,m,n⟩,dE K])
 |have _:=å
  skip;have c:PQ (dZ b l=0):=(by show _=_;rw[f.out,cZ,dE ⟨o,q,m,n⟩,cd K])
 |have _:=æ
  have a2:(bS b.S I l != 0)=true:=by simpa using j
  have c:PQ (dZ b l=bS b.S I l):=(by show _=_;rw[dZ,a.out,dE j])
 |have _:=ë
  have o:=B;have c:PQ (dZ b l=1):=(by show _=_;rw[f.out,cZ,cd (by simp[o])])
 |have _:=ï
  have q:=C;have c:PQ (dZ b l=1):=(by show _=_;rw[f.out,cZ,cd (by simp[q])])
 |have _:=ö
  have m:=z;have c:PQ (dZ b l=1):=(by show _=_;rw[f.out,cZ,cd (by simp[m])])
 |have _:=ü
  have n:=A;have c:PQ (dZ b l=1):=(by show _=_;rw[f.out,cZ,cd (by simp[n])])
 |have _:=þ
  have k:=x;have c:PQ (dZ b l=1):=(by show _=_;have a:cA b l=1:=(by rw[cA,cd (by simp[k])]);rw[dZ,a];rfl)
 |have _:=ð
  have s:=t;have c:PQ (dZ b l=1):=(by show _=_;have a:cA b l=1:=(by rw[cA,cd (by simp[s])]);rw[dZ,a];rfl)
 |have _:=ñ
  have u:=v;have c:PQ (dZ b l=1):=(by show _=_;have a:cA b l=1:=(by rw[cA,cd (by simp[u])]);rw[dZ,a];rfl)
 |have _:=ç
  have hB:=r;have c:PQ (dZ b l=1):=(by show _=_;have a:cA b l=1:=(by rw[cA,cd (by simp[hB])]);rw[dZ,a];rfl)
 |skip
  have c:PQ (dZ b l=1):=(by show _=_;have a:cA b l=1:=(by rw[cA,cd zz]);rw[dZ,a];rfl)
 unfold aC.v at|-;go_enter Tryz.func53,Tryz.ntmps53;first|have _:=ê;(go_wp2_with (first|(go_at_call 23;refine(bz _ _ _ _).mono ?_;rintro e w' ⟨rfl,rfl⟩)|(go_at_call 95;refine(eZ _ _ _ _ _).mono ?_;rintro e g ⟨rfl,d⟩;obtain⟨P,Q⟩:=aU d;have E:=d.size;have S:w.heap.size<g.heap.size:=(by simp only[aa]at E;omega);have i:=aY d)))|(go_wp2_with (first|(go_at_call 23;refine(bz _ _ _ _).mono ?_;rintro e w' ⟨rfl,rfl⟩)|(go_at_call 95;refine(eZ _ _ _ _ _).mono ?_;rintro e g ⟨rfl,d⟩;obtain⟨P,Q⟩:=aU d;have E:=d.size;have S:w.heap.size<g.heap.size:=(by simp only[aa]at E;omega);have i:=aY d)|(go_at_call 24;refine(G zz zz _ (N.out.below i)).mono ?_;rintro e R ⟨rfl,y⟩;obtain⟨a3,a4⟩:=aU y;have L:=i.tn (y.mono i.size);have z2:=y.size;have z4:w.heap.size<R.heap.size:=zz)))
 all_goals go_ret
 all_goals exact⟨aW c.out.symm,by first|with_reducible assumption|(with_reducible exact L)|(with_reducible exact i)|exact bt⟩):p:=h
def ZN{p:Prop}(h:p:=by
 first
 |have _:=ø
  have u:=Hm j;have v:=Hm o;clear j o;have n:=λa (z:aI a b l) (h2:aD a)=>cG b l a z h2;have q:PQ (sv b l d=(false,false,ay b l)):=by
   unfold sv;rw[dE (by simpa using k)];exact rfl
  have a9:(ay b l != 0)=true:=by simpa using k
  clear k;unfold aC.v at n|-
 |have _:=å
  have u:=Hm j;have v:=Hm o;have A:=j.E.1;have B:=j.E.2.2.1;clear j o;have n:=λa (z:aI a b l) (h2:aD a)=>cG b l a z h2;simp only[k]at n;have s:=λa=>KW b d zz a;have q:PQ (sv b l d=(false,false,6)):=by
   unfold sv;rw[cd (by simp[k]),<- A,dE hf];exact rfl
  simp only[hf]at s;clear k hf A B;unfold aC.v at n s|-
 |obtain⟨f1,f2⟩:=cq.1 hf
  obtain⟨h,rfl⟩:∃h:Nat,d=(h:Int):=⟨d.toNat,zz⟩;have a3:h<l.E.length:=zz;obtain⟨q1,q2,q3,q4,q5⟩:=qY hk.2.2.2.1 h a3;obtain⟨T,U,V,W,Z,c6,c7,c8,c9⟩:=wL hk.2.1;have J:=λ(P:Int) (s1: -1<=P) (s2:P<=1) a (h0:bp a b.E l.E)=>N7 b T U V W c7 c8 Z zz h P s1 s2 l.E a3 zz zz q3 q4 a h0;have q:PQ (sv b l h=(jC b (l.E.getD h (0,0)) (-1),jC b (l.E.getD h (0,0)) 1,0)):=by
   unfold sv;rw[cd (by simp[k]),<- A,cd (by simp[hf])];exact rfl
  have K:=J (-1) zz zz;have L:=J 1 zz zz;clear J;generalize jC b (l.E.getD h (0,0)) (-1)=x at K q;generalize jC b (l.E.getD h (0,0)) 1=y at L q;simp only[hf]at s;clear hk k hf f1 f2 q1 q2 q3 q4 q5 T U V W Z c6 c7 c8 c9 A B;unfold aC.v at n s K L|-
 go_enter Tryz.func16,Tryz.ntmps16
 first
 |have _:=å
  go_wp2_with (first|(go_at_call 13;refine(n _ (aq u.out _) (ai v.out _)).mono ?_;rintro e a ⟨rfl,m⟩;obtain⟨E,G⟩:=aU m;have t:=di m;have a8:w.heap.size<a.heap.size:=(by have:=m.size;simp only[aa]at this;omega))|(go_at_call 55;refine(s _).mono ?_;rintro e c ⟨rfl,r⟩;obtain⟨a1,a2⟩:=aU r));refine bd (results_tmp3 rfl _ _ _) rfl ?_;exact⟨by rw[q.out];rfl,t.tn ((aY r).mono t.size)⟩
 |have _:=ø
  go_wp2_with (go_at_call 13;refine(n _ (aq u.out _) (ai v.out _)).mono ?_;rintro e a ⟨rfl,m⟩;obtain⟨E,G⟩:=aU m);refine bd (results_tmp3 rfl _ _ _) rfl ?_;exact⟨by rw[q.out];rfl,di m⟩
 |go_wp2_with (first|(go_at_call 13;refine(n _ (aq u.out _) (ai v.out _)).mono ?_;rintro e a ⟨rfl,m⟩;obtain⟨E,G⟩:=aU m;have t:=di m;have a8:w.heap.size<a.heap.size:=(by have:=m.size;simp only[aa]at this;omega))|(go_at_call 55;refine(s _).mono ?_;rintro e c ⟨rfl,r⟩;obtain⟨a1,a2⟩:=aU r))
  have O:aK c a 82 b:=(r.block _ (by rw[aa];omega)).tn (Sp _ _);have C:X w w c:=t.tn ((aY r).mono t.size);have S:=Hm (u.out.below C);have R:=Hm C;have i:=O.lt;obtain⟨z0,z1,z2,z3,z4,z5,z6,z7,z8,z9,a4,a5,a6⟩:=aM O;clear E G a1 a2 m r C O t;generalize a.heap.size=g at*;have a7:PQ (∀w',X c c w'->w' (g,0)=Y (.int .i64 b.S)/\w' (g,1)=Y (.int .i64 b.D)/\w' (g,2)=Y (.int .i64 b.L)/\w' (g,3)=Y (.int .i64 b.lo)/\w' (g,4)=Y (.int .i64 b.hi)/\w' (g,5)=Y (.slice b.C.A b.C.n b.C.c)/\w' (g,6)=Y (.int .i64 b.rf)/\w' (g,7)=Y (.int .i64 b.rh)/\w' (g,8)=Y (.int .i64 b.cf)/\w' (g,9)=Y (.int .i64 b.ch)/\w' (g,10)=Y (.slice b.U.A b.U.n b.U.c)/\w' (g,11)=Y (.slice b.E.A b.E.n b.E.c)/\w' (g,12)=Y (.slice b.W.A b.W.n b.W.c)/\X c c w'):=λw' f=>⟨(f.cell (p:=⟨_,_,I⟩) i).tn z0,(f.cell (p:=⟨_,_,I⟩) i).tn z1,(f.cell (p:=⟨_,_,I⟩) i).tn z2,(f.cell (p:=⟨_,_,I⟩) i).tn z3,(f.cell (p:=⟨_,_,I⟩) i).tn z4,(f.cell (p:=⟨_,_,I⟩) i).tn z5,(f.cell (p:=⟨_,_,I⟩) i).tn z6,(f.cell (p:=⟨_,_,I⟩) i).tn z7,(f.cell (p:=⟨_,_,I⟩) i).tn z8,(f.cell (p:=⟨_,_,I⟩) i).tn z9,(f.cell (p:=⟨_,_,I⟩) i).tn a4,(f.cell (p:=⟨_,_,I⟩) i).tn a5,(f.cell (p:=⟨_,_,I⟩) i).tn a6,f⟩;clear z0 z1 z2 z3 z4 z5 z6 z7 z8 z9 a4 a5 a6;go_region_held3 (λw'=>w'.cell? ⟨g,0,I⟩=Y (.int .i64 b.S)/\w'.cell? ⟨g,1,I⟩=Y (.int .i64 b.D)/\w'.cell? ⟨g,2,I⟩=Y (.int .i64 b.L)/\w'.cell? ⟨g,3,I⟩=Y (.int .i64 b.lo)/\w'.cell? ⟨g,4,I⟩=Y (.int .i64 b.hi)/\w'.cell? ⟨g,5,I⟩=Y (.slice b.C.A b.C.n b.C.c)/\w'.cell? ⟨g,6,I⟩=Y (.int .i64 b.rf)/\w'.cell? ⟨g,7,I⟩=Y (.int .i64 b.rh)/\w'.cell? ⟨g,8,I⟩=Y (.int .i64 b.cf)/\w'.cell? ⟨g,9,I⟩=Y (.int .i64 b.ch)/\w'.cell? ⟨g,10,I⟩=Y (.slice b.U.A b.U.n b.U.c)/\w'.cell? ⟨g,11,I⟩=Y (.slice b.E.A b.E.n b.E.c)/\w'.cell? ⟨g,12,I⟩=Y (.slice b.W.A b.W.n b.W.c)/\X c.heap.size c w')
   (exact a7.out _ bf)
   (first
    | (go_at_call 56;(with_reducible refine(K _ (S.out.E.below bf)).mono ?_);rintro e Q ⟨rfl,N⟩;have k2:X c.heap.size c Q:=X.tn bf (N.mono (by first|(simp only[H.size_drew];omega)|exact(by with_reducible assumption:X c.heap.size c _).size)))
    | (go_at_call 56;(with_reducible refine(L _ (S.out.E.below bf)).mono ?_);rintro e Q ⟨rfl,N⟩;have k2:X c.heap.size c Q:=X.tn bf (N.mono (by first|(simp only[H.size_drew];omega)|exact(by with_reducible assumption:X c.heap.size c _).size))))
  all_goals go_wp2
  all_goals refine bd (results_tmp3 rfl _ _ _) rfl ?_
  all_goals exact⟨by rw[q.out];rfl,R.out.tn (k2.mono R.out.size)⟩):p:=h
def ZQ{p:Prop}(h:p:=by
 first|have _:=ø;skip|obtain⟨i0,hi,i5,g5,i6⟩:=info_parts vD
 have a7:=Hm a2;have d3:=Hm d8;have f4:=a2.E.1;have h7:=a2.E.2.2.1;clear a2 d8;have O:=λa (N:aI a b l) (h2:aD a)=>cG b l a N h2
 .have hk:=bP E;simp only[E]at O
  first
  |have _:=ø
   obtain⟨c1,c2,J,c4,c5,c6,c7,c8,c9⟩:=wL hk.2.1;have b7:=λ(h:Nat) (a1:h<l.E.length) (e7:Int) (s1: -1<=e7) (s2:e7<=1) a (V:bp a b.E l.E)=>Dt b c1 c2 J c4 c7 c8 h e7 s1 s2 l.E a1 (by have:=qY hk.2.2.2.1 h a1;omega) (by have:=qY hk.2.2.2.1 h a1;omega) (qY hk.2.2.2.1 h a1).2.2.1 (qY hk.2.2.2.1 h a1).2.2.2.1 a V;have g8:=Hm (qY hk.2.2.2.1);have c3:PQ (ve b l=(qG b 0 l.E,0)):=by
    unfold ve;rw[cd (by simp[E])];exact rfl
  |have a4:∀(k:Nat),k<b.E.n->∀a,aI a b l->aD a->PH F 16 #[b.v,.int .i64 k] a λe w'=>e=.returned (.tuple #[.bool (jC b (l.E.getD k (0,0)) (-1)),.bool (jC b (l.E.getD k (0,0)) 1),.int .i64 0])/\X a a w':=λk hk a N h2=>
    (Au b l k a N h2 E (by simp[ax];omega)).mono λe w' g1=>by
     have e1:sv b l k=(jC b (l.E.getD k (0,0)) (-1),jC b (l.E.getD k (0,0)) 1,0):=by
      unfold sv;rw[cd (by simp[E]),cd (by simp[ax];omega)];exact rfl
     rw[e1]at g1;exact g1
   have c3:PQ (AU b l=((kL b l.E l.E.length).1,(kL b l.E l.E.length).2,0)):=by
    unfold AU;rw[cd (by simp[E])];exact rfl
  have j4:b.E.n<=1000:=zz;first|have _:=ø;skip|have j3:b.E.n<=b.E.c:=by have:=a7.out.E.2.1;omega
  have a6:=Hm f4;clear E hk f4 h7;first|have _:=ø;unfold aC.v at O b7|-;go_enter Tryz.func20,Tryz.ntmps20;go_wp2_with (go_at_call 13;refine(O _ (aq a7.out _) (ai d3.out _)).mono ?_;rintro e a ⟨rfl,t⟩;obtain⟨f6,f8⟩:=aU t;have G:=di t;have g5:w.heap.size<a.heap.size:=(by have:=t.size;simp only[aa]at this;omega))|unfold aC.v at O a4|-;obtain⟨e8,d7⟩:∃e8,b.E.A=e8:=⟨_,rfl⟩;simp only[d7]at O a4|-;have e':=Hm d7;clear d7;go_enter Tryz.func18,Tryz.ntmps18;go_wp2_with (go_at_call 13;refine(O _ (aq a7.out _) (ai d3.out _)).mono ?_;rintro e a ⟨rfl,t⟩;obtain⟨f6,f8⟩:=aU t;have G:=di t;have g6:w.heap.size<a.heap.size:=(by have:=t.size;simp only[aa]at this;omega));have h3:PQ (aK a w 31 b):=(t.block _ (by rw[aa];omega)).tn ((Sp _ _).tn (by rw[aE,e'.out]))
  have S:=Hm (a7.out.below G);first|have _:=ø;go_loopw [22,2] (λi f wr=>∃(k:Nat) (uB:Int),k<=b.E.n/\i=.int .i64 k/\f=.int .i64 uB/\X a.heap.size a wr/\PQ (qG b 0 l.E=qG b uB (l.E.drop k))) (λi _ _=>b.E.n-(intOf i).toNat);case atStart=>exact⟨0,0,zz,rfl,rfl,by exact bt,rfl⟩|have f2:=Hm (d3.out.below G);clear f6 f8 t;go_loopw [2,3,19] (λv i7 i wr=>∃(k:Nat) (A:Option Addr) (a8:Nat),k<=b.E.n/\i=.int .i64 k/\v=.slice A (kL b l.E k).1.length a8/\i7=.int .i64 (kL b l.E k).2/\wr.ownsRow a.heap.size 3 1 v (kL b l.E k).1.length ((kL b l.E k).1.map (M.int .i64))/\X a.heap.size a wr) (λ_ _ i _=>b.E.n-(intOf i).toNat);case atStart=>exact⟨0,I,0,zz,rfl,rfl,rfl,H.ownsRow_nil _ _ _ _,by exact bt⟩
  case round=>
   first|have _:=ø;obtain⟨k,uB,hk,rfl,rfl,c,f0⟩:=hrel;have Q:=c.size|obtain⟨k,A,a8,hk,rfl,rfl,rfl,C,c⟩:=hrel;have Q:=c.size;have i4:(w:Nat)<wr:=zz;have f5:aK wr w 31 b:=(c.block _ g6).tn h3.out;obtain⟨x0,x1,x2,x3,x4,x5,x6,x7,x8,x9,k5,g7,k6⟩:=aM f5;clear f5;obtain⟨n1,n2,n3⟩:=JD b l.E k
   by_cases h0:k<b.E.n
   .have a3:k<l.E.length:=by have:=a6.out;omega
    first
    |have _:=ø
     have g:=Hm (H8 b uB l.E k a3);obtain⟨q1,q2,q3,q4,q5⟩:=g8.out k a3;have b8:=λa V=>b7 k a3 (-1) zz zz a V;have b9:=λa V=>b7 k a3 1 zz zz a V;clear b7;have b1:=Br (x:=(l.E.getD k (0,0)).1) (y:=(l.E.getD k (0,0)).2) c1 c2 J c4 c7 c8 (show -1<=(-1:Int) by omega) zz zz zz q3 q4;have b2:=Br (x:=(l.E.getD k (0,0)).1) (y:=(l.E.getD k (0,0)).2) c1 c2 J c4 c7 c8 (show -1<=(1:Int) by omega) zz zz zz q3 q4;have e0:((l.E.getD k (0,0)).1,(l.E.getD k (0,0)).2)=l.E.getD k (0,0):=rfl;rw[e0]at b1 b2;have T:PQ (vY b (l.E.getD k (0,0)) (-1)=(nJ b.rf b.rh b.ch (l.E.getD k (0,0)) (-1)+(b.rh-(l.E.getD k (0,0)).2)-1)/(b.rh-(l.E.getD k (0,0)).2)):=rfl;have U:PQ (vY b (l.E.getD k (0,0)) 1=(nJ b.rf b.rh b.ch (l.E.getD k (0,0)) 1+(b.rh-(l.E.getD k (0,0)).2)-1)/(b.rh-(l.E.getD k (0,0)).2)):=rfl;clear e0 q1 q2;generalize nJ b.rf b.rh b.ch (l.E.getD k (0,0)) (-1)=i8 at b8 b1 T;generalize nJ b.rf b.rh b.ch (l.E.getD k (0,0)) 1=i9 at b9 b2 U;generalize vY b (l.E.getD k (0,0)) (-1)=r at g T;generalize vY b (l.E.getD k (0,0)) 1=R at g U;generalize(l.E.getD k (0,0)).2=y at b8 b9 T U q3 q4 q5;obtain⟨b3,b4⟩:=b1;obtain⟨b5,b6⟩:=b2;obtain⟨u,e2⟩:∃u:Int,b.rh-y=u:=⟨_,rfl⟩;have d1:1<=u:=zz;have d2:u<=100:=zz;simp only[e2]at b8 b9;have b0:=Hm e2;clear e2;have g0:PQ (r=(i8+u-1)/u):=by have:=T.out;rw[b0.out]at this;exact this
     have h1:PQ (R=(i9+u-1)/u):=by have:=U.out;rw[b0.out]at this;exact this
     clear T U b0;obtain⟨W,h8⟩:∃W,W=wr:=⟨_,rfl⟩;subst h8;go_wp2;go_loopw [27,2] (λj f w2=>∃n:Nat,n<=2/\j=.int .i64 n/\f=.int .i64 (ZD uB (max uB r) (max (max uB r) R) n)/\X (W.heap.size+1) (W.alloc (.cells #[.int .i64 (-1),.int .i64 1] 3)) w2) (λj _ _=>2-(intOf j).toNat)
     case atStart=>exact⟨0,zz,rfl,rfl,by exact bt⟩
     (case round=>
       obtain⟨n,k3,rfl,rfl,P⟩:=hrel;have B3:=bT P;have e5:(W:Nat)+1<=wr:=by have:=P.size;rw[aa]at this;exact this
       have h4:wr (W.heap.size,0)=Y (.int .i64 (-1))/\wr (W.heap.size,1)=Y (.int .i64 1):=by
        have N:=Sp W (.cells #[.int .i64 (-1),.int .i64 1] 3);exact⟨(P.cell (p:=⟨W.heap.size,0,I⟩) (by show W.heap.size<_;omega)).tn (by rw[H.cell?,N];rfl),(P.cell (p:=⟨W.heap.size,1,I⟩) (by show W.heap.size<_;omega)).tn (by rw[H.cell?,N];rfl)⟩
       obtain⟨j1,j2⟩:=h4;rcases(show n=0\/n=1\/n=2 from zz)with rfl|rfl|rfl
       .go_wp2_with (go_at_call 59;refine(b8 _ (S.out.E.below (c.tn (B3.mono Q)))).mono ?_;rintro e v1 ⟨rfl,d⟩);go_roundw
        case rel=>exact⟨1,zz,by first|rfl|go_num,int_eq (by rw[<- g0.out];show(if uB<r then r else uB)=max uB r;rw[Int.max_def];split<;>split<;>omega),P.tn (d.mono e5)⟩
        case measure=>simp[intOf]
       .go_wp2_with (go_at_call 59;refine(b9 _ (S.out.E.below (c.tn (B3.mono Q)))).mono ?_;rintro e v1 ⟨rfl,d⟩);go_roundw
        case rel=>exact⟨2,zz,by first|rfl|go_num,int_eq (by rw[<- h1.out];show(if max uB r<R then R else max uB r)=max (max uB r) R;rw[Int.max_def (max uB r)];split<;>split<;>omega),P.tn (d.mono e5)⟩
        case measure=>simp[intOf]
       .go_wp2;go_roundw
        case rel=>exact⟨k+1,max (max uB r) R,zz,by go_num,int_eq rfl,c.tn (B3.mono Q),f0.out.tn g.out⟩
        case measure=>simp[intOf];omega)
    |have a':=a4 k h0
     clear a4;have o:=AT b l.E k;obtain⟨s,off,f3,d',d0⟩:=S.out.E.2.2.2 zz;rw[e'.out]at f3 g7;subst f3;have h9:s<wr.heap.size:=zz;have j5:s<wr.heap.size+1:=zz;have e9:PQ (∀j,j<l.E.length->wr (s,off+j*2)=Y (.int .i64 (l.E.getD j (0,0)).1)/\wr (s,off+j*2+1)=Y (.int .i64 (l.E.getD j (0,0)).2)):=λj a9=>⟨(c.cell (p:=⟨s,_,I⟩) d').tn (d0 j a9).1,(c.cell (p:=⟨s,_,I⟩) d').tn (d0 j a9).2⟩;clear d0;obtain⟨h5,h6⟩:=e9.out k a3;obtain⟨st,g2⟩:∃st,kL b l.E k=st:=⟨_,rfl⟩;obtain⟨L,b'⟩:=st;simp only[g2]at C n1 n2 n3 o|-;clear g2;have e1:Ve b (l.E.getD k (0,0))=(jC b (l.E.getD k (0,0)) (-1)||jC b (l.E.getD k (0,0)) 1):=rfl;unfold JC at o;rw[e1]at o;clear e1;generalize jC b (l.E.getD k (0,0)) (-1)=x at a' o;generalize jC b (l.E.getD k (0,0)) 1=y at a' o;generalize(l.E.getD k (0,0)).1=e1 at h5;generalize(l.E.getD k (0,0)).2=d6 at h6 o;cases a5:(x||y)
     .rw[a5,cd ss]at o;have g:=Hm o;have i':=Hm a5;obtain⟨rfl,rfl⟩:x=false/\y=false:=by simpa using a5
      clear o a5;go_wp2_with (go_at_call 16;refine(a' _ (aq (S.out.below c) _) (ai (f2.out.below c) _)).mono ?_;rintro e w2 ⟨rfl,d⟩;obtain⟨f7,f9⟩:=aU d);go_roundw
      case rel=>exact⟨k+1,A,a8,zz,by go_num,by rw[g.out],by rw[g.out],by rw[g.out];exact rK C (aY d),c.tn ((aY d).mono Q)⟩
      case measure=>simp[intOf];omega
     .rw[a5,dE rfl]at o;have g:=Hm o;clear o;go_wp2_with (first|(go_at_call 16;refine(a' _ (aq (S.out.below c) _) (ai (f2.out.below c) _)).mono ?_;rintro e w2 ⟨rfl,d⟩;obtain⟨f7,f9⟩:=aU d;have e5:=(aY d).size)|(at_builtin;refine wpList_append_own _ rfl _ _ 24 rfl a.heap.size 3 i0 (.int .i64 0) 1 8 Tryz.underlying24 hi i5 g5 i6 rfl dd _ _ _ rfl ((rK C (aY d)).alloc _) ⟨w2.heap.size,0,I⟩ 1 1 [.int .i64 k] rfl rfl (cell_one_new _ _ _) (λx g4=>by simp at g4;subst g4;rfl) (by unfold maxLen;omega) zz so ?_;intro v' w3 e4 Z i2));rotate_left 2
      .exfalso;simp_all
      all_goals
       have d9:=aY d;have k0:w3 (wr.heap.size,1)=Y (.int .i64 d6):=by
        rw[Xm Z (by have:=d.size;rw[aa]at this;omega) (Xn C (dj _)),d.cell (p:=⟨wr.heap.size,1,I⟩) (by simp only[aa];omega),H.cell?,Sp];rfl
       have k1:w3 (w.heap.size,11)=Y (.slice (Y (s,off)) b.E.n b.E.c):=by
        rw[Xm Z zz (PU C g6),d9.cell (p:=⟨w.heap.size,11,I⟩) i4];exact g7
       have g9:PQ (∀j,j<l.E.length->w3 (s,off+j*2+1)=Y (.int .i64 (l.E.getD j (0,0)).2)):=λj a9=>by
        rw[Xm Z zz (PU C d'),d9.cell (p:=⟨s,off+j*2+1,I⟩) h9];exact(e9.out j a9).2
       have k4:(wr:Nat)<w2:=by have:=d.size;rw[aa]at this;omega
       have f':X a a w3:=(c.tn (d9.mono Q)).tn ((X.refl _ _).alloc zz _ |>.grown Z (by simp only[aa];omega) (λq i3=>(C.lt q i3).1));obtain⟨A3,J,g3⟩:=tK e4;have c':=Hm f';have d4:=Hm e4;have d5:=Hm g3;clear e4 Z i2 g3 f' f7 f9;by_cases e3:b'<0
       .have h':decide (b'<0)=true:=decide_eq_true e3;go_quiet ((fail));go_wp2;go_roundw
        case rel=>exact⟨k+1,A3,J,zz,by go_num,by rw[g.out,d5.out];simp,by rw[g.out];simp[e3],by rw[g.out];exact vf (by simpa using d4.out) _,below_drewN c'.out _⟩
        case measure=>simp[intOf];omega
       .obtain⟨m,rfl⟩:∃m:Nat,b'=(m:Int):=⟨b'.toNat,zz⟩;have h':decide ((m:Int)<0)=false:=decide_eq_false e3;have j':(m:Int)<b.E.n:=zz;have i1:m<l.E.length:=by have:=a6.out;omega
        have k2:=g9.out m i1;have a0:=g.out;rw[qNB]at a0;generalize(l.E.getD m (0,0)).2=z at k2 a0;have K:=Hm a0;clear a0 g;go_quiet ((fail));go_wp2
        .have e6:d6<z:=by with_reducible assumption
         go_roundw
         case rel=>exact⟨k+1,A3,J,zz,by go_num,by rw[K.out,d5.out];simp,by rw[K.out];simp[e6],by rw[K.out];exact vf (by simpa using d4.out) _,below_drewN c'.out _⟩
         case measure=>simp[intOf];omega
        .have e6:¬d6<z:=zz;go_roundw
         case rel=>exact⟨k+1,A3,J,zz,by go_num,by rw[K.out,d5.out];simp,by rw[K.out];simp[e6];intro h;omega,by rw[K.out];exact vf (by simpa using d4.out) _,below_drewN c'.out _⟩
         case measure=>simp[intOf];omega
   .obtain rfl:k=b.E.n:=zz;first|have _:=ø;go_wp2;go_ret2;exact⟨by rw[c3.out,f0.out];have:=a6.out;simp[this,qG],G.tn (c.mono G.size)⟩|clear a4;go_wp2;refine bd (results_tmp3 rfl _ _ _) rfl ?_;have g':=a6.out;have f1:=c3.out;rw[<- g']at f1;rw[f1];exact⟨A,a8,rfl,dy (B:=a.heap.size) zz C,G.tn (c.mono G.size)⟩):p:=h
def ZR{p:Prop}(h:p:=by
 obtain⟨k,hk,rfl,a,j⟩:=hrel;first|have _:=ø;have Z:=a.size|have Z:(w:Nat)<=wr:=a.size
 by_cases q:k<l.length
 .first|have _:=å;have g:=vE S l k q|have _:=æ;have a7:k<m.length:=zz|have g:=N2 (jk b.S b.L sh d U) l k q
  obtain⟨f,off,rfl,z,o⟩:=L.out zz;first|have _:=æ;obtain⟨P,a8,rfl,a0,G⟩:=HC2.out zz|skip
  have b8:f<wr.heap.size:=zz
  first
  |have _:=æ
   have b9:P<wr.heap.size:=zz;have B:wr (f,off+k)=Y (.int .i64 (l.getD k 0)):=(a.cell (p:=⟨f,off+k,I⟩) z).tn (o k q);have v:wr (P,a8+k)=Y (.int .i64 (m.getD k 0)):=(a.cell (p:=⟨P,a8+k,I⟩) a0).tn (G k a7);clear o G;have O:PQ (l.getD k 0=m.getD k 0->l.take (k+1)=m.take (k+1)):=λe=>MC j.out e q a7;have N:PQ (l.getD k 0≠m.getD k 0->l≠m):=λe e2=>e (by rw[e2]);generalize l.getD k 0=x at B O N;generalize m.getD k 0=y at v O N;go_wp2_with (go_quiet (fail))
   .go_ret;exact⟨bR (by have:=N.out;simp_all),below_drewN a nq⟩
   (·refine⟨⟨k+1,zz,by go_num,below_drewN a nq,O.out (by first|assumption|simp_all|omega)⟩,?_⟩
     simp[intOf];omega)
  |have _:=å
   have B:wr (f,off+k)=Y (.int .i64 (l.getD k 0)):=(a.cell (p:=⟨f,off+k,I⟩) z).tn (o k q);have v:0<k->wr (f,off+(k-1))=Y (.int .i64 (l.getD (k-1) 0)):=λh0=>(a.cell (p:=⟨f,off+(k-1),I⟩) z).tn (o (k-1) zz);clear o;generalize l.getD k 0=x at g B;generalize l.getD (k-1) 0=y at g v;have u:=Hm g;clear g;by_cases Q:ax x 0 (S-1)=false
   .go_wp2_with ((go_at_call 23;refine(bz _ _ _ _).mono ?_;rintro e n ⟨rfl,rfl⟩;rw[Q]));go_ret;exact⟨aW (by rw[j.out,u.out,dE Q]),a⟩
   (·have E:ax x 0 (S-1)=true:=by simpa using Q
     by_cases W:0<k
     .have b1:decide ((0:Int)<k)=true:=by simpa using W
      have b0:=v W;have e1:((k:Int)-1).toNat=k-1:=zz;go_wp2_with (first|(go_at_call 23;refine(bz _ _ _ _).mono ?_;rintro e n ⟨rfl,rfl⟩;rw[E])|go_quiet (fail))
      .go_ret;exact⟨aW (by rw[j.out,u.out,cd (by simp[E]),dE (by simp[*])]),below_drewN a nq⟩
      .refine⟨⟨k+1,zz,by go_num,below_drewN a nq,j.out.tn (u.out.tn (by rw[cd (by simp[E]),cd so]))⟩,?_⟩;simp[intOf];omega
     .have b1:decide ((0:Int)<k)=false:=by simpa using W
      go_wp2_with (first|(go_at_call 23;refine(bz _ _ _ _).mono ?_;rintro e n ⟨rfl,rfl⟩;rw[E])|go_quiet (fail))
      .refine⟨⟨k+1,zz,by go_num,below_drewN a nq,j.out.tn (u.out.tn (by rw[cd (by simp[E]),cd so]))⟩,?_⟩;simp[intOf];omega)
  |obtain⟨n,w2,w3,w4⟩:=HW.out k q
   have B:wr (f,off+k*3)=Y (.int .i64 (l.getD k (0,0,false)).1):=(a.cell (p:=⟨f,_,I⟩) z).tn (o k q).1;have v:wr (f,off+k*3+1)=Y (.int .i64 (l.getD k (0,0,false)).2.1):=(a.cell (p:=⟨f,_,I⟩) z).tn (o k q).2.1;have G:wr (f,off+k*3+2)=Y (.bool (l.getD k (0,0,false)).2.2):=(a.cell (p:=⟨f,_,I⟩) z).tn (o k q).2.2;clear o;generalize l.getD k (0,0,false)=x at g n w2 w3 w4 B v G;obtain⟨a',xs,K⟩:=x;simp only at n w2 w3 w4 B v G;obtain⟨h,rfl⟩:∃h:Nat,a'=(h:Int):=⟨a'.toNat,zz⟩;obtain⟨p,rfl⟩:∃h:Nat,xs=(h:Int):=⟨xs.toNat,zz⟩;have V:=hri h p K zz w4 wr (HL.out.below a) ((a.block _ lb).tn HB.out) (HSk.out.below a ls);have e1:jk b.S b.L sh d U (h,p,K)=(eT b.S b.L sh d (U.getD h (0,0)) p != K):=rfl;rw[<- e1]at V;clear e1;cases a1:jk b.S b.L sh d U (h,p,K)
   all_goals
    rw[a1]at g V;have u:=Hm g;have b7:=Hm a1;clear g a1;go_wp2_with (go_at_call 93;refine V.mono ?_;rintro e v1 ⟨rfl,a4⟩)
   .go_roundw
    case rel=>exact⟨k+1,zz,by go_num,a.tn (a4.mono Z),j.out.tn (u.out.tn (cd ss))⟩
    case measure=>simp[intOf];omega
   .go_ret;exact⟨aW (by rw[j.out,u.out];simp),a.tn (a4.mono Z)⟩
 .obtain rfl:k=l.length:=zz;go_wp2;go_ret;first|have _:=å;exact⟨aW (by rw[j.out,xR]),a⟩|have _:=æ;exact⟨bR (by have:=j.out;rw[List.take_length,hne',List.take_length]at this;simp[this]),a⟩|exact⟨aW (by rw[j.out];simp[zP]),a⟩):p:=h
def ZU{p:Prop}(h:p:=by
 unfold aC.v;first|have _:=ø;go_enter Tryz.func48,Tryz.ntmps48|have _:=å;go_enter Tryz.func57,Tryz.ntmps57|go_enter Tryz.func54,Tryz.ntmps54
 go_wp2_with ((go_at_call 23;refine(bz _ _ _ _).mono ?_;rintro e w' ⟨rfl,rfl⟩));go_ret;exact⟨rfl,(X.refl _ _).alloc (dj _) _⟩):p:=h
end Go
namespace Go.Proofs.YtfcgpihkimpkcaaGreatDoor
open Go.RowKit
theorem bz(n l h:Int)(w:H):
  PH F 23 #[.int .i64 n,.int .i64 l,.int .i64 h] w λe w'=>e=.returned (.bool (ax n l h))/\w=w':=xaR
theorem eZ(lo hi l h:Int)(w:H):
  PH F 95 #[.agg #[.int .i64 lo,.int .i64 hi],.int .i64 l,.int .i64 h] w λe w'=>e=.returned (.bool (lF lo hi l h))/\X w w w':=ui
theorem rH(b:aC)(n:Int)(a: -1000<=b.S)(h2:b.S<=1000)(w:H):
  PH F 54 #[b.v,.int .i64 n] w λe w'=>e=.returned (.bool (ax n 0 (b.S-1)))/\X w w w':=ZU
theorem rI(b:aC)(n:Int)(a:b.U.n<=1000)(w:H):
  PH F 48 #[b.v,.int .i64 n] w λe w'=>e=.returned (.bool (ax n 0 (b.U.n-1)))/\X w w w':=by
 have ø:=0;exact ZU
def aN.mono{w w':H}{s:Sl}{l:List Int}{B:Nat}(h:aN w s l)(a:X B w w')(hB:w.heap.size<=B):aN w' s l:=
 h.below (a.mono hB)
theorem vU(S:Int)(h1: -1000<=S)(h2:S<=1000)(s:Sl)(l:List Int)(w:H)(C:aN w s l):
  PH F 24 #[.slice s.A s.n s.c,.int .i64 S] w λe w'=>e=.returned (.int .i64 (bS S I l))/\X w w w':=by
 obtain⟨A,a9,c⟩:=s;obtain⟨rfl,T,a6,r⟩:=C;have L:PQ (0<l.length->∃b off,A=Y ⟨b,off,I⟩/\b<w.heap.size/\∀k,k<l.length->w (b,off+k)=Y (.int .i64 (l.getD k 0))):=r;clear r;simp only at|-;go_enter Tryz.func24,Tryz.ntmps24;go_wp2;go_loopw [5] (λi wr=>∃k:Nat,k<=l.length/\i=.int .i64 k/\X w.heap.size w wr/\PQ (bS S I l=bS S (qh l k) (l.drop k))) (λi _=>l.length-(intOf i).toNat)
 case atStart=>exact⟨0,fi _,rfl,X.refl _ _,by simp[qh,PQ]⟩
 case round=>
  have å:=0;exact ZR
def MC{l m:List Int}{k:Nat}(h:l.take k=m.take k)(e:l.getD k 0=m.getD k 0)(a:k<l.length)(h2:k<m.length):l.take (k+1)=m.take (k+1):=by
 rw[q5A a,q5A h2,h];have b:l[k]=m[k]:=by simpa[List.getD,fg a,fg h2]using e
 rw[b]
theorem AS(s t:Sl)(l m:List Int)(w:H)(C:aN w s l)(b3:aN w t m):
  PH F 15 #[.slice s.A s.n s.c,.slice t.A t.n t.c] w λe w'=>e=.returned (.bool (decide (l=m)))/\X w w w':=by
 obtain⟨A,a9,c⟩:=s;obtain⟨rfl,T,a6,r⟩:=C;have L:PQ (0<l.length->∃b off,A=Y ⟨b,off,I⟩/\b<w.heap.size/\∀k,k<l.length->w (b,off+k)=Y (.int .i64 (l.getD k 0))):=r;clear r;obtain⟨A2,c3,c2⟩:=t;obtain⟨rfl,b',c1,a5⟩:=b3;have HC2:PQ (0<m.length->∃b off,A2=Y ⟨b,off,I⟩/\b<w.heap.size/\∀k,k<m.length->w (b,off+k)=Y (.int .i64 (m.getD k 0))):=a5;clear a5;simp only at|-;by_cases b4:(l.length:Int)=m.length
 .have hne':l.length=m.length:=zz;go_enter Tryz.func15,Tryz.ntmps15;go_wp2;go_loopw [5] (λi wr=>∃k:Nat,k<=l.length/\i=.int .i64 k/\X w.heap.size w wr/\PQ (l.take k=m.take k)) (λi _=>l.length-(intOf i).toNat)
  case atStart=>exact⟨0,fi _,rfl,X.refl _ _,by simp[PQ]⟩
  case round=>
   have æ:=0;exact ZR
 .go_enter Tryz.func15,Tryz.ntmps15;go_wp2;go_ret;exact⟨bR (by have:l≠m:=λe=>b4 (by rw[e]);simp[this]),X.refl _ _⟩
def dZ(b:aC)(l:List Int):Int:=if cA b l≠0 then cA b l else cZ b
theorem Ic(b:aC)(l:List Int)(w:H)(J:aN w b.C l):
  PH F 53 #[b.v] w λe w'=>e=.returned (.int .i64 (dZ b l))/\X w w w':=by
 have N:=Hm J;clear J;have G:=λ(O: -1000<=b.S) (h2:b.S<=1000) (g:H) (h:aN g b.C l)=>vU b.S O h2 b.C l g h;by_cases x:ax b.S 4 12=false
 .have þ:=0;have ê:=0;exact po
 have k:ax b.S 4 12=true:=by simpa using x
 clear x;by_cases t:ax b.D 0 2=false
 .have ð:=0;have ê:=0;exact po
 have s:ax b.D 0 2=true:=by simpa using t
 clear t;by_cases v:ax b.L 1 4=false
 .have ñ:=0;have ê:=0;exact po
 have u:ax b.L 1 4=true:=by simpa using v
 clear v;by_cases r:lF b.lo b.hi (-3) 3=false
 .have ç:=0;have ê:=0;exact po
 have hB:lF b.lo b.hi (-3) 3=true:=by simpa using r
 clear r;obtain⟨T,U,V⟩:=uJ.1 hB;obtain⟨W,Z⟩:=cq.1 k;by_cases a1:3<=b.hi-b.lo
 .have ê:=0;exact po
 have a:PQ (cA b l=bS b.S I l):=by show _=_;rw[cA,dE ⟨k,s,u,hB,zz⟩]
 by_cases j:bS b.S I l=0;rotate_left
 .have æ:=0;exact po
 have f:PQ (dZ b l=cZ b):=by show _=_;rw[dZ,a.out,cd (by simp[j])]
 rw[j]at G;clear j a;by_cases B:ax b.rf 2 30=false
 .have ë:=0;exact po
 have o:ax b.rf 2 30=true:=by simpa using B
 clear B;by_cases C:ax b.rh 2 60=false
 .have ï:=0;exact po
 have q:ax b.rh 2 60=true:=by simpa using C
 clear C;by_cases z:ax b.cf 0 b.rf=false
 .have ö:=0;exact po
 have m:ax b.cf 0 b.rf=true:=by simpa using z
 clear z;by_cases A:ax b.ch 1 60=false
 .have ü:=0;exact po
 have n:ax b.ch 1 60=true:=by simpa using A
 clear A;by_cases K:b.rh<=b.ch
 .have ø:=0;exact po
 .have å:=0;exact po
variable{w:H}{g:Nat}{t:Lk}
def Dl(D:Nat->Bool)(k:Nat)(hk:k<12)(w:H):(Instr.index 84 (tJ D) (.int .i64 k)).run F w=.ok (.bool (D k)) w:=xaf
def aK.lt{b:aC}(h:aK w g t b):g<w.heap.size:=(du.1 h).1
def bA.lt{sh:Int}{f:Nat->Bool}(h:bA w g t sh f):g<w.heap.size:=let⟨_,h,_⟩:=h;(du.1 h).1
theorem FW(b:aC)(u:4<=b.S)(v:b.S<=12)(x:1<=b.L)(y:b.L<=4)(sh:Int)(z: -3<=sh)(A:sh<=3)(d:Nat->Bool)(U:List (Int×Int))
  (m:∀k,k<U.length->0<=(U.getD k (0,0)).1/\(U.getD k (0,0)).1<b.S/\ -9<=(U.getD k (0,0)).2/\(U.getD k (0,0)).2<=9)(h s:Nat)(g:Bool)(l:h<U.length)(K:(s:Int)<b.S)(a bs:Nat)(w:H)
  (n:bp w b.U U)(hB:aK w a 82 b)(i:bA w bs 86 sh d):
  PH F 93 #[.agg #[.int .i64 h,.int .i64 s,.bool g],.pointer (Y (a,0)),.pointer (Y (bs,0))] w λe w'=>e=.returned (.bool (eT b.S b.L sh d (U.getD h (0,0)) s != g))/\X w w w':=by
 obtain⟨o,p,q,r⟩:=m h l;clear m;have j:=λc (B:bp c b.U U)=>qX b u v x y sh z A d h U l o p q r c B;clear o p q r l;generalize eT b.S b.L sh d (U.getD h (0,0))=D at j|-;have J:=λw=>Dl D s zz w;have N:=hB.lt;have P:=i.lt;have O:a<w.heap.size+1:=zz;have Q:bs<w.heap.size+1:=zz;obtain⟨R,S,Z,x3,x4,x5,x6,x7,x8,x9,T,V,W⟩:=aM hB;obtain⟨y0,y1,y2,y3,y4,y5,y6,y7,y8,y9,a1,a2,a3⟩:=i.all;have t:=Hm n;clear n hB i;unfold aC.v gN at j;go_enter Tryz.func93,Tryz.ntmps93;go_wp2_with fail;go_region_held3 (λw'=>w'.cell? ⟨a,0,I⟩=Y (.int .i64 b.S)/\w'.cell? ⟨a,1,I⟩=Y (.int .i64 b.D)/\w'.cell? ⟨a,2,I⟩=Y (.int .i64 b.L)/\w'.cell? ⟨a,3,I⟩=Y (.int .i64 b.lo)/\w'.cell? ⟨a,4,I⟩=Y (.int .i64 b.hi)/\w'.cell? ⟨a,5,I⟩=Y (.slice b.C.A b.C.n b.C.c)/\w'.cell? ⟨a,6,I⟩=Y (.int .i64 b.rf)/\w'.cell? ⟨a,7,I⟩=Y (.int .i64 b.rh)/\w'.cell? ⟨a,8,I⟩=Y (.int .i64 b.cf)/\w'.cell? ⟨a,9,I⟩=Y (.int .i64 b.ch)/\w'.cell? ⟨a,10,I⟩=Y (.slice b.U.A b.U.n b.U.c)/\w'.cell? ⟨a,11,I⟩=Y (.slice b.E.A b.E.n b.E.c)/\w'.cell? ⟨a,12,I⟩=Y (.slice b.W.A b.W.n b.W.c)/\w'.cell? ⟨bs,0,I⟩=Y (.int .i64 sh)/\w'.cell? ⟨bs,1,I⟩=Y (.bool (d 0))/\w'.cell? ⟨bs,2,I⟩=Y (.bool (d 1))/\w'.cell? ⟨bs,3,I⟩=Y (.bool (d 2))/\w'.cell? ⟨bs,4,I⟩=Y (.bool (d 3))/\w'.cell? ⟨bs,5,I⟩=Y (.bool (d 4))/\w'.cell? ⟨bs,6,I⟩=Y (.bool (d 5))/\w'.cell? ⟨bs,7,I⟩=Y (.bool (d 6))/\w'.cell? ⟨bs,8,I⟩=Y (.bool (d 7))/\w'.cell? ⟨bs,9,I⟩=Y (.bool (d 8))/\w'.cell? ⟨bs,10,I⟩=Y (.bool (d 9))/\w'.cell? ⟨bs,11,I⟩=Y (.bool (d 10))/\w'.cell? ⟨bs,12,I⟩=Y (.bool (d 11))/\w'.cell? ⟨w.heap.size,0,I⟩=Y (.int .i64 h)/\w'.cell? ⟨w.heap.size,1,I⟩=Y (.int .i64 s)/\w'.cell? ⟨w.heap.size,2,I⟩=Y (.bool g)/\a<w'.heap.size/\bs<w'.heap.size/\w.heap.size<w'.heap.size/\X w.heap.size w w')
  ((repeat' apply And.intro)<;>(first|with_reducible assumption|omega|(go_keep;done)|(simp;omega)|exact bt|exact X.tn wa (f.mono zz)))
  (first|(go_at_call 45;refine(j _ (t.out.below bf)).mono ?_;rintro e c ⟨rfl,f⟩;obtain⟨E,G⟩:=aU f;have L:w.heap.size+1<=c.heap.size:=(by have:=f.size;simpa using this);have C:X w.heap.size w c:=X.tn bf (f.mono ss)))
 go_wp2;go_ret;exact⟨bR (by cases D s<;>cases g<;>rfl),C⟩
def jk(S L sh:Int)(d:Nat->Bool)(U:List (Int×Int))(x:Int×Int×Bool):Bool:=eT S L sh d (U.getD x.1.toNat (0,0)) x.2.1.toNat != x.2.2
def zP(t:Int×Int×Bool->Bool):List (Int×Int×Bool)->Nat->Int
 | [],_=> -1
 | x::r,k=>if t x=true then k else zP t r (k+1)
def N2(t:Int×Int×Bool->Bool)(l:List (Int×Int×Bool))(k:Nat)(hk:k<l.length):zP t (l.drop k) k=if t (l.getD k (0,0,false))=true then(k:Int)else zP t (l.drop (k+1)) (k+1):=ZY
def I3(t:Int×Int×Bool->Bool):∀(l:List (Int×Int×Bool)) (k:Nat),decide (0<=zP t l k)=l.any t
 | [],_=>rfl
 | x::r,k=>by
  simp only[zP,List.any_cons];by_cases h:t x=true
  .simp[h]
  .have a:=I3 t r (k+1);simp[h,<- a]
def N3(a bs:Nat):M:=.func (.func 93) #[] #[.pointer (Y (a,0)),.pointer (Y (bs,0))]
theorem La(b:aC)(g1:4<=b.S)(g2:b.S<=12)(g3:1<=b.L)(g4:b.L<=4)(sh:Int)(g5: -3<=sh)(g6:sh<=3)(d:Nat->Bool)(U:List (Int×Int))
  (a2:∀k,k<U.length->0<=(U.getD k (0,0)).1/\(U.getD k (0,0)).1<b.S/\ -9<=(U.getD k (0,0)).2/\(U.getD k (0,0)).2<=9)(s:Sl)(l:List (Int×Int×Bool))
  (a3:∀k,k<l.length->0<=(l.getD k (0,0,false)).1/\(l.getD k (0,0,false)).1<U.length/\0<=(l.getD k (0,0,false)).2.1/\(l.getD k (0,0,false)).2.1<b.S)(J bs:Nat)(w:H)
  (C:bp w b.U U)(hB:aK w J 82 b)(R:bA w bs 86 sh d)(b5:fL w s l):
  PH F 125 #[.slice s.A s.n s.c,N3 J bs] w λe w'=>e=.returned (.int .i64 (zP (jk b.S b.L sh d U) l 0))/\X w w w':=by
 have hri:=λ(h k:Nat) (b6:Bool) (b2:h<U.length) (g:(k:Int)<b.S) n (p1:bp n b.U U) (p2:aK n J 82 b) (p3:bA n bs 86 sh d)=>FW b g1 g2 g3 g4 sh g5 g6 d U a2 h k b6 b2 g J bs n p1 p2 p3;have lb:=hB.lt;have ls:=R.lt;have HL:=Hm C;have HB:=Hm hB;have HSk:=Hm R;have HW:=Hm a3;clear C hB R a3 a2;obtain⟨A,a9,c⟩:=s;obtain⟨rfl,T,a6,r⟩:=b5;have L:=Hm r;clear r;simp only at T|-;unfold N3;go_enter Tryz.func125,Tryz.ntmps125;go_wp2;go_loopw [8] (λi wr=>∃k:Nat,k<=l.length/\i=.int .i64 k/\X w.heap.size w wr/\PQ (zP (jk b.S b.L sh d U) l 0=zP (jk b.S b.L sh d U) (l.drop k) k)) (λi _=>l.length-(intOf i).toNat)
 case atStart=>exact⟨0,fi _,rfl,X.refl _ _,rfl⟩
 case round=>
  have ø:=0;exact ZR
theorem Bo(b:aC)(m:4<=b.S)(n:b.S<=12)(o:1<=b.L)(p:b.L<=4)(sh:Int)(q: -3<=sh)(t:sh<=3)(d:Nat->Bool)(U:List (Int×Int))
  (g:∀k,k<U.length->0<=(U.getD k (0,0)).1/\(U.getD k (0,0)).1<b.S/\ -9<=(U.getD k (0,0)).2/\(U.getD k (0,0)).2<=9)(s:Sl)(l:List (Int×Int×Bool))
  (h:∀k,k<l.length->0<=(l.getD k (0,0,false)).1/\(l.getD k (0,0,false)).1<U.length/\0<=(l.getD k (0,0,false)).2.1/\(l.getD k (0,0,false)).2.1<b.S)(a bs:Nat)(w:H)
  (i:bp w b.U U)(hB:aK w a 82 b)(f:bA w bs 86 sh d)(j:fL w s l):
  PH F 92 #[.slice s.A s.n s.c,N3 a bs] w λe w'=>e=.returned (.bool (l.any (jk b.S b.L sh d U)))/\X w w w':=by
 have hi:=La b m n o p sh q t d U g s l h a bs w i hB f j;have c:=Hm (I3 (jk b.S b.L sh d U) l 0);clear i hB f j h g;generalize zP (jk b.S b.L sh d U) l 0=r at hi c;unfold N3 at hi|-;go_enter Tryz.func92,Tryz.ntmps92;go_wp2_with (go_at_call 125;refine hi.mono ?_;rintro e v ⟨rfl,u⟩);go_ret;exact⟨bR c.out,u⟩
def oI(S L sh:Int)(d:Nat->Bool)(U:List (Int×Int))(l:List (Int×Int×Bool)):Bool:= !l.any (jk S L sh d U)
theorem Ao(b:aC)(i:4<=b.S)(j:b.S<=12)(m:1<=b.L)(n:b.L<=4)(sh:Int)(o: -3<=sh)(p:sh<=3)(d:Nat->Bool)(U:List (Int×Int))
  (c:∀k,k<U.length->0<=(U.getD k (0,0)).1/\(U.getD k (0,0)).1<b.S/\ -9<=(U.getD k (0,0)).2/\(U.getD k (0,0)).2<=9)(l:List (Int×Int×Bool))
  (f:∀k,k<l.length->0<=(l.getD k (0,0,false)).1/\(l.getD k (0,0,false)).1<U.length/\0<=(l.getD k (0,0,false)).2.1/\(l.getD k (0,0,false)).2.1<b.S)(w:H)
  (g:bp w b.U U)(h:fL w b.W l):
  PH F 51 #[b.v,gN sh d] w λe w'=>e=.returned (.bool (oI b.S b.L sh d U l))/\X w w w':=by
 have a:=Bo b i j m n sh o p d U c b.W l f w.heap.size (w.heap.size+1) ((w.alloc (aE b 82)).alloc (.cells #[.int .i64 sh,.bool (d 0),.bool (d 1),.bool (d 2),.bool (d 3),.bool (d 4),.bool (d 5),.bool (d 6),.bool (d 7),.bool (d 8),.bool (d 9),.bool (d 10),.bool (d 11)] 86))
  (g.below (by exact bt)) ((QR _ _ (by simp only[aa];omega)).tn (Sp _ _)) (by have:=bA.new (w.alloc (aE b 82)) 86 sh d;rw[aa]at this;exact this) (h.below (by exact bt))
 clear g h f c;have HR:PQ (oI b.S b.L sh d U l= !l.any (jk b.S b.L sh d U)):=rfl;generalize l.any (jk b.S b.L sh d U)=r at a HR;unfold aE N3 at a;unfold aC.v gN;go_enter Tryz.func51,Tryz.ntmps51;go_wp2_with (go_at_call 92;refine a.mono ?_;rintro e s ⟨rfl,q⟩);go_ret;exact⟨bR HR.out.symm,cB q⟩
variable{w':H}{f f':Nat->Bool}
def iB.all(h:iB w g t f):w (g,0)=Y (.bool (f 0))/\w (g,1)=Y (.bool (f 1))/\w (g,2)=Y (.bool (f 2))/\w (g,3)=Y (.bool (f 3))/\w (g,4)=Y (.bool (f 4))/\w (g,5)=Y (.bool (f 5))/\w (g,6)=Y (.bool (f 6))/\w (g,7)=Y (.bool (f 7))/\w (g,8)=Y (.bool (f 8))/\w (g,9)=Y (.bool (f 9))/\w (g,10)=Y (.bool (f 10))/\w (g,11)=Y (.bool (f 11)):=
 ⟨h.cell 0 zz,h.cell 1 zz,h.cell 2 zz,h.cell 3 zz,h.cell 4 zz,h.cell 5 zz,h.cell 6 zz,h.cell 7 zz,h.cell 8 zz,h.cell 9 zz,h.cell 10 zz,h.cell 11 zz⟩
def iB.below{B:Nat}(h:iB w g t f)(a:X B w w')(b:g<B):iB w' g t f:=xbe
def iB.alloc(h:iB w g t f)(o:Obj):iB (w.alloc o) g t f:=xaQ
def iB.new(w:H)(t:Lk)(f:Nat->Bool):iB (w.alloc (.cells #[.bool (f 0),.bool (f 1),.bool (f 2),.bool (f 3),.bool (f 4),.bool (f 5),.bool (f 6),.bool (f 7),.bool (f 8),.bool (f 9),.bool (f 10),.bool (f 11)] t)) w t f:=
 ⟨_,Sp _ _,rfl,λi hi=>by
  rcases(show i=0\/i=1\/i=2\/i=3\/i=4\/i=5\/i=6\/i=7\/i=8\/i=9\/i=10\/i=11 from zz)with rfl|rfl|rfl|rfl|rfl|rfl|rfl|rfl|rfl|rfl|rfl|rfl<;>rfl⟩
theorem iB.uB(h:iB w g t f){p i:Nat}(b:g≠p)(v:M):iB (w.setCell (p,i) v) g t f:=by
 obtain⟨cs,e1,a⟩:=h;exact⟨cs,(X.heap_setCell w ⟨p,i,I⟩ v g b).tn e1,a⟩
def lJ(d:Nat->Bool)(C:List Int):Nat->Bool:=λi=>d i && !eM C i
theorem FX(b:aC)(g2:b.S<=12)(d:Nat->Bool)(l:List Int)(N:∀x∈l,0<=x/\x<b.S)(w:H)(b5:aN w b.C l):
  PH F 50 #[b.v,tJ d] w λe w'=>e=.returned (tJ (lJ d l))/\X w w w':=by
 have a':=Hm N;clear N;obtain⟨S,D,L,lo,hi,⟨s,b8,t⟩,rf,rh,cf,ch,⟨b1,b2,B⟩,⟨u,A,z⟩,⟨C,G,E⟩⟩:=b;obtain⟨r,b4,c9,g⟩:=b5;simp only at r b4 g g2 a';subst r;have c4:=Hm g;clear g;simp only[aC.v,tJ];go_enter Tryz.func50,Tryz.ntmps50;go_wp2;go_loopw [11] (λi wr=>∃k:Nat,k<=l.length/\i=.int .i64 k/\X (w.heap.size+1) (w.alloc (Dg ⟨S,D,L,lo,hi,⟨s,l.length,t⟩,rf,rh,cf,ch,⟨b1,b2,B⟩,⟨u,A,z⟩,⟨C,G,E⟩⟩)) wr/\iB wr (w.heap.size+1) 84 (lJ d (l.take k))/\iB wr (w.heap.size+1+1) 84 mI) (λi _=>l.length-(intOf i).toNat)
 case atStart=>
  have e:lJ d (l.take 0)=d:=by funext n;simp[lJ,eM]
  refine⟨0,zz,rfl,?_,?_,?_⟩
  .exact xbt
  .have:=iB.new (w.alloc (Dg ⟨S,D,L,lo,hi,⟨s,l.length,t⟩,rf,rh,cf,ch,⟨b1,b2,B⟩,⟨u,A,z⟩,⟨C,G,E⟩⟩)) 84 d;rw[aa]at this;rw[e];exact this.alloc _
  .have:=iB.new ((w.alloc (Dg ⟨S,D,L,lo,hi,⟨s,l.length,t⟩,rf,rh,cf,ch,⟨b1,b2,B⟩,⟨u,A,z⟩,⟨C,G,E⟩⟩)).alloc (.cells #[.bool (d 0),.bool (d 1),.bool (d 2),.bool (d 3),.bool (d 4),.bool (d 5),.bool (d 6),.bool (d 7),.bool (d 8),.bool (d 9),.bool (d 10),.bool (d 11)] 84)) 84 mI;rw[aa,aa]at this;exact this
 case round=>
  obtain⟨k,hk,rfl,c,a,b3⟩:=hrel;have b6:(w:Nat)+1<=wr:=by have:=c.size;rw[aa]at this;exact this
  have d1:(w:Nat)<wr:=b6;by_cases K:k<l.length
  ·(obtain⟨O,P,V,W,Z,x5,x6,x7,x8,x9,Q,R,T⟩:=iw c;dsimp only at O P V W Z x5 x6 x7 x8 x9 Q R T)
   obtain⟨o,off,rfl,b0,J⟩:=c4.out zz;obtain⟨f,d2⟩:∃f:Nat,l.getD k 0=(f:Int)/\(f:Int)<S:=by
    have c':l.getD k 0∈l:=by simp[List.getD,fg K]
    have:=a'.out _ c';exact⟨(l.getD k 0).toNat,zz,zz⟩
   obtain⟨b7,d6⟩:=d2;have d4:wr (o,off+k)=Y (.int .i64 f):=(jN c b0).tn ((J k K).tn (by rw[b7]));have b':PQ (∀n:Nat,lJ d (l.take (k+1)) n=if n=f then false else lJ d (l.take k) n):=λn=>by
    rw[q5A K];have:l[k]=(f:Int):=by rw[<- b7];simp[List.getD,fg K]
    rw[this];by_cases e:n=f
    .subst e;simp[lJ,eM]
    .simp[lJ,eM,e,show¬(n:Int)=f by omega]
   have c8:=a.cell f zz;have fa:=a.free f;clear b7 J;go_wp2;go_roundw
   case rel=>exact⟨k+1,zz,by go_num,by exact bt,a.set zz (by rw[b'.out,dE rfl]) (λj _ hj=>by rw[b'.out,cd hj]),b3.uB zz _⟩
   case measure=>simp[intOf];omega
  .obtain rfl:k=l.length:=zz;rw[List.take_length]at a;obtain⟨y0,y1,y2,y3,y4,y5,y6,y7,y8,y9,d7,d8⟩:=a.all;obtain⟨z0,z1,z2,z3,z4,z5,z6,z7,z8,z9,d9,d'⟩:=b3.all;have d0:=λi=>b3.free i;have b9:=Hm (bT c);clear a b3 c;go_wp2;refine bd (v:=tJ (lJ d l)) ?_ rfl ⟨rfl,?_⟩
   .simp[results,Tryz.results50,go_sem,tJ, *]
   .have b9:=b9.out;exact bt
def nG(f g:Nat->Bool):Bool:=(f 0==g 0)&&(f 1==g 1)&&(f 2==g 2)&&(f 3==g 3)&&(f 4==g 4)&&(f 5==g 5)&&(f 6==g 6)&&(f 7==g 7)&&(f 8==g 8)&&(f 9==g 9)&&(f 10==g 10)&&(f 11==g 11)
def I5(d:Nat)(f g:Nat->Bool)(w:H):(Op.equalIn (d+3) 84 (tJ f) (tJ g)).run F w=.ok (nG f g) w:=by
 obtain⟨r,a,h2⟩:=run_equalIn_deep (P:=F) d 3 84 kr w 5 5 (tJ f) (tJ g) [.bool (f 0),.bool (f 1),.bool (f 2),.bool (f 3),.bool (f 4),.bool (f 5),.bool (f 6),.bool (f 7),.bool (f 8),.bool (f 9),.bool (f 10),.bool (f 11)] [.bool (g 0),.bool (g 1),.bool (g 2),.bool (g 3),.bool (g 4),.bool (g 5),.bool (g 6),.bool (g 7),.bool (g 8),.bool (g 9),.bool (g 10),.bool (g 11)] kr kr kr kr;have b:r=nG f g:=by
  rw[Bool.eq_iff_iff,h2];simp[nG,and_assoc]
 subst b;exact a
theorem aa1(f g:Nat->Bool)(w:H):(binOp .eql 84 (tJ f) (tJ g)).run F w=.ok (.bool (nG f g)) w:=by
 have a:=I5 9997 f g w;unfold tJ at a|-;go_simp
theorem aa2(m sh:Int)(f g:Nat->Bool)(w:H):(binOp .eql 86 (gN m f) (gN sh g)).run F w=.ok (.bool (decide (m=sh)&&nG f g)) w:=by
 have a:=I5 9996 f g w;unfold tJ at a;unfold gN;go_simp;by_cases h:m=sh
 .cases b:nG f g<;>simp[h]
 .simp[h]
variable{S n sh:Int}{W v1:H}{f0:Nat->Bool}
def dI(b:aC)(l:bN)(sh:Int)(d:List Int):Bool×Int:=
 if ay b l≠0 then(false,ay b l)else if cN b.S sh d≠0 then(false,cN b.S sh d)else
 (decide (min (max sh b.lo) b.hi=sh)&&nG (lJ (eM d) l.C) (eM d)&&decide ((d.length:Int)<=b.D)&&oI b.S b.L sh (eM d) l.U l.W,0)
def wN(p:Bool×Int)(w:H)(e:Ending)(w':H):Prop:=e=.returned (.tuple #[.bool p.1,.int .i64 p.2])/\X w w w'
def N5:∀{l:List (Int×Int×Bool)},qi S n l=0->∀x∈l,0<=x.1/\x.1<n/\0<=x.2.1/\x.2.1<S
 | [],_=>λx c=>by simp at c
 | (a,s,t)::r,d=>by
  simp only[qi]at d;by_cases b:(ax a 0 (n-1)&&ax s 0 (S-1))=false
  .rw[dE b]at d;omega
  .rw[cd b]at d;intro x c;rcases fc.1 c with rfl|c
   .simp only[Bool.and_eq_false_iff,not_or,Bool.not_eq_false]at b;have e1:=cq.1 b.1;have e:=cq.1 b.2;exact⟨e1.1,by show a<n;omega,e.1,by show s<S;omega⟩
   .exact N5 d x c
def Gb{l:List (Int×Int×Bool)}(h:ki S n l=0)(k:Nat)(hk:k<l.length):0<=(l.getD k (0,0,false)).1/\(l.getD k (0,0,false)).1<n/\0<=(l.getD k (0,0,false)).2.1/\(l.getD k (0,0,false)).2.1<S:=by
 unfold ki at h;split at h
 .omega
 .exact N5 h _ (by simp[List.getD,fg hk])
def bA.range(h:bA w g t sh f):w.rangeAt g 1 [.bool (f 0),.bool (f 1),.bool (f 2),.bool (f 3),.bool (f 4),.bool (f 5),.bool (f 6),.bool (f 7),.bool (f 8),.bool (f 9),.bool (f 10),.bool (f 11)]:=λj v a=>by
 have b:j<12:=(List.getElem?_eq_some_iff.1 a).1;rw[h.cell j b,<- a];rcases(show j=0\/j=1\/j=2\/j=3\/j=4\/j=5\/j=6\/j=7\/j=8\/j=9\/j=10\/j=11 from zz)with rfl|rfl|rfl|rfl|rfl|rfl|rfl|rfl|rfl|rfl|rfl|rfl<;>rfl
theorem Dq{w w':H}{b o B:Nat}{cs:List M}(h:w.rangeAt b o cs)(a:X B w w')(hB:b<B):w'.rangeAt b o cs:=λj v c=>(a.cell (p:=⟨b,o+j,I⟩) hB).tn (h j v c)
def bA.aa3{sh ik:Int}(h:bA w g t sh f):bA (w.setCell (g,0) (.int .i64 ik)) g t ik f:=by
 obtain⟨cs,e1,a,e0,b⟩:=h;refine⟨cs.setIfInBounds 0 (.int .i64 ik),by simp[H.setCell,ml,e1],by simpa using a,by simp[a],λj c=>?_⟩;rw[lO zz];exact b j c
def Gc(f f0:Nat->Bool)(n:Nat):Nat->Bool:=λi=>if i<n then f i else f0 i
def bA.next{n:Nat}(h:bA w g t sh (Gc f f0 n))(a:n<12):bA (w.setCell (g,1+n) (.bool (f n))) g t sh (Gc f f0 (n+1)):=
 h.set a (by simp[Gc]) λj _ b=>by
  simp only[Gc];by_cases e:j<n
  .rw[dE e,dE zz]
  .rw[cd e,cd zz]
def bA.same{f f':Nat->Bool}(h:bA w g t sh f)(e:∀i,i<12->f' i=f i):bA w g t sh f':=by
 obtain⟨cs,e1,a,e0,b⟩:=h;exact⟨cs,e1,a,e0,λi hi=>by rw[e i hi];exact b i hi⟩
def Lf{sh0 sh:Int}(h:bA w g t sh0 f0):bA (((((((((((((w.setCell (g,0) (.int .i64 sh)).setCell (g,1) (.bool (f 0))).setCell (g,2) (.bool (f 1))).setCell (g,3) (.bool (f 2))).setCell (g,4) (.bool (f 3))).setCell (g,5) (.bool (f 4))).setCell (g,6) (.bool (f 5))).setCell (g,7) (.bool (f 6))).setCell (g,8) (.bool (f 7))).setCell (g,9) (.bool (f 8))).setCell (g,10) (.bool (f 9))).setCell (g,11) (.bool (f 10))).setCell (g,12) (.bool (f 11))) g t sh f:=by
 have a:bA (w.setCell (g,0) (.int .i64 sh)) g t sh (Gc f f0 0):=h.aa3.same λi _=>by simp[Gc]
 exact((((((((((((a.next zz).next zz).next zz).next zz).next zz).next zz).next zz).next zz).next zz).next zz).next zz).next zz).same λi hi=>by simp[Gc,hi]
def Lg(h:X (W.alloc (.cells #[.int .i64 0,.bool false,.bool false,.bool false,.bool false,.bool false,.bool false,.bool false,.bool false,.bool false,.bool false,.bool false,.bool false] 86)).drew.heap.size (W.alloc (.cells #[.int .i64 0,.bool false,.bool false,.bool false,.bool false,.bool false,.bool false,.bool false,.bool false,.bool false,.bool false,.bool false,.bool false] 86)).drew v1):bA v1 W 86 0 mI:=by
 have a:bA (W.alloc (.cells #[.int .i64 0,.bool false,.bool false,.bool false,.bool false,.bool false,.bool false,.bool false,.bool false,.bool false,.bool false,.bool false,.bool false] 86)).drew W 86 0 mI:=bA.new W 86 0 mI;exact a.below h ss
def uL{x y:Bool}(h:x=y):Ending.returned (.tuple #[.bool x,.int .i64 0])=.returned (.tuple #[.bool y,.int .i64 0]):=by rw[h]
def Wx(m:Int)(f:Nat->Bool)(b:X W W v1):∃a,M.pointer (Y (v1.heap.size,0))=.pointer (Y (a,0))/\X W W (v1.alloc (.cells #[.int .i64 m,.bool (f 0),.bool (f 1),.bool (f 2),.bool (f 3),.bool (f 4),.bool (f 5),.bool (f 6),.bool (f 7),.bool (f 8),.bool (f 9),.bool (f 10),.bool (f 11)] 86))/\bA (v1.alloc (.cells #[.int .i64 m,.bool (f 0),.bool (f 1),.bool (f 2),.bool (f 3),.bool (f 4),.bool (f 5),.bool (f 6),.bool (f 7),.bool (f 8),.bool (f 9),.bool (f 10),.bool (f 11)] 86)) a 86 m f:=
 ⟨v1.heap.size,rfl,aP b (dj _) _,bA.new v1 86 m f⟩
def Wy(m:Int)(f:Nat->Bool)(b:X (W.alloc (.cells #[.int .i64 0,.bool false,.bool false,.bool false,.bool false,.bool false,.bool false,.bool false,.bool false,.bool false,.bool false,.bool false,.bool false] 86)).drew.heap.size (W.alloc (.cells #[.int .i64 0,.bool false,.bool false,.bool false,.bool false,.bool false,.bool false,.bool false,.bool false,.bool false,.bool false,.bool false,.bool false] 86)).drew v1)(c:X W W v1):∃a,M.pointer (Y (W.heap.size,0))=.pointer (Y (a,0))/\X W W (((((((((((((v1.setCell (W.heap.size,0) (.int .i64 m)).setCell (W.heap.size,1) (.bool (f 0))).setCell (W.heap.size,2) (.bool (f 1))).setCell (W.heap.size,3) (.bool (f 2))).setCell (W.heap.size,4) (.bool (f 3))).setCell (W.heap.size,5) (.bool (f 4))).setCell (W.heap.size,6) (.bool (f 5))).setCell (W.heap.size,7) (.bool (f 6))).setCell (W.heap.size,8) (.bool (f 7))).setCell (W.heap.size,9) (.bool (f 8))).setCell (W.heap.size,10) (.bool (f 9))).setCell (W.heap.size,11) (.bool (f 10))).setCell (W.heap.size,12) (.bool (f 11)))/\bA (((((((((((((v1.setCell (W.heap.size,0) (.int .i64 m)).setCell (W.heap.size,1) (.bool (f 0))).setCell (W.heap.size,2) (.bool (f 1))).setCell (W.heap.size,3) (.bool (f 2))).setCell (W.heap.size,4) (.bool (f 3))).setCell (W.heap.size,5) (.bool (f 4))).setCell (W.heap.size,6) (.bool (f 5))).setCell (W.heap.size,7) (.bool (f 6))).setCell (W.heap.size,8) (.bool (f 7))).setCell (W.heap.size,9) (.bool (f 8))).setCell (W.heap.size,10) (.bool (f 9))).setCell (W.heap.size,11) (.bool (f 10))).setCell (W.heap.size,12) (.bool (f 11))) a 86 m f:=
 ⟨W.heap.size,rfl,by exact bt,Lf (Lg b)⟩
theorem Dr{w w1:H}{b:aC}{s:Sl}(h:X ((w.alloc (aE b 31)).alloc (.cells #[.int .i64 sh,.slice s.A s.n s.c] 33)).heap.size ((w.alloc (aE b 31)).alloc (.cells #[.int .i64 sh,.slice s.A s.n s.c] 33)) w1):
  aK ((w1.alloc (aE b 82)).alloc (.cells #[.int .i64 sh,.bool (f 0),.bool (f 1),.bool (f 2),.bool (f 3),.bool (f 4),.bool (f 5),.bool (f 6),.bool (f 7),.bool (f 8),.bool (f 9),.bool (f 10),.bool (f 11)] 86)) w 31 b/\((w1.alloc (aE b 82)).alloc (.cells #[.int .i64 sh,.bool (f 0),.bool (f 1),.bool (f 2),.bool (f 3),.bool (f 4),.bool (f 5),.bool (f 6),.bool (f 7),.bool (f 8),.bool (f 9),.bool (f 10),.bool (f 11)] 86)).cell? (w.heap.size+1,1)=Y (.slice s.A s.n s.c)/\aK ((w1.alloc (aE b 82)).alloc (.cells #[.int .i64 sh,.bool (f 0),.bool (f 1),.bool (f 2),.bool (f 3),.bool (f 4),.bool (f 5),.bool (f 6),.bool (f 7),.bool (f 8),.bool (f 9),.bool (f 10),.bool (f 11)] 86)) w1 82 b/\bA ((w1.alloc (aE b 82)).alloc (.cells #[.int .i64 sh,.bool (f 0),.bool (f 1),.bool (f 2),.bool (f 3),.bool (f 4),.bool (f 5),.bool (f 6),.bool (f 7),.bool (f 8),.bool (f 9),.bool (f 10),.bool (f 11)] 86)) (w1.heap.size+1) 86 sh f/\X w w ((w1.alloc (aE b 82)).alloc (.cells #[.int .i64 sh,.bool (f 0),.bool (f 1),.bool (f 2),.bool (f 3),.bool (f 4),.bool (f 5),.bool (f 6),.bool (f 7),.bool (f 8),.bool (f 9),.bool (f 10),.bool (f 11)] 86)):=by
 have a:=h.size;simp only[aa]at a;simp only[aa]at h;have h2:X (w.heap.size+1+1) ((w.alloc (aE b 31)).alloc (.cells #[.int .i64 sh,.slice s.A s.n s.c] 33)) ((w1.alloc (aE b 82)).alloc (.cells #[.int .i64 sh,.bool (f 0),.bool (f 1),.bool (f 2),.bool (f 3),.bool (f 4),.bool (f 5),.bool (f 6),.bool (f 7),.bool (f 8),.bool (f 9),.bool (f 10),.bool (f 11)] 86)):=(h.alloc a _).alloc (by rw[aa];omega) _;refine⟨?_,?_,?_,?_,?_⟩
 .refine(h2.block _ zz).tn ?_;exact(QR _ _ (by rw[aa];omega)).tn (Sp _ _)
 .rw[h2.cell (p:=⟨w.heap.size+1,1,I⟩) (by show w.heap.size+1<_;omega)];have:=Sp (w.alloc (aE b 31)) (.cells #[.int .i64 sh,.slice s.A s.n s.c] 33);rw[aa]at this;rw[H.cell?,this];rfl
 .exact(QR _ _ (by rw[aa];omega)).tn (Sp _ _)
 .have:=bA.new (w1.alloc (aE b 82)) 86 sh f;rw[aa]at this;exact this
 .exact(((X.refl _ _).alloc (dj _) _).alloc (by rw[aa];omega) _).tn (h2.mono zz)
theorem Bq(b:aC)(l:bN)(sh:Int)(s:Sl)(d:List Int)(w:H)(b2:aI w b l)(a':aD w)(a0:aN w s d)(T:ay b l=0)(J:cN b.S sh d=0):
  PH F 11 #[b.v,aF sh s] w (wN (decide (min (max sh b.lo) b.hi=sh)&&nG (lJ (eM d) l.C) (eM d)&&decide ((d.length:Int)<=b.D)&&oI b.S b.L sh (eM d) l.U l.W,0) w):=by
 have a4:=Hm b2;have c5:=Hm a';have K:=Hm a0;clear b2 a' a0;have u:∀a,aI a b l->aD a->aN a s d->PH F 43 #[b.v,aF sh s] a λe w'=>e=.returned (.tuple #[b.v,gN sh (eM d),.int .i64 0])/\X a a w':=λa h1 h2 Q=>
  (sO b l sh s d a h1 h2 Q).mono λe w' d4=>by
   obtain⟨p1,p2⟩:=d4;rw[dE T,dE J,J]at p1;exact⟨p1,p2⟩
 have hk:=bP T;obtain⟨t1,t2,t3,t4,t5,t6,t7,t8,t9,e1,b8⟩:=cS hk.1;obtain⟨v1,v2,v3⟩:=tM J;have y:=λa (P:aN a b.C l.C)=>FX b t2 (eM d) l.C (wM b8) a P;have x:=λa (P:bp a b.U l.U) (Q:fL a b.W l.W)=>Ao b t1 t2 t5 t6 sh v1 v2 (eM d) l.U (λk S=>kP hk.2.2.1 k S) l.W (λk S=>Gb hk.2.2.2.2 k S) a P Q;have b1:=K.out.1;have d7:s.n<=1000:=by have:=K.out.2.2.1;omega
 rw[<- b1];clear b1;generalize oI b.S b.L sh (eM d) l.U l.W=R at x|-;generalize lJ (eM d) l.C=f' at y|-;generalize eM d=f at y x u|-;clear T J hk b8 v3;unfold aC.v at u y x|-;unfold aF at u|-;unfold gN at u x;unfold tJ at y;go_enter Tryz.func11,Tryz.ntmps11;go_wp2_with (go_at_call 43;refine(u _ (aq (aq a4.out _) _) (ai (ai c5.out _) _) (aZ (aZ K.out _) _)).mono ?_;rintro e a ⟨rfl,B⟩;obtain⟨c',d2⟩:=aU B;have B1:=cB B;have b6:w.heap.size+1<a.heap.size:=(by have:=B.size;simp only[aa]at this;omega);have b7:w.heap.size<a.heap.size:=zz);obtain⟨o,z,r,j,A⟩:=Dr (b:=b) (s:=s) (sh:=sh) (f:=f) B;simp only[aE]at o z r j A;clear c' d2 B;generalize(a.alloc (.cells #[.int .i64 b.S,.int .i64 b.D,.int .i64 b.L,.int .i64 b.lo,.int .i64 b.hi,.slice b.C.A b.C.n b.C.c,.int .i64 b.rf,.int .i64 b.rh,.int .i64 b.cf,.int .i64 b.ch,.slice b.U.A b.U.n b.U.c,.slice b.E.A b.E.n b.E.c,.slice b.W.A b.W.n b.W.c] 82)).alloc (.cells #[.int .i64 sh,.bool (f 0),.bool (f 1),.bool (f 2),.bool (f 3),.bool (f 4),.bool (f 5),.bool (f 6),.bool (f 7),.bool (f 8),.bool (f 9),.bool (f 10),.bool (f 11)] 86)=W at o z r j A|-;generalize a.heap.size=g at o z r j A b6 b7|-;obtain⟨x0,x1,x2,x3,x4,x5,x6,x7,x8,x9,b',b0,c1⟩:=aM o;obtain⟨z0,z1,z2,z3,z4,z5,z6,z7,z8,z9,a1,a2,a3⟩:=aM r;obtain⟨y0,y1,y2,y3,y4,y5,y6,y7,y8,y9,c2,c3,c4⟩:=j.all;have i:=r.lt;have V:=j.lt;have Z:(w:Nat)<W:=zz;have l4:(w:Nat)+1<W:=zz;have b4:=j.range;have d':=Tryz.underlying84;have d9:(F.info? 84).map (·.size)=Y 12:=by kernel_rfl
 have a6:=Hm o;have c6:=Hm z;have c8:=Hm j;have c9:=Hm r;have c7:PQ ((w:Nat)+1<W):=l4;have a7:=Hm A;have L:=Hm (a4.out.below A);have a5:PQ (∀w',X W W w'->w' (w.heap.size,3)=Y (.int .i64 b.lo)/\w' (w.heap.size,4)=Y (.int .i64 b.hi)/\w' (g,0)=Y (.int .i64 b.S)/\w' (g,1)=Y (.int .i64 b.D)/\w' (g,2)=Y (.int .i64 b.L)/\w' (g,3)=Y (.int .i64 b.lo)/\w' (g,4)=Y (.int .i64 b.hi)/\w' (g,5)=Y (.slice b.C.A b.C.n b.C.c)/\w' (g,6)=Y (.int .i64 b.rf)/\w' (g,7)=Y (.int .i64 b.rh)/\w' (g,8)=Y (.int .i64 b.cf)/\w' (g,9)=Y (.int .i64 b.ch)/\w' (g,10)=Y (.slice b.U.A b.U.n b.U.c)/\w' (g,11)=Y (.slice b.E.A b.E.n b.E.c)/\w' (g,12)=Y (.slice b.W.A b.W.n b.W.c)/\w' (g+1,0)=Y (.int .i64 sh)/\w'.rangeAt (g+1) 1 [.bool (f 0),.bool (f 1),.bool (f 2),.bool (f 3),.bool (f 4),.bool (f 5),.bool (f 6),.bool (f 7),.bool (f 8),.bool (f 9),.bool (f 10),.bool (f 11)]/\X W W w'):=λw' c=>⟨(c.cell (p:=⟨_,_,I⟩) Z).tn x3,(c.cell (p:=⟨_,_,I⟩) Z).tn x4,(c.cell (p:=⟨_,_,I⟩) i).tn z0,(c.cell (p:=⟨_,_,I⟩) i).tn z1,(c.cell (p:=⟨_,_,I⟩) i).tn z2,(c.cell (p:=⟨_,_,I⟩) i).tn z3,(c.cell (p:=⟨_,_,I⟩) i).tn z4,(c.cell (p:=⟨_,_,I⟩) i).tn z5,(c.cell (p:=⟨_,_,I⟩) i).tn z6,(c.cell (p:=⟨_,_,I⟩) i).tn z7,(c.cell (p:=⟨_,_,I⟩) i).tn z8,(c.cell (p:=⟨_,_,I⟩) i).tn z9,(c.cell (p:=⟨_,_,I⟩) i).tn a1,(c.cell (p:=⟨_,_,I⟩) i).tn a2,(c.cell (p:=⟨_,_,I⟩) i).tn a3,(c.cell (p:=⟨_,_,I⟩) V).tn y0,Dq b4 c V,c⟩;clear o z r j A b4 Z l4 b6 b7 x0 x1 x2 x3 x4 x5 x6 x7 x8 x9 b' b0 c1 y0 y1 y2 y3 y4 y5 y6 y7 y8 y9 c2 c3 c4 z0 z1 z2 z3 z4 z5 z6 z7 z8 z9 a1 a2 a3;go_cut [9] (λs9 b9=>∃O,s9=.pointer (Y ⟨O,0,I⟩)/\X W.heap.size W b9/\bA b9 O 86 (min (max sh b.lo) b.hi) f')
 case first=>
  rcases(show sh<b.lo\/(b.lo<=sh/\sh<=b.hi)\/(b.lo<=sh/\b.hi<sh)from zz)with v|⟨v,d3⟩|⟨v,d3⟩
  .exact pf
  .have ø:=0;exact pf
  .have å:=0;exact pf
 case rest=>
  obtain⟨O,rfl,n,U⟩:=hcut;obtain⟨m,v⟩:∃m,min (max sh b.lo) b.hi=m:=⟨_,rfl⟩;rw[v]at U;have N:=Hm v;clear v;have d0:=n.size;have o:aK wc w 31 b:=(n.block _ a6.out.lt).tn a6.out;have b5:aK wc g 82 b:=(n.block _ i).tn c9.out;have j:=c8.out.below n V;have z:wc (w.heap.size+1,1)=Y (.slice s.A s.n s.c):=(n.cell (p:=⟨w.heap.size+1,1,I⟩) c7.out).tn c6.out;have a9:=λw=>aa2 m sh f' f w;have a8:=λw=>aa1 f' f w;unfold gN at a9;unfold tJ at a8;obtain⟨x0,x1,x2,x3,x4,x5,x6,x7,x8,x9,b',b0,c1⟩:=aM o;obtain⟨z0,z1,z2,z3,z4,z5,z6,z7,z8,z9,a1,a2,a3⟩:=aM b5;obtain⟨y0,y1,y2,y3,y4,y5,y6,y7,y8,y9,c2,c3,c4⟩:=j.all;obtain⟨u0,u1,u2,u3,u4,u5,u6,u7,u8,u9,e2,e3,e4⟩:=U.all;have G:=Hm (a7.out.tn (n.mono a7.out.size));have d5:=x wc (L.out.U.below n) (L.out.W.below n);clear n U o b5 j a5 y u x;obtain⟨E,t⟩:∃E,(decide (m=sh)&&nG f' f)=E:=⟨_,rfl⟩;have q:=Hm t;simp only[t]at a9;cases E
  .clear t;go_wp2;go_ret2;exact⟨uL (by rw[N.out,q.out];rfl),G.out⟩
  .have b3:nG f' f=true:=by simp only[ed]at t;exact t.2
   simp only[b3]at a8;clear t b3;by_cases d1:(s.n:Int)<=b.D
   .go_wp2_with (go_at_call 51;refine d5.mono ?_;rintro e v1 ⟨rfl,C⟩);go_ret2;exact⟨uL (by rw[N.out,q.out];simp[d1]),G.out.tn (C.mono G.out.size)⟩
   .go_wp2;go_ret2;exact⟨uL (by rw[N.out,q.out];simp;intro h;omega),G.out⟩
variable{rf ch:Int}
def N8:∀{l:List (Int×Int)},nF rf ch l=0->∀p∈l,1-rf<=p.1/\p.1<=rf-1/\0<=p.2/\p.2<=60/\p.2<ch
 | [],_=>λp d=>by simp at d
 | (a,h)::r,b=>by
  simp only[nF]at b;by_cases c:(ax a (1-rf) (rf-1)&&ax h 0 60)=false
  .rw[dE c]at b;omega
  .rw[cd c]at b;by_cases h2:ch<=h
   .rw[dE h2]at b;omega
   .rw[cd h2]at b;intro p d;rcases fc.1 d with rfl|d
    .simp only[Bool.and_eq_false_iff,not_or,Bool.not_eq_false]at c;have e1:=cq.1 c.1;have e:=cq.1 c.2;exact⟨e1.1,e1.2,e.1,e.2,by show h<ch;omega⟩
    .exact N8 b p d
def qY{l:List (Int×Int)}(h:fT rf ch l=0)(k:Nat)(hk:k<l.length):1-rf<=(l.getD k (0,0)).1/\(l.getD k (0,0)).1<=rf-1/\0<=(l.getD k (0,0)).2/\(l.getD k (0,0)).2<=60/\(l.getD k (0,0)).2<ch:=by
 unfold fT at h;split at h
 .omega
 .exact N8 h _ (by simp[List.getD,fg hk])
def sv(b:aC)(l:bN)(a:Int):Bool×Bool×Int:=
 if ay b l≠0 then(false,false,ay b l)else if ax a 0 (l.E.length-1)=false then(false,false,6)else(jC b (l.E.getD a.toNat (0,0)) (-1),jC b (l.E.getD a.toNat (0,0)) 1,0)
def Lh(p:Bool×Bool×Int)(w:H)(e:Ending)(w':H):Prop:=e=.returned (.tuple #[.bool p.1,.bool p.2.1,.int .i64 p.2.2])/\X w w w'
def di{w w':H}{o:Obj}(h:X (w.alloc o).heap.size (w.alloc o) w'):X w w w':=aY h
theorem Au(b:aC)(l:bN)(d:Int)(w:H)(j:aI w b l)(o:aD w)(k:ay b l=0:=by kernel_rfl)(hf:ax d 0 (b.E.n-1)=true:=by kernel_rfl):
  PH F 16 #[b.v,.int .i64 d] w (Lh (sv b l d) w):=by
 have u:=Hm j;have v:=Hm o;have A:=j.E.1;have B:=j.E.2.2.1;clear j o;have n:=λa (z:aI a b l) (h2:aD a)=>cG b l a z h2
 .have hk:=bP k;simp only[k]at n;have s:=λa=>KW b d zz a
  .exact ZN
def vY(b:aC)(e:Int×Int)(a:Int):Int:=(nJ b.rf b.rh b.ch e a+(b.rh-e.2)-1)/(b.rh-e.2)
def qG(b:aC):Int->List (Int×Int)->Int
 | uB,[]=>uB
 | uB,e::r=>qG b (max (max uB (vY b e (-1))) (vY b e 1)) r
def H8(b:aC)(uB:Int)(l:List (Int×Int))(k:Nat)(hk:k<l.length):qG b uB (l.drop k)=qG b (max (max uB (vY b (l.getD k (0,0)) (-1))) (vY b (l.getD k (0,0)) 1)) (l.drop (k+1)):=xbq
def ve(b:aC)(l:bN):Int×Int:=if ay b l≠0 then(0,ay b l)else(qG b 0 l.E,0)
def Tl(p:Int×Int)(w:H)(e:Ending)(w':H):Prop:=e=.returned (.tuple #[.int .i64 p.1,.int .i64 p.2])/\X w w w'
def int_eq{k:IntKind}{a b:Int}(h:a=b):M.int k a=.int k b:=by rw[h]
def ZD(a b c:Int)(j:Nat):Int:=if j=0 then a else if j=1 then b else c
theorem Ia(b:aC)(l:bN)(w:H)(a2:aI w b l)(d8:aD w)(E:ay b l=0:=by kernel_rfl):
  PH F 20 #[b.v] w (Tl (ve b l) w):=by
 have ø:=0;exact ZQ
variable{B e size n:Nat}{v:M}{xs:List M}
def Ve(b:aC)(e:Int×Int):Bool:=jC b e (-1)||jC b e 1
def JC(b:aC)(E:List (Int×Int))(st:List Int×Int)(k:Nat):List Int×Int:=
 if Ve b (E.getD k (0,0))=true then(st.1++[(k:Int)],if st.2<0\/(E.getD k (0,0)).2<(E.getD st.2.toNat (0,0)).2 then(k:Int)else st.2)else st
def kL(b:aC)(E:List (Int×Int))(k:Nat):List Int×Int:=(List.range k).foldl (JC b E) ([], -1)
def AT(b:aC)(E:List (Int×Int))(k:Nat):kL b E (k+1)=JC b E (kL b E k) k:=by simp[kL,List.range_succ]
def JD(b:aC)(E:List (Int×Int)):∀k,(kL b E k).1.length<=k/\ -1<=(kL b E k).2/\(kL b E k).2<k
 | 0=>by simp[kL]
 | k+1=>by
  have a:=JD b E k;rw[AT,JC];split
  .refine⟨by simp;omega,?_,?_⟩<;>(dsimp only;split<;>omega)
  .omega
theorem rK{w w':H}(h:w.ownsRow B e size v n xs)(i:X w w w'):w'.ownsRow B e size v n xs:=by
 refine⟨h.1,h.2.imp id ?_⟩;rintro⟨g,b,c,d,h2,a,f⟩;exact⟨g,b,c,d,h2,(i.block g (du.1 a).1).tn a,f⟩
def vf(h:w.ownsRow B e size v n xs)(k:Nat):(w.drewN k).ownsRow B e size v n xs:=h
theorem Xm{w2 w3:H}{o:Obj}{g i:Nat}(b:(w2.alloc o).grownBy w3 v.ownBlock)(a:g<w2)(c:v.ownBlock≠Y g):w3 (g,i)=w2 (g,i):=
 H.cell?_of_block ((b.block g (by rw[aa];omega) (λe=>c e.symm)).tn (QR _ _ a))
def PU(h:w.ownsRow B e size v n xs)(d:g<B):v.ownBlock≠Y g:=by
 rcases h.2 with⟨rfl,-⟩|⟨b,a,c,rfl,h2,-⟩
 .simp[M.ownBlock]
 .simp[M.ownBlock];omega
def Xn(h:w.ownsRow B e size v n xs)(d:w.heap.size<=g):v.ownBlock≠Y g:=by
 rcases h.2 with⟨rfl,-⟩|⟨b,a,c,rfl, -, h2,-⟩
 .simp[M.ownBlock]
 .have:=(du.1 h2).1;simp[M.ownBlock];omega
def AU(b:aC)(l:bN):List Int×Int×Int:=if ay b l≠0 then([],0,ay b l)else((kL b l.E l.E.length).1,(kL b l.E l.E.length).2,0)
def EN(p:List Int×Int×Int)(w:H)(e:Ending)(w':H):Prop:=
 ∃A c,e=.returned (.tuple #[.slice A p.1.length c,.int .i64 p.2.1,.int .i64 p.2.2])/\w'.ownsRow w.heap.size 3 1 (.slice A p.1.length c) p.1.length (p.1.map (M.int .i64))/\X w w w'
theorem MG(b:aC)(l:bN)(w:H)(a2:aI w b l)(d8:aD w)(E:ay b l=0:=by kernel_rfl):
  PH F 18 #[b.v] w (EN (AU b l) w):=ZQ
theorem pE(b:aC)(l:bN)(sh:Int)(s:Sl)(d:List Int)(w:H)(o:aI w b l)(u:aD w)(v:aN w s d):
  PH F 11 #[b.v,aF sh s] w (wN (dI b l sh d) w):=by
 have ø:=0;exact pk
end Go.Proofs.YtfcgpihkimpkcaaGreatDoor
