import Derived.BigQuiet
import Derived.IntWalk
import Derived.Test.YtimmnfbjckbneaaGreatDoorZh
set_option maxRecDepth 100000
set_option maxHeartbeats 4000000
set_option linter.all false
noncomputable section
open Go.Proofs.Tryz renaming prog->F
open Go renaming World->H,Value->M,Calls->PH,heap_alloc_old->QR,heap_alloc_new->Sp,bodyPost_ret->bd
open Go.RowKit renaming Below->Hd,Hid->PQ,Below->X
open Go.Lib renaming hid->Hm
open Option renaming none->I,some->Y
namespace Go
def po{p:Prop}(h:p:=by
 first
 |have _:=ø
  skip;have c:PQ (dZ b l=7):=(by show _=_;rw[f.out,cZ,dE ⟨o,q,m,n⟩,dE K])
 |have _:=å
  skip;have c:PQ (dZ b l=0):=(by show _=_;rw[f.out,cZ,dE ⟨o,q,m,n⟩,cd K])
 |have _:=æ
  have a2:(bS b.S I l != 0)=true:=by simpa using j
  have c:PQ (dZ b l=bS b.S I l):=(by show _=_;rw[dZ,a.out,dE j])
 |have _:=ë
  have o:=B;have c:PQ (dZ b l=1):=(by show _=_;rw[f.out,cZ,cd (by simp[o])])
 |have _:=ï
  have q:=C;have c:PQ (dZ b l=1):=(by show _=_;rw[f.out,cZ,cd (by simp[q])])
 |have _:=ö
  have m:=z;have c:PQ (dZ b l=1):=(by show _=_;rw[f.out,cZ,cd (by simp[m])])
 |have _:=ü
  have n:=A;have c:PQ (dZ b l=1):=(by show _=_;rw[f.out,cZ,cd (by simp[n])])
 |have _:=þ
  have k:=x;have c:PQ (dZ b l=1):=(by show _=_;have a:cA b l=1:=(by rw[cA,cd (by simp[k])]);rw[dZ,a];rfl)
 |have _:=ð
  have s:=t;have c:PQ (dZ b l=1):=(by show _=_;have a:cA b l=1:=(by rw[cA,cd (by simp[s])]);rw[dZ,a];rfl)
 |have _:=ñ
  have u:=v;have c:PQ (dZ b l=1):=(by show _=_;have a:cA b l=1:=(by rw[cA,cd (by simp[u])]);rw[dZ,a];rfl)
 |have _:=ç
  have hB:=r;have c:PQ (dZ b l=1):=(by show _=_;have a:cA b l=1:=(by rw[cA,cd (by simp[hB])]);rw[dZ,a];rfl)
 |skip
  have c:PQ (dZ b l=1):=(by show _=_;have a:cA b l=1:=(by rw[cA,cd zz]);rw[dZ,a];rfl)
 unfold aC.v at|-;go_enter Tryz.func42,Tryz.ntmps42;first|have _:=ê;(go_wp2_with (first|(go_at_call 43;refine(bz _ _ _ _).mono ?_;rintro e w' ⟨rfl,rfl⟩)|(go_at_call 85;refine(eZ _ _ _ _ _).mono ?_;rintro e g ⟨rfl,d⟩;obtain⟨P,Q⟩:=aU d;have E:=d.size;have S:w.heap.size<g.heap.size:=(by simp only[aa]at E;omega);have i:=aY d)))|(go_wp2_with (first|(go_at_call 43;refine(bz _ _ _ _).mono ?_;rintro e w' ⟨rfl,rfl⟩)|(go_at_call 85;refine(eZ _ _ _ _ _).mono ?_;rintro e g ⟨rfl,d⟩;obtain⟨P,Q⟩:=aU d;have E:=d.size;have S:w.heap.size<g.heap.size:=(by simp only[aa]at E;omega);have i:=aY d)|(go_at_call 79;refine(G zz zz _ (N.out.below i)).mono ?_;rintro e R ⟨rfl,y⟩;obtain⟨a3,a4⟩:=aU y;have L:=i.tn (y.mono i.size);have z2:=y.size;have z4:w.heap.size<R.heap.size:=zz)))
 all_goals go_ret
 all_goals exact⟨aW c.out.symm,by first|with_reducible assumption|(with_reducible exact L)|(with_reducible exact i)|exact bt⟩):p:=h
def xac{p:Prop}(h:p:=by
 unfold aC.v;first|have _:=ø;go_enter Tryz.func44,Tryz.ntmps44|go_enter Tryz.func37,Tryz.ntmps37
 go_wp2_with ((go_at_call 43;refine(bz _ _ _ _).mono ?_;rintro e w' ⟨rfl,rfl⟩));go_ret;exact⟨rfl,(X.refl _ _).alloc (dj _) _⟩):p:=h
end Go
namespace Go.Proofs.YtimmnfbjckbneaaGreatDoor
open Go.RowKit
theorem bz(n l h:Int)(w:H):
  PH F 43 #[.int .i64 n,.int .i64 l,.int .i64 h] w λe w'=>e=.returned (.bool (ax n l h))/\w=w':=xaR
theorem eZ(lo hi l h:Int)(w:H):
  PH F 85 #[.agg #[.int .i64 lo,.int .i64 hi],.int .i64 l,.int .i64 h] w λe w'=>e=.returned (.bool (lF lo hi l h))/\X w w w':=ui
theorem rH(b:aC)(n:Int)(a: -1000<=b.S)(h2:b.S<=1000)(w:H):
  PH F 44 #[b.v,.int .i64 n] w λe w'=>e=.returned (.bool (ax n 0 (b.S-1)))/\X w w w':=by
 have ø:=0;exact xac
theorem rI(b:aC)(n:Int)(a:b.U.n<=1000)(w:H):
  PH F 37 #[b.v,.int .i64 n] w λe w'=>e=.returned (.bool (ax n 0 (b.U.n-1)))/\X w w w':=xac
def aN.mono{w w':H}{s:Sl}{l:List Int}{B:Nat}(h:aN w s l)(a:X B w w')(hB:w.heap.size<=B):aN w' s l:=
 h.below (a.mono hB)
theorem vU(S:Int)(h1: -1000<=S)(h2:S<=1000)(s:Sl)(l:List Int)(w:H)(K:aN w s l):
  PH F 79 #[.slice s.A s.n s.c,.int .i64 S] w λe w'=>e=.returned (.int .i64 (bS S I l))/\X w w w':=by
 have æ:=0;exact sa
theorem yS(n:Int)(s:Sl)(l:List Int)(w:H)(K:aN w s l):
  PH F 83 #[.slice s.A s.n s.c,.int .i64 n] w λe w'=>e=.returned (.bool (decide (n∈l)))/\w'=w:=by
 have ø:=0;exact sa
def MC{l m:List Int}{k:Nat}(h:l.take k=m.take k)(e:l.getD k 0=m.getD k 0)(a:k<l.length)(h2:k<m.length):l.take (k+1)=m.take (k+1):=by
 rw[q5A a,q5A h2,h];have b:l[k]=m[k]:=by simpa[List.getD,fg a,fg h2]using e
 rw[b]
theorem AS(s t:Sl)(l m:List Int)(w:H)(K:aN w s l)(hm:aN w t m):
  PH F 12 #[.slice s.A s.n s.c,.slice t.A t.n t.c] w λe w'=>e=.returned (.bool (decide (l=m)))/\X w w w':=by
 have ë:=0;exact sa
theorem pJ(b:aC)(x: -1000<=b.S)(h2:b.S<=1000)(sh:Int)(s:Sl)(l:List Int)(w:H)(r:aN w s l):
  PH F 36 #[b.v,aF sh s] w λe w'=>e=.returned (.int .i64 (cN b.S sh l))/\X w w w':=by
 have q:=λa (h:aN a s l)=>vU b.S x h2 s l a h;have B:=Hm r;clear r;by_cases m:ax sh (-3) 3=true
 .have HR:PQ (cN b.S sh l=bS b.S I l):=by unfold cN;rw[dE m];exact rfl
  unfold aC.v aF;go_enter Tryz.func36,Tryz.ntmps36;go_wp2_with (first|(go_at_call 43;refine(bz _ _ _ _).mono ?_;rintro e a ⟨rfl,rfl⟩;rw[m])|(go_at_call 79;refine(q _ (aZ (aZ B.out _) _)).mono ?_;rintro e a ⟨rfl,f⟩;obtain⟨J,N⟩:=aU f));go_ret;exact⟨aW HR.out.symm,cB f⟩
 .have ø:=0;exact xax
def dZ(b:aC)(l:List Int):Int:=if cA b l≠0 then cA b l else cZ b
theorem Ic(b:aC)(l:List Int)(w:H)(J:aN w b.C l):
  PH F 42 #[b.v] w λe w'=>e=.returned (.int .i64 (dZ b l))/\X w w w':=by
 have N:=Hm J;clear J;have G:=λ(O: -1000<=b.S) (h2:b.S<=1000) (g:H) (h:aN g b.C l)=>vU b.S O h2 b.C l g h;by_cases x:ax b.S 4 12=false
 .have þ:=0;have ê:=0;exact po
 have k:ax b.S 4 12=true:=by simpa using x
 clear x;by_cases t:ax b.D 0 2=false
 .have ð:=0;have ê:=0;exact po
 have s:ax b.D 0 2=true:=by simpa using t
 clear t;by_cases v:ax b.L 1 4=false
 .have ñ:=0;have ê:=0;exact po
 have u:ax b.L 1 4=true:=by simpa using v
 clear v;by_cases r:lF b.lo b.hi (-3) 3=false
 .have ç:=0;have ê:=0;exact po
 have hB:lF b.lo b.hi (-3) 3=true:=by simpa using r
 clear r;obtain⟨T,U,V⟩:=uJ.1 hB;obtain⟨W,Z⟩:=cq.1 k;by_cases a1:3<=b.hi-b.lo
 .have ê:=0;exact po
 have a:PQ (cA b l=bS b.S I l):=by show _=_;rw[cA,dE ⟨k,s,u,hB,zz⟩]
 by_cases j:bS b.S I l=0;rotate_left
 .have æ:=0;exact po
 have f:PQ (dZ b l=cZ b):=by show _=_;rw[dZ,a.out,cd (by simp[j])]
 rw[j]at G;clear j a;by_cases B:ax b.rf 2 30=false
 .have ë:=0;exact po
 have o:ax b.rf 2 30=true:=by simpa using B
 clear B;by_cases C:ax b.rh 2 60=false
 .have ï:=0;exact po
 have q:ax b.rh 2 60=true:=by simpa using C
 clear C;by_cases z:ax b.cf 0 b.rf=false
 .have ö:=0;exact po
 have m:ax b.cf 0 b.rf=true:=by simpa using z
 clear z;by_cases A:ax b.ch 1 60=false
 .have ü:=0;exact po
 have n:ax b.ch 1 60=true:=by simpa using A
 clear A;by_cases K:b.rh<=b.ch
 .have ø:=0;exact po
 .have å:=0;exact po
def P5(n t S:Int):(n-t-S/2)%S=(n-(t+S/2)%S+S)%S:=by
 have h:=Int.emod_add_mul_ediv (t+S/2) S;generalize(t+S/2)/S=q at h;generalize(t+S/2)%S=m at h|-;have e:n-t-S/2=(n-m+S)+S*(-1-q):=by
  rw[Int.mul_sub];generalize S*q=z at h|-;omega
 rw[e,Int.add_mul_emod_self_left]
def qQ(S L sh:Int)(d:List Int)(t y n:Int):Bool:=if y+sh<=0\/t∈d then false else FT S L t (y+sh) n
theorem E5(b:aC)(z:4<=b.S)(h2:b.S<=12)(A:1<=b.L)(B:b.L<=4)(sh:Int)(h5: -3<=sh)(h6:sh<=3)(s:Sl)(d:List Int)(U:List (Int×Int))(k:Nat)(hk:k<U.length)(t y:Int)(u:U.getD k (0,0)=(t,y))(t1:0<=t)(J:t<b.S)(t3: -9<=y)(t4:y<=9)(n:Nat)(G:(n:Int)<b.S)(w:H)(q:aN w s d)(C:bp w b.U U):
  PH F 80 #[b.v,aF sh s,.int .i64 k,.int .i64 n] w λe w'=>e=.returned (.bool (qQ b.S b.L sh d t y n))/\Hd w w w':=by
 have j:=Hm q;clear q;obtain⟨S,D,L,lo,hi,⟨K,O,N⟩,rf,rh,cf,ch,⟨T,W,V⟩,⟨P,R,Q⟩,⟨Z,a2,a1⟩⟩:=b;obtain⟨o,E,a4,f⟩:=C;simp only at o E f z h2 A B J G|-;subst o;obtain⟨c,off,rfl,a3,p⟩:=f zz;obtain⟨l,m⟩:=p k hk;rw[u]at l m;simp only at l m;clear p f u;have e1:c<w.heap.size+1:=zz;have e2:c<w.heap.size+2:=zz;have e3:c<w.heap.size+3:=zz;have r:=λi h=>yS t s d i h;have x:=Hm (P5 n t S);by_cases v:y+sh<=0
 .have a5:decide (y+sh<=0)=true:=by simpa using v
  unfold aC.v aF;go_enter Tryz.func80,Tryz.ntmps80;go_wp2;go_ret;exact⟨bR (by simp[qQ,v]),by exact bt⟩
 .by_cases a:t∈d
  .have g:decide (t∈d)=true:=by simpa using a
   unfold aC.v aF;go_enter Tryz.func80,Tryz.ntmps80;go_wp2_with (go_at_call 83;refine(r _ (aZ (aZ (aZ j.out _) _) _)).mono ?_;rintro e i ⟨rfl,rfl⟩;rw[g]);all_goals go_ret
   all_goals exact⟨bR (by simp[qQ,a]),by exact bt⟩
  .have g:decide (t∈d)=false:=by simpa using a
   have r0:0<=((n:Int)-t-S/2)%S:=Int.emod_nonneg _ zz;have r1:((n:Int)-t-S/2)%S<S:=Int.emod_lt_of_pos _ zz;unfold aC.v aF;go_enter Tryz.func80,Tryz.ntmps80;go_wp2_with (first|(go_at_call 83;refine(r _ (aZ (aZ (aZ j.out _) _) _)).mono ?_;rintro e i ⟨rfl,rfl⟩;rw[g])|go_quiet (fail));all_goals go_ret
   all_goals refine⟨bR ?_,by exact bt⟩
   all_goals
    rw[qQ,cd (by simp[a];omega),FT,<- x.out,Int.min_def];congr 1;generalize((n:Int)-t-S/2)%S=X at*;split<;>simp<;>omega
variable{w wr:H}{o:Obj}
def Tm(B:Nat)(L:List Int)(w:H)(e:Ending)(w':H):Prop:=
 ∃A c,e=.returned (.slice A L.length c)/\w'.ownsRow B 3 1 (.slice A L.length c) L.length (L.map (M.int .i64))/\X B w w'
def Xq{sh:Int}{s:Sl}(h:X (w.heap.size+1+1) ((w.alloc o).alloc (.cells #[.int .i64 sh,.slice s.A s.n s.c] 33)) wr):wr (w.heap.size+1,0)=Y (.int .i64 sh)/\wr (w.heap.size+1,1)=Y (.slice s.A s.n s.c):=by
 have a:wr.heap[w.heap.size+1]?=Y (.cells #[.int .i64 sh,.slice s.A s.n s.c] 33):=by
  rw[h.block _ zz];have:=Sp (w.alloc o) (.cells #[.int .i64 sh,.slice s.A s.n s.c] 33);rw[aa]at this;exact this
 constructor<;>(rw[H.cell?,a];rfl)
theorem Xr{b:aC}(h:X (w.heap.size+1+1) ((w.alloc (aE b 31)).alloc o) wr):aK wr w 31 b:=
 (h.block _ zz).tn ((QR _ _ (by rw[aa];omega)).tn (Sp _ _))
theorem Ie(b:aC)(Q:4<=b.S)(h2:b.S<=12)(R:1<=b.L)(S:b.L<=4)(sh:Int)(T: -3<=sh)(V:sh<=3)(s:Sl)(d:List Int)(U:List (Int×Int))(h:Nat)(a2:h<U.length)(t y:Int)(L:U.getD h (0,0)=(t,y))(t1:0<=t)(t2:t<b.S)(t3: -9<=y)(t4:y<=9)(w:H)(E:aN w s d)(C:bp w b.U U):
  PH F 38 #[b.v,aF sh s,.int .i64 h] w (Tm w (ie (λn=>qQ b.S b.L sh d t y n) b.S.toNat) w):=by
 obtain⟨i0,hi,a7,a8,a9⟩:=info_parts vD;have O:=Hm E;have P:=Hm C;have o:=λ(n:Nat) (a4:(n:Int)<b.S) g (q1:aN g s d) (q2:bp g b.U U)=>E5 b Q h2 R S sh T V s d U h a2 t y L t1 t2 t3 t4 n a4 g q1 q2;clear E C L;generalize G:(λn:Nat=>qQ b.S b.L sh d t y n)=f;have B:∀n:Nat,qQ b.S b.L sh d t y n=f n:=λn=>by rw[<- G]
 simp only[B]at o;clear G B;unfold aC.v aF at*;go_enter Tryz.func38,Tryz.ntmps38;go_wp2;go_loopw [7,8] (λv i wr=>∃(k:Nat) (l:Option Addr) (m:Nat),(k:Int)<=b.S/\i=.int .i64 k/\v=.slice l (ie f k).length m/\wr.ownsRow (w.heap.size+1+1) 3 1 v (ie f k).length ((ie f k).map (M.int .i64))/\X (w.heap.size+1+1) ((w.alloc (aE b 31)).alloc (.cells #[.int .i64 sh,.slice s.A s.n s.c] 33)) wr)
  (λ_ i _=>b.S.toNat-(intOf i).toNat)
 case atStart=>exact⟨0,I,0,zz,rfl,rfl,H.ownsRow_nil _ _ _ _,X.refl _ _⟩
 case round=>
  obtain⟨k,l,m,hk,rfl,rfl,u,j⟩:=hrel;have z:=j.size;simp only[aa]at z;have a0:=kO f k;obtain⟨x0,x1,x2,x3,x4,x5,x6,x7,x8,x9,b4,b5,b6⟩:=aM (Xr j);obtain⟨y0,y1⟩:=Xq j;have hB:=cB (by rw[aa,aa];exact j);have z0:(w:Nat)<wr:=zz;have z1:(w:Nat)+1<wr:=zz;by_cases a3:(k:Int)<b.S
  .have r:=o k a3 wr (O.out.below hB) (P.out.below hB);clear o;cases p:f k;all_goals rw[p]at r
   .have e1:=mV p;go_wp2_with (go_at_call 80;refine r.mono ?_;rintro e g ⟨rfl,a⟩;obtain⟨W,Z⟩:=aU a);go_roundw
    case rel=>exact⟨k+1,l,m,zz,by go_num,by rw[e1],by rw[e1];exact rK u a,j.tn (a.mono z)⟩
    case measure=>simp[intOf];omega
   .have e1:=oG p;go_wp2_with (first|(go_at_call 80;refine r.mono ?_;rintro e g ⟨rfl,a⟩;obtain⟨W,Z⟩:=aU a;have b2:=a.size;have b3:w.heap.size+1+1<=g.heap.size:=zz;have K:=rK u a)|(at_builtin;refine wpList_append_own _ rfl _ _ 24 rfl (w.heap.size+1+1) 3 i0 (.int .i64 0) 1 8 Tryz.underlying24 hi a7 a8 a9 rfl dd _ _ _ rfl (K.alloc _) ⟨g.heap.size,0,I⟩ 1 1 [.int .i64 k] rfl rfl (cell_one_new _ _ _) (λx N=>by simp at N;subst N;rfl) (by unfold maxLen;omega) zz so ?_;intro v' w3 J a1 b1));go_roundw
    case rel=>
     obtain⟨A,c,a6⟩:=tK J;exact⟨k+1,A,c,zz,by go_num,by rw[a6,e1];simp,by rw[e1];simpa using J,((j.tn (a.mono z)).alloc zz _).grown a1 so (λq a5=>(K.lt q a5).1)⟩
    case measure=>simp[intOf];omega
  .have a':(k:Int)=b.S:=zz;have e:b.S.toNat=k:=zz;clear o;go_wp2;go_ret;try rw[e]
   exact⟨l,m,rfl,dy zz u,hB⟩
end Go.Proofs.YtimmnfbjckbneaaGreatDoor
