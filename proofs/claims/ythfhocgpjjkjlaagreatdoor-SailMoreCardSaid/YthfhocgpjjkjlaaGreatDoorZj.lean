import Derived.Test.YthfhocgpjjkjlaaGreatDoorZi
import Derived.BigQuiet
import Derived.IntWalk
import Derived.Deep.RegionHeld3
import Derived.DeepKeys
import Derived.Deep.DeepCutAuto
import Derived.Deep.QuietTactic
set_option maxRecDepth 100000
set_option maxHeartbeats 4000000
set_option linter.all false
noncomputable section
open Go.Proofs.Tryz renaming prog->F
open Go renaming World->H,TypeId->Lk,Value->M,Calls->PH,heap_alloc_old->QR,heap_alloc_new->Sp,bodyPost_ret->bd
open Go.Lib renaming hid->Hm
open Option renaming none->I,some->Y
open Go.RowKit renaming Hid->PQ,Below->X
namespace Go.Proofs.YthfhocgpjjkjlaaGreatDoor
open Go.RowKit
theorem bz(n l h:Int)(w:H):
  PH F 35 #[.int .i64 n,.int .i64 l,.int .i64 h] w λe w'=>e=.returned (.bool (ax n l h))/\w=w':=by
 go_enter Tryz.func35,Tryz.ntmps35;go_wp2;all_goals go_ret
 .exact⟨bR (by simp[ax, *]),rfl⟩
 .exact⟨bR (by simp[ax];omega),rfl⟩
theorem eZ(lo hi l h:Int)(w:H):
  PH F 80 #[.agg #[.int .i64 lo,.int .i64 hi],.int .i64 l,.int .i64 h] w λe w'=>e=.returned (.bool (lF lo hi l h))/\X w w w':=by
 go_enter Tryz.func80,Tryz.ntmps80;go_wp2;all_goals go_ret
 .exact⟨bR (by simp[lF, *]),(X.refl _ _).alloc (qN _) _⟩
 .exact⟨bR (by simp[lF, *];omega),(X.refl _ _).alloc (qN _) _⟩
 .exact⟨bR (by simp[lF, *];omega),(X.refl _ _).alloc (qN _) _⟩
theorem rH(b:aC)(n:Int)(a: -1000<=b.S)(h2:b.S<=1000)(w:H):
  PH F 38 #[b.v,.int .i64 n] w λe w'=>e=.returned (.bool (ax n 0 (b.S-1)))/\X w w w':=by
 unfold aC.v;go_enter Tryz.func38,Tryz.ntmps38;go_wp2_with ((go_at_call 35;refine(bz _ _ _ _).mono ?_;rintro e w' ⟨rfl,rfl⟩));go_ret;exact⟨rfl,(X.refl _ _).alloc (qN _) _⟩
theorem rI(b:aC)(n:Int)(a:b.U.n<=1000)(w:H):
  PH F 39 #[b.v,.int .i64 n] w λe w'=>e=.returned (.bool (ax n 0 (b.U.n-1)))/\X w w w':=by
 unfold aC.v;go_enter Tryz.func39,Tryz.ntmps39;go_wp2_with ((go_at_call 35;refine(bz _ _ _ _).mono ?_;rintro e w' ⟨rfl,rfl⟩));go_ret;exact⟨rfl,(X.refl _ _).alloc (qN _) _⟩
theorem vU(S:Int)(G: -1000<=S)(h2:S<=1000)(s:Sl)(l:List Int)(w:H)(hl:eC w s l):
  PH F 81 #[.slice s.A s.n s.c,.int .i64 S] w λe w'=>e=.returned (.int .i64 (bS S I l))/\X w w w':=by
 obtain⟨A,P,c⟩:=s;obtain⟨rfl,K,N,r⟩:=hl;have z:PQ (0<l.length->∃b off,A=Y ⟨b,off,I⟩/\b<w.heap.size/\∀k,k<l.length->w (b,off+k)=Y (.int .i64 (l.getD k 0))):=r;clear r;simp only at|-;go_enter Tryz.func81,Tryz.ntmps81;go_wp2;go_loopw [5] (λi wr=>∃k:Nat,k<=l.length/\i=.int .i64 k/\X w.heap.size w wr/\PQ (bS S I l=bS S (qh l k) (l.drop k))) (λi _=>l.length-(intOf i).toNat)
 case atStart=>exact⟨0,qT _,rfl,X.refl _ _,by simp[qh,PQ]⟩
 case round=>
  obtain⟨k,hk,rfl,a,g⟩:=hrel;have O:(w:Nat)<=wr:=a.size;by_cases u:k<l.length
  .have j:=vE S l k u;obtain⟨d,off,rfl,q,n⟩:=z.out zz;have J:d<wr.heap.size:=zz;have B:wr (d,off+k)=Y (.int .i64 (l.getD k 0)):=(a.cell (p:=⟨d,off+k,I⟩) q).tn (n k u);have t:0<k->wr (d,off+(k-1))=Y (.int .i64 (l.getD (k-1) 0)):=λE=>(a.cell (p:=⟨d,off+(k-1),I⟩) q).tn (n (k-1) zz);clear n;generalize l.getD k 0=x at j B;generalize l.getD (k-1) 0=y at j t;have h:=Hm j;clear j;by_cases m:ax x 0 (S-1)=false
   .go_wp2_with ((go_at_call 35;refine(bz _ _ _ _).mono ?_;rintro e v ⟨rfl,rfl⟩;rw[m]));go_ret;exact⟨aW (by rw[g.out,h.out,qWB m]),a⟩
   .have f:ax x 0 (S-1)=true:=by simpa using m
    by_cases o:0<k
    .have C:decide ((0:Int)<k)=true:=by simpa using o
     have L:=t o;have e1:((k:Int)-1).toNat=k-1:=zz;go_wp2_with (first|(go_at_call 35;refine(bz _ _ _ _).mono ?_;rintro e v ⟨rfl,rfl⟩;rw[f])|go_quiet (fail))
     .go_ret;exact⟨aW (by rw[g.out,h.out,qVB (by simp[f]),qWB (by simp[*])]),below_drewN a nq⟩
     .refine⟨⟨k+1,zz,by go_num,below_drewN a nq,g.out.tn (h.out.tn (by rw[qVB (by simp[f]),qVB so]))⟩,?_⟩;simp[intOf];omega
    .have C:decide ((0:Int)<k)=false:=by simpa using o
     go_wp2_with (first|(go_at_call 35;refine(bz _ _ _ _).mono ?_;rintro e v ⟨rfl,rfl⟩;rw[f])|go_quiet (fail))
     .refine⟨⟨k+1,zz,by go_num,below_drewN a nq,g.out.tn (h.out.tn (by rw[qVB (by simp[f]),qVB so]))⟩,?_⟩;simp[intOf];omega
  .obtain rfl:k=l.length:=zz;go_wp2;go_ret;exact⟨aW (by rw[g.out,xR]),a⟩
theorem ze(n:Int)(s:Sl)(l:List Int)(w:H)(hl:eC w s l):
  PH F 79 #[.slice s.A s.n s.c,.int .i64 n] w λe w'=>e=.returned (.bool (decide (n∈l)))/\w'=w:=by
 obtain⟨A,v,c⟩:=s;obtain⟨rfl,t,u,h⟩:=hl;have o:PQ (0<l.length->∃b off,A=Y ⟨b,off,I⟩/\b<w.heap.size/\∀k,k<l.length->w (b,off+k)=Y (.int .i64 (l.getD k 0))):=h;clear h;simp only at|-;go_enter Tryz.func79,Tryz.ntmps79;go_wp2;go_loopw [5] (λi wr=>∃k:Nat,k<=l.length/\i=.int .i64 k/\wr=w/\PQ (n∉l.take k)) (λi _=>l.length-(intOf i).toNat)
 case atStart=>exact⟨0,qT _,rfl,rfl,by simp[PQ]⟩
 case round=>
  obtain⟨k,hk,rfl,rfl,m⟩:=hrel;by_cases d:k<l.length
  .obtain⟨q,off,rfl,r,j⟩:=o.out zz;have p:=j k d;have a:PQ (l.getD k 0=l[k]):=by show _=_;simp[List.getD,iv d]
   have g:PQ (l.take (k+1)=l.take k++[l.getD k 0]):=by show _=_;rw[a.out];simp
   have f:PQ (l.getD k 0∈l):=by show _∈_;rw[a.out];exact List.getElem_mem d
   clear j a;generalize l.getD k 0=x at p g f;go_wp2
   .go_ret;exact⟨bR (by have:=f.out;simp_all),rfl⟩
   .go_roundw
    case rel=>exact⟨k+1,zz,by go_num,by trivial,by show _∉_;rw[g.out];have:=m.out;simp_all;omega⟩
    case measure=>simp[intOf];omega
  .obtain rfl:k=l.length:=zz;go_wp2;go_ret;exact⟨bR (by have:=m.out;simp_all),rfl⟩
def MC{l m:List Int}{k:Nat}(h:l.take k=m.take k)(e:l.getD k 0=m.getD k 0)(a:k<l.length)(h2:k<m.length):l.take (k+1)=m.take (k+1):=by
 rw[lh a,lh h2,h];have b:l[k]=m[k]:=by simpa[List.getD,iv a,iv h2]using e
 rw[b]
theorem AS(s t:Sl)(l m:List Int)(w:H)(hl:eC w s l)(O:eC w t m):
  PH F 48 #[.slice s.A s.n s.c,.slice t.A t.n t.c] w λe w'=>e=.returned (.bool (decide (l=m)))/\X w w w':=by
 obtain⟨A,a2,c⟩:=s;obtain⟨rfl,U,W,j⟩:=hl;have C:PQ (0<l.length->∃b off,A=Y ⟨b,off,I⟩/\b<w.heap.size/\∀k,k<l.length->w (b,off+k)=Y (.int .i64 (l.getD k 0))):=j;clear j;obtain⟨B,a3,R⟩:=t;obtain⟨rfl,V,Z,n⟩:=O;have E:PQ (0<m.length->∃b off,B=Y ⟨b,off,I⟩/\b<w.heap.size/\∀k,k<m.length->w (b,off+k)=Y (.int .i64 (m.getD k 0))):=n;clear n;simp only at|-;by_cases P:(l.length:Int)=m.length
 .have Q:l.length=m.length:=zz;go_enter Tryz.func48,Tryz.ntmps48;go_wp2;go_loopw [5] (λi wr=>∃k:Nat,k<=l.length/\i=.int .i64 k/\X w.heap.size w wr/\PQ (l.take k=m.take k)) (λi _=>l.length-(intOf i).toNat)
  case atStart=>exact⟨0,qT _,rfl,X.refl _ _,by simp[PQ]⟩
  case round=>
   obtain⟨k,hk,rfl,a,r⟩:=hrel;have a1:(w:Nat)<=wr:=a.size;by_cases u:k<l.length
   .have v:k<m.length:=zz;obtain⟨g,off,rfl,J,o⟩:=C.out zz;obtain⟨h,z,rfl,K,q⟩:=E.out zz;have S:g<wr.heap.size:=zz;have T:h<wr.heap.size:=zz;have L:wr (g,off+k)=Y (.int .i64 (l.getD k 0)):=(a.cell (p:=⟨g,off+k,I⟩) J).tn (o k u);have N:wr (h,z+k)=Y (.int .i64 (m.getD k 0)):=(a.cell (p:=⟨h,z+k,I⟩) K).tn (q k v);clear o q;have f:PQ (l.getD k 0=m.getD k 0->l.take (k+1)=m.take (k+1)):=λe=>MC r.out e u v;have d:PQ (l.getD k 0≠m.getD k 0->l≠m):=λe G=>e (by rw[G]);generalize l.getD k 0=x at L f d;generalize m.getD k 0=y at N f d;go_wp2_with (go_quiet (fail))
    .go_ret;exact⟨bR (by have:=d.out;simp_all),below_drewN a nq⟩
    .refine⟨⟨k+1,zz,by go_num,below_drewN a nq,f.out (by first|assumption|simp_all|omega)⟩,?_⟩;simp[intOf];omega
   .obtain rfl:k=l.length:=zz;go_wp2;go_ret;exact⟨bR (by have:=r.out;rw[List.take_length,Q,List.take_length]at this;simp[this]),a⟩
 .go_enter Tryz.func48,Tryz.ntmps48;go_wp2;go_ret;exact⟨bR (by have:l≠m:=λe=>P (by rw[e]);simp[this]),X.refl _ _⟩
def dZ(b:aC)(l:List Int):Int:=if Iv b l≠0 then Iv b l else cZ b
theorem Ic(b:aC)(l:List Int)(w:H)(hl:eC w b.C l):
  PH F 37 #[b.v] w λe w'=>e=.returned (.int .i64 (dZ b l))/\X w w w':=by
 have r:=Hm hl;clear hl;have q:=λ(U: -1000<=b.S) (h2:b.S<=1000) (f:H) (h:eC f b.C l)=>vU b.S U h2 b.C l f h;by_cases O:ax b.S 4 12=false
 .have z:=O;have g:PQ (dZ b l=1):=(by show _=_;have k:Iv b l=1:=(by rw[Iv,qVB (by simp[z])]);rw[dZ,k];rfl);unfold aC.v at|-;go_enter Tryz.func37,Tryz.ntmps37;go_wp2_with (first|(go_at_call 35;refine(bz _ _ _ _).mono ?_;rintro e w' ⟨rfl,rfl⟩)|(go_at_call 80;refine(eZ _ _ _ _ _).mono ?_;rintro e f ⟨rfl,a⟩;obtain⟨n,o⟩:=aU a;have i:=a.size;have p:w.heap.size<f.heap.size:=(by simp only[aa]at i;omega);have c:=aY a));all_goals go_ret
  all_goals exact⟨aW g.out.symm,by first|with_reducible assumption|(with_reducible exact j)|(with_reducible exact c)|exact bt⟩
 have z:ax b.S 4 12=true:=by simpa using O
 clear O;by_cases K:ax b.D 0 2=false
 .have J:=K;have g:PQ (dZ b l=1):=(by show _=_;have k:Iv b l=1:=(by rw[Iv,qVB (by simp[J])]);rw[dZ,k];rfl);unfold aC.v at|-;go_enter Tryz.func37,Tryz.ntmps37;go_wp2_with (first|(go_at_call 35;refine(bz _ _ _ _).mono ?_;rintro e w' ⟨rfl,rfl⟩)|(go_at_call 80;refine(eZ _ _ _ _ _).mono ?_;rintro e f ⟨rfl,a⟩;obtain⟨n,o⟩:=aU a;have i:=a.size;have p:w.heap.size<f.heap.size:=(by simp only[aa]at i;omega);have c:=aY a));all_goals go_ret
  all_goals exact⟨aW g.out.symm,by first|with_reducible assumption|(with_reducible exact j)|(with_reducible exact c)|exact bt⟩
 have J:ax b.D 0 2=true:=by simpa using K
 clear K;by_cases N:ax b.L 1 4=false
 .have L:=N;have g:PQ (dZ b l=1):=(by show _=_;have k:Iv b l=1:=(by rw[Iv,qVB (by simp[L])]);rw[dZ,k];rfl);unfold aC.v at|-;go_enter Tryz.func37,Tryz.ntmps37;go_wp2_with (first|(go_at_call 35;refine(bz _ _ _ _).mono ?_;rintro e w' ⟨rfl,rfl⟩)|(go_at_call 80;refine(eZ _ _ _ _ _).mono ?_;rintro e f ⟨rfl,a⟩;obtain⟨n,o⟩:=aU a;have i:=a.size;have p:w.heap.size<f.heap.size:=(by simp only[aa]at i;omega);have c:=aY a));all_goals go_ret
  all_goals exact⟨aW g.out.symm,by first|with_reducible assumption|(with_reducible exact j)|(with_reducible exact c)|exact bt⟩
 have L:ax b.L 1 4=true:=by simpa using N
 clear N;by_cases G:lF b.lo b.hi (-3) 3=false
 .have hB:=G;have g:PQ (dZ b l=1):=(by show _=_;have k:Iv b l=1:=(by rw[Iv,qVB (by simp[hB])]);rw[dZ,k];rfl);unfold aC.v at|-;go_enter Tryz.func37,Tryz.ntmps37;go_wp2_with (first|(go_at_call 35;refine(bz _ _ _ _).mono ?_;rintro e w' ⟨rfl,rfl⟩)|(go_at_call 80;refine(eZ _ _ _ _ _).mono ?_;rintro e f ⟨rfl,a⟩;obtain⟨n,o⟩:=aU a;have i:=a.size;have p:w.heap.size<f.heap.size:=(by simp only[aa]at i;omega);have c:=aY a));all_goals go_ret
  all_goals exact⟨aW g.out.symm,by first|with_reducible assumption|(with_reducible exact j)|(with_reducible exact c)|exact bt⟩
 have hB:lF b.lo b.hi (-3) 3=true:=by simpa using G
 clear G;obtain⟨V,W,Z⟩:=uJ.1 hB;obtain⟨g4,g5⟩:=qM.1 z;by_cases a1:3<=b.hi-b.lo
 .skip;have g:PQ (dZ b l=1):=(by show _=_;have k:Iv b l=1:=(by rw[Iv,qVB zz]);rw[dZ,k];rfl);unfold aC.v at|-;go_enter Tryz.func37,Tryz.ntmps37;go_wp2_with (first|(go_at_call 35;refine(bz _ _ _ _).mono ?_;rintro e w' ⟨rfl,rfl⟩)|(go_at_call 80;refine(eZ _ _ _ _ _).mono ?_;rintro e f ⟨rfl,a⟩;obtain⟨n,o⟩:=aU a;have i:=a.size;have p:w.heap.size<f.heap.size:=(by simp only[aa]at i;omega);have c:=aY a));all_goals go_ret
  all_goals exact⟨aW g.out.symm,by first|with_reducible assumption|(with_reducible exact j)|(with_reducible exact c)|exact bt⟩
 have k:PQ (Iv b l=bS b.S I l):=by show _=_;rw[Iv,qWB ⟨z,J,L,hB,zz⟩]
 by_cases y:bS b.S I l=0;rotate_left
 .have a2:(bS b.S I l != 0)=true:=by simpa using y
  have g:PQ (dZ b l=bS b.S I l):=(by show _=_;rw[dZ,k.out,qWB y]);unfold aC.v at|-;go_enter Tryz.func37,Tryz.ntmps37;go_wp2_with (first|(go_at_call 35;refine(bz _ _ _ _).mono ?_;rintro e w' ⟨rfl,rfl⟩)|(go_at_call 80;refine(eZ _ _ _ _ _).mono ?_;rintro e f ⟨rfl,a⟩;obtain⟨n,o⟩:=aU a;have i:=a.size;have p:w.heap.size<f.heap.size:=(by simp only[aa]at i;omega);have c:=aY a)|(go_at_call 81;refine(q zz zz _ (r.out.below c)).mono ?_;rintro e m ⟨rfl,d⟩;obtain⟨s,t⟩:=aU d;have j:=c.tn (d.mono c.size);have v:=d.size;have x:w.heap.size<m.heap.size:=zz));all_goals go_ret
  all_goals exact⟨aW g.out.symm,by first|with_reducible assumption|(with_reducible exact j)|(with_reducible exact c)|exact bt⟩
 have u:PQ (dZ b l=cZ b):=by show _=_;rw[dZ,k.out,qVB (by simp[y])]
 rw[y]at q;clear y k;by_cases R:ax b.rf 2 30=false
 .have C:=R;have g:PQ (dZ b l=1):=(by show _=_;rw[u.out,cZ,qVB (by simp[C])]);unfold aC.v at|-;go_enter Tryz.func37,Tryz.ntmps37;go_wp2_with (first|(go_at_call 35;refine(bz _ _ _ _).mono ?_;rintro e w' ⟨rfl,rfl⟩)|(go_at_call 80;refine(eZ _ _ _ _ _).mono ?_;rintro e f ⟨rfl,a⟩;obtain⟨n,o⟩:=aU a;have i:=a.size;have p:w.heap.size<f.heap.size:=(by simp only[aa]at i;omega);have c:=aY a)|(go_at_call 81;refine(q zz zz _ (r.out.below c)).mono ?_;rintro e m ⟨rfl,d⟩;obtain⟨s,t⟩:=aU d;have j:=c.tn (d.mono c.size);have v:=d.size;have x:w.heap.size<m.heap.size:=zz));all_goals go_ret
  all_goals exact⟨aW g.out.symm,by first|with_reducible assumption|(with_reducible exact j)|(with_reducible exact c)|exact bt⟩
 have C:ax b.rf 2 30=true:=by simpa using R
 clear R;by_cases S:ax b.rh 2 60=false
 .have E:=S;have g:PQ (dZ b l=1):=(by show _=_;rw[u.out,cZ,qVB (by simp[E])]);unfold aC.v at|-;go_enter Tryz.func37,Tryz.ntmps37;go_wp2_with (first|(go_at_call 35;refine(bz _ _ _ _).mono ?_;rintro e w' ⟨rfl,rfl⟩)|(go_at_call 80;refine(eZ _ _ _ _ _).mono ?_;rintro e f ⟨rfl,a⟩;obtain⟨n,o⟩:=aU a;have i:=a.size;have p:w.heap.size<f.heap.size:=(by simp only[aa]at i;omega);have c:=aY a)|(go_at_call 81;refine(q zz zz _ (r.out.below c)).mono ?_;rintro e m ⟨rfl,d⟩;obtain⟨s,t⟩:=aU d;have j:=c.tn (d.mono c.size);have v:=d.size;have x:w.heap.size<m.heap.size:=zz));all_goals go_ret
  all_goals exact⟨aW g.out.symm,by first|with_reducible assumption|(with_reducible exact j)|(with_reducible exact c)|exact bt⟩
 have E:ax b.rh 2 60=true:=by simpa using S
 clear S;by_cases P:ax b.cf 0 b.rf=false
 .have A:=P;have g:PQ (dZ b l=1):=(by show _=_;rw[u.out,cZ,qVB (by simp[A])]);unfold aC.v at|-;go_enter Tryz.func37,Tryz.ntmps37;go_wp2_with (first|(go_at_call 35;refine(bz _ _ _ _).mono ?_;rintro e w' ⟨rfl,rfl⟩)|(go_at_call 80;refine(eZ _ _ _ _ _).mono ?_;rintro e f ⟨rfl,a⟩;obtain⟨n,o⟩:=aU a;have i:=a.size;have p:w.heap.size<f.heap.size:=(by simp only[aa]at i;omega);have c:=aY a)|(go_at_call 81;refine(q zz zz _ (r.out.below c)).mono ?_;rintro e m ⟨rfl,d⟩;obtain⟨s,t⟩:=aU d;have j:=c.tn (d.mono c.size);have v:=d.size;have x:w.heap.size<m.heap.size:=zz));all_goals go_ret
  all_goals exact⟨aW g.out.symm,by first|with_reducible assumption|(with_reducible exact j)|(with_reducible exact c)|exact bt⟩
 have A:ax b.cf 0 b.rf=true:=by simpa using P
 clear P;by_cases Q:ax b.ch 1 60=false
 .have B:=Q;have g:PQ (dZ b l=1):=(by show _=_;rw[u.out,cZ,qVB (by simp[B])]);unfold aC.v at|-;go_enter Tryz.func37,Tryz.ntmps37;go_wp2_with (first|(go_at_call 35;refine(bz _ _ _ _).mono ?_;rintro e w' ⟨rfl,rfl⟩)|(go_at_call 80;refine(eZ _ _ _ _ _).mono ?_;rintro e f ⟨rfl,a⟩;obtain⟨n,o⟩:=aU a;have i:=a.size;have p:w.heap.size<f.heap.size:=(by simp only[aa]at i;omega);have c:=aY a)|(go_at_call 81;refine(q zz zz _ (r.out.below c)).mono ?_;rintro e m ⟨rfl,d⟩;obtain⟨s,t⟩:=aU d;have j:=c.tn (d.mono c.size);have v:=d.size;have x:w.heap.size<m.heap.size:=zz));all_goals go_ret
  all_goals exact⟨aW g.out.symm,by first|with_reducible assumption|(with_reducible exact j)|(with_reducible exact c)|exact bt⟩
 have B:ax b.ch 1 60=true:=by simpa using Q
 clear Q;by_cases T:b.rh<=b.ch
 .skip;have g:PQ (dZ b l=7):=(by show _=_;rw[u.out,cZ,qWB ⟨C,E,A,B⟩,qWB T]);unfold aC.v at|-;go_enter Tryz.func37,Tryz.ntmps37;go_wp2_with (first|(go_at_call 35;refine(bz _ _ _ _).mono ?_;rintro e w' ⟨rfl,rfl⟩)|(go_at_call 80;refine(eZ _ _ _ _ _).mono ?_;rintro e f ⟨rfl,a⟩;obtain⟨n,o⟩:=aU a;have i:=a.size;have p:w.heap.size<f.heap.size:=(by simp only[aa]at i;omega);have c:=aY a)|(go_at_call 81;refine(q zz zz _ (r.out.below c)).mono ?_;rintro e m ⟨rfl,d⟩;obtain⟨s,t⟩:=aU d;have j:=c.tn (d.mono c.size);have v:=d.size;have x:w.heap.size<m.heap.size:=zz));all_goals go_ret
  all_goals exact⟨aW g.out.symm,by first|with_reducible assumption|(with_reducible exact j)|(with_reducible exact c)|exact bt⟩
 .skip;have g:PQ (dZ b l=0):=(by show _=_;rw[u.out,cZ,qWB ⟨C,E,A,B⟩,qVB T]);unfold aC.v at|-;go_enter Tryz.func37,Tryz.ntmps37;go_wp2_with (first|(go_at_call 35;refine(bz _ _ _ _).mono ?_;rintro e w' ⟨rfl,rfl⟩)|(go_at_call 80;refine(eZ _ _ _ _ _).mono ?_;rintro e f ⟨rfl,a⟩;obtain⟨n,o⟩:=aU a;have i:=a.size;have p:w.heap.size<f.heap.size:=(by simp only[aa]at i;omega);have c:=aY a)|(go_at_call 81;refine(q zz zz _ (r.out.below c)).mono ?_;rintro e m ⟨rfl,d⟩;obtain⟨s,t⟩:=aU d;have j:=c.tn (d.mono c.size);have v:=d.size;have x:w.heap.size<m.heap.size:=zz));all_goals go_ret
  all_goals exact⟨aW g.out.symm,by first|with_reducible assumption|(with_reducible exact j)|(with_reducible exact c)|exact bt⟩
variable{w:H}{g:Nat}{t:Lk}
def Dl(D:Nat->Bool)(k:Nat)(hk:k<12)(w:H):(Instr.index 80 (tJ D) (.int .i64 k)).run F w=.ok (.bool (D k)) w:=by
 unfold tJ;rcases(show k=0\/k=1\/k=2\/k=3\/k=4\/k=5\/k=6\/k=7\/k=8\/k=9\/k=10\/k=11 from zz)with rfl|rfl|rfl|rfl|rfl|rfl|rfl|rfl|rfl|rfl|rfl|rfl<;>kernel_rfl
def aK.lt{b:aC}(h:aK w g t b):g<w.heap.size:=(ec.1 h).1
def vl.lt{sh:Int}{f:Nat->Bool}(h:vl w g t sh f):g<w.heap.size:=let⟨_,h,_⟩:=h;(ec.1 h).1
theorem FW(b:aC)(t:4<=b.S)(u:b.S<=12)(v:1<=b.L)(x:b.L<=4)(sh:Int)(y: -3<=sh)(z:sh<=3)(d:Nat->Bool)(U:List (Int×Int))
  (m:∀k,k<U.length->0<=(U.getD k (0,0)).1/\(U.getD k (0,0)).1<b.S/\ -9<=(U.getD k (0,0)).2/\(U.getD k (0,0)).2<=9)(h s:Nat)(g:Bool)(l:h<U.length)(J:(s:Int)<b.S)(a bs:Nat)(w:H)
  (hl:Cf w b.U U)(hB:aK w a 75 b)(i:vl w bs 82 sh d):
  PH F 78 #[.agg #[.int .i64 h,.int .i64 s,.bool g],.pointer (Y (a,0)),.pointer (Y (bs,0))] w λe w'=>e=.returned (.bool (eT b.S b.L sh d (U.getD h (0,0)) s != g))/\X w w w':=by
 obtain⟨n,o,p,q⟩:=m h l;clear m;have j:=λc (A:Cf c b.U U)=>qX b t u v x sh y z d h U l n o p q c A;clear n o p q l;generalize eT b.S b.L sh d (U.getD h (0,0))=D at j|-;have G:=λw=>Dl D s zz w;have L:=hB.lt;have O:=i.lt;have N:a<w.heap.size+1:=zz;have P:bs<w.heap.size+1:=zz;obtain⟨Q,R,W,Z,x4,x5,x6,x7,x8,x9,S,T,V⟩:=aM hB;obtain⟨y0,y1,y2,y3,y4,y5,y6,y7,y8,y9,a1,a2,a3⟩:=i.all;have r:=Hm hl;clear hl hB i;unfold aC.v gN at j;go_enter Tryz.func78,Tryz.ntmps78;go_wp2_with fail;go_region_held3 (λw'=>w'.cell? ⟨a,0,I⟩=Y (.int .i64 b.S)/\w'.cell? ⟨a,1,I⟩=Y (.int .i64 b.D)/\w'.cell? ⟨a,2,I⟩=Y (.int .i64 b.L)/\w'.cell? ⟨a,3,I⟩=Y (.int .i64 b.lo)/\w'.cell? ⟨a,4,I⟩=Y (.int .i64 b.hi)/\w'.cell? ⟨a,5,I⟩=Y (.slice b.C.A b.C.n b.C.c)/\w'.cell? ⟨a,6,I⟩=Y (.int .i64 b.rf)/\w'.cell? ⟨a,7,I⟩=Y (.int .i64 b.rh)/\w'.cell? ⟨a,8,I⟩=Y (.int .i64 b.cf)/\w'.cell? ⟨a,9,I⟩=Y (.int .i64 b.ch)/\w'.cell? ⟨a,10,I⟩=Y (.slice b.U.A b.U.n b.U.c)/\w'.cell? ⟨a,11,I⟩=Y (.slice b.E.A b.E.n b.E.c)/\w'.cell? ⟨a,12,I⟩=Y (.slice b.W.A b.W.n b.W.c)/\w'.cell? ⟨bs,0,I⟩=Y (.int .i64 sh)/\w'.cell? ⟨bs,1,I⟩=Y (.bool (d 0))/\w'.cell? ⟨bs,2,I⟩=Y (.bool (d 1))/\w'.cell? ⟨bs,3,I⟩=Y (.bool (d 2))/\w'.cell? ⟨bs,4,I⟩=Y (.bool (d 3))/\w'.cell? ⟨bs,5,I⟩=Y (.bool (d 4))/\w'.cell? ⟨bs,6,I⟩=Y (.bool (d 5))/\w'.cell? ⟨bs,7,I⟩=Y (.bool (d 6))/\w'.cell? ⟨bs,8,I⟩=Y (.bool (d 7))/\w'.cell? ⟨bs,9,I⟩=Y (.bool (d 8))/\w'.cell? ⟨bs,10,I⟩=Y (.bool (d 9))/\w'.cell? ⟨bs,11,I⟩=Y (.bool (d 10))/\w'.cell? ⟨bs,12,I⟩=Y (.bool (d 11))/\w'.cell? ⟨w.heap.size,0,I⟩=Y (.int .i64 h)/\w'.cell? ⟨w.heap.size,1,I⟩=Y (.int .i64 s)/\w'.cell? ⟨w.heap.size,2,I⟩=Y (.bool g)/\a<w'.heap.size/\bs<w'.heap.size/\w.heap.size<w'.heap.size/\X w.heap.size w w')
  ((repeat' apply And.intro)<;>(first|with_reducible assumption|omega|(go_keep;done)|(simp;omega)|exact bt|exact X.tn wa (f.mono zz)))
  (first|(go_at_call 42;refine(j _ (r.out.below bf)).mono ?_;rintro e c ⟨rfl,f⟩;obtain⟨C,E⟩:=aU f;have K:w.heap.size+1<=c.heap.size:=(by have:=f.size;simpa using this);have B:X w.heap.size w c:=X.tn bf (f.mono ss)))
 go_wp2;go_ret;exact⟨bR (by cases D s<;>cases g<;>rfl),B⟩
def jk(S L sh:Int)(d:Nat->Bool)(U:List (Int×Int))(x:Int×Int×Bool):Bool:=eT S L sh d (U.getD x.1.toNat (0,0)) x.2.1.toNat != x.2.2
def zP(t:Int×Int×Bool->Bool):List (Int×Int×Bool)->Nat->Int
 | [],_=> -1
 | x::r,k=>if t x=true then k else zP t r (k+1)
def N2(t:Int×Int×Bool->Bool)(l:List (Int×Int×Bool))(k:Nat)(hk:k<l.length):zP t (l.drop k) k=if t (l.getD k (0,0,false))=true then(k:Int)else zP t (l.drop (k+1)) (k+1):=by
 rw[fx hk];have e:l.getD k (0,0,false)=l[k]:=by simp[List.getD,iv hk]
 rw[e];rfl
def I3(t:Int×Int×Bool->Bool):∀(l:List (Int×Int×Bool)) (k:Nat),decide (0<=zP t l k)=l.any t
 | [],_=>rfl
 | x::r,k=>by
  simp only[zP,List.any_cons];by_cases h:t x=true
  .simp[h]
  .have a:=I3 t r (k+1);simp[h,<- a]
def N3(a bs:Nat):M:=.func (.func 78) #[] #[.pointer (Y (a,0)),.pointer (Y (bs,0))]
theorem La(b:aC)(g1:4<=b.S)(g2:b.S<=12)(g3:1<=b.L)(g4:b.L<=4)(sh:Int)(g5: -3<=sh)(g6:sh<=3)(d:Nat->Bool)(U:List (Int×Int))
  (C:∀k,k<U.length->0<=(U.getD k (0,0)).1/\(U.getD k (0,0)).1<b.S/\ -9<=(U.getD k (0,0)).2/\(U.getD k (0,0)).2<=9)(s:Sl)(l:List (Int×Int×Bool))
  (E:∀k,k<l.length->0<=(l.getD k (0,0,false)).1/\(l.getD k (0,0,false)).1<U.length/\0<=(l.getD k (0,0,false)).2.1/\(l.getD k (0,0,false)).2.1<b.S)(n bs:Nat)(w:H)
  (hl:Cf w b.U U)(hB:aK w n 75 b)(r:vl w bs 82 sh d)(a4:fL w s l):
  PH F 110 #[.slice s.A s.n s.c,N3 n bs] w λe w'=>e=.returned (.int .i64 (zP (jk b.S b.L sh d U) l 0))/\X w w w':=by
 have a3:=λ(h k:Nat) (a6:Bool) (a2:h<U.length) (j:(k:Int)<b.S) g (p1:Cf g b.U U) (p2:aK g n 75 b) (p3:vl g bs 82 sh d)=>FW b g1 g2 g3 g4 sh g5 g6 d U C h k a6 a2 j n bs g p1 p2 p3;have a5:=hB.lt;have a7:=r.lt;have V:=Hm hl;have S:=Hm hB;have W:=Hm r;have Z:=Hm E;clear hl hB r E C;obtain⟨A,a0,c⟩:=s;obtain⟨rfl,a1,a',J⟩:=a4;have T:=Hm J;clear J;simp only at a1|-;unfold N3;go_enter Tryz.func110,Tryz.ntmps110;go_wp2;go_loopw [8] (λi wr=>∃k:Nat,k<=l.length/\i=.int .i64 k/\X w.heap.size w wr/\PQ (zP (jk b.S b.L sh d U) l 0=zP (jk b.S b.L sh d U) (l.drop k) k)) (λi _=>l.length-(intOf i).toNat)
 case atStart=>exact⟨0,qT _,rfl,X.refl _ _,rfl⟩
 case round=>
  obtain⟨k,hk,rfl,a,v⟩:=hrel;have O:=a.size;by_cases m:k<l.length
  .have j:=N2 (jk b.S b.L sh d U) l k m;obtain⟨f,off,rfl,t,o⟩:=T.out zz;have a9:f<wr.heap.size:=zz;obtain⟨g,P,Q,z⟩:=Z.out k m;have K:wr (f,off+k*3)=Y (.int .i64 (l.getD k (0,0,false)).1):=(a.cell (p:=⟨f,_,I⟩) t).tn (o k m).1;have L:wr (f,off+k*3+1)=Y (.int .i64 (l.getD k (0,0,false)).2.1):=(a.cell (p:=⟨f,_,I⟩) t).tn (o k m).2.1;have N:wr (f,off+k*3+2)=Y (.bool (l.getD k (0,0,false)).2.2):=(a.cell (p:=⟨f,_,I⟩) t).tn (o k m).2.2;clear o;generalize l.getD k (0,0,false)=x at j g P Q z K L N;obtain⟨R,xs,q⟩:=x;simp only at g P Q z K L N;obtain⟨h,rfl⟩:∃h:Nat,R=(h:Int):=⟨R.toNat,zz⟩;obtain⟨p,rfl⟩:∃h:Nat,xs=(h:Int):=⟨xs.toNat,zz⟩;have u:=a3 h p q zz z wr (V.out.below a) ((a.block _ a5).tn S.out) (W.out.below a a7);have e1:jk b.S b.L sh d U (h,p,q)=(eT b.S b.L sh d (U.getD h (0,0)) p != q):=rfl;rw[<- e1]at u;clear e1;cases y:jk b.S b.L sh d U (h,p,q)
   all_goals
    rw[y]at j u;have B:=Hm j;have a8:=Hm y;clear j y;go_wp2_with (go_at_call 78;refine u.mono ?_;rintro e v1 ⟨rfl,G⟩)
   .go_roundw
    case rel=>exact⟨k+1,zz,by go_num,a.tn (G.mono O),v.out.tn (B.out.tn (qVB ss))⟩
    case measure=>simp[intOf];omega
   .go_ret;exact⟨aW (by rw[v.out,B.out];simp),a.tn (G.mono O)⟩
  .obtain rfl:k=l.length:=zz;go_wp2;go_ret;exact⟨aW (by rw[v.out];simp[zP]),a⟩
theorem Bo(b:aC)(j:4<=b.S)(m:b.S<=12)(n:1<=b.L)(o:b.L<=4)(sh:Int)(p: -3<=sh)(q:sh<=3)(d:Nat->Bool)(U:List (Int×Int))
  (g:∀k,k<U.length->0<=(U.getD k (0,0)).1/\(U.getD k (0,0)).1<b.S/\ -9<=(U.getD k (0,0)).2/\(U.getD k (0,0)).2<=9)(s:Sl)(l:List (Int×Int×Bool))
  (h:∀k,k<l.length->0<=(l.getD k (0,0,false)).1/\(l.getD k (0,0,false)).1<U.length/\0<=(l.getD k (0,0,false)).2.1/\(l.getD k (0,0,false)).2.1<b.S)(a bs:Nat)(w:H)
  (hl:Cf w b.U U)(hB:aK w a 75 b)(f:vl w bs 82 sh d)(i:fL w s l):
  PH F 77 #[.slice s.A s.n s.c,N3 a bs] w λe w'=>e=.returned (.bool (l.any (jk b.S b.L sh d U)))/\X w w w':=by
 have hi:=La b j m n o sh p q d U g s l h a bs w hl hB f i;have c:=Hm (I3 (jk b.S b.L sh d U) l 0);clear hl hB f i h g;generalize zP (jk b.S b.L sh d U) l 0=r at hi c;unfold N3 at hi|-;go_enter Tryz.func77,Tryz.ntmps77;go_wp2_with (go_at_call 110;refine hi.mono ?_;rintro e u ⟨rfl,t⟩);go_ret;exact⟨bR c.out,t⟩
def oI(S L sh:Int)(d:Nat->Bool)(U:List (Int×Int))(l:List (Int×Int×Bool)):Bool:= !l.any (jk S L sh d U)
theorem Ao(b:aC)(h:4<=b.S)(i:b.S<=12)(j:1<=b.L)(m:b.L<=4)(sh:Int)(n: -3<=sh)(o:sh<=3)(d:Nat->Bool)(U:List (Int×Int))
  (c:∀k,k<U.length->0<=(U.getD k (0,0)).1/\(U.getD k (0,0)).1<b.S/\ -9<=(U.getD k (0,0)).2/\(U.getD k (0,0)).2<=9)(l:List (Int×Int×Bool))
  (f:∀k,k<l.length->0<=(l.getD k (0,0,false)).1/\(l.getD k (0,0,false)).1<U.length/\0<=(l.getD k (0,0,false)).2.1/\(l.getD k (0,0,false)).2.1<b.S)(w:H)
  (hl:Cf w b.U U)(g:fL w b.W l):
  PH F 33 #[b.v,gN sh d] w λe w'=>e=.returned (.bool (oI b.S b.L sh d U l))/\X w w w':=by
 have a:=Bo b h i j m sh n o d U c b.W l f w.heap.size (w.heap.size+1) ((w.alloc (aE b 75)).alloc (.cells #[.int .i64 sh,.bool (d 0),.bool (d 1),.bool (d 2),.bool (d 3),.bool (d 4),.bool (d 5),.bool (d 6),.bool (d 7),.bool (d 8),.bool (d 9),.bool (d 10),.bool (d 11)] 82))
  (hl.below (by exact bt)) ((QR _ _ (by simp only[aa];omega)).tn (Sp _ _)) (by have:=vl.new (w.alloc (aE b 75)) 82 sh d;rw[aa]at this;exact this) (g.below (by exact bt))
 clear hl g f c;have HR:PQ (oI b.S b.L sh d U l= !l.any (jk b.S b.L sh d U)):=rfl;generalize l.any (jk b.S b.L sh d U)=r at a HR;unfold aE N3 at a;unfold aC.v gN;go_enter Tryz.func33,Tryz.ntmps33;go_wp2_with (go_at_call 77;refine a.mono ?_;rintro e q ⟨rfl,p⟩);go_ret;exact⟨bR HR.out.symm,IA p⟩
variable{w':H}{f f':Nat->Bool}
def iB.all(h:iB w g t f):w (g,0)=Y (.bool (f 0))/\w (g,1)=Y (.bool (f 1))/\w (g,2)=Y (.bool (f 2))/\w (g,3)=Y (.bool (f 3))/\w (g,4)=Y (.bool (f 4))/\w (g,5)=Y (.bool (f 5))/\w (g,6)=Y (.bool (f 6))/\w (g,7)=Y (.bool (f 7))/\w (g,8)=Y (.bool (f 8))/\w (g,9)=Y (.bool (f 9))/\w (g,10)=Y (.bool (f 10))/\w (g,11)=Y (.bool (f 11)):=
 ⟨h.cell 0 zz,h.cell 1 zz,h.cell 2 zz,h.cell 3 zz,h.cell 4 zz,h.cell 5 zz,h.cell 6 zz,h.cell 7 zz,h.cell 8 zz,h.cell 9 zz,h.cell 10 zz,h.cell 11 zz⟩
def iB.alloc(h:iB w g t f)(o:Obj):iB (w.alloc o) g t f:=by
 obtain⟨cs,e1,a⟩:=h;exact⟨cs,(QR _ _ (ec.1 e1).1).tn e1,a⟩
def iB.new(w:H)(t:Lk)(f:Nat->Bool):iB (w.alloc (.cells #[.bool (f 0),.bool (f 1),.bool (f 2),.bool (f 3),.bool (f 4),.bool (f 5),.bool (f 6),.bool (f 7),.bool (f 8),.bool (f 9),.bool (f 10),.bool (f 11)] t)) w t f:=
 ⟨_,Sp _ _,rfl,λi hi=>by
  rcases(show i=0\/i=1\/i=2\/i=3\/i=4\/i=5\/i=6\/i=7\/i=8\/i=9\/i=10\/i=11 from zz)with rfl|rfl|rfl|rfl|rfl|rfl|rfl|rfl|rfl|rfl|rfl|rfl<;>rfl⟩
def iB.uB(h:iB w g t f){p i:Nat}(b:g≠p)(v:M):iB (w.setCell (p,i) v) g t f:=by
 obtain⟨cs,e1,a⟩:=h;exact⟨cs,(X.heap_setCell w ⟨p,i,I⟩ v g b).tn e1,a⟩
def lJ(d:Nat->Bool)(C:List Int):Nat->Bool:=λi=>d i && !eM C i
theorem FX(b:aC)(R:b.S<=12)(d:Nat->Bool)(l:List Int)(N:∀x∈l,0<=x/\x<b.S)(w:H)(hl:eC w b.C l):
  PH F 43 #[b.v,tJ d] w λe w'=>e=.returned (tJ (lJ d l))/\X w w w':=by
 have G:=Hm N;clear N;obtain⟨S,D,L,lo,hi,⟨m,a5,o⟩,rf,rh,cf,ch,⟨s,u,t⟩,⟨p,r,q⟩,⟨y,A,z⟩⟩:=b;obtain⟨O,U,a8,B⟩:=hl;simp only at O U B R G;subst O;have P:=Hm B;clear B;simp only[aC.v,tJ];go_enter Tryz.func43,Tryz.ntmps43;go_wp2;go_loopw [11] (λi wr=>∃k:Nat,k<=l.length/\i=.int .i64 k/\X (w.heap.size+1) (w.alloc (Dg ⟨S,D,L,lo,hi,⟨m,l.length,o⟩,rf,rh,cf,ch,⟨s,u,t⟩,⟨p,r,q⟩,⟨y,A,z⟩⟩)) wr/\iB wr (w.heap.size+1) 80 (lJ d (l.take k))/\iB wr (w.heap.size+1+1) 80 mI) (λi _=>l.length-(intOf i).toNat)
 case atStart=>
  have e:lJ d (l.take 0)=d:=by funext n;simp[lJ,eM]
  refine⟨0,zz,rfl,?_,?_,?_⟩
  .show X (w.heap.size+1) (w.alloc (aE _ 75)) _;simp only[aE];exact bt
  .have:=iB.new (w.alloc (Dg ⟨S,D,L,lo,hi,⟨m,l.length,o⟩,rf,rh,cf,ch,⟨s,u,t⟩,⟨p,r,q⟩,⟨y,A,z⟩⟩)) 80 d;rw[aa]at this;rw[e];exact this.alloc _
  .have:=iB.new ((w.alloc (Dg ⟨S,D,L,lo,hi,⟨m,l.length,o⟩,rf,rh,cf,ch,⟨s,u,t⟩,⟨p,r,q⟩,⟨y,A,z⟩⟩)).alloc (.cells #[.bool (d 0),.bool (d 1),.bool (d 2),.bool (d 3),.bool (d 4),.bool (d 5),.bool (d 6),.bool (d 7),.bool (d 8),.bool (d 9),.bool (d 10),.bool (d 11)] 80)) 80 mI;rw[aa,aa]at this;exact this
 case round=>
  obtain⟨k,hk,rfl,f,c,h⟩:=hrel;have Z:(w:Nat)+1<=wr:=by have:=f.size;rw[aa]at this;exact this
  have a9:(w:Nat)<wr:=Z;by_cases g:k<l.length
  ·(obtain⟨x0,x1,x2,x3,x4,x5,x6,x7,x8,x9,a2,a3,a4⟩:=iw f;dsimp only at x0 x1 x2 x3 x4 x5 x6 x7 x8 x9 a2 a3 a4)
   obtain⟨Q,off,rfl,T,K⟩:=P.out zz;obtain⟨a,a1⟩:∃a:Nat,l.getD k 0=(a:Int)/\(a:Int)<S:=by
    have W:l.getD k 0∈l:=by simp[List.getD,iv g]
    have:=G.out _ W;exact⟨(l.getD k 0).toNat,zz,zz⟩
   obtain⟨C,a'⟩:=a1;have a7:wr (Q,off+k)=Y (.int .i64 a):=(jN f T).tn ((K k g).tn (by rw[C]));have J:PQ (∀n:Nat,lJ d (l.take (k+1)) n=if n=a then false else lJ d (l.take k) n):=λn=>by
    rw[lh g];have:l[k]=(a:Int):=by rw[<- C];simp[List.getD,iv g]
    rw[this];by_cases e:n=a
    .subst e;simp[lJ,eM]
    .simp[lJ,eM,e,show¬(n:Int)=a by omega]
   have a6:=c.cell a zz;have fa:=c.free a;clear C K;go_wp2;go_roundw
   case rel=>exact⟨k+1,zz,by go_num,by exact bt,c.set zz (by rw[J.out,qWB rfl]) (λj _ V=>by rw[J.out,qVB V]),h.uB zz _⟩
   case measure=>simp[intOf];omega
  .obtain rfl:k=l.length:=zz;rw[List.take_length]at c;obtain⟨y0,y1,y2,y3,y4,y5,y6,y7,y8,y9,a0,b1⟩:=c.all;obtain⟨z0,z1,z2,z3,z4,z5,z6,z7,z8,z9,b2,b3⟩:=h.all;have b4:=λi=>h.free i;have E:=Hm (bT f);clear c h f;go_wp2;refine bd (v:=tJ (lJ d l)) ?_ rfl ⟨rfl,?_⟩
   .simp[results,Tryz.results43,go_sem,tJ, *]
   .have E:=E.out;exact bt
def nG(f g:Nat->Bool):Bool:=(f 0==g 0)&&(f 1==g 1)&&(f 2==g 2)&&(f 3==g 3)&&(f 4==g 4)&&(f 5==g 5)&&(f 6==g 6)&&(f 7==g 7)&&(f 8==g 8)&&(f 9==g 9)&&(f 10==g 10)&&(f 11==g 11)
def I5(d:Nat)(f g:Nat->Bool)(w:H):(Op.equalIn (d+3) 80 (tJ f) (tJ g)).run F w=.ok (nG f g) w:=by
 obtain⟨r,a,h2⟩:=run_equalIn_deep (P:=F) d 3 80 kr w 5 5 (tJ f) (tJ g) [.bool (f 0),.bool (f 1),.bool (f 2),.bool (f 3),.bool (f 4),.bool (f 5),.bool (f 6),.bool (f 7),.bool (f 8),.bool (f 9),.bool (f 10),.bool (f 11)] [.bool (g 0),.bool (g 1),.bool (g 2),.bool (g 3),.bool (g 4),.bool (g 5),.bool (g 6),.bool (g 7),.bool (g 8),.bool (g 9),.bool (g 10),.bool (g 11)] kr kr kr kr;have b:r=nG f g:=by
  rw[Bool.eq_iff_iff,h2];simp[nG,and_assoc]
 subst b;exact a
theorem aa1(f g:Nat->Bool)(w:H):(binOp .eql 80 (tJ f) (tJ g)).run F w=.ok (.bool (nG f g)) w:=by
 have a:=I5 9997 f g w;unfold tJ at a|-;go_simp
theorem aa2(m sh:Int)(f g:Nat->Bool)(w:H):(binOp .eql 82 (gN m f) (gN sh g)).run F w=.ok (.bool (decide (m=sh)&&nG f g)) w:=by
 have a:=I5 9996 f g w;unfold tJ at a;unfold gN;go_simp;by_cases h:m=sh
 .cases b:nG f g<;>simp[h]
 .simp[h]
variable{S n sh:Int}{W v1:H}{f0:Nat->Bool}
def dI(b:aC)(l:pK)(sh:Int)(d:List Int):Bool×Int:=
 if ay b l≠0 then(false,ay b l)else if r7 b.S sh d≠0 then(false,r7 b.S sh d)else
 (decide (min (max sh b.lo) b.hi=sh)&&nG (lJ (eM d) l.C) (eM d)&&decide ((d.length:Int)<=b.D)&&oI b.S b.L sh (eM d) l.U l.W,0)
def wN(p:Bool×Int)(w:H)(e:Ending)(w':H):Prop:=e=.returned (.tuple #[.bool p.1,.int .i64 p.2])/\X w w w'
def N5:∀{l:List (Int×Int×Bool)},qi S n l=0->∀x∈l,0<=x.1/\x.1<n/\0<=x.2.1/\x.2.1<S
 | [],_=>λx c=>by simp at c
 | (a,s,t)::r,d=>by
  simp only[qi]at d;by_cases b:(ax a 0 (n-1)&&ax s 0 (S-1))=false
  .rw[qWB b]at d;omega
  .rw[qVB b]at d;intro x c;rcases dq.1 c with rfl|c
   .simp only[Bool.and_eq_false_iff,not_or,Bool.not_eq_false]at b;have e1:=qM.1 b.1;have e:=qM.1 b.2;exact⟨e1.1,by show a<n;omega,e.1,by show s<S;omega⟩
   .exact N5 d x c
def Gb{l:List (Int×Int×Bool)}(h:ki S n l=0)(k:Nat)(hk:k<l.length):0<=(l.getD k (0,0,false)).1/\(l.getD k (0,0,false)).1<n/\0<=(l.getD k (0,0,false)).2.1/\(l.getD k (0,0,false)).2.1<S:=by
 unfold ki at h;split at h
 .omega
 .exact N5 h _ (by simp[List.getD,iv hk])
def vl.range(h:vl w g t sh f):w.rangeAt g 1 [.bool (f 0),.bool (f 1),.bool (f 2),.bool (f 3),.bool (f 4),.bool (f 5),.bool (f 6),.bool (f 7),.bool (f 8),.bool (f 9),.bool (f 10),.bool (f 11)]:=λj v a=>by
 have b:j<12:=(List.getElem?_eq_some_iff.1 a).1;rw[h.cell j b,<- a];rcases(show j=0\/j=1\/j=2\/j=3\/j=4\/j=5\/j=6\/j=7\/j=8\/j=9\/j=10\/j=11 from zz)with rfl|rfl|rfl|rfl|rfl|rfl|rfl|rfl|rfl|rfl|rfl|rfl<;>rfl
def Dq{w w':H}{b o B:Nat}{cs:List M}(h:w.rangeAt b o cs)(a:X B w w')(hB:b<B):w'.rangeAt b o cs:=λj v c=>(a.cell (p:=⟨b,o+j,I⟩) hB).tn (h j v c)
def vl.aa3{sh ik:Int}(h:vl w g t sh f):vl (w.setCell (g,0) (.int .i64 ik)) g t ik f:=by
 obtain⟨cs,e1,a,e0,b⟩:=h;refine⟨cs.setIfInBounds 0 (.int .i64 ik),by simp[H.setCell,nc,e1],by simpa using a,by simp[a],λj c=>?_⟩;rw[jx zz];exact b j c
def Gc(f f0:Nat->Bool)(n:Nat):Nat->Bool:=λi=>if i<n then f i else f0 i
def vl.next{n:Nat}(h:vl w g t sh (Gc f f0 n))(a:n<12):vl (w.setCell (g,1+n) (.bool (f n))) g t sh (Gc f f0 (n+1)):=
 h.set a (by simp[Gc]) λj _ b=>by
  simp only[Gc];by_cases e:j<n
  .rw[qWB e,qWB zz]
  .rw[qVB e,qVB zz]
def vl.same{f f':Nat->Bool}(h:vl w g t sh f)(e:∀i,i<12->f' i=f i):vl w g t sh f':=by
 obtain⟨cs,e1,a,e0,b⟩:=h;exact⟨cs,e1,a,e0,λi hi=>by rw[e i hi];exact b i hi⟩
def Lf{sh0 sh:Int}(h:vl w g t sh0 f0):vl (((((((((((((w.setCell (g,0) (.int .i64 sh)).setCell (g,1) (.bool (f 0))).setCell (g,2) (.bool (f 1))).setCell (g,3) (.bool (f 2))).setCell (g,4) (.bool (f 3))).setCell (g,5) (.bool (f 4))).setCell (g,6) (.bool (f 5))).setCell (g,7) (.bool (f 6))).setCell (g,8) (.bool (f 7))).setCell (g,9) (.bool (f 8))).setCell (g,10) (.bool (f 9))).setCell (g,11) (.bool (f 10))).setCell (g,12) (.bool (f 11))) g t sh f:=by
 have a:vl (w.setCell (g,0) (.int .i64 sh)) g t sh (Gc f f0 0):=h.aa3.same λi _=>by simp[Gc]
 exact((((((((((((a.next zz).next zz).next zz).next zz).next zz).next zz).next zz).next zz).next zz).next zz).next zz).next zz).same λi hi=>by simp[Gc,hi]
def Lg(h:X (W.alloc (.cells #[.int .i64 0,.bool false,.bool false,.bool false,.bool false,.bool false,.bool false,.bool false,.bool false,.bool false,.bool false,.bool false,.bool false] 82)).drew.heap.size (W.alloc (.cells #[.int .i64 0,.bool false,.bool false,.bool false,.bool false,.bool false,.bool false,.bool false,.bool false,.bool false,.bool false,.bool false,.bool false] 82)).drew v1):vl v1 W 82 0 mI:=by
 have a:vl (W.alloc (.cells #[.int .i64 0,.bool false,.bool false,.bool false,.bool false,.bool false,.bool false,.bool false,.bool false,.bool false,.bool false,.bool false,.bool false] 82)).drew W 82 0 mI:=vl.new W 82 0 mI;exact a.below h ss
def uL{x y:Bool}(h:x=y):Ending.returned (.tuple #[.bool x,.int .i64 0])=.returned (.tuple #[.bool y,.int .i64 0]):=by rw[h]
def Wx(m:Int)(f:Nat->Bool)(b:X W W v1):∃a,M.pointer (Y (v1.heap.size,0))=.pointer (Y (a,0))/\X W W (v1.alloc (.cells #[.int .i64 m,.bool (f 0),.bool (f 1),.bool (f 2),.bool (f 3),.bool (f 4),.bool (f 5),.bool (f 6),.bool (f 7),.bool (f 8),.bool (f 9),.bool (f 10),.bool (f 11)] 82))/\vl (v1.alloc (.cells #[.int .i64 m,.bool (f 0),.bool (f 1),.bool (f 2),.bool (f 3),.bool (f 4),.bool (f 5),.bool (f 6),.bool (f 7),.bool (f 8),.bool (f 9),.bool (f 10),.bool (f 11)] 82)) a 82 m f:=
 ⟨v1.heap.size,rfl,aP b (qN _) _,vl.new v1 82 m f⟩
def Wy(m:Int)(f:Nat->Bool)(b:X (W.alloc (.cells #[.int .i64 0,.bool false,.bool false,.bool false,.bool false,.bool false,.bool false,.bool false,.bool false,.bool false,.bool false,.bool false,.bool false] 82)).drew.heap.size (W.alloc (.cells #[.int .i64 0,.bool false,.bool false,.bool false,.bool false,.bool false,.bool false,.bool false,.bool false,.bool false,.bool false,.bool false,.bool false] 82)).drew v1)(c:X W W v1):∃a,M.pointer (Y (W.heap.size,0))=.pointer (Y (a,0))/\X W W (((((((((((((v1.setCell (W.heap.size,0) (.int .i64 m)).setCell (W.heap.size,1) (.bool (f 0))).setCell (W.heap.size,2) (.bool (f 1))).setCell (W.heap.size,3) (.bool (f 2))).setCell (W.heap.size,4) (.bool (f 3))).setCell (W.heap.size,5) (.bool (f 4))).setCell (W.heap.size,6) (.bool (f 5))).setCell (W.heap.size,7) (.bool (f 6))).setCell (W.heap.size,8) (.bool (f 7))).setCell (W.heap.size,9) (.bool (f 8))).setCell (W.heap.size,10) (.bool (f 9))).setCell (W.heap.size,11) (.bool (f 10))).setCell (W.heap.size,12) (.bool (f 11)))/\vl (((((((((((((v1.setCell (W.heap.size,0) (.int .i64 m)).setCell (W.heap.size,1) (.bool (f 0))).setCell (W.heap.size,2) (.bool (f 1))).setCell (W.heap.size,3) (.bool (f 2))).setCell (W.heap.size,4) (.bool (f 3))).setCell (W.heap.size,5) (.bool (f 4))).setCell (W.heap.size,6) (.bool (f 5))).setCell (W.heap.size,7) (.bool (f 6))).setCell (W.heap.size,8) (.bool (f 7))).setCell (W.heap.size,9) (.bool (f 8))).setCell (W.heap.size,10) (.bool (f 9))).setCell (W.heap.size,11) (.bool (f 10))).setCell (W.heap.size,12) (.bool (f 11))) a 82 m f:=
 ⟨W.heap.size,rfl,by exact bt,Lf (Lg b)⟩
def Dr{w w1:H}{b:aC}{s:Sl}(h:X ((w.alloc (aE b 31)).alloc (.cells #[.int .i64 sh,.slice s.A s.n s.c] 46)).heap.size ((w.alloc (aE b 31)).alloc (.cells #[.int .i64 sh,.slice s.A s.n s.c] 46)) w1):
  aK ((w1.alloc (aE b 75)).alloc (.cells #[.int .i64 sh,.bool (f 0),.bool (f 1),.bool (f 2),.bool (f 3),.bool (f 4),.bool (f 5),.bool (f 6),.bool (f 7),.bool (f 8),.bool (f 9),.bool (f 10),.bool (f 11)] 82)) w 31 b/\((w1.alloc (aE b 75)).alloc (.cells #[.int .i64 sh,.bool (f 0),.bool (f 1),.bool (f 2),.bool (f 3),.bool (f 4),.bool (f 5),.bool (f 6),.bool (f 7),.bool (f 8),.bool (f 9),.bool (f 10),.bool (f 11)] 82)).cell? (w.heap.size+1,1)=Y (.slice s.A s.n s.c)/\aK ((w1.alloc (aE b 75)).alloc (.cells #[.int .i64 sh,.bool (f 0),.bool (f 1),.bool (f 2),.bool (f 3),.bool (f 4),.bool (f 5),.bool (f 6),.bool (f 7),.bool (f 8),.bool (f 9),.bool (f 10),.bool (f 11)] 82)) w1 75 b/\vl ((w1.alloc (aE b 75)).alloc (.cells #[.int .i64 sh,.bool (f 0),.bool (f 1),.bool (f 2),.bool (f 3),.bool (f 4),.bool (f 5),.bool (f 6),.bool (f 7),.bool (f 8),.bool (f 9),.bool (f 10),.bool (f 11)] 82)) (w1.heap.size+1) 82 sh f/\X w w ((w1.alloc (aE b 75)).alloc (.cells #[.int .i64 sh,.bool (f 0),.bool (f 1),.bool (f 2),.bool (f 3),.bool (f 4),.bool (f 5),.bool (f 6),.bool (f 7),.bool (f 8),.bool (f 9),.bool (f 10),.bool (f 11)] 82)):=by
 have a:=h.size;simp only[aa]at a;simp only[aa]at h;have h2:X (w.heap.size+1+1) ((w.alloc (aE b 31)).alloc (.cells #[.int .i64 sh,.slice s.A s.n s.c] 46)) ((w1.alloc (aE b 75)).alloc (.cells #[.int .i64 sh,.bool (f 0),.bool (f 1),.bool (f 2),.bool (f 3),.bool (f 4),.bool (f 5),.bool (f 6),.bool (f 7),.bool (f 8),.bool (f 9),.bool (f 10),.bool (f 11)] 82)):=(h.alloc a _).alloc (by rw[aa];omega) _;refine⟨?_,?_,?_,?_,?_⟩
 .refine(h2.block _ zz).tn ?_;exact(QR _ _ (by rw[aa];omega)).tn (Sp _ _)
 .rw[h2.cell (p:=⟨w.heap.size+1,1,I⟩) (by show w.heap.size+1<_;omega)];have:=Sp (w.alloc (aE b 31)) (.cells #[.int .i64 sh,.slice s.A s.n s.c] 46);rw[aa]at this;rw[H.cell?,this];rfl
 .exact(QR _ _ (by rw[aa];omega)).tn (Sp _ _)
 .have:=vl.new (w1.alloc (aE b 75)) 82 sh f;rw[aa]at this;exact this
 .exact(((X.refl _ _).alloc (qN _) _).alloc (by rw[aa];omega) _).tn (h2.mono zz)
theorem Bq(b:aC)(l:pK)(sh:Int)(s:Sl)(d:List Int)(w:H)(hl:aI w b l)(a9:aD w)(a0:eC w s d)(V:ay b l=0)(N:r7 b.S sh d=0):
  PH F 13 #[b.v,aF sh s] w (wN (decide (min (max sh b.lo) b.hi=sh)&&nG (lJ (eM d) l.C) (eM d)&&decide ((d.length:Int)<=b.D)&&oI b.S b.L sh (eM d) l.U l.W,0) w):=by
 have a4:=Hm hl;have c5:=Hm a9;have O:=Hm a0;clear hl a9 a0;have y:∀a,aI a b l->aD a->eC a s d->PH F 40 #[b.v,aF sh s] a λe w'=>e=.returned (.tuple #[b.v,gN sh (eM d),.int .i64 0])/\X a a w':=λa h1 h2 T=>
  (sO b l sh s d a h1 h2 T).mono λe w' d4=>by
   obtain⟨p1,p2⟩:=d4;rw[qWB V,qWB N,N]at p1;exact⟨p1,p2⟩
 have hk:=bP V;obtain⟨t1,t2,t3,t4,t5,t6,t7,t8,t9,d',b8⟩:=cS hk.1;obtain⟨v1,v2,v3⟩:=tM N;have t:=λa (S:eC a b.C l.C)=>FX b t2 (eM d) l.C (wM b8) a S;have A:=λa (S:Cf a b.U l.U) (T:fL a b.W l.W)=>Ao b t1 t2 t5 t6 sh v1 v2 (eM d) l.U (λk U=>kP hk.2.2.1 k U) l.W (λk U=>Gb hk.2.2.2.2 k U) a S T;have b1:=O.out.1;have d6:s.n<=1000:=by have:=O.out.2.2.1;omega
 rw[<- b1];clear b1;generalize oI b.S b.L sh (eM d) l.U l.W=R at A|-;generalize lJ (eM d) l.C=f' at t|-;generalize eM d=f at t A y|-;clear V N hk b8 v3;unfold aC.v at y t A|-;unfold aF at y|-;unfold gN at y A;unfold tJ at t;go_enter Tryz.func13,Tryz.ntmps13;go_wp2_with (go_at_call 40;refine(y _ (aq (aq a4.out _) _) (ai (ai c5.out _) _) (aZ (aZ O.out _) _)).mono ?_;rintro e a ⟨rfl,J⟩;obtain⟨c',d2⟩:=aU J;have B1:=IA J;have b6:w.heap.size+1<a.heap.size:=(by have:=J.size;simp only[aa]at this;omega);have b7:w.heap.size<a.heap.size:=zz);obtain⟨r,B,v,n,C⟩:=Dr (b:=b) (s:=s) (sh:=sh) (f:=f) J;simp only[aE]at r B v n C;clear c' d2 J;generalize(a.alloc (.cells #[.int .i64 b.S,.int .i64 b.D,.int .i64 b.L,.int .i64 b.lo,.int .i64 b.hi,.slice b.C.A b.C.n b.C.c,.int .i64 b.rf,.int .i64 b.rh,.int .i64 b.cf,.int .i64 b.ch,.slice b.U.A b.U.n b.U.c,.slice b.E.A b.E.n b.E.c,.slice b.W.A b.W.n b.W.c] 75)).alloc (.cells #[.int .i64 sh,.bool (f 0),.bool (f 1),.bool (f 2),.bool (f 3),.bool (f 4),.bool (f 5),.bool (f 6),.bool (f 7),.bool (f 8),.bool (f 9),.bool (f 10),.bool (f 11)] 82)=W at r B v n C|-;generalize a.heap.size=g at r B v n C b6 b7|-;obtain⟨x0,x1,x2,x3,x4,x5,x6,x7,x8,x9,b',b0,c1⟩:=aM r;obtain⟨z0,z1,z2,z3,z4,z5,z6,z7,z8,z9,a1,a2,a3⟩:=aM v;obtain⟨y0,y1,y2,y3,y4,y5,y6,y7,y8,y9,c2,c3,c4⟩:=n.all;have i:=v.lt;have l2:=n.lt;have l3:(w:Nat)<W:=zz;have l4:(w:Nat)+1<W:=zz;have b4:=n.range;have d8:=Tryz.underlying80;have d7:(F.info? 80).map (·.size)=Y 12:=by kernel_rfl
 have a5:=Hm r;have c6:=Hm B;have c8:=Hm n;have c9:=Hm v;have c7:PQ ((w:Nat)+1<W):=l4;have a6:=Hm C;have G:=Hm (a4.out.below C);have L:PQ (∀w',X W W w'->w' (w.heap.size,3)=Y (.int .i64 b.lo)/\w' (w.heap.size,4)=Y (.int .i64 b.hi)/\w' (g,0)=Y (.int .i64 b.S)/\w' (g,1)=Y (.int .i64 b.D)/\w' (g,2)=Y (.int .i64 b.L)/\w' (g,3)=Y (.int .i64 b.lo)/\w' (g,4)=Y (.int .i64 b.hi)/\w' (g,5)=Y (.slice b.C.A b.C.n b.C.c)/\w' (g,6)=Y (.int .i64 b.rf)/\w' (g,7)=Y (.int .i64 b.rh)/\w' (g,8)=Y (.int .i64 b.cf)/\w' (g,9)=Y (.int .i64 b.ch)/\w' (g,10)=Y (.slice b.U.A b.U.n b.U.c)/\w' (g,11)=Y (.slice b.E.A b.E.n b.E.c)/\w' (g,12)=Y (.slice b.W.A b.W.n b.W.c)/\w' (g+1,0)=Y (.int .i64 sh)/\w'.rangeAt (g+1) 1 [.bool (f 0),.bool (f 1),.bool (f 2),.bool (f 3),.bool (f 4),.bool (f 5),.bool (f 6),.bool (f 7),.bool (f 8),.bool (f 9),.bool (f 10),.bool (f 11)]/\X W W w'):=λw' c=>⟨(c.cell (p:=⟨_,_,I⟩) l3).tn x3,(c.cell (p:=⟨_,_,I⟩) l3).tn x4,(c.cell (p:=⟨_,_,I⟩) i).tn z0,(c.cell (p:=⟨_,_,I⟩) i).tn z1,(c.cell (p:=⟨_,_,I⟩) i).tn z2,(c.cell (p:=⟨_,_,I⟩) i).tn z3,(c.cell (p:=⟨_,_,I⟩) i).tn z4,(c.cell (p:=⟨_,_,I⟩) i).tn z5,(c.cell (p:=⟨_,_,I⟩) i).tn z6,(c.cell (p:=⟨_,_,I⟩) i).tn z7,(c.cell (p:=⟨_,_,I⟩) i).tn z8,(c.cell (p:=⟨_,_,I⟩) i).tn z9,(c.cell (p:=⟨_,_,I⟩) i).tn a1,(c.cell (p:=⟨_,_,I⟩) i).tn a2,(c.cell (p:=⟨_,_,I⟩) i).tn a3,(c.cell (p:=⟨_,_,I⟩) l2).tn y0,Dq b4 c l2,c⟩;clear r B v n C b4 l3 l4 b6 b7 x0 x1 x2 x3 x4 x5 x6 x7 x8 x9 b' b0 c1 y0 y1 y2 y3 y4 y5 y6 y7 y8 y9 c2 c3 c4 z0 z1 z2 z3 z4 z5 z6 z7 z8 z9 a1 a2 a3;go_cut [9] (λs9 b9=>∃Q,s9=.pointer (Y ⟨Q,0,I⟩)/\X W.heap.size W b9/\vl b9 Q 82 (min (max sh b.lo) b.hi) f')
 case first=>
  rcases(show sh<b.lo\/(b.lo<=sh/\sh<=b.hi)\/(b.lo<=sh/\b.hi<sh)from zz)with z|⟨z,d3⟩|⟨z,d3⟩
  .have o:PQ (min (max sh b.lo) b.hi=b.lo):=by show _=_;omega
   go_region_held3 (λw'=>w'.cell? ⟨w.heap.size,3,I⟩=Y (.int .i64 b.lo)/\w'.cell? ⟨w.heap.size,4,I⟩=Y (.int .i64 b.hi)/\w'.cell? ⟨g,0,I⟩=Y (.int .i64 b.S)/\w'.cell? ⟨g,1,I⟩=Y (.int .i64 b.D)/\w'.cell? ⟨g,2,I⟩=Y (.int .i64 b.L)/\w'.cell? ⟨g,3,I⟩=Y (.int .i64 b.lo)/\w'.cell? ⟨g,4,I⟩=Y (.int .i64 b.hi)/\w'.cell? ⟨g,5,I⟩=Y (.slice b.C.A b.C.n b.C.c)/\w'.cell? ⟨g,6,I⟩=Y (.int .i64 b.rf)/\w'.cell? ⟨g,7,I⟩=Y (.int .i64 b.rh)/\w'.cell? ⟨g,8,I⟩=Y (.int .i64 b.cf)/\w'.cell? ⟨g,9,I⟩=Y (.int .i64 b.ch)/\w'.cell? ⟨g,10,I⟩=Y (.slice b.U.A b.U.n b.U.c)/\w'.cell? ⟨g,11,I⟩=Y (.slice b.E.A b.E.n b.E.c)/\w'.cell? ⟨g,12,I⟩=Y (.slice b.W.A b.W.n b.W.c)/\w'.cell? ⟨g+1,0,I⟩=Y (.int .i64 sh)/\w'.rangeAt (g+1) 1 [.bool (f 0),.bool (f 1),.bool (f 2),.bool (f 3),.bool (f 4),.bool (f 5),.bool (f 6),.bool (f 7),.bool (f 8),.bool (f 9),.bool (f 10),.bool (f 11)]/\X W.heap.size W w') (exact L.out _ bf) (first|(go_at_call 43;refine(t _ (G.out.C.below bf)).mono ?_;rintro e v1 ⟨rfl,j⟩;obtain⟨a',b2⟩:=aU j;have u:X W.heap.size W v1:=X.tn bf (j.mono (by first|(simp only[H.size_drew,aa];omega)|(have:=(by with_reducible assumption:X W.heap.size W _).size;omega)))));all_goals go_wp2_with fail
   all_goals go_meet
   all_goals rw[o.out]
   all_goals first|with_reducible exact Wx _ _ u|with_reducible exact Wy _ _ j u
  .have o:PQ (min (max sh b.lo) b.hi=sh):=by show _=_;omega
   go_region_held3 (λw'=>w'.cell? ⟨w.heap.size,3,I⟩=Y (.int .i64 b.lo)/\w'.cell? ⟨w.heap.size,4,I⟩=Y (.int .i64 b.hi)/\w'.cell? ⟨g,0,I⟩=Y (.int .i64 b.S)/\w'.cell? ⟨g,1,I⟩=Y (.int .i64 b.D)/\w'.cell? ⟨g,2,I⟩=Y (.int .i64 b.L)/\w'.cell? ⟨g,3,I⟩=Y (.int .i64 b.lo)/\w'.cell? ⟨g,4,I⟩=Y (.int .i64 b.hi)/\w'.cell? ⟨g,5,I⟩=Y (.slice b.C.A b.C.n b.C.c)/\w'.cell? ⟨g,6,I⟩=Y (.int .i64 b.rf)/\w'.cell? ⟨g,7,I⟩=Y (.int .i64 b.rh)/\w'.cell? ⟨g,8,I⟩=Y (.int .i64 b.cf)/\w'.cell? ⟨g,9,I⟩=Y (.int .i64 b.ch)/\w'.cell? ⟨g,10,I⟩=Y (.slice b.U.A b.U.n b.U.c)/\w'.cell? ⟨g,11,I⟩=Y (.slice b.E.A b.E.n b.E.c)/\w'.cell? ⟨g,12,I⟩=Y (.slice b.W.A b.W.n b.W.c)/\w'.cell? ⟨g+1,0,I⟩=Y (.int .i64 sh)/\w'.rangeAt (g+1) 1 [.bool (f 0),.bool (f 1),.bool (f 2),.bool (f 3),.bool (f 4),.bool (f 5),.bool (f 6),.bool (f 7),.bool (f 8),.bool (f 9),.bool (f 10),.bool (f 11)]/\X W.heap.size W w') (exact L.out _ bf) (first|(go_at_call 43;refine(t _ (G.out.C.below bf)).mono ?_;rintro e v1 ⟨rfl,j⟩;obtain⟨a',b2⟩:=aU j;have u:X W.heap.size W v1:=X.tn bf (j.mono (by first|(simp only[H.size_drew,aa];omega)|(have:=(by with_reducible assumption:X W.heap.size W _).size;omega)))));all_goals go_wp2_with fail
   all_goals go_meet
   all_goals rw[o.out]
   all_goals first|with_reducible exact Wx _ _ u|with_reducible exact Wy _ _ j u
  .have o:PQ (min (max sh b.lo) b.hi=b.hi):=by show _=_;omega
   go_region_held3 (λw'=>w'.cell? ⟨w.heap.size,3,I⟩=Y (.int .i64 b.lo)/\w'.cell? ⟨w.heap.size,4,I⟩=Y (.int .i64 b.hi)/\w'.cell? ⟨g,0,I⟩=Y (.int .i64 b.S)/\w'.cell? ⟨g,1,I⟩=Y (.int .i64 b.D)/\w'.cell? ⟨g,2,I⟩=Y (.int .i64 b.L)/\w'.cell? ⟨g,3,I⟩=Y (.int .i64 b.lo)/\w'.cell? ⟨g,4,I⟩=Y (.int .i64 b.hi)/\w'.cell? ⟨g,5,I⟩=Y (.slice b.C.A b.C.n b.C.c)/\w'.cell? ⟨g,6,I⟩=Y (.int .i64 b.rf)/\w'.cell? ⟨g,7,I⟩=Y (.int .i64 b.rh)/\w'.cell? ⟨g,8,I⟩=Y (.int .i64 b.cf)/\w'.cell? ⟨g,9,I⟩=Y (.int .i64 b.ch)/\w'.cell? ⟨g,10,I⟩=Y (.slice b.U.A b.U.n b.U.c)/\w'.cell? ⟨g,11,I⟩=Y (.slice b.E.A b.E.n b.E.c)/\w'.cell? ⟨g,12,I⟩=Y (.slice b.W.A b.W.n b.W.c)/\w'.cell? ⟨g+1,0,I⟩=Y (.int .i64 sh)/\w'.rangeAt (g+1) 1 [.bool (f 0),.bool (f 1),.bool (f 2),.bool (f 3),.bool (f 4),.bool (f 5),.bool (f 6),.bool (f 7),.bool (f 8),.bool (f 9),.bool (f 10),.bool (f 11)]/\X W.heap.size W w') (exact L.out _ bf) (first|(go_at_call 43;refine(t _ (G.out.C.below bf)).mono ?_;rintro e v1 ⟨rfl,j⟩;obtain⟨a',b2⟩:=aU j;have u:X W.heap.size W v1:=X.tn bf (j.mono (by first|(simp only[H.size_drew,aa];omega)|(have:=(by with_reducible assumption:X W.heap.size W _).size;omega)))));all_goals go_wp2_with fail
   all_goals go_meet
   all_goals rw[o.out]
   all_goals first|with_reducible exact Wx _ _ u|with_reducible exact Wy _ _ j u
 case rest=>
  obtain⟨Q,rfl,q,Z⟩:=hcut;obtain⟨m,z⟩:∃m,min (max sh b.lo) b.hi=m:=⟨_,rfl⟩;rw[z]at Z;have P:=Hm z;clear z;have d9:=q.size;have r:aK wc w 31 b:=(q.block _ a5.out.lt).tn a5.out;have b5:aK wc g 75 b:=(q.block _ i).tn c9.out;have n:=c8.out.below q l2;have B:wc (w.heap.size+1,1)=Y (.slice s.A s.n s.c):=(q.cell (p:=⟨w.heap.size+1,1,I⟩) c7.out).tn c6.out;have a8:=λw=>aa2 m sh f' f w;have a7:=λw=>aa1 f' f w;unfold gN at a8;unfold tJ at a7;obtain⟨x0,x1,x2,x3,x4,x5,x6,x7,x8,x9,b',b0,c1⟩:=aM r;obtain⟨z0,z1,z2,z3,z4,z5,z6,z7,z8,z9,a1,a2,a3⟩:=aM b5;obtain⟨y0,y1,y2,y3,y4,y5,y6,y7,y8,y9,c2,c3,c4⟩:=n.all;obtain⟨u0,u1,u2,u3,u4,u5,u6,u7,u8,u9,d0,e1,e2⟩:=Z.all;have K:=Hm (a6.out.tn (q.mono a6.out.size));have d5:=A wc (G.out.U.below q) (G.out.W.below q);clear q Z r b5 n L t y A;obtain⟨E,x⟩:∃E,(decide (m=sh)&&nG f' f)=E:=⟨_,rfl⟩;have o:=Hm x;simp only[x]at a8;cases E
  .clear x;go_wp2;go_ret2;exact⟨uL (by rw[P.out,o.out];rfl),K.out⟩
  .have b3:nG f' f=true:=by simp only[du]at x;exact x.2
   simp only[b3]at a7;clear x b3;by_cases d1:(s.n:Int)<=b.D
   .go_wp2_with (go_at_call 33;refine d5.mono ?_;rintro e v1 ⟨rfl,j⟩);go_ret2;exact⟨uL (by rw[P.out,o.out];simp[d1]),K.out.tn (j.mono K.out.size)⟩
   .go_wp2;go_ret2;exact⟨uL (by rw[P.out,o.out];simp;intro h;omega),K.out⟩
variable{rf ch:Int}
def N8:∀{l:List (Int×Int)},nF rf ch l=0->∀p∈l,1-rf<=p.1/\p.1<=rf-1/\0<=p.2/\p.2<=60/\p.2<ch
 | [],_=>λp d=>by simp at d
 | (a,h)::r,b=>by
  simp only[nF]at b;by_cases c:(ax a (1-rf) (rf-1)&&ax h 0 60)=false
  .rw[qWB c]at b;omega
  .rw[qVB c]at b;by_cases h2:ch<=h
   .rw[qWB h2]at b;omega
   .rw[qVB h2]at b;intro p d;rcases dq.1 d with rfl|d
    .simp only[Bool.and_eq_false_iff,not_or,Bool.not_eq_false]at c;have e1:=qM.1 c.1;have e:=qM.1 c.2;exact⟨e1.1,e1.2,e.1,e.2,by show h<ch;omega⟩
    .exact N8 b p d
def qY{l:List (Int×Int)}(h:fT rf ch l=0)(k:Nat)(hk:k<l.length):1-rf<=(l.getD k (0,0)).1/\(l.getD k (0,0)).1<=rf-1/\0<=(l.getD k (0,0)).2/\(l.getD k (0,0)).2<=60/\(l.getD k (0,0)).2<ch:=by
 unfold fT at h;split at h
 .omega
 .exact N8 h _ (by simp[List.getD,iv hk])
def sv(b:aC)(l:pK)(a:Int):Bool×Bool×Int:=
 if ay b l≠0 then(false,false,ay b l)else if ax a 0 (l.E.length-1)=false then(false,false,6)else(jC b (l.E.getD a.toNat (0,0)) (-1),jC b (l.E.getD a.toNat (0,0)) 1,0)
def Lh(p:Bool×Bool×Int)(w:H)(e:Ending)(w':H):Prop:=e=.returned (.tuple #[.bool p.1,.bool p.2.1,.int .i64 p.2.2])/\X w w w'
def di{w w':H}{o:Obj}(h:X (w.alloc o).heap.size (w.alloc o) w'):X w w w':=aY h
theorem Au(b:aC)(l:pK)(i:Int)(w:H)(hl:aI w b l)(U:aD w)(n:ay b l=0:=by kernel_rfl)(m:ax i 0 (b.E.n-1)=true:=by kernel_rfl):
  PH F 25 #[b.v,.int .i64 i] w (Lh (sv b l i) w):=by
 have J:=Hm hl;have a4:=Hm U;have T:=hl.E.1;have a6:=hl.E.2.2.1;clear hl U;have s:=λf (h1:aI f b l) (h2:aD f)=>cG b l f h1 h2
 .have hk:=bP n;simp only[n]at s;have t:=λf=>KW b i zz f
  .obtain⟨f1,f2⟩:=qM.1 m;obtain⟨h,rfl⟩:∃h:Nat,i=(h:Int):=⟨i.toNat,zz⟩;have V:h<l.E.length:=zz;obtain⟨q1,q2,Z,q4,q5⟩:=qY hk.2.2.2.1 h V;obtain⟨L,N,O,P,Q,c6,R,S,c9⟩:=wL hk.2.1;have u:=λ(C:Int) (s1: -1<=C) (s2:C<=1) f (h0:Cf f b.E l.E)=>N7 b L N O P R S Q zz h C s1 s2 l.E V zz zz Z q4 f h0;have q:PQ (sv b l h=(jC b (l.E.getD h (0,0)) (-1),jC b (l.E.getD h (0,0)) 1,0)):=by
    unfold sv;rw[qVB (by simp[n]),<- T,qVB (by simp[m])];exact rfl
   have v:=u (-1) zz zz;have z:=u 1 zz zz;clear u;generalize jC b (l.E.getD h (0,0)) (-1)=x at v q;generalize jC b (l.E.getD h (0,0)) 1=y at z q;simp only[m]at t;clear hk n m f1 f2 q1 q2 Z q4 q5 L N O P Q c6 R S c9 T a6;unfold aC.v at s t v z|-;go_enter Tryz.func25,Tryz.ntmps25;go_wp2_with (first|(go_at_call 30;refine(s _ (aq J.out _) (ai a4.out _)).mono ?_;rintro e f ⟨rfl,j⟩;obtain⟨a7,a9⟩:=aU j;have o:=di j;have a0:w.heap.size<f.heap.size:=(by have:=j.size;simp only[aa]at this;omega))|(go_at_call 63;refine(t _).mono ?_;rintro e a ⟨rfl,k⟩;obtain⟨a8,a'⟩:=aU k));have B:aK a f 75 b:=(k.block _ (by rw[aa];omega)).tn (Sp _ _);have r:X w w a:=o.tn ((aY k).mono o.size);have K:=Hm (J.out.below r);have G:=Hm r;have d:=B.lt;obtain⟨z0,z1,z2,z3,z4,z5,z6,z7,z8,z9,a1,a2,a3⟩:=aM B;clear a7 a9 a8 a' j k r B o;generalize f.heap.size=g at*;have a5:PQ (∀w',X a a w'->w' (g,0)=Y (.int .i64 b.S)/\w' (g,1)=Y (.int .i64 b.D)/\w' (g,2)=Y (.int .i64 b.L)/\w' (g,3)=Y (.int .i64 b.lo)/\w' (g,4)=Y (.int .i64 b.hi)/\w' (g,5)=Y (.slice b.C.A b.C.n b.C.c)/\w' (g,6)=Y (.int .i64 b.rf)/\w' (g,7)=Y (.int .i64 b.rh)/\w' (g,8)=Y (.int .i64 b.cf)/\w' (g,9)=Y (.int .i64 b.ch)/\w' (g,10)=Y (.slice b.U.A b.U.n b.U.c)/\w' (g,11)=Y (.slice b.E.A b.E.n b.E.c)/\w' (g,12)=Y (.slice b.W.A b.W.n b.W.c)/\X a a w'):=λw' c=>⟨(c.cell (p:=⟨_,_,I⟩) d).tn z0,(c.cell (p:=⟨_,_,I⟩) d).tn z1,(c.cell (p:=⟨_,_,I⟩) d).tn z2,(c.cell (p:=⟨_,_,I⟩) d).tn z3,(c.cell (p:=⟨_,_,I⟩) d).tn z4,(c.cell (p:=⟨_,_,I⟩) d).tn z5,(c.cell (p:=⟨_,_,I⟩) d).tn z6,(c.cell (p:=⟨_,_,I⟩) d).tn z7,(c.cell (p:=⟨_,_,I⟩) d).tn z8,(c.cell (p:=⟨_,_,I⟩) d).tn z9,(c.cell (p:=⟨_,_,I⟩) d).tn a1,(c.cell (p:=⟨_,_,I⟩) d).tn a2,(c.cell (p:=⟨_,_,I⟩) d).tn a3,c⟩;clear z0 z1 z2 z3 z4 z5 z6 z7 z8 z9 a1 a2 a3;go_region_held3 (λw'=>w'.cell? ⟨g,0,I⟩=Y (.int .i64 b.S)/\w'.cell? ⟨g,1,I⟩=Y (.int .i64 b.D)/\w'.cell? ⟨g,2,I⟩=Y (.int .i64 b.L)/\w'.cell? ⟨g,3,I⟩=Y (.int .i64 b.lo)/\w'.cell? ⟨g,4,I⟩=Y (.int .i64 b.hi)/\w'.cell? ⟨g,5,I⟩=Y (.slice b.C.A b.C.n b.C.c)/\w'.cell? ⟨g,6,I⟩=Y (.int .i64 b.rf)/\w'.cell? ⟨g,7,I⟩=Y (.int .i64 b.rh)/\w'.cell? ⟨g,8,I⟩=Y (.int .i64 b.cf)/\w'.cell? ⟨g,9,I⟩=Y (.int .i64 b.ch)/\w'.cell? ⟨g,10,I⟩=Y (.slice b.U.A b.U.n b.U.c)/\w'.cell? ⟨g,11,I⟩=Y (.slice b.E.A b.E.n b.E.c)/\w'.cell? ⟨g,12,I⟩=Y (.slice b.W.A b.W.n b.W.c)/\X a.heap.size a w')
    (exact a5.out _ bf)
    (first
     | (go_at_call 64;(with_reducible refine(v _ (K.out.E.below bf)).mono ?_);rintro e E ⟨rfl,A⟩;have W:X a.heap.size a E:=X.tn bf (A.mono (by first|(simp only[H.size_drew];omega)|exact(by with_reducible assumption:X a.heap.size a _).size)))
     | (go_at_call 64;(with_reducible refine(z _ (K.out.E.below bf)).mono ?_);rintro e E ⟨rfl,A⟩;have W:X a.heap.size a E:=X.tn bf (A.mono (by first|(simp only[H.size_drew];omega)|exact(by with_reducible assumption:X a.heap.size a _).size))))
   all_goals go_wp2
   all_goals refine bd (results_tmp3 rfl _ _ _) rfl ?_
   all_goals exact⟨by rw[q.out];rfl,G.out.tn (W.mono G.out.size)⟩
def vY(b:aC)(e:Int×Int)(a:Int):Int:=(nJ b.rf b.rh b.ch e a+(b.rh-e.2)-1)/(b.rh-e.2)
def qG(b:aC):Int->List (Int×Int)->Int
 | uB,[]=>uB
 | uB,e::r=>qG b (max (max uB (vY b e (-1))) (vY b e 1)) r
def H8(b:aC)(uB:Int)(l:List (Int×Int))(k:Nat)(hk:k<l.length):qG b uB (l.drop k)=qG b (max (max uB (vY b (l.getD k (0,0)) (-1))) (vY b (l.getD k (0,0)) 1)) (l.drop (k+1)):=by
 rw[fx hk];have e:l.getD k (0,0)=l[k]:=by simp[List.getD,iv hk]
 rw[e];rfl
def ve(b:aC)(l:pK):Int×Int:=if ay b l≠0 then(0,ay b l)else(qG b 0 l.E,0)
def Tl(p:Int×Int)(w:H)(e:Ending)(w':H):Prop:=e=.returned (.tuple #[.int .i64 p.1,.int .i64 p.2])/\X w w w'
def int_eq{k:IntKind}{a b:Int}(h:a=b):M.int k a=.int k b:=by rw[h]
def ZD(a b c:Int)(j:Nat):Int:=if j=0 then a else if j=1 then b else c
theorem Ia(b:aC)(l:pK)(w:H)(hl:aI w b l)(a8:aD w)(z:ay b l=0:=by kernel_rfl):
  PH F 27 #[b.v] w (Tl (ve b l) w):=by
 have a5:=Hm hl;have b2:=Hm a8;have a7:=hl.E.1;have b':=hl.E.2.2.1;clear hl a8;have Z:=λa (u:aI a b l) (h2:aD a)=>cG b l a u h2
 .have hk:=bP z;simp only[z]at Z;obtain⟨O,P,Q,R,c5,c6,S,T,c9⟩:=wL hk.2.1;have A:=λ(h:Nat) (s:h<l.E.length) (a3:Int) (s1: -1<=a3) (s2:a3<=1) a (r:Cf a b.E l.E)=>Dt b O P Q R S T h a3 s1 s2 l.E s (by have:=qY hk.2.2.2.1 h s;omega) (by have:=qY hk.2.2.2.1 h s;omega) (qY hk.2.2.2.1 h s).2.2.1 (qY hk.2.2.2.1 h s).2.2.2.1 a r;have a0:=Hm (qY hk.2.2.2.1);have b1:PQ (ve b l=(qG b 0 l.E,0)):=by
   unfold ve;rw[qVB (by simp[z])];exact rfl
  have c7:b.E.n<=1000:=zz;have a4:=Hm a7;clear z hk a7 b';unfold aC.v at Z A|-;go_enter Tryz.func27,Tryz.ntmps27;go_wp2_with (go_at_call 30;refine(Z _ (aq a5.out _) (ai b2.out _)).mono ?_;rintro e a ⟨rfl,U⟩;obtain⟨c8,c'⟩:=aU U;have E:=di U;have d5:w.heap.size<a.heap.size:=(by have:=U.size;simp only[aa]at this;omega));have a6:=Hm (a5.out.below E);go_loopw [22,2] (λi f wr=>∃(k:Nat) (uB:Int),k<=b.E.n/\i=.int .i64 k/\f=.int .i64 uB/\X a.heap.size a wr/\PQ (qG b 0 l.E=qG b uB (l.E.drop k))) (λi _ _=>b.E.n-(intOf i).toNat)
  case atStart=>exact⟨0,0,zz,rfl,rfl,by exact bt,rfl⟩
  case round=>
   obtain⟨k,uB,hk,rfl,rfl,t,a9⟩:=hrel;have a2:=t.size;by_cases d3:k<b.E.n
   .have v:k<l.E.length:=by have:=a4.out;omega
    have K:=Hm (H8 b uB l.E k v);obtain⟨q1,q2,q3,q4,q5⟩:=a0.out k v;have B:=λa r=>A k v (-1) zz zz a r;have C:=λa r=>A k v 1 zz zz a r;clear A;have L:=Br (x:=(l.E.getD k (0,0)).1) (y:=(l.E.getD k (0,0)).2) O P Q R S T (show -1<=(-1:Int) by omega) zz zz zz q3 q4;have N:=Br (x:=(l.E.getD k (0,0)).1) (y:=(l.E.getD k (0,0)).2) O P Q R S T (show -1<=(1:Int) by omega) zz zz zz q3 q4;have e0:((l.E.getD k (0,0)).1,(l.E.getD k (0,0)).2)=l.E.getD k (0,0):=rfl;rw[e0]at L N;have o:PQ (vY b (l.E.getD k (0,0)) (-1)=(nJ b.rf b.rh b.ch (l.E.getD k (0,0)) (-1)+(b.rh-(l.E.getD k (0,0)).2)-1)/(b.rh-(l.E.getD k (0,0)).2)):=rfl;have q:PQ (vY b (l.E.getD k (0,0)) 1=(nJ b.rf b.rh b.ch (l.E.getD k (0,0)) 1+(b.rh-(l.E.getD k (0,0)).2)-1)/(b.rh-(l.E.getD k (0,0)).2)):=rfl;clear e0 q1 q2;generalize nJ b.rf b.rh b.ch (l.E.getD k (0,0)) (-1)=c1 at B L o;generalize nJ b.rf b.rh b.ch (l.E.getD k (0,0)) 1=c2 at C N q;generalize vY b (l.E.getD k (0,0)) (-1)=c at K o;generalize vY b (l.E.getD k (0,0)) 1=m at K q;generalize(l.E.getD k (0,0)).2=y at B C o q q3 q4 q5;obtain⟨b3,b4⟩:=L;obtain⟨b5,b6⟩:=N;obtain⟨d,a1⟩:∃d:Int,b.rh-y=d:=⟨_,rfl⟩;have d1:1<=d:=zz;have d2:d<=100:=zz;simp only[a1]at B C;have J:=Hm a1;clear a1;have b7:PQ (c=(c1+d-1)/d):=by have:=o.out;rw[J.out]at this;exact this
    have b8:PQ (m=(c2+d-1)/d):=by have:=q.out;rw[J.out]at this;exact this
    clear o q J;obtain⟨W,b0⟩:∃W,W=wr:=⟨_,rfl⟩;subst b0;go_wp2;go_loopw [27,2] (λj f w2=>∃n:Nat,n<=2/\j=.int .i64 n/\f=.int .i64 (ZD uB (max uB c) (max (max uB c) m) n)/\X (W.heap.size+1) (W.alloc (.cells #[.int .i64 (-1),.int .i64 1] 3)) w2) (λj _ _=>2-(intOf j).toNat)
    case atStart=>exact⟨0,zz,rfl,rfl,by exact bt⟩
    case round=>
     obtain⟨n,d4,rfl,rfl,g⟩:=hrel;have G:=bT g;have a':(W:Nat)+1<=wr:=by have:=g.size;rw[aa]at this;exact this
     have b9:wr (W.heap.size,0)=Y (.int .i64 (-1))/\wr (W.heap.size,1)=Y (.int .i64 1):=by
      have u:=Sp W (.cells #[.int .i64 (-1),.int .i64 1] 3);exact⟨(g.cell (p:=⟨W.heap.size,0,I⟩) (by show W.heap.size<_;omega)).tn (by rw[H.cell?,u];rfl),(g.cell (p:=⟨W.heap.size,1,I⟩) (by show W.heap.size<_;omega)).tn (by rw[H.cell?,u];rfl)⟩
     obtain⟨c3,c4⟩:=b9;rcases(show n=0\/n=1\/n=2 from zz)with rfl|rfl|rfl
     .go_wp2_with (go_at_call 65;refine(B _ (a6.out.E.below (t.tn (G.mono a2)))).mono ?_;rintro e v1 ⟨rfl,V⟩);go_roundw
      case rel=>exact⟨1,zz,by first|rfl|go_num,int_eq (by rw[<- b7.out];show(if uB<c then c else uB)=max uB c;rw[Int.max_def];split<;>split<;>omega),g.tn (V.mono a')⟩
      case measure=>simp[intOf]
     .go_wp2_with (go_at_call 65;refine(C _ (a6.out.E.below (t.tn (G.mono a2)))).mono ?_;rintro e v1 ⟨rfl,V⟩);go_roundw
      case rel=>exact⟨2,zz,by first|rfl|go_num,int_eq (by rw[<- b8.out];show(if max uB c<m then m else max uB c)=max (max uB c) m;rw[Int.max_def (max uB c)];split<;>split<;>omega),g.tn (V.mono a')⟩
      case measure=>simp[intOf]
     .go_wp2;go_roundw
      case rel=>exact⟨k+1,max (max uB c) m,zz,by go_num,int_eq rfl,t.tn (G.mono a2),a9.out.tn K.out⟩
      case measure=>simp[intOf];omega
   .obtain rfl:k=b.E.n:=zz;go_wp2;go_ret2;exact⟨by rw[b1.out,a9.out];have:=a4.out;simp[this,qG],E.tn (t.mono E.size)⟩
variable{B e size n:Nat}{v:M}{xs:List M}
def Ve(b:aC)(e:Int×Int):Bool:=jC b e (-1)||jC b e 1
def JC(b:aC)(E:List (Int×Int))(st:List Int×Int)(k:Nat):List Int×Int:=
 if Ve b (E.getD k (0,0))=true then(st.1++[(k:Int)],if st.2<0\/(E.getD k (0,0)).2<(E.getD st.2.toNat (0,0)).2 then(k:Int)else st.2)else st
def kL(b:aC)(E:List (Int×Int))(k:Nat):List Int×Int:=(List.range k).foldl (JC b E) ([], -1)
def AT(b:aC)(E:List (Int×Int))(k:Nat):kL b E (k+1)=JC b E (kL b E k) k:=by simp[kL,List.range_succ]
def JD(b:aC)(E:List (Int×Int)):∀k,(kL b E k).1.length<=k/\ -1<=(kL b E k).2/\(kL b E k).2<k
 | 0=>by simp[kL]
 | k+1=>by
  have a:=JD b E k;rw[AT,JC];split
  .refine⟨by simp;omega,?_,?_⟩<;>(dsimp only;split<;>omega)
  .omega
def rK{w w':H}(h:w.ownsRow B e size v n xs)(i:X w w w'):w'.ownsRow B e size v n xs:=by
 refine⟨h.1,h.2.imp id ?_⟩;rintro⟨g,b,c,d,h2,a,f⟩;exact⟨g,b,c,d,h2,(i.block g (ec.1 a).1).tn a,f⟩
def vf(h:w.ownsRow B e size v n xs)(k:Nat):(w.drewN k).ownsRow B e size v n xs:=h
def Xm{w2 w3:H}{o:Obj}{g i:Nat}(b:(w2.alloc o).grownBy w3 v.ownBlock)(a:g<w2)(c:v.ownBlock≠Y g):w3 (g,i)=w2 (g,i):=
 H.cell?_of_block ((b.block g (by rw[aa];omega) (λe=>c e.symm)).tn (QR _ _ a))
def PU(h:w.ownsRow B e size v n xs)(d:g<B):v.ownBlock≠Y g:=by
 rcases h.2 with⟨rfl,-⟩|⟨b,a,c,rfl,h2,-⟩
 .simp[M.ownBlock]
 .simp[M.ownBlock];omega
def Xn(h:w.ownsRow B e size v n xs)(d:w.heap.size<=g):v.ownBlock≠Y g:=by
 rcases h.2 with⟨rfl,-⟩|⟨b,a,c,rfl, -, h2,-⟩
 .simp[M.ownBlock]
 .have:=(ec.1 h2).1;simp[M.ownBlock];omega
def AU(b:aC)(l:pK):List Int×Int×Int:=if ay b l≠0 then([],0,ay b l)else((kL b l.E l.E.length).1,(kL b l.E l.E.length).2,0)
def EN(p:List Int×Int×Int)(w:H)(e:Ending)(w':H):Prop:=
 ∃A c,e=.returned (.tuple #[.slice A p.1.length c,.int .i64 p.2.1,.int .i64 p.2.2])/\w'.ownsRow w.heap.size 3 1 (.slice A p.1.length c) p.1.length (p.1.map (M.int .i64))/\X w w w'
theorem MG(b:aC)(l:pK)(w:H)(hl:aI w b l)(b7:aD w)(s:ay b l=0:=by kernel_rfl):
  PH F 26 #[b.v] w (EN (AU b l) w):=by
 obtain⟨i0,hi,e6,e7,e8⟩:=info_parts vD;have V:=Hm hl;have b3:=Hm b7;have b6:=hl.E.1;have d5:=hl.E.2.2.1;clear hl b7;have K:=λa (h1:aI a b l) (h2:aD a)=>cG b l a h1 h2
 .have hk:=bP s;simp only[s]at K;have C:∀(k:Nat),k<b.E.n->∀a,aI a b l->aD a->PH F 25 #[b.v,.int .i64 k] a λe w'=>e=.returned (.tuple #[.bool (jC b (l.E.getD k (0,0)) (-1)),.bool (jC b (l.E.getD k (0,0)) 1),.int .i64 0])/\X a a w':=λk hk a h1 h2=>
   (Au b l k a h1 h2 s (by simp[ax];omega)).mono λe w' c1=>by
    have e1:sv b l k=(jC b (l.E.getD k (0,0)) (-1),jC b (l.E.getD k (0,0)) 1,0):=by
     unfold sv;rw[qVB (by simp[s]),qVB (by simp[ax];omega)];exact rfl
    rw[e1]at c1;exact c1
  have c9:PQ (AU b l=((kL b l.E l.E.length).1,(kL b l.E l.E.length).2,0)):=by
   unfold AU;rw[qVB (by simp[s])];exact rfl
  have e0:b.E.n<=1000:=zz;have e':b.E.n<=b.E.c:=by have:=V.out.E.2.1;omega
  have T:=Hm b6;clear s hk b6 d5;unfold aC.v at K C|-;obtain⟨a',a3⟩:∃a',b.E.A=a':=⟨_,rfl⟩;simp only[a3]at K C|-;have b1:=Hm a3;clear a3;go_enter Tryz.func26,Tryz.ntmps26;go_wp2_with (go_at_call 30;refine(K _ (aq V.out _) (ai b3.out _)).mono ?_;rintro e a ⟨rfl,t⟩;obtain⟨d7,d9⟩:=aU t;have G:=di t;have c7:w.heap.size<a.heap.size:=(by have:=t.size;simp only[aa]at this;omega));have d2:PQ (aK a w 31 b):=(t.block _ (by rw[aa];omega)).tn ((Sp _ _).tn (by rw[aE,b1.out]));have W:=Hm (V.out.below G);have b4:=Hm (b3.out.below G);clear d7 d9 t;go_loopw [2,3,19] (λv lw i wr=>∃(k:Nat) (A:Option Addr) (J:Nat),k<=b.E.n/\i=.int .i64 k/\v=.slice A (kL b l.E k).1.length J/\lw=.int .i64 (kL b l.E k).2/\wr.ownsRow a.heap.size 3 1 v (kL b l.E k).1.length ((kL b l.E k).1.map (M.int .i64))/\X a.heap.size a wr) (λ_ _ i _=>b.E.n-(intOf i).toNat)
  case atStart=>exact⟨0,I,0,zz,rfl,rfl,rfl,H.ownsRow_nil _ _ _ _,by exact bt⟩
  case round=>
   obtain⟨k,A,J,hk,rfl,rfl,rfl,o,f⟩:=hrel;have c4:=f.size;have e5:(w:Nat)<wr:=zz;have b8:aK wr w 31 b:=(f.block _ c7).tn d2.out;obtain⟨x0,x1,x2,x3,x4,x5,x6,x7,x8,x9,f5,c8,f6⟩:=aM b8;clear b8;obtain⟨n1,n2,n3⟩:=JD b l.E k;by_cases d':k<b.E.n
   .have d0:k<l.E.length:=by have:=T.out;omega
    have O:=C k d';clear C;have c:=AT b l.E k;obtain⟨n,off,b5,a5,a6⟩:=W.out.E.2.2.2 zz;rw[b1.out]at b5 c8;subst b5;have d6:n<wr.heap.size:=zz;have f1:n<wr.heap.size+1:=zz;have a0:PQ (∀j,j<l.E.length->wr (n,off+j*2)=Y (.int .i64 (l.E.getD j (0,0)).1)/\wr (n,off+j*2+1)=Y (.int .i64 (l.E.getD j (0,0)).2)):=λj N=>⟨(f.cell (p:=⟨n,_,I⟩) a5).tn (a6 j N).1,(f.cell (p:=⟨n,_,I⟩) a5).tn (a6 j N).2⟩;clear a6;obtain⟨d3,d4⟩:=a0.out k d0;obtain⟨st,c2⟩:∃st,kL b l.E k=st:=⟨_,rfl⟩;obtain⟨L,Q⟩:=st;simp only[c2]at o n1 n2 n3 c|-;clear c2;have e1:Ve b (l.E.getD k (0,0))=(jC b (l.E.getD k (0,0)) (-1)||jC b (l.E.getD k (0,0)) 1):=rfl;unfold JC at c;rw[e1]at c;clear e1;generalize jC b (l.E.getD k (0,0)) (-1)=x at O c;generalize jC b (l.E.getD k (0,0)) 1=y at O c;generalize(l.E.getD k (0,0)).1=e1 at d3;generalize(l.E.getD k (0,0)).2=a2 at d4 c;cases E:(x||y)
    .rw[E,qVB ss]at c;have g:=Hm c;have e9:=Hm E;obtain⟨rfl,rfl⟩:x=false/\y=false:=by simpa using E
     clear c E;go_wp2_with (go_at_call 25;refine(O _ (aq (W.out.below f) _) (ai (b4.out.below f) _)).mono ?_;rintro e w2 ⟨rfl,d⟩;obtain⟨b9,b'⟩:=aU d);go_roundw
     case rel=>exact⟨k+1,A,J,zz,by go_num,by rw[g.out],by rw[g.out],by rw[g.out];exact rK o (aY d),f.tn ((aY d).mono c4)⟩
     case measure=>simp[intOf];omega
    .rw[E,qWB rfl]at c;have g:=Hm c;clear c;go_wp2_with (first|(go_at_call 25;refine(O _ (aq (W.out.below f) _) (ai (b4.out.below f) _)).mono ?_;rintro e w2 ⟨rfl,d⟩;obtain⟨b9,b'⟩:=aU d;have f3:=(aY d).size)|(at_builtin;refine wpList_append_own _ rfl _ _ 24 rfl a.heap.size 3 i0 (.int .i64 0) 1 8 Tryz.underlying24 hi e6 e7 e8 rfl dd _ _ _ rfl ((rK o (aY d)).alloc _) ⟨w2.heap.size,0,I⟩ 1 1 [.int .i64 k] rfl rfl (cell_one_new _ _ _) (λx c6=>by simp at c6;subst c6;rfl) (by unfold maxLen;omega) zz so ?_;intro v' R a8 u e3));rotate_left 2
     .exfalso;simp_all
     all_goals
      have a4:=aY d;have k0:R (wr.heap.size,1)=Y (.int .i64 a2):=by
       rw[Xm u (by have:=d.size;rw[aa]at this;omega) (Xn o (qN _)),d.cell (p:=⟨wr.heap.size,1,I⟩) (by simp only[aa];omega),H.cell?,Sp];rfl
      have k1:R (w.heap.size,11)=Y (.slice (Y (n,off)) b.E.n b.E.c):=by
       rw[Xm u zz (PU o c7),a4.cell (p:=⟨w.heap.size,11,I⟩) e5];exact c8
      have c':PQ (∀j,j<l.E.length->R (n,off+j*2+1)=Y (.int .i64 (l.E.getD j (0,0)).2)):=λj N=>by
       rw[Xm u zz (PU o a5),a4.cell (p:=⟨n,off+j*2+1,I⟩) d6];exact(a0.out j N).2
      have f4:(wr:Nat)<w2:=by have:=d.size;rw[aa]at this;omega
      have b0:X a a R:=(f.tn (a4.mono c4)).tn ((X.refl _ _).alloc zz _ |>.grown u (by simp only[aa];omega) (λq e4=>(o.lt q e4).1));obtain⟨S,c3,c5⟩:=tK a8;have U:=Hm b0;have Z:=Hm a8;have a1:=Hm c5;clear a8 u e3 c5 b0 b9 b';by_cases a7:Q<0
      .have d8:decide (Q<0)=true:=decide_eq_true a7;go_quiet ((fail));go_wp2;go_roundw
       case rel=>exact⟨k+1,S,c3,zz,by go_num,by rw[g.out,a1.out];simp,by rw[g.out];simp[a7],by rw[g.out];exact vf (by simpa using Z.out) _,below_drewN U.out _⟩
       case measure=>simp[intOf];omega
      .obtain⟨m,rfl⟩:∃m:Nat,Q=(m:Int):=⟨Q.toNat,zz⟩;have d8:decide ((m:Int)<0)=false:=decide_eq_false a7;have f2:(m:Int)<b.E.n:=zz;have e2:m<l.E.length:=by have:=T.out;omega
       have k2:=c'.out m e2;have P:=g.out;rw[ll]at P;generalize(l.E.getD m (0,0)).2=z at k2 P;have r:=Hm P;clear P g;go_quiet ((fail));go_wp2
       .have a9:a2<z:=by with_reducible assumption
        go_roundw
        case rel=>exact⟨k+1,S,c3,zz,by go_num,by rw[r.out,a1.out];simp,by rw[r.out];simp[a9],by rw[r.out];exact vf (by simpa using Z.out) _,below_drewN U.out _⟩
        case measure=>simp[intOf];omega
       .have a9:¬a2<z:=zz;go_roundw
        case rel=>exact⟨k+1,S,c3,zz,by go_num,by rw[r.out,a1.out];simp,by rw[r.out];simp[a9];intro h;omega,by rw[r.out];exact vf (by simpa using Z.out) _,below_drewN U.out _⟩
        case measure=>simp[intOf];omega
   .obtain rfl:k=b.E.n:=zz;clear C;go_wp2;refine bd (results_tmp3 rfl _ _ _) rfl ?_;have d1:=T.out;have b2:=c9.out;rw[<- d1]at b2;rw[b2];exact⟨A,J,rfl,dy (B:=a.heap.size) zz o,G.tn (f.mono G.size)⟩
theorem pE(b:aC)(l:pK)(sh:Int)(s:Sl)(d:List Int)(w:H)(hl:aI w b l)(k:aD w)(n:eC w s d):
  PH F 13 #[b.v,aF sh s] w (wN (dI b l sh d) w):=by
 have c:=λa i h2 j=>sO b l sh s d a i h2 j;by_cases g:ay b l=0
 .by_cases h:r7 b.S sh d=0
  .have:=Bq b l sh s d w hl k n g h;rw[dI,qVB (by simp[g]),qVB (by simp[h])];exact this
  .have u:=Hm hl;have t:=Hm k;have q:=Hm n;clear hl k n;have c:∃ik f,∀a,aI a b l->aD a->eC a s d->PH F 40 #[b.v,aF sh s] a λe w'=>e=.returned (.tuple #[b.v,gN ik f,.int .i64 (r7 b.S sh d)])/\X a a w':=⟨0,mI,λa i h2 j=>
    (c a i h2 j).mono λe w' v=>by
     obtain⟨o,x⟩:=v;rw[qWB g,qVB h]at o;exact⟨o,x⟩⟩
   obtain⟨ik,f,c⟩:=c;have r:PQ (dI b l sh d=(false,r7 b.S sh d)):=by
    unfold dI;rw[qVB (by simp[g]),qWB (by simpa using h)];exact rfl
   have B:(r7 b.S sh d != 0)=true:=by simpa using h
   clear g h;unfold aC.v at c|-;unfold aF at c|-;unfold gN at c;go_enter Tryz.func13,Tryz.ntmps13;go_wp2_with (first|(go_at_call 40;refine(c _ (aq (aq u.out _) _) (ai (ai t.out _) _) (aZ (aZ q.out _) _)).mono ?_;rintro e a ⟨rfl,m⟩;obtain⟨y,z⟩:=aU m;have p:=IA m;have A:=p.size));go_ret2;rw[r.out];exact⟨rfl,by exact bt⟩
 .have u:=Hm hl;have t:=Hm k;have q:=Hm n;clear hl k n;have c:∀a,aI a b l->aD a->eC a s d->PH F 40 #[b.v,aF sh s] a λe w'=>e=.returned (.tuple #[bI.v,gN 0 mI,.int .i64 (ay b l)])/\X a a w':=λa i h2 j=>
   (c a i h2 j).mono λe w' v=>by
    obtain⟨o,x⟩:=v;rw[qVB g]at o;exact⟨o,x⟩
  have r:PQ (dI b l sh d=(false,ay b l)):=by
   unfold dI;rw[qWB (by simpa using g)];exact rfl
  have C:(ay b l != 0)=true:=by simpa using g
  clear g;unfold aC.v at c|-;unfold aF at c|-;unfold gN bI iy at c;simp only at c;go_enter Tryz.func13,Tryz.ntmps13;go_wp2_with (first|(go_at_call 40;refine(c _ (aq (aq u.out _) _) (ai (ai t.out _) _) (aZ (aZ q.out _) _)).mono ?_;rintro e a ⟨rfl,m⟩;obtain⟨y,z⟩:=aU m;have p:=IA m;have A:=p.size));go_ret2;rw[r.out];exact⟨rfl,by exact bt⟩
end Go.Proofs.YthfhocgpjjkjlaaGreatDoor
