import Derived.Test.YtfdbdkhgaajdoaaGreatDoorZi
import Derived.BigQuiet
import Derived.IntWalk
import Derived.Deep.RegionHeld3
import Derived.DeepKeys
import Derived.Deep.DeepCutAuto
import Derived.Deep.QuietTactic
set_option maxRecDepth 100000
set_option maxHeartbeats 4000000
set_option linter.all false
noncomputable section
open Go.Proofs.Tryz renaming prog->F
open Go renaming World->H,TypeId->Lk,Value->M,Calls->PH,heap_alloc_old->QR,heap_alloc_new->Sp,bodyPost_ret->bd
open Go.Lib renaming hid->Hm
open Option renaming none->I,some->Y
open Go.RowKit renaming Hid->PQ,Below->X
namespace Go.Proofs.YtfdbdkhgaajdoaaGreatDoor
open Go.RowKit
theorem bz(n l h:Int)(w:H):
  PH F 13 #[.int .i64 n,.int .i64 l,.int .i64 h] w λe w'=>e=.returned (.bool (ax n l h))/\w=w':=by
 go_enter Tryz.func13,Tryz.ntmps13;go_wp2;all_goals go_ret
 .exact⟨bR (by simp[ax, *]),rfl⟩
 .exact⟨bR (by simp[ax];omega),rfl⟩
theorem eZ(lo hi l h:Int)(w:H):
  PH F 76 #[.agg #[.int .i64 lo,.int .i64 hi],.int .i64 l,.int .i64 h] w λe w'=>e=.returned (.bool (lF lo hi l h))/\X w w w':=by
 go_enter Tryz.func76,Tryz.ntmps76;go_wp2;all_goals go_ret
 .exact⟨bR (by simp[lF, *]),(X.refl _ _).alloc (qN _) _⟩
 .exact⟨bR (by simp[lF, *];omega),(X.refl _ _).alloc (qN _) _⟩
 .exact⟨bR (by simp[lF, *];omega),(X.refl _ _).alloc (qN _) _⟩
theorem rH(b:aC)(n:Int)(a: -1000<=b.S)(h2:b.S<=1000)(w:H):
  PH F 45 #[b.v,.int .i64 n] w λe w'=>e=.returned (.bool (ax n 0 (b.S-1)))/\X w w w':=by
 unfold aC.v;go_enter Tryz.func45,Tryz.ntmps45;go_wp2_with ((go_at_call 13;refine(bz _ _ _ _).mono ?_;rintro e w' ⟨rfl,rfl⟩));go_ret;exact⟨rfl,(X.refl _ _).alloc (qN _) _⟩
theorem rI(b:aC)(n:Int)(a:b.U.n<=1000)(w:H):
  PH F 46 #[b.v,.int .i64 n] w λe w'=>e=.returned (.bool (ax n 0 (b.U.n-1)))/\X w w w':=by
 unfold aC.v;go_enter Tryz.func46,Tryz.ntmps46;go_wp2_with ((go_at_call 13;refine(bz _ _ _ _).mono ?_;rintro e w' ⟨rfl,rfl⟩));go_ret;exact⟨rfl,(X.refl _ _).alloc (qN _) _⟩
theorem vU(S:Int)(J: -1000<=S)(h2:S<=1000)(s:Sl)(l:List Int)(w:H)(E:eC w s l):
  PH F 12 #[.slice s.A s.n s.c,.int .i64 S] w λe w'=>e=.returned (.int .i64 (bS S I l))/\X w w w':=by
 obtain⟨A,sn,c⟩:=s;obtain⟨rfl,L,O,r⟩:=E;have z:PQ (0<l.length->∃b off,A=Y ⟨b,off,I⟩/\b<w.heap.size/\∀k,k<l.length->w (b,off+k)=Y (.int .i64 (l.getD k 0))):=r;clear r;simp only at|-;go_enter Tryz.func12,Tryz.ntmps12;go_wp2;go_loopw [5] (λi wr=>∃k:Nat,k<=l.length/\i=.int .i64 k/\X w.heap.size w wr/\PQ (bS S I l=bS S (qh l k) (l.drop k))) (λi _=>l.length-(intOf i).toNat)
 case atStart=>exact⟨0,qT _,rfl,X.refl _ _,by simp[qh,PQ]⟩
 case round=>
  obtain⟨k,hk,rfl,a,g⟩:=hrel;have P:(w:Nat)<=wr:=a.size;by_cases u:k<l.length
  .have j:=vE S l k u;obtain⟨d,off,rfl,q,n⟩:=z.out zz;have K:d<wr.heap.size:=zz;have B:wr (d,off+k)=Y (.int .i64 (l.getD k 0)):=(a.cell (p:=⟨d,off+k,I⟩) q).tn (n k u);have t:0<k->wr (d,off+(k-1))=Y (.int .i64 (l.getD (k-1) 0)):=λG=>(a.cell (p:=⟨d,off+(k-1),I⟩) q).tn (n (k-1) zz);clear n;generalize l.getD k 0=x at j B;generalize l.getD (k-1) 0=y at j t;have h:=Hm j;clear j;by_cases m:ax x 0 (S-1)=false
   .go_wp2_with ((go_at_call 13;refine(bz _ _ _ _).mono ?_;rintro e v ⟨rfl,rfl⟩;rw[m]));go_ret;exact⟨aW (by rw[g.out,h.out,qWB m]),a⟩
   .have f:ax x 0 (S-1)=true:=by simpa using m
    by_cases o:0<k
    .have C:decide ((0:Int)<k)=true:=by simpa using o
     have N:=t o;have e1:((k:Int)-1).toNat=k-1:=zz;go_wp2_with (first|(go_at_call 13;refine(bz _ _ _ _).mono ?_;rintro e v ⟨rfl,rfl⟩;rw[f])|go_quiet (fail))
     .go_ret;exact⟨aW (by rw[g.out,h.out,qVB (by simp[f]),qWB (by simp[*])]),below_drewN a nq⟩
     .refine⟨⟨k+1,zz,by go_num,below_drewN a nq,g.out.tn (h.out.tn (by rw[qVB (by simp[f]),qVB so]))⟩,?_⟩;simp[intOf];omega
    .have C:decide ((0:Int)<k)=false:=by simpa using o
     go_wp2_with (first|(go_at_call 13;refine(bz _ _ _ _).mono ?_;rintro e v ⟨rfl,rfl⟩;rw[f])|go_quiet (fail))
     .refine⟨⟨k+1,zz,by go_num,below_drewN a nq,g.out.tn (h.out.tn (by rw[qVB (by simp[f]),qVB so]))⟩,?_⟩;simp[intOf];omega
  .obtain rfl:k=l.length:=zz;go_wp2;go_ret;exact⟨aW (by rw[g.out,xR]),a⟩
theorem ze(n:Int)(s:Sl)(l:List Int)(w:H)(q:eC w s l):
  PH F 11 #[.slice s.A s.n s.c,.int .i64 n] w λe w'=>e=.returned (.bool (decide (n∈l)))/\w'=w:=by
 obtain⟨A,sn,c⟩:=s;obtain⟨rfl,u,v,h⟩:=q;have o:PQ (0<l.length->∃b off,A=Y ⟨b,off,I⟩/\b<w.heap.size/\∀k,k<l.length->w (b,off+k)=Y (.int .i64 (l.getD k 0))):=h;clear h;simp only at|-;go_enter Tryz.func11,Tryz.ntmps11;go_wp2;go_loopw [5] (λi wr=>∃k:Nat,k<=l.length/\i=.int .i64 k/\wr=w/\PQ (n∉l.take k)) (λi _=>l.length-(intOf i).toNat)
 case atStart=>exact⟨0,qT _,rfl,rfl,by simp[PQ]⟩
 case round=>
  obtain⟨k,hk,rfl,rfl,m⟩:=hrel;by_cases d:k<l.length
  .obtain⟨r,off,rfl,t,j⟩:=o.out zz;have p:=j k d;have a:PQ (l.getD k 0=l[k]):=by show _=_;simp[List.getD,iv d]
   have g:PQ (l.take (k+1)=l.take k++[l.getD k 0]):=by show _=_;rw[a.out];simp
   have f:PQ (l.getD k 0∈l):=by show _∈_;rw[a.out];exact List.getElem_mem d
   clear j a;generalize l.getD k 0=x at p g f;go_wp2
   .go_ret;exact⟨bR (by have:=f.out;simp_all),rfl⟩
   .go_roundw
    case rel=>exact⟨k+1,zz,by go_num,by trivial,by show _∉_;rw[g.out];have:=m.out;simp_all;omega⟩
    case measure=>simp[intOf];omega
  .obtain rfl:k=l.length:=zz;go_wp2;go_ret;exact⟨bR (by have:=m.out;simp_all),rfl⟩
def MC{l m:List Int}{k:Nat}(h:l.take k=m.take k)(e:l.getD k 0=m.getD k 0)(a:k<l.length)(h2:k<m.length):l.take (k+1)=m.take (k+1):=by
 rw[lh a,lh h2,h];have b:l[k]=m[k]:=by simpa[List.getD,iv a,iv h2]using e
 rw[b]
theorem AS(s t:Sl)(l m:List Int)(w:H)(O:eC w s l)(P:eC w t m):
  PH F 55 #[.slice s.A s.n s.c,.slice t.A t.n t.c] w λe w'=>e=.returned (.bool (decide (l=m)))/\X w w w':=by
 obtain⟨A,sn,c⟩:=s;obtain⟨rfl,V,Z,j⟩:=O;have C:PQ (0<l.length->∃b off,A=Y ⟨b,off,I⟩/\b<w.heap.size/\∀k,k<l.length->w (b,off+k)=Y (.int .i64 (l.getD k 0))):=j;clear j;obtain⟨B,a3,S⟩:=t;obtain⟨rfl,W,a1,n⟩:=P;have E:PQ (0<m.length->∃b off,B=Y ⟨b,off,I⟩/\b<w.heap.size/\∀k,k<m.length->w (b,off+k)=Y (.int .i64 (m.getD k 0))):=n;clear n;simp only at|-;by_cases Q:(l.length:Int)=m.length
 .have R:l.length=m.length:=zz;go_enter Tryz.func55,Tryz.ntmps55;go_wp2;go_loopw [5] (λi wr=>∃k:Nat,k<=l.length/\i=.int .i64 k/\X w.heap.size w wr/\PQ (l.take k=m.take k)) (λi _=>l.length-(intOf i).toNat)
  case atStart=>exact⟨0,qT _,rfl,X.refl _ _,by simp[PQ]⟩
  case round=>
   obtain⟨k,hk,rfl,a,r⟩:=hrel;have a2:(w:Nat)<=wr:=a.size;by_cases u:k<l.length
   .have v:k<m.length:=zz;obtain⟨g,off,rfl,J,o⟩:=C.out zz;obtain⟨h,z,rfl,K,q⟩:=E.out zz;have T:g<wr.heap.size:=zz;have U:h<wr.heap.size:=zz;have L:wr (g,off+k)=Y (.int .i64 (l.getD k 0)):=(a.cell (p:=⟨g,off+k,I⟩) J).tn (o k u);have N:wr (h,z+k)=Y (.int .i64 (m.getD k 0)):=(a.cell (p:=⟨h,z+k,I⟩) K).tn (q k v);clear o q;have f:PQ (l.getD k 0=m.getD k 0->l.take (k+1)=m.take (k+1)):=λe=>MC r.out e u v;have d:PQ (l.getD k 0≠m.getD k 0->l≠m):=λe G=>e (by rw[G]);generalize l.getD k 0=x at L f d;generalize m.getD k 0=y at N f d;go_wp2_with (go_quiet (fail))
    .go_ret;exact⟨bR (by have:=d.out;simp_all),below_drewN a nq⟩
    .refine⟨⟨k+1,zz,by go_num,below_drewN a nq,f.out (by first|assumption|simp_all|omega)⟩,?_⟩;simp[intOf];omega
   .obtain rfl:k=l.length:=zz;go_wp2;go_ret;exact⟨bR (by have:=r.out;rw[List.take_length,R,List.take_length]at this;simp[this]),a⟩
 .go_enter Tryz.func55,Tryz.ntmps55;go_wp2;go_ret;exact⟨bR (by have:l≠m:=λe=>Q (by rw[e]);simp[this]),X.refl _ _⟩
def dZ(b:aC)(l:List Int):Int:=if cA b l≠0 then cA b l else cZ b
theorem Ic(b:aC)(l:List Int)(w:H)(T:eC w b.C l):
  PH F 44 #[b.v] w λe w'=>e=.returned (.int .i64 (dZ b l))/\X w w w':=by
 have r:=Hm T;clear T;have q:=λ(V: -1000<=b.S) (h2:b.S<=1000) (f:H) (h:eC f b.C l)=>vU b.S V h2 b.C l f h;by_cases O:ax b.S 4 12=false
 .have z:=O;have g:PQ (dZ b l=1):=(by show _=_;have k:cA b l=1:=(by rw[cA,qVB (by simp[z])]);rw[dZ,k];rfl);unfold aC.v at|-;go_enter Tryz.func44,Tryz.ntmps44;go_wp2_with (first|(go_at_call 13;refine(bz _ _ _ _).mono ?_;rintro e w' ⟨rfl,rfl⟩)|(go_at_call 76;refine(eZ _ _ _ _ _).mono ?_;rintro e f ⟨rfl,a⟩;obtain⟨n,o⟩:=aU a;have i:=a.size;have p:w.heap.size<f.heap.size:=(by simp only[aa]at i;omega);have c:=aY a));all_goals go_ret
  all_goals exact⟨aW g.out.symm,by first|with_reducible assumption|(with_reducible exact j)|(with_reducible exact c)|exact bt⟩
 have z:ax b.S 4 12=true:=by simpa using O
 clear O;by_cases K:ax b.D 0 2=false
 .have J:=K;have g:PQ (dZ b l=1):=(by show _=_;have k:cA b l=1:=(by rw[cA,qVB (by simp[J])]);rw[dZ,k];rfl);unfold aC.v at|-;go_enter Tryz.func44,Tryz.ntmps44;go_wp2_with (first|(go_at_call 13;refine(bz _ _ _ _).mono ?_;rintro e w' ⟨rfl,rfl⟩)|(go_at_call 76;refine(eZ _ _ _ _ _).mono ?_;rintro e f ⟨rfl,a⟩;obtain⟨n,o⟩:=aU a;have i:=a.size;have p:w.heap.size<f.heap.size:=(by simp only[aa]at i;omega);have c:=aY a));all_goals go_ret
  all_goals exact⟨aW g.out.symm,by first|with_reducible assumption|(with_reducible exact j)|(with_reducible exact c)|exact bt⟩
 have J:ax b.D 0 2=true:=by simpa using K
 clear K;by_cases N:ax b.L 1 4=false
 .have L:=N;have g:PQ (dZ b l=1):=(by show _=_;have k:cA b l=1:=(by rw[cA,qVB (by simp[L])]);rw[dZ,k];rfl);unfold aC.v at|-;go_enter Tryz.func44,Tryz.ntmps44;go_wp2_with (first|(go_at_call 13;refine(bz _ _ _ _).mono ?_;rintro e w' ⟨rfl,rfl⟩)|(go_at_call 76;refine(eZ _ _ _ _ _).mono ?_;rintro e f ⟨rfl,a⟩;obtain⟨n,o⟩:=aU a;have i:=a.size;have p:w.heap.size<f.heap.size:=(by simp only[aa]at i;omega);have c:=aY a));all_goals go_ret
  all_goals exact⟨aW g.out.symm,by first|with_reducible assumption|(with_reducible exact j)|(with_reducible exact c)|exact bt⟩
 have L:ax b.L 1 4=true:=by simpa using N
 clear N;by_cases G:lF b.lo b.hi (-3) 3=false
 .have hB:=G;have g:PQ (dZ b l=1):=(by show _=_;have k:cA b l=1:=(by rw[cA,qVB (by simp[hB])]);rw[dZ,k];rfl);unfold aC.v at|-;go_enter Tryz.func44,Tryz.ntmps44;go_wp2_with (first|(go_at_call 13;refine(bz _ _ _ _).mono ?_;rintro e w' ⟨rfl,rfl⟩)|(go_at_call 76;refine(eZ _ _ _ _ _).mono ?_;rintro e f ⟨rfl,a⟩;obtain⟨n,o⟩:=aU a;have i:=a.size;have p:w.heap.size<f.heap.size:=(by simp only[aa]at i;omega);have c:=aY a));all_goals go_ret
  all_goals exact⟨aW g.out.symm,by first|with_reducible assumption|(with_reducible exact j)|(with_reducible exact c)|exact bt⟩
 have hB:lF b.lo b.hi (-3) 3=true:=by simpa using G
 clear G;obtain⟨W,Z,g3⟩:=uJ.1 hB;obtain⟨g4,g5⟩:=cq.1 z;by_cases a1:3<=b.hi-b.lo
 .skip;have g:PQ (dZ b l=1):=(by show _=_;have k:cA b l=1:=(by rw[cA,qVB zz]);rw[dZ,k];rfl);unfold aC.v at|-;go_enter Tryz.func44,Tryz.ntmps44;go_wp2_with (first|(go_at_call 13;refine(bz _ _ _ _).mono ?_;rintro e w' ⟨rfl,rfl⟩)|(go_at_call 76;refine(eZ _ _ _ _ _).mono ?_;rintro e f ⟨rfl,a⟩;obtain⟨n,o⟩:=aU a;have i:=a.size;have p:w.heap.size<f.heap.size:=(by simp only[aa]at i;omega);have c:=aY a));all_goals go_ret
  all_goals exact⟨aW g.out.symm,by first|with_reducible assumption|(with_reducible exact j)|(with_reducible exact c)|exact bt⟩
 have k:PQ (cA b l=bS b.S I l):=by show _=_;rw[cA,qWB ⟨z,J,L,hB,zz⟩]
 by_cases y:bS b.S I l=0;rotate_left
 .have a2:(bS b.S I l != 0)=true:=by simpa using y
  have g:PQ (dZ b l=bS b.S I l):=(by show _=_;rw[dZ,k.out,qWB y]);unfold aC.v at|-;go_enter Tryz.func44,Tryz.ntmps44;go_wp2_with (first|(go_at_call 13;refine(bz _ _ _ _).mono ?_;rintro e w' ⟨rfl,rfl⟩)|(go_at_call 76;refine(eZ _ _ _ _ _).mono ?_;rintro e f ⟨rfl,a⟩;obtain⟨n,o⟩:=aU a;have i:=a.size;have p:w.heap.size<f.heap.size:=(by simp only[aa]at i;omega);have c:=aY a)|(go_at_call 12;refine(q zz zz _ (r.out.below c)).mono ?_;rintro e m ⟨rfl,d⟩;obtain⟨s,t⟩:=aU d;have j:=c.tn (d.mono c.size);have v:=d.size;have x:w.heap.size<m.heap.size:=zz));all_goals go_ret
  all_goals exact⟨aW g.out.symm,by first|with_reducible assumption|(with_reducible exact j)|(with_reducible exact c)|exact bt⟩
 have u:PQ (dZ b l=cZ b):=by show _=_;rw[dZ,k.out,qVB (by simp[y])]
 rw[y]at q;clear y k;by_cases R:ax b.rf 2 30=false
 .have C:=R;have g:PQ (dZ b l=1):=(by show _=_;rw[u.out,cZ,qVB (by simp[C])]);unfold aC.v at|-;go_enter Tryz.func44,Tryz.ntmps44;go_wp2_with (first|(go_at_call 13;refine(bz _ _ _ _).mono ?_;rintro e w' ⟨rfl,rfl⟩)|(go_at_call 76;refine(eZ _ _ _ _ _).mono ?_;rintro e f ⟨rfl,a⟩;obtain⟨n,o⟩:=aU a;have i:=a.size;have p:w.heap.size<f.heap.size:=(by simp only[aa]at i;omega);have c:=aY a)|(go_at_call 12;refine(q zz zz _ (r.out.below c)).mono ?_;rintro e m ⟨rfl,d⟩;obtain⟨s,t⟩:=aU d;have j:=c.tn (d.mono c.size);have v:=d.size;have x:w.heap.size<m.heap.size:=zz));all_goals go_ret
  all_goals exact⟨aW g.out.symm,by first|with_reducible assumption|(with_reducible exact j)|(with_reducible exact c)|exact bt⟩
 have C:ax b.rf 2 30=true:=by simpa using R
 clear R;by_cases S:ax b.rh 2 60=false
 .have E:=S;have g:PQ (dZ b l=1):=(by show _=_;rw[u.out,cZ,qVB (by simp[E])]);unfold aC.v at|-;go_enter Tryz.func44,Tryz.ntmps44;go_wp2_with (first|(go_at_call 13;refine(bz _ _ _ _).mono ?_;rintro e w' ⟨rfl,rfl⟩)|(go_at_call 76;refine(eZ _ _ _ _ _).mono ?_;rintro e f ⟨rfl,a⟩;obtain⟨n,o⟩:=aU a;have i:=a.size;have p:w.heap.size<f.heap.size:=(by simp only[aa]at i;omega);have c:=aY a)|(go_at_call 12;refine(q zz zz _ (r.out.below c)).mono ?_;rintro e m ⟨rfl,d⟩;obtain⟨s,t⟩:=aU d;have j:=c.tn (d.mono c.size);have v:=d.size;have x:w.heap.size<m.heap.size:=zz));all_goals go_ret
  all_goals exact⟨aW g.out.symm,by first|with_reducible assumption|(with_reducible exact j)|(with_reducible exact c)|exact bt⟩
 have E:ax b.rh 2 60=true:=by simpa using S
 clear S;by_cases P:ax b.cf 0 b.rf=false
 .have A:=P;have g:PQ (dZ b l=1):=(by show _=_;rw[u.out,cZ,qVB (by simp[A])]);unfold aC.v at|-;go_enter Tryz.func44,Tryz.ntmps44;go_wp2_with (first|(go_at_call 13;refine(bz _ _ _ _).mono ?_;rintro e w' ⟨rfl,rfl⟩)|(go_at_call 76;refine(eZ _ _ _ _ _).mono ?_;rintro e f ⟨rfl,a⟩;obtain⟨n,o⟩:=aU a;have i:=a.size;have p:w.heap.size<f.heap.size:=(by simp only[aa]at i;omega);have c:=aY a)|(go_at_call 12;refine(q zz zz _ (r.out.below c)).mono ?_;rintro e m ⟨rfl,d⟩;obtain⟨s,t⟩:=aU d;have j:=c.tn (d.mono c.size);have v:=d.size;have x:w.heap.size<m.heap.size:=zz));all_goals go_ret
  all_goals exact⟨aW g.out.symm,by first|with_reducible assumption|(with_reducible exact j)|(with_reducible exact c)|exact bt⟩
 have A:ax b.cf 0 b.rf=true:=by simpa using P
 clear P;by_cases Q:ax b.ch 1 60=false
 .have B:=Q;have g:PQ (dZ b l=1):=(by show _=_;rw[u.out,cZ,qVB (by simp[B])]);unfold aC.v at|-;go_enter Tryz.func44,Tryz.ntmps44;go_wp2_with (first|(go_at_call 13;refine(bz _ _ _ _).mono ?_;rintro e w' ⟨rfl,rfl⟩)|(go_at_call 76;refine(eZ _ _ _ _ _).mono ?_;rintro e f ⟨rfl,a⟩;obtain⟨n,o⟩:=aU a;have i:=a.size;have p:w.heap.size<f.heap.size:=(by simp only[aa]at i;omega);have c:=aY a)|(go_at_call 12;refine(q zz zz _ (r.out.below c)).mono ?_;rintro e m ⟨rfl,d⟩;obtain⟨s,t⟩:=aU d;have j:=c.tn (d.mono c.size);have v:=d.size;have x:w.heap.size<m.heap.size:=zz));all_goals go_ret
  all_goals exact⟨aW g.out.symm,by first|with_reducible assumption|(with_reducible exact j)|(with_reducible exact c)|exact bt⟩
 have B:ax b.ch 1 60=true:=by simpa using Q
 clear Q;by_cases U:b.rh<=b.ch
 .skip;have g:PQ (dZ b l=7):=(by show _=_;rw[u.out,cZ,qWB ⟨C,E,A,B⟩,qWB U]);unfold aC.v at|-;go_enter Tryz.func44,Tryz.ntmps44;go_wp2_with (first|(go_at_call 13;refine(bz _ _ _ _).mono ?_;rintro e w' ⟨rfl,rfl⟩)|(go_at_call 76;refine(eZ _ _ _ _ _).mono ?_;rintro e f ⟨rfl,a⟩;obtain⟨n,o⟩:=aU a;have i:=a.size;have p:w.heap.size<f.heap.size:=(by simp only[aa]at i;omega);have c:=aY a)|(go_at_call 12;refine(q zz zz _ (r.out.below c)).mono ?_;rintro e m ⟨rfl,d⟩;obtain⟨s,t⟩:=aU d;have j:=c.tn (d.mono c.size);have v:=d.size;have x:w.heap.size<m.heap.size:=zz));all_goals go_ret
  all_goals exact⟨aW g.out.symm,by first|with_reducible assumption|(with_reducible exact j)|(with_reducible exact c)|exact bt⟩
 .skip;have g:PQ (dZ b l=0):=(by show _=_;rw[u.out,cZ,qWB ⟨C,E,A,B⟩,qVB U]);unfold aC.v at|-;go_enter Tryz.func44,Tryz.ntmps44;go_wp2_with (first|(go_at_call 13;refine(bz _ _ _ _).mono ?_;rintro e w' ⟨rfl,rfl⟩)|(go_at_call 76;refine(eZ _ _ _ _ _).mono ?_;rintro e f ⟨rfl,a⟩;obtain⟨n,o⟩:=aU a;have i:=a.size;have p:w.heap.size<f.heap.size:=(by simp only[aa]at i;omega);have c:=aY a)|(go_at_call 12;refine(q zz zz _ (r.out.below c)).mono ?_;rintro e m ⟨rfl,d⟩;obtain⟨s,t⟩:=aU d;have j:=c.tn (d.mono c.size);have v:=d.size;have x:w.heap.size<m.heap.size:=zz));all_goals go_ret
  all_goals exact⟨aW g.out.symm,by first|with_reducible assumption|(with_reducible exact j)|(with_reducible exact c)|exact bt⟩
variable{w:H}{g:Nat}{t:Lk}
def Dl(D:Nat->Bool)(k:Nat)(hk:k<12)(w:H):(Instr.index 89 (tJ D) (.int .i64 k)).run F w=.ok (.bool (D k)) w:=by
 unfold tJ;rcases(show k=0\/k=1\/k=2\/k=3\/k=4\/k=5\/k=6\/k=7\/k=8\/k=9\/k=10\/k=11 from zz)with rfl|rfl|rfl|rfl|rfl|rfl|rfl|rfl|rfl|rfl|rfl|rfl<;>kernel_rfl
def aK.lt{b:aC}(h:aK w g t b):g<w.heap.size:=(ec.1 h).1
def bA.lt{sh:Int}{f:Nat->Bool}(h:bA w g t sh f):g<w.heap.size:=let⟨_,h,_⟩:=h;(ec.1 h).1
theorem FW(b:aC)(u:4<=b.S)(v:b.S<=12)(x:1<=b.L)(y:b.L<=4)(sh:Int)(z: -3<=sh)(A:sh<=3)(d:Nat->Bool)(U:List (Int×Int))
  (m:∀k,k<U.length->0<=(U.getD k (0,0)).1/\(U.getD k (0,0)).1<b.S/\ -9<=(U.getD k (0,0)).2/\(U.getD k (0,0)).2<=9)(h s:Nat)(g:Bool)(l:h<U.length)(K:(s:Int)<b.S)(a bs:Nat)(w:H)
  (n:bp w b.U U)(hB:aK w a 76 b)(i:bA w bs 91 sh d):
  PH F 79 #[.agg #[.int .i64 h,.int .i64 s,.bool g],.pointer (Y (a,0)),.pointer (Y (bs,0))] w λe w'=>e=.returned (.bool (eT b.S b.L sh d (U.getD h (0,0)) s != g))/\X w w w':=by
 obtain⟨o,p,q,r⟩:=m h l;clear m;have j:=λc (B:bp c b.U U)=>qX b u v x y sh z A d h U l o p q r c B;clear o p q r l;generalize eT b.S b.L sh d (U.getD h (0,0))=D at j|-;have J:=λw=>Dl D s zz w;have N:=hB.lt;have P:=i.lt;have O:a<w.heap.size+1:=zz;have Q:bs<w.heap.size+1:=zz;obtain⟨R,S,Z,x3,x4,x5,x6,x7,x8,x9,T,V,W⟩:=aM hB;obtain⟨y0,y1,y2,y3,y4,y5,y6,y7,y8,y9,a1,a2,a3⟩:=i.all;have t:=Hm n;clear n hB i;unfold aC.v gN at j;go_enter Tryz.func79,Tryz.ntmps79;go_wp2_with fail;go_region_held3 (λw'=>w'.cell? ⟨a,0,I⟩=Y (.int .i64 b.S)/\w'.cell? ⟨a,1,I⟩=Y (.int .i64 b.D)/\w'.cell? ⟨a,2,I⟩=Y (.int .i64 b.L)/\w'.cell? ⟨a,3,I⟩=Y (.int .i64 b.lo)/\w'.cell? ⟨a,4,I⟩=Y (.int .i64 b.hi)/\w'.cell? ⟨a,5,I⟩=Y (.slice b.C.A b.C.n b.C.c)/\w'.cell? ⟨a,6,I⟩=Y (.int .i64 b.rf)/\w'.cell? ⟨a,7,I⟩=Y (.int .i64 b.rh)/\w'.cell? ⟨a,8,I⟩=Y (.int .i64 b.cf)/\w'.cell? ⟨a,9,I⟩=Y (.int .i64 b.ch)/\w'.cell? ⟨a,10,I⟩=Y (.slice b.U.A b.U.n b.U.c)/\w'.cell? ⟨a,11,I⟩=Y (.slice b.E.A b.E.n b.E.c)/\w'.cell? ⟨a,12,I⟩=Y (.slice b.W.A b.W.n b.W.c)/\w'.cell? ⟨bs,0,I⟩=Y (.int .i64 sh)/\w'.cell? ⟨bs,1,I⟩=Y (.bool (d 0))/\w'.cell? ⟨bs,2,I⟩=Y (.bool (d 1))/\w'.cell? ⟨bs,3,I⟩=Y (.bool (d 2))/\w'.cell? ⟨bs,4,I⟩=Y (.bool (d 3))/\w'.cell? ⟨bs,5,I⟩=Y (.bool (d 4))/\w'.cell? ⟨bs,6,I⟩=Y (.bool (d 5))/\w'.cell? ⟨bs,7,I⟩=Y (.bool (d 6))/\w'.cell? ⟨bs,8,I⟩=Y (.bool (d 7))/\w'.cell? ⟨bs,9,I⟩=Y (.bool (d 8))/\w'.cell? ⟨bs,10,I⟩=Y (.bool (d 9))/\w'.cell? ⟨bs,11,I⟩=Y (.bool (d 10))/\w'.cell? ⟨bs,12,I⟩=Y (.bool (d 11))/\w'.cell? ⟨w.heap.size,0,I⟩=Y (.int .i64 h)/\w'.cell? ⟨w.heap.size,1,I⟩=Y (.int .i64 s)/\w'.cell? ⟨w.heap.size,2,I⟩=Y (.bool g)/\a<w'.heap.size/\bs<w'.heap.size/\w.heap.size<w'.heap.size/\X w.heap.size w w')
  ((repeat' apply And.intro)<;>(first|with_reducible assumption|omega|(go_keep;done)|(simp;omega)|exact bt|exact X.tn wa (f.mono zz)))
  (first|(go_at_call 39;refine(j _ (t.out.below bf)).mono ?_;rintro e c ⟨rfl,f⟩;obtain⟨E,G⟩:=aU f;have L:w.heap.size+1<=c.heap.size:=(by have:=f.size;simpa using this);have C:X w.heap.size w c:=X.tn bf (f.mono ss)))
 go_wp2;go_ret;exact⟨bR (by cases D s<;>cases g<;>rfl),C⟩
def jk(S L sh:Int)(d:Nat->Bool)(U:List (Int×Int))(x:Int×Int×Bool):Bool:=eT S L sh d (U.getD x.1.toNat (0,0)) x.2.1.toNat != x.2.2
def zP(t:Int×Int×Bool->Bool):List (Int×Int×Bool)->Nat->Int
 | [],_=> -1
 | x::r,k=>if t x=true then k else zP t r (k+1)
def N2(t:Int×Int×Bool->Bool)(l:List (Int×Int×Bool))(k:Nat)(hk:k<l.length):zP t (l.drop k) k=if t (l.getD k (0,0,false))=true then(k:Int)else zP t (l.drop (k+1)) (k+1):=by
 rw[fx hk];have e:l.getD k (0,0,false)=l[k]:=by simp[List.getD,iv hk]
 rw[e];rfl
def I3(t:Int×Int×Bool->Bool):∀(l:List (Int×Int×Bool)) (k:Nat),decide (0<=zP t l k)=l.any t
 | [],_=>rfl
 | x::r,k=>by
  simp only[zP,List.any_cons];by_cases h:t x=true
  .simp[h]
  .have a:=I3 t r (k+1);simp[h,<- a]
def N3(a bs:Nat):M:=.func (.func 79) #[] #[.pointer (Y (a,0)),.pointer (Y (bs,0))]
theorem La(b:aC)(g1:4<=b.S)(g2:b.S<=12)(g3:1<=b.L)(g4:b.L<=4)(sh:Int)(g5: -3<=sh)(g6:sh<=3)(d:Nat->Bool)(U:List (Int×Int))
  (C:∀k,k<U.length->0<=(U.getD k (0,0)).1/\(U.getD k (0,0)).1<b.S/\ -9<=(U.getD k (0,0)).2/\(U.getD k (0,0)).2<=9)(s:Sl)(l:List (Int×Int×Bool))
  (E:∀k,k<l.length->0<=(l.getD k (0,0,false)).1/\(l.getD k (0,0,false)).1<U.length/\0<=(l.getD k (0,0,false)).2.1/\(l.getD k (0,0,false)).2.1<b.S)(n bs:Nat)(w:H)
  (O:bp w b.U U)(hB:aK w n 76 b)(r:bA w bs 91 sh d)(a5:fL w s l):
  PH F 109 #[.slice s.A s.n s.c,N3 n bs] w λe w'=>e=.returned (.int .i64 (zP (jk b.S b.L sh d U) l 0))/\X w w w':=by
 have a4:=λ(h k:Nat) (a7:Bool) (a3:h<U.length) (j:(k:Int)<b.S) g (p1:bp g b.U U) (p2:aK g n 76 b) (p3:bA g bs 91 sh d)=>FW b g1 g2 g3 g4 sh g5 g6 d U C h k a7 a3 j n bs g p1 p2 p3;have a6:=hB.lt;have a8:=r.lt;have W:=Hm O;have T:=Hm hB;have Z:=Hm r;have a1:=Hm E;clear O hB r E C;obtain⟨A,sn,c⟩:=s;obtain⟨rfl,a2,a0,J⟩:=a5;have V:=Hm J;clear J;simp only at a2|-;unfold N3;go_enter Tryz.func109,Tryz.ntmps109;go_wp2;go_loopw [8] (λi wr=>∃k:Nat,k<=l.length/\i=.int .i64 k/\X w.heap.size w wr/\PQ (zP (jk b.S b.L sh d U) l 0=zP (jk b.S b.L sh d U) (l.drop k) k)) (λi _=>l.length-(intOf i).toNat)
 case atStart=>exact⟨0,qT _,rfl,X.refl _ _,rfl⟩
 case round=>
  obtain⟨k,hk,rfl,a,v⟩:=hrel;have P:=a.size;by_cases m:k<l.length
  .have j:=N2 (jk b.S b.L sh d U) l k m;obtain⟨f,off,rfl,t,o⟩:=V.out zz;have a':f<wr.heap.size:=zz;obtain⟨g,Q,R,z⟩:=a1.out k m;have K:wr (f,off+k*3)=Y (.int .i64 (l.getD k (0,0,false)).1):=(a.cell (p:=⟨f,_,I⟩) t).tn (o k m).1;have L:wr (f,off+k*3+1)=Y (.int .i64 (l.getD k (0,0,false)).2.1):=(a.cell (p:=⟨f,_,I⟩) t).tn (o k m).2.1;have N:wr (f,off+k*3+2)=Y (.bool (l.getD k (0,0,false)).2.2):=(a.cell (p:=⟨f,_,I⟩) t).tn (o k m).2.2;clear o;generalize l.getD k (0,0,false)=x at j g Q R z K L N;obtain⟨S,xs,q⟩:=x;simp only at g Q R z K L N;obtain⟨h,rfl⟩:∃h:Nat,S=(h:Int):=⟨S.toNat,zz⟩;obtain⟨p,rfl⟩:∃h:Nat,xs=(h:Int):=⟨xs.toNat,zz⟩;have u:=a4 h p q zz z wr (W.out.below a) ((a.block _ a6).tn T.out) (Z.out.below a a8);have e1:jk b.S b.L sh d U (h,p,q)=(eT b.S b.L sh d (U.getD h (0,0)) p != q):=rfl;rw[<- e1]at u;clear e1;cases y:jk b.S b.L sh d U (h,p,q)
   all_goals
    rw[y]at j u;have B:=Hm j;have a9:=Hm y;clear j y;go_wp2_with (go_at_call 79;refine u.mono ?_;rintro e v1 ⟨rfl,G⟩)
   .go_roundw
    case rel=>exact⟨k+1,zz,by go_num,a.tn (G.mono P),v.out.tn (B.out.tn (qVB ss))⟩
    case measure=>simp[intOf];omega
   .go_ret;exact⟨aW (by rw[v.out,B.out];simp),a.tn (G.mono P)⟩
  .obtain rfl:k=l.length:=zz;go_wp2;go_ret;exact⟨aW (by rw[v.out];simp[zP]),a⟩
theorem Bo(b:aC)(m:4<=b.S)(n:b.S<=12)(o:1<=b.L)(p:b.L<=4)(sh:Int)(q: -3<=sh)(t:sh<=3)(d:Nat->Bool)(U:List (Int×Int))
  (g:∀k,k<U.length->0<=(U.getD k (0,0)).1/\(U.getD k (0,0)).1<b.S/\ -9<=(U.getD k (0,0)).2/\(U.getD k (0,0)).2<=9)(s:Sl)(l:List (Int×Int×Bool))
  (h:∀k,k<l.length->0<=(l.getD k (0,0,false)).1/\(l.getD k (0,0,false)).1<U.length/\0<=(l.getD k (0,0,false)).2.1/\(l.getD k (0,0,false)).2.1<b.S)(a bs:Nat)(w:H)
  (i:bp w b.U U)(hB:aK w a 76 b)(f:bA w bs 91 sh d)(j:fL w s l):
  PH F 78 #[.slice s.A s.n s.c,N3 a bs] w λe w'=>e=.returned (.bool (l.any (jk b.S b.L sh d U)))/\X w w w':=by
 have hi:=La b m n o p sh q t d U g s l h a bs w i hB f j;have c:=Hm (I3 (jk b.S b.L sh d U) l 0);clear i hB f j h g;generalize zP (jk b.S b.L sh d U) l 0=r at hi c;unfold N3 at hi|-;go_enter Tryz.func78,Tryz.ntmps78;go_wp2_with (go_at_call 109;refine hi.mono ?_;rintro e v ⟨rfl,u⟩);go_ret;exact⟨bR c.out,u⟩
def oI(S L sh:Int)(d:Nat->Bool)(U:List (Int×Int))(l:List (Int×Int×Bool)):Bool:= !l.any (jk S L sh d U)
theorem Ao(b:aC)(i:4<=b.S)(j:b.S<=12)(m:1<=b.L)(n:b.L<=4)(sh:Int)(o: -3<=sh)(p:sh<=3)(d:Nat->Bool)(U:List (Int×Int))
  (c:∀k,k<U.length->0<=(U.getD k (0,0)).1/\(U.getD k (0,0)).1<b.S/\ -9<=(U.getD k (0,0)).2/\(U.getD k (0,0)).2<=9)(l:List (Int×Int×Bool))
  (f:∀k,k<l.length->0<=(l.getD k (0,0,false)).1/\(l.getD k (0,0,false)).1<U.length/\0<=(l.getD k (0,0,false)).2.1/\(l.getD k (0,0,false)).2.1<b.S)(w:H)
  (g:bp w b.U U)(h:fL w b.W l):
  PH F 50 #[b.v,gN sh d] w λe w'=>e=.returned (.bool (oI b.S b.L sh d U l))/\X w w w':=by
 have a:=Bo b i j m n sh o p d U c b.W l f w.heap.size (w.heap.size+1) ((w.alloc (aE b 76)).alloc (.cells #[.int .i64 sh,.bool (d 0),.bool (d 1),.bool (d 2),.bool (d 3),.bool (d 4),.bool (d 5),.bool (d 6),.bool (d 7),.bool (d 8),.bool (d 9),.bool (d 10),.bool (d 11)] 91))
  (g.below (by exact bt)) ((QR _ _ (by simp only[aa];omega)).tn (Sp _ _)) (by have:=bA.new (w.alloc (aE b 76)) 91 sh d;rw[aa]at this;exact this) (h.below (by exact bt))
 clear g h f c;have HR:PQ (oI b.S b.L sh d U l= !l.any (jk b.S b.L sh d U)):=rfl;generalize l.any (jk b.S b.L sh d U)=r at a HR;unfold aE N3 at a;unfold aC.v gN;go_enter Tryz.func50,Tryz.ntmps50;go_wp2_with (go_at_call 78;refine a.mono ?_;rintro e s ⟨rfl,q⟩);go_ret;exact⟨bR HR.out.symm,cB q⟩
variable{w':H}{f f':Nat->Bool}
def iB.all(h:iB w g t f):w (g,0)=Y (.bool (f 0))/\w (g,1)=Y (.bool (f 1))/\w (g,2)=Y (.bool (f 2))/\w (g,3)=Y (.bool (f 3))/\w (g,4)=Y (.bool (f 4))/\w (g,5)=Y (.bool (f 5))/\w (g,6)=Y (.bool (f 6))/\w (g,7)=Y (.bool (f 7))/\w (g,8)=Y (.bool (f 8))/\w (g,9)=Y (.bool (f 9))/\w (g,10)=Y (.bool (f 10))/\w (g,11)=Y (.bool (f 11)):=
 ⟨h.cell 0 zz,h.cell 1 zz,h.cell 2 zz,h.cell 3 zz,h.cell 4 zz,h.cell 5 zz,h.cell 6 zz,h.cell 7 zz,h.cell 8 zz,h.cell 9 zz,h.cell 10 zz,h.cell 11 zz⟩
def iB.alloc(h:iB w g t f)(o:Obj):iB (w.alloc o) g t f:=by
 obtain⟨cs,e1,a⟩:=h;exact⟨cs,(QR _ _ (ec.1 e1).1).tn e1,a⟩
def iB.new(w:H)(t:Lk)(f:Nat->Bool):iB (w.alloc (.cells #[.bool (f 0),.bool (f 1),.bool (f 2),.bool (f 3),.bool (f 4),.bool (f 5),.bool (f 6),.bool (f 7),.bool (f 8),.bool (f 9),.bool (f 10),.bool (f 11)] t)) w t f:=
 ⟨_,Sp _ _,rfl,λi hi=>by
  rcases(show i=0\/i=1\/i=2\/i=3\/i=4\/i=5\/i=6\/i=7\/i=8\/i=9\/i=10\/i=11 from zz)with rfl|rfl|rfl|rfl|rfl|rfl|rfl|rfl|rfl|rfl|rfl|rfl<;>rfl⟩
def iB.uB(h:iB w g t f){p i:Nat}(b:g≠p)(v:M):iB (w.setCell (p,i) v) g t f:=by
 obtain⟨cs,e1,a⟩:=h;exact⟨cs,(X.heap_setCell w ⟨p,i,I⟩ v g b).tn e1,a⟩
def lJ(d:Nat->Bool)(C:List Int):Nat->Bool:=λi=>d i && !eM C i
theorem FX(b:aC)(Q:b.S<=12)(d:Nat->Bool)(l:List Int)(K:∀x∈l,0<=x/\x<b.S)(w:H)(V:eC w b.C l):
  PH F 49 #[b.v,tJ d] w λe w'=>e=.returned (tJ (lJ d l))/\X w w w':=by
 have E:=Hm K;clear K;obtain⟨S,D,L,lo,hi,⟨m,a5,o⟩,rf,rh,cf,ch,⟨r,t,s⟩,⟨p,En,q⟩,⟨u,z,y⟩⟩:=b;obtain⟨N,T,a8,A⟩:=V;simp only at N T A Q E;subst N;have O:=Hm A;clear A;simp only[aC.v,tJ];go_enter Tryz.func49,Tryz.ntmps49;go_wp2;go_loopw [11] (λi wr=>∃k:Nat,k<=l.length/\i=.int .i64 k/\X (w.heap.size+1) (w.alloc (Dg ⟨S,D,L,lo,hi,⟨m,l.length,o⟩,rf,rh,cf,ch,⟨r,t,s⟩,⟨p,En,q⟩,⟨u,z,y⟩⟩)) wr/\iB wr (w.heap.size+1) 89 (lJ d (l.take k))/\iB wr (w.heap.size+1+1) 89 mI) (λi _=>l.length-(intOf i).toNat)
 case atStart=>
  have e:lJ d (l.take 0)=d:=by funext n;simp[lJ,eM]
  refine⟨0,zz,rfl,?_,?_,?_⟩
  .show X (w.heap.size+1) (w.alloc (aE _ 76)) _;simp only[aE];exact bt
  .have:=iB.new (w.alloc (Dg ⟨S,D,L,lo,hi,⟨m,l.length,o⟩,rf,rh,cf,ch,⟨r,t,s⟩,⟨p,En,q⟩,⟨u,z,y⟩⟩)) 89 d;rw[aa]at this;rw[e];exact this.alloc _
  .have:=iB.new ((w.alloc (Dg ⟨S,D,L,lo,hi,⟨m,l.length,o⟩,rf,rh,cf,ch,⟨r,t,s⟩,⟨p,En,q⟩,⟨u,z,y⟩⟩)).alloc (.cells #[.bool (d 0),.bool (d 1),.bool (d 2),.bool (d 3),.bool (d 4),.bool (d 5),.bool (d 6),.bool (d 7),.bool (d 8),.bool (d 9),.bool (d 10),.bool (d 11)] 89)) 89 mI;rw[aa,aa]at this;exact this
 case round=>
  obtain⟨k,hk,rfl,f,c,h⟩:=hrel;have Z:(w:Nat)+1<=wr:=by have:=f.size;rw[aa]at this;exact this
  have a9:(w:Nat)<wr:=Z;by_cases g:k<l.length
  ·(obtain⟨x0,x1,x2,x3,x4,x5,x6,x7,x8,x9,a2,a3,a4⟩:=iw f;dsimp only at x0 x1 x2 x3 x4 x5 x6 x7 x8 x9 a2 a3 a4)
   obtain⟨P,off,rfl,R,J⟩:=O.out zz;obtain⟨a,a1⟩:∃a:Nat,l.getD k 0=(a:Int)/\(a:Int)<S:=by
    have W:l.getD k 0∈l:=by simp[List.getD,iv g]
    have:=E.out _ W;exact⟨(l.getD k 0).toNat,zz,zz⟩
   obtain⟨B,a'⟩:=a1;have a7:wr (P,off+k)=Y (.int .i64 a):=(jN f R).tn ((J k g).tn (by rw[B]));have G:PQ (∀n:Nat,lJ d (l.take (k+1)) n=if n=a then false else lJ d (l.take k) n):=λn=>by
    rw[lh g];have:l[k]=(a:Int):=by rw[<- B];simp[List.getD,iv g]
    rw[this];by_cases e:n=a
    .subst e;simp[lJ,eM]
    .simp[lJ,eM,e,show¬(n:Int)=a by omega]
   have a6:=c.cell a zz;have fa:=c.free a;clear B J;go_wp2;go_roundw
   case rel=>exact⟨k+1,zz,by go_num,by exact bt,c.set zz (by rw[G.out,qWB rfl]) (λj _ U=>by rw[G.out,qVB U]),h.uB zz _⟩
   case measure=>simp[intOf];omega
  .obtain rfl:k=l.length:=zz;rw[List.take_length]at c;obtain⟨y0,y1,y2,y3,y4,y5,y6,y7,y8,y9,a0,b1⟩:=c.all;obtain⟨z0,z1,z2,z3,z4,z5,z6,z7,z8,z9,b2,b3⟩:=h.all;have b4:=λi=>h.free i;have C:=Hm (bT f);clear c h f;go_wp2;refine bd (v:=tJ (lJ d l)) ?_ rfl ⟨rfl,?_⟩
   .simp[results,Tryz.results49,go_sem,tJ, *]
   .have C:=C.out;exact bt
def nG(f g:Nat->Bool):Bool:=(f 0==g 0)&&(f 1==g 1)&&(f 2==g 2)&&(f 3==g 3)&&(f 4==g 4)&&(f 5==g 5)&&(f 6==g 6)&&(f 7==g 7)&&(f 8==g 8)&&(f 9==g 9)&&(f 10==g 10)&&(f 11==g 11)
def I5(d:Nat)(f g:Nat->Bool)(w:H):(Op.equalIn (d+3) 89 (tJ f) (tJ g)).run F w=.ok (nG f g) w:=by
 obtain⟨r,a,h2⟩:=run_equalIn_deep (P:=F) d 3 89 kr w 5 5 (tJ f) (tJ g) [.bool (f 0),.bool (f 1),.bool (f 2),.bool (f 3),.bool (f 4),.bool (f 5),.bool (f 6),.bool (f 7),.bool (f 8),.bool (f 9),.bool (f 10),.bool (f 11)] [.bool (g 0),.bool (g 1),.bool (g 2),.bool (g 3),.bool (g 4),.bool (g 5),.bool (g 6),.bool (g 7),.bool (g 8),.bool (g 9),.bool (g 10),.bool (g 11)] kr kr kr kr;have b:r=nG f g:=by
  rw[Bool.eq_iff_iff,h2];simp[nG,and_assoc]
 subst b;exact a
theorem aa1(f g:Nat->Bool)(w:H):(binOp .eql 89 (tJ f) (tJ g)).run F w=.ok (.bool (nG f g)) w:=by
 have a:=I5 9997 f g w;unfold tJ at a|-;go_simp
theorem aa2(m sh:Int)(f g:Nat->Bool)(w:H):(binOp .eql 91 (gN m f) (gN sh g)).run F w=.ok (.bool (decide (m=sh)&&nG f g)) w:=by
 have a:=I5 9996 f g w;unfold tJ at a;unfold gN;go_simp;by_cases h:m=sh
 .cases b:nG f g<;>simp[h]
 .simp[h]
variable{S n sh:Int}{W v1:H}{f0:Nat->Bool}
def dI(b:aC)(l:pK)(sh:Int)(d:List Int):Bool×Int:=
 if ay b l≠0 then(false,ay b l)else if r7 b.S sh d≠0 then(false,r7 b.S sh d)else
 (decide (min (max sh b.lo) b.hi=sh)&&nG (lJ (eM d) l.C) (eM d)&&decide ((d.length:Int)<=b.D)&&oI b.S b.L sh (eM d) l.U l.W,0)
def wN(p:Bool×Int)(w:H)(e:Ending)(w':H):Prop:=e=.returned (.tuple #[.bool p.1,.int .i64 p.2])/\X w w w'
def N5:∀{l:List (Int×Int×Bool)},qi S n l=0->∀x∈l,0<=x.1/\x.1<n/\0<=x.2.1/\x.2.1<S
 | [],_=>λx c=>by simp at c
 | (a,s,t)::r,d=>by
  simp only[qi]at d;by_cases b:(ax a 0 (n-1)&&ax s 0 (S-1))=false
  .rw[qWB b]at d;omega
  .rw[qVB b]at d;intro x c;rcases dq.1 c with rfl|c
   .simp only[Bool.and_eq_false_iff,not_or,Bool.not_eq_false]at b;have e1:=cq.1 b.1;have e:=cq.1 b.2;exact⟨e1.1,by show a<n;omega,e.1,by show s<S;omega⟩
   .exact N5 d x c
def Gb{l:List (Int×Int×Bool)}(h:ki S n l=0)(k:Nat)(hk:k<l.length):0<=(l.getD k (0,0,false)).1/\(l.getD k (0,0,false)).1<n/\0<=(l.getD k (0,0,false)).2.1/\(l.getD k (0,0,false)).2.1<S:=by
 unfold ki at h;split at h
 .omega
 .exact N5 h _ (by simp[List.getD,iv hk])
def bA.range(h:bA w g t sh f):w.rangeAt g 1 [.bool (f 0),.bool (f 1),.bool (f 2),.bool (f 3),.bool (f 4),.bool (f 5),.bool (f 6),.bool (f 7),.bool (f 8),.bool (f 9),.bool (f 10),.bool (f 11)]:=λj v a=>by
 have b:j<12:=(List.getElem?_eq_some_iff.1 a).1;rw[h.cell j b,<- a];rcases(show j=0\/j=1\/j=2\/j=3\/j=4\/j=5\/j=6\/j=7\/j=8\/j=9\/j=10\/j=11 from zz)with rfl|rfl|rfl|rfl|rfl|rfl|rfl|rfl|rfl|rfl|rfl|rfl<;>rfl
def Dq{w w':H}{b o B:Nat}{cs:List M}(h:w.rangeAt b o cs)(a:X B w w')(hB:b<B):w'.rangeAt b o cs:=λj v c=>(a.cell (p:=⟨b,o+j,I⟩) hB).tn (h j v c)
def bA.aa3{sh ik:Int}(h:bA w g t sh f):bA (w.setCell (g,0) (.int .i64 ik)) g t ik f:=by
 obtain⟨cs,e1,a,e0,b⟩:=h;refine⟨cs.setIfInBounds 0 (.int .i64 ik),by simp[H.setCell,nc,e1],by simpa using a,by simp[a],λj c=>?_⟩;rw[jx zz];exact b j c
def Gc(f f0:Nat->Bool)(n:Nat):Nat->Bool:=λi=>if i<n then f i else f0 i
def bA.next{n:Nat}(h:bA w g t sh (Gc f f0 n))(a:n<12):bA (w.setCell (g,1+n) (.bool (f n))) g t sh (Gc f f0 (n+1)):=
 h.set a (by simp[Gc]) λj _ b=>by
  simp only[Gc];by_cases e:j<n
  .rw[qWB e,qWB zz]
  .rw[qVB e,qVB zz]
def bA.same{f f':Nat->Bool}(h:bA w g t sh f)(e:∀i,i<12->f' i=f i):bA w g t sh f':=by
 obtain⟨cs,e1,a,e0,b⟩:=h;exact⟨cs,e1,a,e0,λi hi=>by rw[e i hi];exact b i hi⟩
def Lf{sh0 sh:Int}(h:bA w g t sh0 f0):bA (((((((((((((w.setCell (g,0) (.int .i64 sh)).setCell (g,1) (.bool (f 0))).setCell (g,2) (.bool (f 1))).setCell (g,3) (.bool (f 2))).setCell (g,4) (.bool (f 3))).setCell (g,5) (.bool (f 4))).setCell (g,6) (.bool (f 5))).setCell (g,7) (.bool (f 6))).setCell (g,8) (.bool (f 7))).setCell (g,9) (.bool (f 8))).setCell (g,10) (.bool (f 9))).setCell (g,11) (.bool (f 10))).setCell (g,12) (.bool (f 11))) g t sh f:=by
 have a:bA (w.setCell (g,0) (.int .i64 sh)) g t sh (Gc f f0 0):=h.aa3.same λi _=>by simp[Gc]
 exact((((((((((((a.next zz).next zz).next zz).next zz).next zz).next zz).next zz).next zz).next zz).next zz).next zz).next zz).same λi hi=>by simp[Gc,hi]
def Lg(h:X (W.alloc (.cells #[.int .i64 0,.bool false,.bool false,.bool false,.bool false,.bool false,.bool false,.bool false,.bool false,.bool false,.bool false,.bool false,.bool false] 91)).drew.heap.size (W.alloc (.cells #[.int .i64 0,.bool false,.bool false,.bool false,.bool false,.bool false,.bool false,.bool false,.bool false,.bool false,.bool false,.bool false,.bool false] 91)).drew v1):bA v1 W 91 0 mI:=by
 have a:bA (W.alloc (.cells #[.int .i64 0,.bool false,.bool false,.bool false,.bool false,.bool false,.bool false,.bool false,.bool false,.bool false,.bool false,.bool false,.bool false] 91)).drew W 91 0 mI:=bA.new W 91 0 mI;exact a.below h ss
def uL{x y:Bool}(h:x=y):Ending.returned (.tuple #[.bool x,.int .i64 0])=.returned (.tuple #[.bool y,.int .i64 0]):=by rw[h]
def Wx(m:Int)(f:Nat->Bool)(b:X W W v1):∃a,M.pointer (Y (v1.heap.size,0))=.pointer (Y (a,0))/\X W W (v1.alloc (.cells #[.int .i64 m,.bool (f 0),.bool (f 1),.bool (f 2),.bool (f 3),.bool (f 4),.bool (f 5),.bool (f 6),.bool (f 7),.bool (f 8),.bool (f 9),.bool (f 10),.bool (f 11)] 91))/\bA (v1.alloc (.cells #[.int .i64 m,.bool (f 0),.bool (f 1),.bool (f 2),.bool (f 3),.bool (f 4),.bool (f 5),.bool (f 6),.bool (f 7),.bool (f 8),.bool (f 9),.bool (f 10),.bool (f 11)] 91)) a 91 m f:=
 ⟨v1.heap.size,rfl,aP b (qN _) _,bA.new v1 91 m f⟩
def Wy(m:Int)(f:Nat->Bool)(b:X (W.alloc (.cells #[.int .i64 0,.bool false,.bool false,.bool false,.bool false,.bool false,.bool false,.bool false,.bool false,.bool false,.bool false,.bool false,.bool false] 91)).drew.heap.size (W.alloc (.cells #[.int .i64 0,.bool false,.bool false,.bool false,.bool false,.bool false,.bool false,.bool false,.bool false,.bool false,.bool false,.bool false,.bool false] 91)).drew v1)(c:X W W v1):∃a,M.pointer (Y (W.heap.size,0))=.pointer (Y (a,0))/\X W W (((((((((((((v1.setCell (W.heap.size,0) (.int .i64 m)).setCell (W.heap.size,1) (.bool (f 0))).setCell (W.heap.size,2) (.bool (f 1))).setCell (W.heap.size,3) (.bool (f 2))).setCell (W.heap.size,4) (.bool (f 3))).setCell (W.heap.size,5) (.bool (f 4))).setCell (W.heap.size,6) (.bool (f 5))).setCell (W.heap.size,7) (.bool (f 6))).setCell (W.heap.size,8) (.bool (f 7))).setCell (W.heap.size,9) (.bool (f 8))).setCell (W.heap.size,10) (.bool (f 9))).setCell (W.heap.size,11) (.bool (f 10))).setCell (W.heap.size,12) (.bool (f 11)))/\bA (((((((((((((v1.setCell (W.heap.size,0) (.int .i64 m)).setCell (W.heap.size,1) (.bool (f 0))).setCell (W.heap.size,2) (.bool (f 1))).setCell (W.heap.size,3) (.bool (f 2))).setCell (W.heap.size,4) (.bool (f 3))).setCell (W.heap.size,5) (.bool (f 4))).setCell (W.heap.size,6) (.bool (f 5))).setCell (W.heap.size,7) (.bool (f 6))).setCell (W.heap.size,8) (.bool (f 7))).setCell (W.heap.size,9) (.bool (f 8))).setCell (W.heap.size,10) (.bool (f 9))).setCell (W.heap.size,11) (.bool (f 10))).setCell (W.heap.size,12) (.bool (f 11))) a 91 m f:=
 ⟨W.heap.size,rfl,by exact bt,Lf (Lg b)⟩
def Dr{w w1:H}{b:aC}{s:Sl}(h:X ((w.alloc (aE b 31)).alloc (.cells #[.int .i64 sh,.slice s.A s.n s.c] 54)).heap.size ((w.alloc (aE b 31)).alloc (.cells #[.int .i64 sh,.slice s.A s.n s.c] 54)) w1):
  aK ((w1.alloc (aE b 76)).alloc (.cells #[.int .i64 sh,.bool (f 0),.bool (f 1),.bool (f 2),.bool (f 3),.bool (f 4),.bool (f 5),.bool (f 6),.bool (f 7),.bool (f 8),.bool (f 9),.bool (f 10),.bool (f 11)] 91)) w 31 b/\((w1.alloc (aE b 76)).alloc (.cells #[.int .i64 sh,.bool (f 0),.bool (f 1),.bool (f 2),.bool (f 3),.bool (f 4),.bool (f 5),.bool (f 6),.bool (f 7),.bool (f 8),.bool (f 9),.bool (f 10),.bool (f 11)] 91)).cell? (w.heap.size+1,1)=Y (.slice s.A s.n s.c)/\aK ((w1.alloc (aE b 76)).alloc (.cells #[.int .i64 sh,.bool (f 0),.bool (f 1),.bool (f 2),.bool (f 3),.bool (f 4),.bool (f 5),.bool (f 6),.bool (f 7),.bool (f 8),.bool (f 9),.bool (f 10),.bool (f 11)] 91)) w1 76 b/\bA ((w1.alloc (aE b 76)).alloc (.cells #[.int .i64 sh,.bool (f 0),.bool (f 1),.bool (f 2),.bool (f 3),.bool (f 4),.bool (f 5),.bool (f 6),.bool (f 7),.bool (f 8),.bool (f 9),.bool (f 10),.bool (f 11)] 91)) (w1.heap.size+1) 91 sh f/\X w w ((w1.alloc (aE b 76)).alloc (.cells #[.int .i64 sh,.bool (f 0),.bool (f 1),.bool (f 2),.bool (f 3),.bool (f 4),.bool (f 5),.bool (f 6),.bool (f 7),.bool (f 8),.bool (f 9),.bool (f 10),.bool (f 11)] 91)):=by
 have a:=h.size;simp only[aa]at a;simp only[aa]at h;have h2:X (w.heap.size+1+1) ((w.alloc (aE b 31)).alloc (.cells #[.int .i64 sh,.slice s.A s.n s.c] 54)) ((w1.alloc (aE b 76)).alloc (.cells #[.int .i64 sh,.bool (f 0),.bool (f 1),.bool (f 2),.bool (f 3),.bool (f 4),.bool (f 5),.bool (f 6),.bool (f 7),.bool (f 8),.bool (f 9),.bool (f 10),.bool (f 11)] 91)):=(h.alloc a _).alloc (by rw[aa];omega) _;refine⟨?_,?_,?_,?_,?_⟩
 .refine(h2.block _ zz).tn ?_;exact(QR _ _ (by rw[aa];omega)).tn (Sp _ _)
 .rw[h2.cell (p:=⟨w.heap.size+1,1,I⟩) (by show w.heap.size+1<_;omega)];have:=Sp (w.alloc (aE b 31)) (.cells #[.int .i64 sh,.slice s.A s.n s.c] 54);rw[aa]at this;rw[H.cell?,this];rfl
 .exact(QR _ _ (by rw[aa];omega)).tn (Sp _ _)
 .have:=bA.new (w1.alloc (aE b 76)) 91 sh f;rw[aa]at this;exact this
 .exact(((X.refl _ _).alloc (qN _) _).alloc (by rw[aa];omega) _).tn (h2.mono zz)
theorem Bq(b:aC)(l:pK)(sh:Int)(s:Sl)(d:List Int)(w:H)(b3:aI w b l)(a9:aD w)(a0:eC w s d)(V:ay b l=0)(N:r7 b.S sh d=0):
  PH F 18 #[b.v,aF sh s] w (wN (decide (min (max sh b.lo) b.hi=sh)&&nG (lJ (eM d) l.C) (eM d)&&decide ((d.length:Int)<=b.D)&&oI b.S b.L sh (eM d) l.U l.W,0) w):=by
 have a4:=Hm b3;have c6:=Hm a9;have O:=Hm a0;clear b3 a9 a0;have y:∀a,aI a b l->aD a->eC a s d->PH F 47 #[b.v,aF sh s] a λe w'=>e=.returned (.tuple #[b.v,gN sh (eM d),.int .i64 0])/\X a a w':=λa h1 h2 T=>
  (sO b l sh s d a h1 h2 T).mono λe w' d5=>by
   obtain⟨p1,p2⟩:=d5;rw[qWB V,qWB N,N]at p1;exact⟨p1,p2⟩
 have hk:=bP V;obtain⟨t1,t2,t3,t4,t5,t6,t7,t8,t9,d0,b9⟩:=cS hk.1;obtain⟨v1,v2,v3⟩:=tM N;have t:=λa (S:eC a b.C l.C)=>FX b t2 (eM d) l.C (wM b9) a S;have A:=λa (S:bp a b.U l.U) (T:fL a b.W l.W)=>Ao b t1 t2 t5 t6 sh v1 v2 (eM d) l.U (λk U=>kP hk.2.2.1 k U) l.W (λk U=>Gb hk.2.2.2.2 k U) a S T;have b1:=O.out.1;have d7:s.n<=1000:=by have:=O.out.2.2.1;omega
 rw[<- b1];clear b1;generalize oI b.S b.L sh (eM d) l.U l.W=R at A|-;generalize lJ (eM d) l.C=f' at t|-;generalize eM d=f at t A y|-;clear V N hk b9 v3;unfold aC.v at y t A|-;unfold aF at y|-;unfold gN at y A;unfold tJ at t;go_enter Tryz.func18,Tryz.ntmps18;go_wp2_with (go_at_call 47;refine(y _ (aq (aq a4.out _) _) (ai (ai c6.out _) _) (aZ (aZ O.out _) _)).mono ?_;rintro e a ⟨rfl,J⟩;obtain⟨d1,d3⟩:=aU J;have B1:=cB J;have b7:w.heap.size+1<a.heap.size:=(by have:=J.size;simp only[aa]at this;omega);have b8:w.heap.size<a.heap.size:=zz);obtain⟨r,B,v,n,C⟩:=Dr (b:=b) (s:=s) (sh:=sh) (f:=f) J;simp only[aE]at r B v n C;clear d1 d3 J;generalize(a.alloc (.cells #[.int .i64 b.S,.int .i64 b.D,.int .i64 b.L,.int .i64 b.lo,.int .i64 b.hi,.slice b.C.A b.C.n b.C.c,.int .i64 b.rf,.int .i64 b.rh,.int .i64 b.cf,.int .i64 b.ch,.slice b.U.A b.U.n b.U.c,.slice b.E.A b.E.n b.E.c,.slice b.W.A b.W.n b.W.c] 76)).alloc (.cells #[.int .i64 sh,.bool (f 0),.bool (f 1),.bool (f 2),.bool (f 3),.bool (f 4),.bool (f 5),.bool (f 6),.bool (f 7),.bool (f 8),.bool (f 9),.bool (f 10),.bool (f 11)] 91)=W at r B v n C|-;generalize a.heap.size=g at r B v n C b7 b8|-;obtain⟨x0,x1,x2,x3,x4,x5,x6,x7,x8,x9,b0,c1,c2⟩:=aM r;obtain⟨z0,z1,z2,z3,z4,z5,z6,z7,z8,z9,a1,a2,a3⟩:=aM v;obtain⟨y0,y1,y2,y3,y4,y5,y6,y7,y8,y9,c3,c4,c5⟩:=n.all;have i:=v.lt;have l2:=n.lt;have l3:(w:Nat)<W:=zz;have l4:(w:Nat)+1<W:=zz;have b5:=n.range;have d9:=Tryz.underlying89;have d8:(F.info? 89).map (·.size)=Y 12:=by kernel_rfl
 have a5:=Hm r;have c7:=Hm B;have c9:=Hm n;have c':=Hm v;have c8:PQ ((w:Nat)+1<W):=l4;have a6:=Hm C;have G:=Hm (a4.out.below C);have L:PQ (∀w',X W W w'->w' (w.heap.size,3)=Y (.int .i64 b.lo)/\w' (w.heap.size,4)=Y (.int .i64 b.hi)/\w' (g,0)=Y (.int .i64 b.S)/\w' (g,1)=Y (.int .i64 b.D)/\w' (g,2)=Y (.int .i64 b.L)/\w' (g,3)=Y (.int .i64 b.lo)/\w' (g,4)=Y (.int .i64 b.hi)/\w' (g,5)=Y (.slice b.C.A b.C.n b.C.c)/\w' (g,6)=Y (.int .i64 b.rf)/\w' (g,7)=Y (.int .i64 b.rh)/\w' (g,8)=Y (.int .i64 b.cf)/\w' (g,9)=Y (.int .i64 b.ch)/\w' (g,10)=Y (.slice b.U.A b.U.n b.U.c)/\w' (g,11)=Y (.slice b.E.A b.E.n b.E.c)/\w' (g,12)=Y (.slice b.W.A b.W.n b.W.c)/\w' (g+1,0)=Y (.int .i64 sh)/\w'.rangeAt (g+1) 1 [.bool (f 0),.bool (f 1),.bool (f 2),.bool (f 3),.bool (f 4),.bool (f 5),.bool (f 6),.bool (f 7),.bool (f 8),.bool (f 9),.bool (f 10),.bool (f 11)]/\X W W w'):=λw' c=>⟨(c.cell (p:=⟨_,_,I⟩) l3).tn x3,(c.cell (p:=⟨_,_,I⟩) l3).tn x4,(c.cell (p:=⟨_,_,I⟩) i).tn z0,(c.cell (p:=⟨_,_,I⟩) i).tn z1,(c.cell (p:=⟨_,_,I⟩) i).tn z2,(c.cell (p:=⟨_,_,I⟩) i).tn z3,(c.cell (p:=⟨_,_,I⟩) i).tn z4,(c.cell (p:=⟨_,_,I⟩) i).tn z5,(c.cell (p:=⟨_,_,I⟩) i).tn z6,(c.cell (p:=⟨_,_,I⟩) i).tn z7,(c.cell (p:=⟨_,_,I⟩) i).tn z8,(c.cell (p:=⟨_,_,I⟩) i).tn z9,(c.cell (p:=⟨_,_,I⟩) i).tn a1,(c.cell (p:=⟨_,_,I⟩) i).tn a2,(c.cell (p:=⟨_,_,I⟩) i).tn a3,(c.cell (p:=⟨_,_,I⟩) l2).tn y0,Dq b5 c l2,c⟩;clear r B v n C b5 l3 l4 b7 b8 x0 x1 x2 x3 x4 x5 x6 x7 x8 x9 b0 c1 c2 y0 y1 y2 y3 y4 y5 y6 y7 y8 y9 c3 c4 c5 z0 z1 z2 z3 z4 z5 z6 z7 z8 z9 a1 a2 a3;go_cut [9] (λs9 b'=>∃Q,s9=.pointer (Y ⟨Q,0,I⟩)/\X W.heap.size W b'/\bA b' Q 91 (min (max sh b.lo) b.hi) f')
 case first=>
  rcases(show sh<b.lo\/(b.lo<=sh/\sh<=b.hi)\/(b.lo<=sh/\b.hi<sh)from zz)with z|⟨z,d4⟩|⟨z,d4⟩
  .have o:PQ (min (max sh b.lo) b.hi=b.lo):=by show _=_;omega
   go_region_held3 (λw'=>w'.cell? ⟨w.heap.size,3,I⟩=Y (.int .i64 b.lo)/\w'.cell? ⟨w.heap.size,4,I⟩=Y (.int .i64 b.hi)/\w'.cell? ⟨g,0,I⟩=Y (.int .i64 b.S)/\w'.cell? ⟨g,1,I⟩=Y (.int .i64 b.D)/\w'.cell? ⟨g,2,I⟩=Y (.int .i64 b.L)/\w'.cell? ⟨g,3,I⟩=Y (.int .i64 b.lo)/\w'.cell? ⟨g,4,I⟩=Y (.int .i64 b.hi)/\w'.cell? ⟨g,5,I⟩=Y (.slice b.C.A b.C.n b.C.c)/\w'.cell? ⟨g,6,I⟩=Y (.int .i64 b.rf)/\w'.cell? ⟨g,7,I⟩=Y (.int .i64 b.rh)/\w'.cell? ⟨g,8,I⟩=Y (.int .i64 b.cf)/\w'.cell? ⟨g,9,I⟩=Y (.int .i64 b.ch)/\w'.cell? ⟨g,10,I⟩=Y (.slice b.U.A b.U.n b.U.c)/\w'.cell? ⟨g,11,I⟩=Y (.slice b.E.A b.E.n b.E.c)/\w'.cell? ⟨g,12,I⟩=Y (.slice b.W.A b.W.n b.W.c)/\w'.cell? ⟨g+1,0,I⟩=Y (.int .i64 sh)/\w'.rangeAt (g+1) 1 [.bool (f 0),.bool (f 1),.bool (f 2),.bool (f 3),.bool (f 4),.bool (f 5),.bool (f 6),.bool (f 7),.bool (f 8),.bool (f 9),.bool (f 10),.bool (f 11)]/\X W.heap.size W w') (exact L.out _ bf) (first|(go_at_call 49;refine(t _ (G.out.C.below bf)).mono ?_;rintro e v1 ⟨rfl,j⟩;obtain⟨a',b2⟩:=aU j;have u:X W.heap.size W v1:=X.tn bf (j.mono (by first|(simp only[H.size_drew,aa];omega)|(have:=(by with_reducible assumption:X W.heap.size W _).size;omega)))));all_goals go_wp2_with fail
   all_goals go_meet
   all_goals rw[o.out]
   all_goals first|with_reducible exact Wx _ _ u|with_reducible exact Wy _ _ j u
  .have o:PQ (min (max sh b.lo) b.hi=sh):=by show _=_;omega
   go_region_held3 (λw'=>w'.cell? ⟨w.heap.size,3,I⟩=Y (.int .i64 b.lo)/\w'.cell? ⟨w.heap.size,4,I⟩=Y (.int .i64 b.hi)/\w'.cell? ⟨g,0,I⟩=Y (.int .i64 b.S)/\w'.cell? ⟨g,1,I⟩=Y (.int .i64 b.D)/\w'.cell? ⟨g,2,I⟩=Y (.int .i64 b.L)/\w'.cell? ⟨g,3,I⟩=Y (.int .i64 b.lo)/\w'.cell? ⟨g,4,I⟩=Y (.int .i64 b.hi)/\w'.cell? ⟨g,5,I⟩=Y (.slice b.C.A b.C.n b.C.c)/\w'.cell? ⟨g,6,I⟩=Y (.int .i64 b.rf)/\w'.cell? ⟨g,7,I⟩=Y (.int .i64 b.rh)/\w'.cell? ⟨g,8,I⟩=Y (.int .i64 b.cf)/\w'.cell? ⟨g,9,I⟩=Y (.int .i64 b.ch)/\w'.cell? ⟨g,10,I⟩=Y (.slice b.U.A b.U.n b.U.c)/\w'.cell? ⟨g,11,I⟩=Y (.slice b.E.A b.E.n b.E.c)/\w'.cell? ⟨g,12,I⟩=Y (.slice b.W.A b.W.n b.W.c)/\w'.cell? ⟨g+1,0,I⟩=Y (.int .i64 sh)/\w'.rangeAt (g+1) 1 [.bool (f 0),.bool (f 1),.bool (f 2),.bool (f 3),.bool (f 4),.bool (f 5),.bool (f 6),.bool (f 7),.bool (f 8),.bool (f 9),.bool (f 10),.bool (f 11)]/\X W.heap.size W w') (exact L.out _ bf) (first|(go_at_call 49;refine(t _ (G.out.C.below bf)).mono ?_;rintro e v1 ⟨rfl,j⟩;obtain⟨a',b2⟩:=aU j;have u:X W.heap.size W v1:=X.tn bf (j.mono (by first|(simp only[H.size_drew,aa];omega)|(have:=(by with_reducible assumption:X W.heap.size W _).size;omega)))));all_goals go_wp2_with fail
   all_goals go_meet
   all_goals rw[o.out]
   all_goals first|with_reducible exact Wx _ _ u|with_reducible exact Wy _ _ j u
  .have o:PQ (min (max sh b.lo) b.hi=b.hi):=by show _=_;omega
   go_region_held3 (λw'=>w'.cell? ⟨w.heap.size,3,I⟩=Y (.int .i64 b.lo)/\w'.cell? ⟨w.heap.size,4,I⟩=Y (.int .i64 b.hi)/\w'.cell? ⟨g,0,I⟩=Y (.int .i64 b.S)/\w'.cell? ⟨g,1,I⟩=Y (.int .i64 b.D)/\w'.cell? ⟨g,2,I⟩=Y (.int .i64 b.L)/\w'.cell? ⟨g,3,I⟩=Y (.int .i64 b.lo)/\w'.cell? ⟨g,4,I⟩=Y (.int .i64 b.hi)/\w'.cell? ⟨g,5,I⟩=Y (.slice b.C.A b.C.n b.C.c)/\w'.cell? ⟨g,6,I⟩=Y (.int .i64 b.rf)/\w'.cell? ⟨g,7,I⟩=Y (.int .i64 b.rh)/\w'.cell? ⟨g,8,I⟩=Y (.int .i64 b.cf)/\w'.cell? ⟨g,9,I⟩=Y (.int .i64 b.ch)/\w'.cell? ⟨g,10,I⟩=Y (.slice b.U.A b.U.n b.U.c)/\w'.cell? ⟨g,11,I⟩=Y (.slice b.E.A b.E.n b.E.c)/\w'.cell? ⟨g,12,I⟩=Y (.slice b.W.A b.W.n b.W.c)/\w'.cell? ⟨g+1,0,I⟩=Y (.int .i64 sh)/\w'.rangeAt (g+1) 1 [.bool (f 0),.bool (f 1),.bool (f 2),.bool (f 3),.bool (f 4),.bool (f 5),.bool (f 6),.bool (f 7),.bool (f 8),.bool (f 9),.bool (f 10),.bool (f 11)]/\X W.heap.size W w') (exact L.out _ bf) (first|(go_at_call 49;refine(t _ (G.out.C.below bf)).mono ?_;rintro e v1 ⟨rfl,j⟩;obtain⟨a',b2⟩:=aU j;have u:X W.heap.size W v1:=X.tn bf (j.mono (by first|(simp only[H.size_drew,aa];omega)|(have:=(by with_reducible assumption:X W.heap.size W _).size;omega)))));all_goals go_wp2_with fail
   all_goals go_meet
   all_goals rw[o.out]
   all_goals first|with_reducible exact Wx _ _ u|with_reducible exact Wy _ _ j u
 case rest=>
  obtain⟨Q,rfl,q,Z⟩:=hcut;obtain⟨m,z⟩:∃m,min (max sh b.lo) b.hi=m:=⟨_,rfl⟩;rw[z]at Z;have P:=Hm z;clear z;have d':=q.size;have r:aK wc w 31 b:=(q.block _ a5.out.lt).tn a5.out;have b6:aK wc g 76 b:=(q.block _ i).tn c'.out;have n:=c9.out.below q l2;have B:wc (w.heap.size+1,1)=Y (.slice s.A s.n s.c):=(q.cell (p:=⟨w.heap.size+1,1,I⟩) c8.out).tn c7.out;have a8:=λw=>aa2 m sh f' f w;have a7:=λw=>aa1 f' f w;unfold gN at a8;unfold tJ at a7;obtain⟨x0,x1,x2,x3,x4,x5,x6,x7,x8,x9,b0,c1,c2⟩:=aM r;obtain⟨z0,z1,z2,z3,z4,z5,z6,z7,z8,z9,a1,a2,a3⟩:=aM b6;obtain⟨y0,y1,y2,y3,y4,y5,y6,y7,y8,y9,c3,c4,c5⟩:=n.all;obtain⟨u0,u1,u2,u3,u4,u5,u6,u7,u8,u9,e1,e2,e3⟩:=Z.all;have K:=Hm (a6.out.tn (q.mono a6.out.size));have d6:=A wc (G.out.U.below q) (G.out.W.below q);clear q Z r b6 n L t y A;obtain⟨E,x⟩:∃E,(decide (m=sh)&&nG f' f)=E:=⟨_,rfl⟩;have o:=Hm x;simp only[x]at a8;cases E
  .clear x;go_wp2;go_ret2;exact⟨uL (by rw[P.out,o.out];rfl),K.out⟩
  .have b4:nG f' f=true:=by simp only[du]at x;exact x.2
   simp only[b4]at a7;clear x b4;by_cases d2:(s.n:Int)<=b.D
   .go_wp2_with (go_at_call 50;refine d6.mono ?_;rintro e v1 ⟨rfl,j⟩);go_ret2;exact⟨uL (by rw[P.out,o.out];simp[d2]),K.out.tn (j.mono K.out.size)⟩
   .go_wp2;go_ret2;exact⟨uL (by rw[P.out,o.out];simp;intro h;omega),K.out⟩
variable{rf ch:Int}
def N8:∀{l:List (Int×Int)},nF rf ch l=0->∀p∈l,1-rf<=p.1/\p.1<=rf-1/\0<=p.2/\p.2<=60/\p.2<ch
 | [],_=>λp d=>by simp at d
 | (a,h)::r,b=>by
  simp only[nF]at b;by_cases c:(ax a (1-rf) (rf-1)&&ax h 0 60)=false
  .rw[qWB c]at b;omega
  .rw[qVB c]at b;by_cases h2:ch<=h
   .rw[qWB h2]at b;omega
   .rw[qVB h2]at b;intro p d;rcases dq.1 d with rfl|d
    .simp only[Bool.and_eq_false_iff,not_or,Bool.not_eq_false]at c;have e1:=cq.1 c.1;have e:=cq.1 c.2;exact⟨e1.1,e1.2,e.1,e.2,by show h<ch;omega⟩
    .exact N8 b p d
def qY{l:List (Int×Int)}(h:fT rf ch l=0)(k:Nat)(hk:k<l.length):1-rf<=(l.getD k (0,0)).1/\(l.getD k (0,0)).1<=rf-1/\0<=(l.getD k (0,0)).2/\(l.getD k (0,0)).2<=60/\(l.getD k (0,0)).2<ch:=by
 unfold fT at h;split at h
 .omega
 .exact N8 h _ (by simp[List.getD,iv hk])
def sv(b:aC)(l:pK)(a:Int):Bool×Bool×Int:=
 if ay b l≠0 then(false,false,ay b l)else if ax a 0 (l.E.length-1)=false then(false,false,6)else(jC b (l.E.getD a.toNat (0,0)) (-1),jC b (l.E.getD a.toNat (0,0)) 1,0)
def Lh(p:Bool×Bool×Int)(w:H)(e:Ending)(w':H):Prop:=e=.returned (.tuple #[.bool p.1,.bool p.2.1,.int .i64 p.2.2])/\X w w w'
def di{w w':H}{o:Obj}(h:X (w.alloc o).heap.size (w.alloc o) w'):X w w w':=aY h
theorem Au(b:aC)(l:pK)(i:Int)(w:H)(n:aI w b l)(V:aD w)(o:ay b l=0:=by kernel_rfl)(m:ax i 0 (b.E.n-1)=true:=by kernel_rfl):
  PH F 27 #[b.v,.int .i64 i] w (Lh (sv b l i) w):=by
 have K:=Hm n;have a4:=Hm V;have U:=n.E.1;have a6:=n.E.2.2.1;clear n V;have t:=λf (h1:aI f b l) (h2:aD f)=>cG b l f h1 h2
 .have hk:=bP o;simp only[o]at t;have u:=λf=>KW b i zz f
  .obtain⟨f1,f2⟩:=cq.1 m;obtain⟨h,rfl⟩:∃h:Nat,i=(h:Int):=⟨i.toNat,zz⟩;have W:h<l.E.length:=zz;obtain⟨q1,q2,q3,q4,q5⟩:=qY hk.2.2.2.1 h W;obtain⟨N,O,P,Q,R,c6,S,T,c9⟩:=wL hk.2.1;have v:=λ(E:Int) (s1: -1<=E) (s2:E<=1) f (h0:bp f b.E l.E)=>N7 b N O P Q S T R zz h E s1 s2 l.E W zz zz q3 q4 f h0;have r:PQ (sv b l h=(jC b (l.E.getD h (0,0)) (-1),jC b (l.E.getD h (0,0)) 1,0)):=by
    unfold sv;rw[qVB (by simp[o]),<- U,qVB (by simp[m])];exact rfl
   have z:=v (-1) zz zz;have A:=v 1 zz zz;clear v;generalize jC b (l.E.getD h (0,0)) (-1)=x at z r;generalize jC b (l.E.getD h (0,0)) 1=y at A r;simp only[m]at u;clear hk o m f1 f2 q1 q2 q3 q4 q5 N O P Q R c6 S T c9 U a6;unfold aC.v at t u z A|-;go_enter Tryz.func27,Tryz.ntmps27;go_wp2_with (first|(go_at_call 51;refine(t _ (aq K.out _) (ai a4.out _)).mono ?_;rintro e f ⟨rfl,j⟩;obtain⟨a7,a9⟩:=aU j;have q:=di j;have a0:w.heap.size<f.heap.size:=(by have:=j.size;simp only[aa]at this;omega))|(go_at_call 63;refine(u _).mono ?_;rintro e a ⟨rfl,k⟩;obtain⟨a8,a'⟩:=aU k));have C:aK a f 76 b:=(k.block _ (by rw[aa];omega)).tn (Sp _ _);have s:X w w a:=q.tn ((aY k).mono q.size);have L:=Hm (K.out.below s);have J:=Hm s;have d:=C.lt;obtain⟨z0,z1,z2,z3,z4,z5,z6,z7,z8,z9,a1,a2,a3⟩:=aM C;clear a7 a9 a8 a' j k s C q;generalize f.heap.size=g at*;have a5:PQ (∀w',X a a w'->w' (g,0)=Y (.int .i64 b.S)/\w' (g,1)=Y (.int .i64 b.D)/\w' (g,2)=Y (.int .i64 b.L)/\w' (g,3)=Y (.int .i64 b.lo)/\w' (g,4)=Y (.int .i64 b.hi)/\w' (g,5)=Y (.slice b.C.A b.C.n b.C.c)/\w' (g,6)=Y (.int .i64 b.rf)/\w' (g,7)=Y (.int .i64 b.rh)/\w' (g,8)=Y (.int .i64 b.cf)/\w' (g,9)=Y (.int .i64 b.ch)/\w' (g,10)=Y (.slice b.U.A b.U.n b.U.c)/\w' (g,11)=Y (.slice b.E.A b.E.n b.E.c)/\w' (g,12)=Y (.slice b.W.A b.W.n b.W.c)/\X a a w'):=λw' c=>⟨(c.cell (p:=⟨_,_,I⟩) d).tn z0,(c.cell (p:=⟨_,_,I⟩) d).tn z1,(c.cell (p:=⟨_,_,I⟩) d).tn z2,(c.cell (p:=⟨_,_,I⟩) d).tn z3,(c.cell (p:=⟨_,_,I⟩) d).tn z4,(c.cell (p:=⟨_,_,I⟩) d).tn z5,(c.cell (p:=⟨_,_,I⟩) d).tn z6,(c.cell (p:=⟨_,_,I⟩) d).tn z7,(c.cell (p:=⟨_,_,I⟩) d).tn z8,(c.cell (p:=⟨_,_,I⟩) d).tn z9,(c.cell (p:=⟨_,_,I⟩) d).tn a1,(c.cell (p:=⟨_,_,I⟩) d).tn a2,(c.cell (p:=⟨_,_,I⟩) d).tn a3,c⟩;clear z0 z1 z2 z3 z4 z5 z6 z7 z8 z9 a1 a2 a3;go_region_held3 (λw'=>w'.cell? ⟨g,0,I⟩=Y (.int .i64 b.S)/\w'.cell? ⟨g,1,I⟩=Y (.int .i64 b.D)/\w'.cell? ⟨g,2,I⟩=Y (.int .i64 b.L)/\w'.cell? ⟨g,3,I⟩=Y (.int .i64 b.lo)/\w'.cell? ⟨g,4,I⟩=Y (.int .i64 b.hi)/\w'.cell? ⟨g,5,I⟩=Y (.slice b.C.A b.C.n b.C.c)/\w'.cell? ⟨g,6,I⟩=Y (.int .i64 b.rf)/\w'.cell? ⟨g,7,I⟩=Y (.int .i64 b.rh)/\w'.cell? ⟨g,8,I⟩=Y (.int .i64 b.cf)/\w'.cell? ⟨g,9,I⟩=Y (.int .i64 b.ch)/\w'.cell? ⟨g,10,I⟩=Y (.slice b.U.A b.U.n b.U.c)/\w'.cell? ⟨g,11,I⟩=Y (.slice b.E.A b.E.n b.E.c)/\w'.cell? ⟨g,12,I⟩=Y (.slice b.W.A b.W.n b.W.c)/\X a.heap.size a w')
    (exact a5.out _ bf)
    (first
     | (go_at_call 64;(with_reducible refine(z _ (L.out.E.below bf)).mono ?_);rintro e G ⟨rfl,B⟩;have Z:X a.heap.size a G:=X.tn bf (B.mono (by first|(simp only[H.size_drew];omega)|exact(by with_reducible assumption:X a.heap.size a _).size)))
     | (go_at_call 64;(with_reducible refine(A _ (L.out.E.below bf)).mono ?_);rintro e G ⟨rfl,B⟩;have Z:X a.heap.size a G:=X.tn bf (B.mono (by first|(simp only[H.size_drew];omega)|exact(by with_reducible assumption:X a.heap.size a _).size))))
   all_goals go_wp2
   all_goals refine bd (results_tmp3 rfl _ _ _) rfl ?_
   all_goals exact⟨by rw[r.out];rfl,J.out.tn (Z.mono J.out.size)⟩
def vY(b:aC)(e:Int×Int)(a:Int):Int:=(nJ b.rf b.rh b.ch e a+(b.rh-e.2)-1)/(b.rh-e.2)
def qG(b:aC):Int->List (Int×Int)->Int
 | uB,[]=>uB
 | uB,e::r=>qG b (max (max uB (vY b e (-1))) (vY b e 1)) r
def H8(b:aC)(uB:Int)(l:List (Int×Int))(k:Nat)(hk:k<l.length):qG b uB (l.drop k)=qG b (max (max uB (vY b (l.getD k (0,0)) (-1))) (vY b (l.getD k (0,0)) 1)) (l.drop (k+1)):=by
 rw[fx hk];have e:l.getD k (0,0)=l[k]:=by simp[List.getD,iv hk]
 rw[e];rfl
def ve(b:aC)(l:pK):Int×Int:=if ay b l≠0 then(0,ay b l)else(qG b 0 l.E,0)
def Tl(p:Int×Int)(w:H)(e:Ending)(w':H):Prop:=e=.returned (.tuple #[.int .i64 p.1,.int .i64 p.2])/\X w w w'
def int_eq{k:IntKind}{a b:Int}(h:a=b):M.int k a=.int k b:=by rw[h]
def ZD(a b c:Int)(j:Nat):Int:=if j=0 then a else if j=1 then b else c
theorem Ia(b:aC)(l:pK)(w:H)(v:aI w b l)(a9:aD w)(A:ay b l=0:=by kernel_rfl):
  PH F 29 #[b.v] w (Tl (ve b l) w):=by
 have a6:=Hm v;have b7:=Hm a9;have a8:=v.E.1;have b0:=v.E.2.2.1;clear v a9;have a1:=λa (u:aI a b l) (h2:aD a)=>cG b l a u h2
 .have hk:=bP A;simp only[A]at a1;obtain⟨P,Q,R,S,c5,c6,T,U,c9⟩:=wL hk.2.1;have B:=λ(h:Nat) (s:h<l.E.length) (a4:Int) (s1: -1<=a4) (s2:a4<=1) a (r:bp a b.E l.E)=>Dt b P Q R S T U h a4 s1 s2 l.E s (by have:=qY hk.2.2.2.1 h s;omega) (by have:=qY hk.2.2.2.1 h s;omega) (qY hk.2.2.2.1 h s).2.2.1 (qY hk.2.2.2.1 h s).2.2.2.1 a r;have b1:=Hm (qY hk.2.2.2.1);have b2:PQ (ve b l=(qG b 0 l.E,0)):=by
   unfold ve;rw[qVB (by simp[A])];exact rfl
  have c8:b.E.n<=1000:=zz;have a5:=Hm a8;clear A hk a8 b0;unfold aC.v at a1 B|-;go_enter Tryz.func29,Tryz.ntmps29;go_wp2_with (go_at_call 51;refine(a1 _ (aq a6.out _) (ai b7.out _)).mono ?_;rintro e a ⟨rfl,V⟩;obtain⟨c',d3⟩:=aU V;have G:=di V;have d6:w.heap.size<a.heap.size:=(by have:=V.size;simp only[aa]at this;omega));have a7:=Hm (a6.out.below G);go_loopw [22,2] (λi f wr=>∃(k:Nat) (uB:Int),k<=b.E.n/\i=.int .i64 k/\f=.int .i64 uB/\X a.heap.size a wr/\PQ (qG b 0 l.E=qG b uB (l.E.drop k))) (λi _ _=>b.E.n-(intOf i).toNat)
  case atStart=>exact⟨0,0,zz,rfl,rfl,by exact bt,rfl⟩
  case round=>
   obtain⟨k,uB,hk,rfl,rfl,t,a'⟩:=hrel;have a3:=t.size;by_cases d4:k<b.E.n
   .have z:k<l.E.length:=by have:=a5.out;omega
    have L:=Hm (H8 b uB l.E k z);obtain⟨q1,q2,q3,q4,q5⟩:=b1.out k z;have C:=λa r=>B k z (-1) zz zz a r;have E:=λa r=>B k z 1 zz zz a r;clear B;have N:=Br (x:=(l.E.getD k (0,0)).1) (y:=(l.E.getD k (0,0)).2) P Q R S T U (show -1<=(-1:Int) by omega) zz zz zz q3 q4;have O:=Br (x:=(l.E.getD k (0,0)).1) (y:=(l.E.getD k (0,0)).2) P Q R S T U (show -1<=(1:Int) by omega) zz zz zz q3 q4;have e0:((l.E.getD k (0,0)).1,(l.E.getD k (0,0)).2)=l.E.getD k (0,0):=rfl;rw[e0]at N O;have o:PQ (vY b (l.E.getD k (0,0)) (-1)=(nJ b.rf b.rh b.ch (l.E.getD k (0,0)) (-1)+(b.rh-(l.E.getD k (0,0)).2)-1)/(b.rh-(l.E.getD k (0,0)).2)):=rfl;have q:PQ (vY b (l.E.getD k (0,0)) 1=(nJ b.rf b.rh b.ch (l.E.getD k (0,0)) 1+(b.rh-(l.E.getD k (0,0)).2)-1)/(b.rh-(l.E.getD k (0,0)).2)):=rfl;clear e0 q1 q2;generalize nJ b.rf b.rh b.ch (l.E.getD k (0,0)) (-1)=c2 at C N o;generalize nJ b.rf b.rh b.ch (l.E.getD k (0,0)) 1=c3 at E O q;generalize vY b (l.E.getD k (0,0)) (-1)=c at L o;generalize vY b (l.E.getD k (0,0)) 1=m at L q;generalize(l.E.getD k (0,0)).2=y at C E o q q3 q4 q5;obtain⟨b3,b4⟩:=N;obtain⟨b5,b6⟩:=O;obtain⟨d,a2⟩:∃d:Int,b.rh-y=d:=⟨_,rfl⟩;have d1:1<=d:=zz;have d2:d<=100:=zz;simp only[a2]at C E;have K:=Hm a2;clear a2;have b8:PQ (c=(c2+d-1)/d):=by have:=o.out;rw[K.out]at this;exact this
    have b9:PQ (m=(c3+d-1)/d):=by have:=q.out;rw[K.out]at this;exact this
    clear o q K;obtain⟨W,c1⟩:∃W,W=wr:=⟨_,rfl⟩;subst c1;go_wp2;go_loopw [27,2] (λj f w2=>∃n:Nat,n<=2/\j=.int .i64 n/\f=.int .i64 (ZD uB (max uB c) (max (max uB c) m) n)/\X (W.heap.size+1) (W.alloc (.cells #[.int .i64 (-1),.int .i64 1] 3)) w2) (λj _ _=>2-(intOf j).toNat)
    case atStart=>exact⟨0,zz,rfl,rfl,by exact bt⟩
    case round=>
     obtain⟨n,d5,rfl,rfl,g⟩:=hrel;have J:=bT g;have a0:(W:Nat)+1<=wr:=by have:=g.size;rw[aa]at this;exact this
     have b':wr (W.heap.size,0)=Y (.int .i64 (-1))/\wr (W.heap.size,1)=Y (.int .i64 1):=by
      have u:=Sp W (.cells #[.int .i64 (-1),.int .i64 1] 3);exact⟨(g.cell (p:=⟨W.heap.size,0,I⟩) (by show W.heap.size<_;omega)).tn (by rw[H.cell?,u];rfl),(g.cell (p:=⟨W.heap.size,1,I⟩) (by show W.heap.size<_;omega)).tn (by rw[H.cell?,u];rfl)⟩
     obtain⟨c4,c7⟩:=b';rcases(show n=0\/n=1\/n=2 from zz)with rfl|rfl|rfl
     .go_wp2_with (go_at_call 65;refine(C _ (a7.out.E.below (t.tn (J.mono a3)))).mono ?_;rintro e v1 ⟨rfl,Z⟩);go_roundw
      case rel=>exact⟨1,zz,by first|rfl|go_num,int_eq (by rw[<- b8.out];show(if uB<c then c else uB)=max uB c;rw[Int.max_def];split<;>split<;>omega),g.tn (Z.mono a0)⟩
      case measure=>simp[intOf]
     .go_wp2_with (go_at_call 65;refine(E _ (a7.out.E.below (t.tn (J.mono a3)))).mono ?_;rintro e v1 ⟨rfl,Z⟩);go_roundw
      case rel=>exact⟨2,zz,by first|rfl|go_num,int_eq (by rw[<- b9.out];show(if max uB c<m then m else max uB c)=max (max uB c) m;rw[Int.max_def (max uB c)];split<;>split<;>omega),g.tn (Z.mono a0)⟩
      case measure=>simp[intOf]
     .go_wp2;go_roundw
      case rel=>exact⟨k+1,max (max uB c) m,zz,by go_num,int_eq rfl,t.tn (J.mono a3),a'.out.tn L.out⟩
      case measure=>simp[intOf];omega
   .obtain rfl:k=b.E.n:=zz;go_wp2;go_ret2;exact⟨by rw[b2.out,a'.out];have:=a5.out;simp[this,qG],G.tn (t.mono G.size)⟩
variable{B e size n:Nat}{v:M}{xs:List M}
def Ve(b:aC)(e:Int×Int):Bool:=jC b e (-1)||jC b e 1
def JC(b:aC)(E:List (Int×Int))(st:List Int×Int)(k:Nat):List Int×Int:=
 if Ve b (E.getD k (0,0))=true then(st.1++[(k:Int)],if st.2<0\/(E.getD k (0,0)).2<(E.getD st.2.toNat (0,0)).2 then(k:Int)else st.2)else st
def kL(b:aC)(E:List (Int×Int))(k:Nat):List Int×Int:=(List.range k).foldl (JC b E) ([], -1)
def AT(b:aC)(E:List (Int×Int))(k:Nat):kL b E (k+1)=JC b E (kL b E k) k:=by simp[kL,List.range_succ]
def JD(b:aC)(E:List (Int×Int)):∀k,(kL b E k).1.length<=k/\ -1<=(kL b E k).2/\(kL b E k).2<k
 | 0=>by simp[kL]
 | k+1=>by
  have a:=JD b E k;rw[AT,JC];split
  .refine⟨by simp;omega,?_,?_⟩<;>(dsimp only;split<;>omega)
  .omega
def rK{w w':H}(h:w.ownsRow B e size v n xs)(i:X w w w'):w'.ownsRow B e size v n xs:=by
 refine⟨h.1,h.2.imp id ?_⟩;rintro⟨g,b,c,d,h2,a,f⟩;exact⟨g,b,c,d,h2,(i.block g (ec.1 a).1).tn a,f⟩
def vf(h:w.ownsRow B e size v n xs)(k:Nat):(w.drewN k).ownsRow B e size v n xs:=h
def Xm{w2 w3:H}{o:Obj}{g i:Nat}(b:(w2.alloc o).grownBy w3 v.ownBlock)(a:g<w2)(c:v.ownBlock≠Y g):w3 (g,i)=w2 (g,i):=
 H.cell?_of_block ((b.block g (by rw[aa];omega) (λe=>c e.symm)).tn (QR _ _ a))
def PU(h:w.ownsRow B e size v n xs)(d:g<B):v.ownBlock≠Y g:=by
 rcases h.2 with⟨rfl,-⟩|⟨b,a,c,rfl,h2,-⟩
 .simp[M.ownBlock]
 .simp[M.ownBlock];omega
def Xn(h:w.ownsRow B e size v n xs)(d:w.heap.size<=g):v.ownBlock≠Y g:=by
 rcases h.2 with⟨rfl,-⟩|⟨b,a,c,rfl, -, h2,-⟩
 .simp[M.ownBlock]
 .have:=(ec.1 h2).1;simp[M.ownBlock];omega
def AU(b:aC)(l:pK):List Int×Int×Int:=if ay b l≠0 then([],0,ay b l)else((kL b l.E l.E.length).1,(kL b l.E l.E.length).2,0)
def EN(p:List Int×Int×Int)(w:H)(e:Ending)(w':H):Prop:=
 ∃A c,e=.returned (.tuple #[.slice A p.1.length c,.int .i64 p.2.1,.int .i64 p.2.2])/\w'.ownsRow w.heap.size 3 1 (.slice A p.1.length c) p.1.length (p.1.map (M.int .i64))/\X w w w'
theorem MG(b:aC)(l:pK)(w:H)(O:aI w b l)(b8:aD w)(s:ay b l=0:=by kernel_rfl):
  PH F 28 #[b.v] w (EN (AU b l) w):=by
 obtain⟨i0,hi,e7,e8,e9⟩:=info_parts vD;have W:=Hm O;have b4:=Hm b8;have b7:=O.E.1;have d6:=O.E.2.2.1;clear O b8;have K:=λa (h1:aI a b l) (h2:aD a)=>cG b l a h1 h2
 .have hk:=bP s;simp only[s]at K;have C:∀(k:Nat),k<b.E.n->∀a,aI a b l->aD a->PH F 27 #[b.v,.int .i64 k] a λe w'=>e=.returned (.tuple #[.bool (jC b (l.E.getD k (0,0)) (-1)),.bool (jC b (l.E.getD k (0,0)) 1),.int .i64 0])/\X a a w':=λk hk a h1 h2=>
   (Au b l k a h1 h2 s (by simp[ax];omega)).mono λe w' c2=>by
    have e1:sv b l k=(jC b (l.E.getD k (0,0)) (-1),jC b (l.E.getD k (0,0)) 1,0):=by
     unfold sv;rw[qVB (by simp[s]),qVB (by simp[ax];omega)];exact rfl
    rw[e1]at c2;exact c2
  have c':PQ (AU b l=((kL b l.E l.E.length).1,(kL b l.E l.E.length).2,0)):=by
   unfold AU;rw[qVB (by simp[s])];exact rfl
  have f1:b.E.n<=1000:=zz;have e0:b.E.n<=b.E.c:=by have:=W.out.E.2.1;omega
  have U:=Hm b7;clear s hk b7 d6;unfold aC.v at K C|-;obtain⟨a0,a4⟩:∃a0,b.E.A=a0:=⟨_,rfl⟩;simp only[a4]at K C|-;have b2:=Hm a4;clear a4;go_enter Tryz.func28,Tryz.ntmps28;go_wp2_with (go_at_call 51;refine(K _ (aq W.out _) (ai b4.out _)).mono ?_;rintro e a ⟨rfl,t⟩;obtain⟨d8,d'⟩:=aU t;have G:=di t;have c8:w.heap.size<a.heap.size:=(by have:=t.size;simp only[aa]at this;omega));have d3:PQ (aK a w 31 b):=(t.block _ (by rw[aa];omega)).tn ((Sp _ _).tn (by rw[aE,b2.out]));have Z:=Hm (W.out.below G);have b5:=Hm (b4.out.below G);clear d8 d' t;go_loopw [2,3,19] (λv lw i wr=>∃(k:Nat) (A:Option Addr) (J:Nat),k<=b.E.n/\i=.int .i64 k/\v=.slice A (kL b l.E k).1.length J/\lw=.int .i64 (kL b l.E k).2/\wr.ownsRow a.heap.size 3 1 v (kL b l.E k).1.length ((kL b l.E k).1.map (M.int .i64))/\X a.heap.size a wr) (λ_ _ i _=>b.E.n-(intOf i).toNat)
  case atStart=>exact⟨0,I,0,zz,rfl,rfl,rfl,H.ownsRow_nil _ _ _ _,by exact bt⟩
  case round=>
   obtain⟨k,A,J,hk,rfl,rfl,rfl,o,f⟩:=hrel;have c5:=f.size;have e6:(w:Nat)<wr:=zz;have b9:aK wr w 31 b:=(f.block _ c8).tn d3.out;obtain⟨x0,x1,x2,x3,x4,x5,x6,x7,x8,x9,f6,c9,f8⟩:=aM b9;clear b9;obtain⟨n1,n2,n3⟩:=JD b l.E k;by_cases d0:k<b.E.n
   .have e2:k<l.E.length:=by have:=U.out;omega
    have P:=C k d0;clear C;have c:=AT b l.E k;obtain⟨n,off,b6,a6,a7⟩:=Z.out.E.2.2.2 zz;rw[b2.out]at b6 c9;subst b6;have d7:n<wr.heap.size:=zz;have f2:n<wr.heap.size+1:=zz;have b1:PQ (∀j,j<l.E.length->wr (n,off+j*2)=Y (.int .i64 (l.E.getD j (0,0)).1)/\wr (n,off+j*2+1)=Y (.int .i64 (l.E.getD j (0,0)).2)):=λj N=>⟨(f.cell (p:=⟨n,_,I⟩) a6).tn (a7 j N).1,(f.cell (p:=⟨n,_,I⟩) a6).tn (a7 j N).2⟩;clear a7;obtain⟨d4,d5⟩:=b1.out k e2;obtain⟨st,c4⟩:∃st,kL b l.E k=st:=⟨_,rfl⟩;obtain⟨L,R⟩:=st;simp only[c4]at o n1 n2 n3 c|-;clear c4;have e1:Ve b (l.E.getD k (0,0))=(jC b (l.E.getD k (0,0)) (-1)||jC b (l.E.getD k (0,0)) 1):=rfl;unfold JC at c;rw[e1]at c;clear e1;generalize jC b (l.E.getD k (0,0)) (-1)=x at P c;generalize jC b (l.E.getD k (0,0)) 1=y at P c;generalize(l.E.getD k (0,0)).1=e1 at d4;generalize(l.E.getD k (0,0)).2=a3 at d5 c;cases E:(x||y)
    .rw[E,qVB ss]at c;have g:=Hm c;have e':=Hm E;obtain⟨rfl,rfl⟩:x=false/\y=false:=by simpa using E
     clear c E;go_wp2_with (go_at_call 27;refine(P _ (aq (Z.out.below f) _) (ai (b5.out.below f) _)).mono ?_;rintro e w2 ⟨rfl,d⟩;obtain⟨b',b0⟩:=aU d);go_roundw
     case rel=>exact⟨k+1,A,J,zz,by go_num,by rw[g.out],by rw[g.out],by rw[g.out];exact rK o (aY d),f.tn ((aY d).mono c5)⟩
     case measure=>simp[intOf];omega
    .rw[E,qWB rfl]at c;have g:=Hm c;clear c;go_wp2_with (first|(go_at_call 27;refine(P _ (aq (Z.out.below f) _) (ai (b5.out.below f) _)).mono ?_;rintro e w2 ⟨rfl,d⟩;obtain⟨b',b0⟩:=aU d;have f4:=(aY d).size)|(at_builtin;refine wpList_append_own _ rfl _ _ 24 rfl a.heap.size 3 i0 (.int .i64 0) 1 8 Tryz.underlying24 hi e7 e8 e9 rfl dd _ _ _ rfl ((rK o (aY d)).alloc _) ⟨w2.heap.size,0,I⟩ 1 1 [.int .i64 k] rfl rfl (cell_one_new _ _ _) (λx c7=>by simp at c7;subst c7;rfl) (by unfold maxLen;omega) zz so ?_;intro v' S a9 u e4));rotate_left 2
     .exfalso;simp_all
     all_goals
      have a5:=aY d;have k0:S (wr.heap.size,1)=Y (.int .i64 a3):=by
       rw[Xm u (by have:=d.size;rw[aa]at this;omega) (Xn o (qN _)),d.cell (p:=⟨wr.heap.size,1,I⟩) (by simp only[aa];omega),H.cell?,Sp];rfl
      have k1:S (w.heap.size,11)=Y (.slice (Y (n,off)) b.E.n b.E.c):=by
       rw[Xm u zz (PU o c8),a5.cell (p:=⟨w.heap.size,11,I⟩) e6];exact c9
      have d1:PQ (∀j,j<l.E.length->S (n,off+j*2+1)=Y (.int .i64 (l.E.getD j (0,0)).2)):=λj N=>by
       rw[Xm u zz (PU o a6),a5.cell (p:=⟨n,off+j*2+1,I⟩) d7];exact(b1.out j N).2
      have f5:(wr:Nat)<w2:=by have:=d.size;rw[aa]at this;omega
      have c1:X a a S:=(f.tn (a5.mono c5)).tn ((X.refl _ _).alloc zz _ |>.grown u (by simp only[aa];omega) (λq e5=>(o.lt q e5).1));obtain⟨T,c3,c6⟩:=tK a9;have V:=Hm c1;have a1:=Hm a9;have a2:=Hm c6;clear a9 u e4 c6 c1 b' b0;by_cases a8:R<0
      .have d9:decide (R<0)=true:=decide_eq_true a8;go_quiet ((fail));go_wp2;go_roundw
       case rel=>exact⟨k+1,T,c3,zz,by go_num,by rw[g.out,a2.out];simp,by rw[g.out];simp[a8],by rw[g.out];exact vf (by simpa using a1.out) _,below_drewN V.out _⟩
       case measure=>simp[intOf];omega
      .obtain⟨m,rfl⟩:∃m:Nat,R=(m:Int):=⟨R.toNat,zz⟩;have d9:decide ((m:Int)<0)=false:=decide_eq_false a8;have f3:(m:Int)<b.E.n:=zz;have e3:m<l.E.length:=by have:=U.out;omega
       have k2:=d1.out m e3;have Q:=g.out;rw[ll]at Q;generalize(l.E.getD m (0,0)).2=z at k2 Q;have r:=Hm Q;clear Q g;go_quiet ((fail));go_wp2
       .have a':a3<z:=by with_reducible assumption
        go_roundw
        case rel=>exact⟨k+1,T,c3,zz,by go_num,by rw[r.out,a2.out];simp,by rw[r.out];simp[a'],by rw[r.out];exact vf (by simpa using a1.out) _,below_drewN V.out _⟩
        case measure=>simp[intOf];omega
       .have a':¬a3<z:=zz;go_roundw
        case rel=>exact⟨k+1,T,c3,zz,by go_num,by rw[r.out,a2.out];simp,by rw[r.out];simp[a'];intro h;omega,by rw[r.out];exact vf (by simpa using a1.out) _,below_drewN V.out _⟩
        case measure=>simp[intOf];omega
   .obtain rfl:k=b.E.n:=zz;clear C;go_wp2;refine bd (results_tmp3 rfl _ _ _) rfl ?_;have d2:=U.out;have b3:=c'.out;rw[<- d2]at b3;rw[b3];exact⟨A,J,rfl,dy (B:=a.heap.size) zz o,G.tn (f.mono G.size)⟩
theorem pE(b:aC)(l:pK)(sh:Int)(s:Sl)(d:List Int)(w:H)(o:aI w b l)(k:aD w)(n:eC w s d):
  PH F 18 #[b.v,aF sh s] w (wN (dI b l sh d) w):=by
 have c:=λa i h2 j=>sO b l sh s d a i h2 j;by_cases g:ay b l=0
 .by_cases h:r7 b.S sh d=0
  .have:=Bq b l sh s d w o k n g h;rw[dI,qVB (by simp[g]),qVB (by simp[h])];exact this
  .have v:=Hm o;have u:=Hm k;have r:=Hm n;clear o k n;have c:∃ik f,∀a,aI a b l->aD a->eC a s d->PH F 47 #[b.v,aF sh s] a λe w'=>e=.returned (.tuple #[b.v,gN ik f,.int .i64 (r7 b.S sh d)])/\X a a w':=⟨0,mI,λa i h2 j=>
    (c a i h2 j).mono λe w' x=>by
     obtain⟨p,y⟩:=x;rw[qWB g,qVB h]at p;exact⟨p,y⟩⟩
   obtain⟨ik,f,c⟩:=c;have t:PQ (dI b l sh d=(false,r7 b.S sh d)):=by
    unfold dI;rw[qVB (by simp[g]),qWB (by simpa using h)];exact rfl
   have C:(r7 b.S sh d != 0)=true:=by simpa using h
   clear g h;unfold aC.v at c|-;unfold aF at c|-;unfold gN at c;go_enter Tryz.func18,Tryz.ntmps18;go_wp2_with (first|(go_at_call 47;refine(c _ (aq (aq v.out _) _) (ai (ai u.out _) _) (aZ (aZ r.out _) _)).mono ?_;rintro e a ⟨rfl,m⟩;obtain⟨z,A⟩:=aU m;have q:=cB m;have B:=q.size));go_ret2;rw[t.out];exact⟨rfl,by exact bt⟩
 .have v:=Hm o;have u:=Hm k;have r:=Hm n;clear o k n;have c:∀a,aI a b l->aD a->eC a s d->PH F 47 #[b.v,aF sh s] a λe w'=>e=.returned (.tuple #[bI.v,gN 0 mI,.int .i64 (ay b l)])/\X a a w':=λa i h2 j=>
   (c a i h2 j).mono λe w' x=>by
    obtain⟨p,y⟩:=x;rw[qVB g]at p;exact⟨p,y⟩
  have t:PQ (dI b l sh d=(false,ay b l)):=by
   unfold dI;rw[qWB (by simpa using g)];exact rfl
  have E:(ay b l != 0)=true:=by simpa using g
  clear g;unfold aC.v at c|-;unfold aF at c|-;unfold gN bI iy at c;simp only at c;go_enter Tryz.func18,Tryz.ntmps18;go_wp2_with (first|(go_at_call 47;refine(c _ (aq (aq v.out _) _) (ai (ai u.out _) _) (aZ (aZ r.out _) _)).mono ?_;rintro e a ⟨rfl,m⟩;obtain⟨z,A⟩:=aU m;have q:=cB m;have B:=q.size));go_ret2;rw[t.out];exact⟨rfl,by exact bt⟩
end Go.Proofs.YtfdbdkhgaajdoaaGreatDoor
