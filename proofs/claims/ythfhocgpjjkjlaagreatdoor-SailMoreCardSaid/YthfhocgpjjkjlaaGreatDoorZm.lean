import Derived.Test.YthfhocgpjjkjlaaGreatDoorZk
import Derived.RegionTactic
import Derived.BigRegion
import Derived.StillTailTactics
import Derived.BigQuiet
import Derived.WalkMore
import Derived.Deep.RegionHeld3
set_option maxRecDepth 100000
set_option maxHeartbeats 4000000
set_option linter.all false
noncomputable section
open Go.Proofs.Tryz renaming prog->F
open Go renaming World->H,undef->Hc,execOp->Hn,Oper->Kp,TypeId->Lk,Code->Ly,Value->M,Calls->PH,Program->Ps,heap_alloc_old->QR,heap_alloc_new->Sp,resolve->ab,Operand->ae,bodyPost_ret->bd
open Go.Lib renaming hid->Hm
open Option renaming none->I,some->Y
open Go.RowKit renaming Hid->PQ,Below->X
namespace Go.Proofs.YthfhocgpjjkjlaaGreatDoor
open Go.RowKit
def oK(b:aC)(l:pK):Int×Int:=if ay b l≠0 then(0,ay b l)else((((aJ b l b.D.toNat).length:Nat):Int),0)
def oL(p:Int×Int)(w:H)(e:Ending)(w':H):Prop:=e=.returned (.tuple #[.int .i64 p.1,.int .i64 p.2])/\X w w w'
theorem vG(b:aC)(l:pK)(w:H)(hl:aI w b l)(n:aD w)(d:ay b l=0:=by kernel_rfl):
  PH F 6 #[b.v] w (oL (oK b l) w):=by
 have m:=Hm hl;have o:=Hm n;clear hl n;have i:=λa (g:aI a b l) (h2:aD a)=>cG b l a g h2
 .simp only[d]at i;have j:=λa (g:aI a b l)=>sQ b l d a g;have k:PQ (oK b l=((((aJ b l b.D.toNat).length:Nat):Int),0)):=by
   unfold oK;rw[PQ,qVB (by simp[d])]
  have q:(aJ b l b.D.toNat).length<=1296:=by
   obtain⟨x,s,y,z,B,C,E,G,J,r,-⟩:=cS (bP d).1;exact qO (nn _ _) (nH s r zz)
  generalize aJ b l b.D.toNat=L at j k q;clear d;unfold aC.v at i j|-;go_enter Tryz.func6,Tryz.ntmps6;go_wp2_with (first|(go_at_call 30;refine(i _ (aq m.out _) (ai o.out _)).mono ?_;rintro e a ⟨rfl,h⟩;obtain⟨t,u⟩:=aU h;have f:=di h;have v:w.heap.size<a.heap.size:=(by have:=h.size;simp only[aa]at this;omega))|(go_at_call 31;refine(j _ (m.out.below f)).mono ?_;rintro e K ⟨A,c,rfl, -, p⟩));go_ret2;exact⟨by rw[k.out];rfl,f.tn (p.mono f.size)⟩
variable{w:H}{g:Nat}{t:Lk}{a0 a1 a2 a3 a4 a5 a6 a7 a8 a9 a10 a11 a12 a13 a14:M}
def uC(b:aC)(s:Sl)(m:Option Nat):M:=.agg #[.int .i64 b.S,.int .i64 b.D,.int .i64 b.L,.int .i64 b.lo,.int .i64 b.hi,.slice b.C.A b.C.n b.C.c,.int .i64 b.rf,.int .i64 b.rh,.int .i64 b.cf,.int .i64 b.ch,.slice b.U.A b.U.n b.U.c,.slice b.E.A b.E.n b.E.c,.slice b.W.A b.W.n b.W.c,.slice s.A s.n s.c,.map m]
def bJ{g i:Nat}{cs:Array M}(h:w.heap[g]?=Y (.cells cs t (0,0)))(v:M):(w.setCell (g,i) v).heap[g]?=Y (.cells (cs.setIfInBounds i v) t (0,0)):=by
 simp[H.setCell,nc,h]
def Bs(a b k l m n o q r s c d e f j:M)(h:w.heap[g]?=Y (.cells #[a0,a1,a2,a3,a4,a5,a6,a7,a8,a9,a10,a11,a12,a13,a14] t (0,0))):
  (((((((((((((((w.setCell (g,0) a).setCell (g,1) b).setCell (g,2) k).setCell (g,3) l).setCell (g,4) m).setCell (g,5) n).setCell (g,6) o).setCell (g,7) q).setCell (g,8) r).setCell (g,9) s).setCell (g,10) c).setCell (g,11) d).setCell (g,12) e).setCell (g,13) f).setCell (g,14) j).heap[g]?=Y (.cells #[a,b,k,l,m,n,o,q,r,s,c,d,e,f,j] t (0,0))/\aS (λx=>x≠g) w (((((((((((((((w.setCell (g,0) a).setCell (g,1) b).setCell (g,2) k).setCell (g,3) l).setCell (g,4) m).setCell (g,5) n).setCell (g,6) o).setCell (g,7) q).setCell (g,8) r).setCell (g,9) s).setCell (g,10) c).setCell (g,11) d).setCell (g,12) e).setCell (g,13) f).setCell (g,14) j):=
 by
  have u:=bJ (i:=0) h a;simp only[zS]at u;have v:=bJ (i:=1) u b;simp only[zS]at v;have h2:=bJ (i:=2) v k;simp only[zS]at h2;have E:=bJ (i:=3) h2 l;simp only[zS]at E;have G:=bJ (i:=4) E m;simp only[zS]at G;have J:=bJ (i:=5) G n;simp only[zS]at J;have K:=bJ (i:=6) J o;simp only[zS]at K;have L:=bJ (i:=7) K q;simp only[zS]at L;have N:=bJ (i:=8) L r;simp only[zS]at N;have O:=bJ (i:=9) N s;simp only[zS]at O;have y:=bJ (i:=10) O c;simp only[zS]at y;have z:=bJ (i:=11) y d;simp only[zS]at z;have A:=bJ (i:=12) z e;simp only[zS]at A;have B:=bJ (i:=13) A f;simp only[zS]at B;have C:=bJ (i:=14) B j;simp only[zS]at C;exact⟨C,((((((((((((((((aS.refl _ _).set (p:=⟨g,0,I⟩) (λ_ h=>h rfl) a).set (p:=⟨g,1,I⟩) (λ_ h=>h rfl) b).set (p:=⟨g,2,I⟩) (λ_ h=>h rfl) k).set (p:=⟨g,3,I⟩) (λ_ h=>h rfl) l).set (p:=⟨g,4,I⟩) (λ_ h=>h rfl) m).set (p:=⟨g,5,I⟩) (λ_ h=>h rfl) n).set (p:=⟨g,6,I⟩) (λ_ h=>h rfl) o).set (p:=⟨g,7,I⟩) (λ_ h=>h rfl) q).set (p:=⟨g,8,I⟩) (λ_ h=>h rfl) r).set (p:=⟨g,9,I⟩) (λ_ h=>h rfl) s).set (p:=⟨g,10,I⟩) (λ_ h=>h rfl) c).set (p:=⟨g,11,I⟩) (λ_ h=>h rfl) d).set (p:=⟨g,12,I⟩) (λ_ h=>h rfl) e).set (p:=⟨g,13,I⟩) (λ_ h=>h rfl) f).set (p:=⟨g,14,I⟩) (λ_ h=>h rfl) j)⟩
def gH(h:w.heap[g]?=Y (.cells #[a0,a1,a2,a3,a4,a5,a6,a7,a8,a9,a10,a11,a12,a13,a14] t (0,0))):
  w.cell? ⟨g,0,I⟩=Y a0/\w.cell? ⟨g,1,I⟩=Y a1/\w.cell? ⟨g,2,I⟩=Y a2/\w.cell? ⟨g,3,I⟩=Y a3/\w.cell? ⟨g,4,I⟩=Y a4/\w.cell? ⟨g,5,I⟩=Y a5/\w.cell? ⟨g,6,I⟩=Y a6/\w.cell? ⟨g,7,I⟩=Y a7/\w.cell? ⟨g,8,I⟩=Y a8/\w.cell? ⟨g,9,I⟩=Y a9/\w.cell? ⟨g,10,I⟩=Y a10/\w.cell? ⟨g,11,I⟩=Y a11/\w.cell? ⟨g,12,I⟩=Y a12/\w.cell? ⟨g,13,I⟩=Y a13/\w.cell? ⟨g,14,I⟩=Y a14:=by
 have key:∀i v,(#[a0,a1,a2,a3,a4,a5,a6,a7,a8,a9,a10,a11,a12,a13,a14]:Array M)[i]?=Y v->w.cell? ⟨g,i,I⟩=Y v:=λi v a=>by rw[H.cell?,h];exact a
 exact⟨key _ _ rfl,key _ _ rfl,key _ _ rfl,key _ _ rfl,key _ _ rfl,key _ _ rfl,key _ _ rfl,key _ _ rfl,key _ _ rfl,key _ _ rfl,key _ _ rfl,key _ _ rfl,key _ _ rfl,key _ _ rfl,key _ _ rfl⟩
def iG(b:aC)(s:Sl)(m:Option Nat):Array M:= #[.int .i64 b.S,.int .i64 b.D,.int .i64 b.L,.int .i64 b.lo,.int .i64 b.hi,.slice b.C.A b.C.n b.C.c,.int .i64 b.rf,.int .i64 b.rh,.int .i64 b.cf,.int .i64 b.ch,.slice b.U.A b.U.n b.U.c,.slice b.E.A b.E.n b.E.c,.slice b.W.A b.W.n b.W.c,.slice s.A s.n s.c,.map m]
def Gk(w:H)(g:Nat)(b:aC)(s:Sl)(m:Option Nat):Prop:=w.heap[g]?=Y (.cells (iG b s m) 99 (0,0))
def abo(c:Nat)(d:Array M)(b:aC)(v:Bool)(w:H):Prop:=∀a,X w w a->PH F c (#[b.v]++d) a λe w'=>e=.returned (.bool v)/\X a a w'
variable{wr wr':H}{B n c bb kb mb:Nat}{L:List gM}{b:aC}{s:Sl}{SS:List (Int×(Nat->Bool))}
def ko(h:Int)(L:List gM)(a:List Int):List gM:=a.foldl (λL n=>wD L (h,n)) L
def oN(b:aC)(l:pK)(x:Int×(Nat->Bool))(h:Nat):Nat->Bool:=eT b.S b.L x.1 x.2 (l.U.getD h (0,0))
def ku(b:aC)(l:pK)(x:Int×(Nat->Bool))(L:List gM)(a:List Nat):List gM:=a.foldl (λL (h:Nat)=>ko (h:Int) L (ie (oN b l x h) 12)) L
def lP(b:aC)(l:pK)(L:List gM)(xs:List (Int×(Nat->Bool))):List gM:=xs.foldl (λL x=>ku b l x L (List.range' 0 l.U.length)) L
def fN(b:aC)(l:pK):List gM:=lP b l [] (aJ b l b.D.toNat)
def jo(b:aC)(l:pK)(w:H)(e:Ending)(w':H):Prop:=∃A c r,e=.returned (.tuple #[uC b ⟨A,(aJ b l b.D.toNat).length,c⟩ (Y r),.int .i64 0])/\
 w'.ownsRow w.heap.size 82 13 (.slice A (aJ b l b.D.toNat).length c) (aJ b l b.D.toNat).length (Gf (aJ b l b.D.toNat))/\jm w' r (fN b l)/\w.heap.size<=r/\X w w w'
def Ja:∀(L:List (Int×(Nat->Bool))) (i j:Nat),i<L.length->j<13->(Gf L)[i*13+j]?=(zC (L.getD i (0,mI))).toList[j]?
 | [],i,j,hi,_=>by simp at hi
 | x::r,0,j,_,a=>by
  have hl:(zC x).toList.length=13:=rfl;simp only[Gf,lv,Nat.zero_mul,kx,List.getD_cons_zero];exact List.getElem?_append_left (by rw[hl];exact a)
 | x::r,i+1,j,hi,a=>by
  have hl:(zC x).toList.length=13:=rfl;have b:=Ja r i j (by simpa using hi) a;simp only[Gf,lv,List.getD_cons_succ]at b|-;rw[List.getElem?_append_right (by rw[hl];omega),hl,show(i+1)*13+j-13=i*13+j by omega];exact b
def wO{B g n c:Nat}{L:List (Int×(Nat->Bool))}(h:w.ownsRow B 82 13 (.slice (Y (g,0)) n c) n (Gf L))(b:n=L.length){i:Nat}(hi:i<n)(j:Nat)(a:j<13):w (g,i*13+j)=(zC (L.getD i (0,mI))).toList[j]?:=by
 rw[h.cellAt (i*13+j) (by
  have:i*13+13<=n*13:=zz;omega),Ja L i j zz a]
structure lQ(w:H)(bb kb mb B:Nat)(b:aC)(s:Sl)(SS:List (Int×(Nat->Bool)))(wr:H)(L:List gM):Prop where
 box:aK wr bb 31 b
 res:wr.heap[bb+1]?=Y (.cells (iG bI iy I) 99 (0,0))
 kn:Gk wr kb b s (Y mb)
 own:wr.ownsRow B 82 13 (.slice s.A s.n s.c) s.n (Gf SS)
 map:jm wr mb L
 low:X w w wr
def lQ.below(h:lQ w bb kb mb B b s SS wr L)(a:X wr wr wr'):lQ w bb kb mb B b s SS wr' L:=
 have hk:=aS.dY (K:=λ_=>True) a (λ_ h _=>h)
 ⟨hk.get qYB h.box,hk.get qYB h.res,hk.get qYB h.kn,E5 h.own hk (λ_ _=>trivial),hk.get qYB h.map,h.low.tn (a.mono h.low.size)⟩
def lQ.kQ{L L':List gM}(h:lQ w bb kb mb B b s SS wr L)(d:w.heap.size<=mb)(h2:bb+1<mb)(e:mb<kb)(f:kb<B)(hk:aS (λx=>x≠mb) wr wr')(a:jm wr' mb L'):lQ w bb kb mb B b s SS wr' L':=
 ⟨hk.get zz h.box,hk.get zz h.res,hk.get zz h.kn,E5 h.own hk (λg c=>by have:=(h.own.lt g c).1;omega),a,h.low.tn (hk.below h.low.size (λx i=>zz))⟩
def Gm{r:Nat}(c:jm w r L)(k:Int×Int):∃(a b:H) (i:Nat),(Instr.lookup 97 (.map (Y r)) (gG k) false).run F w=.ok (.int .i64 (assoc L k)) w/\
  (Instr.mapEntry 97 (.map (Y r)) (gG k)).run F w=.ok (.tuple #[.int .i64 (assoc L k),.int .i64 i]) a/\(Instr.lookup 97 (.map (Y r)) (gG k) false).run F a=.ok (.int .i64 (assoc L k)) a/\
  (Instr.entryStore 97 (.map (Y r)) (.int .i64 i) (.int .i64 (wrap64 (assoc L k+1)))).run F a=.ok () b/\jm b r (wD L k)/\aS (λx=>x≠r) w b:=by
 have g:r<w.heap.size:=(ec.1 c).1;obtain⟨i,j,h2,m⟩:=Ll c k;have f:jm (w.putObj r (.map (jl (sS k L)).toArray (sS k L).length)) r (sS k L):=H.putObj_heap_same g;have d:=run_store f h2 (wrap64 (assoc L k+1));rw[<- m]at d;have n:=(aS.refl (λx=>x≠r) w).put (l:=r) (λ_ h=>h rfl) (.map (jl (sS k L)).toArray (sS k L).length);have e:=gd f k;rw[Lj]at e;exact⟨_,_,i,gd c k,j,e,d,H.putObj_heap_same (by simpa using g),n.put (λ_ h=>h rfl) _⟩
def Lm{A:Option Addr}{l:List Int}(h:w.ownsRow B 3 1 (.slice A n c) n (l.map (M.int .i64)))(e:n=l.length)(hl:l.length<=1000):eC w ⟨A,n,c⟩ l:=by
 subst e;rcases h.2 with⟨a,h2⟩|⟨g,f,i,a,h2,b,d,j,m,o⟩
 .have:l=[]:=List.eq_nil_of_length_eq_zero h2;subst this;exact⟨rfl,qT _,qT _,λh=>mi h ss⟩
 .simp only[lL]at a;obtain⟨rfl, -, rfl⟩:=a;refine⟨rfl,d,hl,λ_=>⟨g,0,rfl,(ec.1 b).1,λk hk=>?_⟩⟩;have:=h.cellAt k zz;rw[kx,this];simp[List.getD,iv hk]
theorem Ob(b:aC)(l:pK)(O:Nat)(f6:Array M)(i3:Enters F O)(w:H)(hl:aI w b l)(d9:aD w)(Z:ay b l=0)(e6:abo O f6 b true w)(h0:aJ b l b.D.toNat≠[]):
  PH F 44 #[b.v,.func (.func O) #[] f6] w (jo b l w):=by
 have N:=Hm hl;have g8:=Hm d9;have h3:=Hm e6;have d1:=Hm Z;have d3:PQ (fN b l=lP b l [] (aJ b l b.D.toNat)):=rfl;have J:=λa (E:aI a b l) (h2:aD a)=>cG b l a E h2;have a6:=λa (E:aI a b l)=>sQ b l Z a E;have b8:=λa (E:X w.heap.size w a)=>h3.out a E;have b7:∀x∈aJ b l b.D.toNat,b.lo<=x.1/\x.1<=b.hi:=λx u=>qn ((List.mem_filter.1 u).1);have k1:(aJ b l b.D.toNat).length<=1296:=by
  obtain⟨t1,t2,t3,t4,t5,t6,t7,t8,t9,b0,-⟩:=cS (bP Z).1;exact qO (nn _ _) (nH t2 b0 zz)
 unfold jo;generalize aJ b l b.D.toNat=d at a6 b7 k1 h0 d3|-;have h5:=Hm b7;have n6:0<d.length:=List.length_pos_iff.2 h0;have n4:((d.length:Int)==0)=false:=by simp;omega
 simp only[Z]at J;clear Z h0 hl d9 e6 b7;have k6:=@run_makeMap F;have i0:∀(args:Array M) (w:H),(callFunc O args).run F w=.ok (.enter O args) w:=i3;unfold aC.v at J b8 a6|-;go_enter Tryz.func44,Tryz.ntmps44
 go_wp2_with (first
  | (go_at_call 30;refine(J _ (aq (aq N.out _) _) (ai (ai g8.out _) _)).mono ?_;rintro e a ⟨rfl,P⟩;obtain⟨i4,j1⟩:=aU P;have n7:w.heap.size+2<=a.heap.size:=(by have:=P.size;simp only[aa]at this;omega);have k8:w.heap.size<a.heap.size:=zz;have k9:w.heap.size+1<a.heap.size:=zz;have B1:X w.heap.size w a:=(((X.refl _ w).alloc (qN _) _).alloc ss _).tn (P.mono so))
  | (go_at_fn O;refine(b8 _ (by exact bt)).mono ?_;rintro e s ⟨rfl,V⟩;obtain⟨i5,j2⟩:=aU V;have B2:X w.heap.size w s:=(((B1.alloc B1.size _).alloc so _)).tn (V.mono so);have n9:a.heap.size+2<=s.heap.size:=(by have:=V.size;simp only[aa]at this;omega);have k':a.heap.size+1<s.heap.size:=zz;have o1:w.heap.size+1<s.heap.size:=zz)
  | (go_at_call 31;refine(a6 _ (N.out.below B2)).mono ?_;rintro e G ⟨A,c,rfl,f3,W⟩;obtain⟨i6,j3⟩:=aU W;have n':=W.size;have n0:a.heap.size+1<G.heap.size:=zz;have o2:w.heap.size+1<G.heap.size:=zz;have T:=Hm f3;clear f3))
 obtain⟨g,rfl⟩:∃g,A=Y ⟨g,0,I⟩:=by
  rcases T.out.2 with⟨E,h2⟩|⟨g,m3,m5,E,-⟩
  .omega
  .simp only[lL]at E;exact⟨g,E.1⟩
 have a8:lQ w w.heap.size (a.heap.size+1) a.heap.size s.heap.size b ⟨Y ⟨g,0,I⟩,d.length,c⟩ d (G.setCell ⟨a.heap.size+1,13,I⟩ (.slice (Y ⟨g,0,I⟩) d.length c)) []:=by
  have k3:∀x,x<s.heap.size->G.heap[x]?=s.heap[x]?:=λx u=>W.block x u;have k2:∀x,x<a.heap.size+2->s.heap[x]?=((a.alloc (.map #[] 0)).alloc (.cells (iG b iy (Y a.heap.size)) 99)).heap[x]?:=λx u=>V.block x so;have b':∀x,x≠a.heap.size+1->(G.setCell ⟨a.heap.size+1,13,I⟩ (.slice (Y ⟨g,0,I⟩) d.length c)).heap[x]?=G.heap[x]?:=λx u=>X.heap_setCell _ _ _ _ u;have q0:a.heap[w.heap.size]?=Y (aE b 31):=(P.block _ so).tn ((QR _ _ ss).tn (Sp _ _));have q1:a.heap[w.heap.size+1]?=Y (.cells (iG bI iy I) 99 (0,0)):=(P.block _ ss).tn (by rw[<- aa w (aE b 31)];exact Sp _ _);have q2:((a.alloc (.map #[] 0)).alloc (.cells (iG b iy (Y a.heap.size)) 99)).heap[a.heap.size+1]?=Y (.cells (iG b iy (Y a.heap.size)) 99 (0,0)):=by rw[<- aa a (.map #[] 0)];exact Sp _ _
  have q3:((a.alloc (.map #[] 0)).alloc (.cells (iG b iy (Y a.heap.size)) 99)).heap[a.heap.size]?=Y (.map #[] 0):=(QR _ _ ss).tn (Sp _ _);have q4:=(k3 _ k').tn ((k2 _ zz).tn q2);have q5:=bJ (i:=13) q4 (.slice (Y ⟨g,0,I⟩) d.length c);refine⟨?_,?_,q5,?_,?_,?_⟩
  .exact(b' _ zz).tn ((k3 _ zz).tn ((k2 _ zz).tn ((QR _ _ so).tn ((QR _ _ k8).tn q0))))
  .exact(b' _ zz).tn ((k3 _ zz).tn ((k2 _ zz).tn ((QR _ _ so).tn ((QR _ _ k9).tn q1))))
  .refine E5 T.out (K:=λx=>x≠a.heap.size+1) ((aS.refl _ _).set (p:=⟨a.heap.size+1,13,I⟩) (λ_ h=>h rfl) _) (λg' a0=>?_);have:=(T.out.lt g' a0).1;omega
  .exact(b' _ zz).tn ((k3 _ zz).tn ((k2 _ zz).tn q3))
  .exact(B2.tn (W.mono B2.size)).setCell so _
 have c':=Hm a8;have m9:g<G.heap.size:=(T.out.lt g rfl).2;have m8:s.heap.size<=g:=(T.out.lt g rfl).1;generalize(G.setCell ⟨a.heap.size+1,13,I⟩ (.slice (Y ⟨g,0,I⟩) d.length c))=o' at a8 c'|-;clear a8 i4 j1 i5 j2 i6 j3 P V W k6 i0 J a6 b8;have m1:=Hm (N.out.below B1);have a':=Hm N.out.U.1;have m6:b.U.n<=1000:=by rw[a'.out];exact N.out.U.2.2.1
 go_loopw [41] (λv wr=>∃(i:Nat) (L:List gM),i<=d.length/\v=.int .i64 i/\lQ w w.heap.size (a.heap.size+1) a.heap.size s.heap.size b ⟨Y ⟨g,0,I⟩,d.length,c⟩ d wr L/\PQ (lP b l L (d.drop i)=lP b l [] d)) (λv _=>d.length-(intOf v).toNat)
 case atStart=>exact⟨0,[],zz,rfl,c'.out,rfl⟩
 case round=>
  obtain⟨i,L,hi,rfl,f,b1⟩:=hrel;obtain⟨m,rfl⟩:∃m:H,m=wr:=⟨_,rfl⟩;by_cases a5:i<d.length
  .obtain⟨x,u⟩:∃x,d.getD i (0,mI)=x:=⟨_,rfl⟩;have k5:x∈d:=by rw[<- u];simp[List.getD,iv a5]
   obtain⟨e1,e2⟩:=h5.out x k5;have e4:d.drop i=x::d.drop (i+1):=by
    rw[fx a5,<- u];simp[List.getD,iv a5]
   have q:∀j,j<13->m.cell? ⟨g,i*13+j,I⟩=(zC x).toList[j]?:=λj j'=>by
    have:=wO f.own rfl a5 j j';rw[u]at this;exact this
   have q0:m.cell? ⟨g,i*13,I⟩=Y (.int .i64 x.1):=q 0 zz;have q1:m.cell? ⟨g,i*13+1,I⟩=Y (.bool (x.2 0)):=q 1 zz;have q2:m.cell? ⟨g,i*13+2,I⟩=Y (.bool (x.2 1)):=q 2 zz;have q3:m.cell? ⟨g,i*13+3,I⟩=Y (.bool (x.2 2)):=q 3 zz;have q4:m.cell? ⟨g,i*13+4,I⟩=Y (.bool (x.2 3)):=q 4 zz;have q5:m.cell? ⟨g,i*13+5,I⟩=Y (.bool (x.2 4)):=q 5 zz;have q6:m.cell? ⟨g,i*13+6,I⟩=Y (.bool (x.2 5)):=q 6 zz;have q7:m.cell? ⟨g,i*13+7,I⟩=Y (.bool (x.2 6)):=q 7 zz;have q8:m.cell? ⟨g,i*13+8,I⟩=Y (.bool (x.2 7)):=q 8 zz;have q9:m.cell? ⟨g,i*13+9,I⟩=Y (.bool (x.2 8)):=q 9 zz;have l1:m.cell? ⟨g,i*13+10,I⟩=Y (.bool (x.2 9)):=q 10 zz;have l2:m.cell? ⟨g,i*13+11,I⟩=Y (.bool (x.2 10)):=q 11 zz;have l3:m.cell? ⟨g,i*13+12,I⟩=Y (.bool (x.2 11)):=q 12 zz;have f7:=(aM f.box).2.2.2.2.2.2.2.2.2.2.1;have n2:w.heap.size<m.heap.size:=f.box.lt;have m0:a.heap.size+1<m.heap.size:=(ec.1 f.kn).1;have h1:=Hm f;have h7:=Hm e4;clear q u e4 f;go_wp2;clear q0 q1 q2 q3 q4 q5 q6 q7 q8 q9 l1 l2 l3 f7;go_loopw [48] (λv S=>∃(h:Nat) (L2:List gM),h<=b.U.n/\v=.int .i64 h/\lQ w w.heap.size (a.heap.size+1) a.heap.size s.heap.size b ⟨Y ⟨g,0,I⟩,d.length,c⟩ d S L2/\vl S m.heap.size 82 x.1 x.2/\PQ (ku b l x L2 (List.range' h (b.U.n-h))=ku b l x L (List.range' 0 l.U.length))) (λv _=>b.U.n-(intOf v).toNat)
   case atStart=>
    refine⟨0,L,zz,rfl,h1.out.below ((X.refl _ _).alloc (qN _) _),?_,by rw[PQ,a'.out];rfl⟩;have:=vl.new m 82 x.1 x.2;exact this
   case round=>
    obtain⟨h,L2,m',rfl,f,C,b2⟩:=hrel;obtain⟨a7,rfl⟩:∃a7:H,a7=wr:=⟨_,rfl⟩;by_cases k4:h<b.U.n
    .have e9:h<l.U.length:=by rw[<- a'.out];exact k4
     obtain⟨t1,t2,t3,t4,t5,t6,t7,t8,t9,b0,-⟩:=cS (bP d1.out).1;obtain⟨p1,p2,p3,p4⟩:=kP (bP d1.out).2.2.1 h e9;have a3:=λw' (k7:Cf w' b.U l.U)=>qX b t1 t2 t5 t6 x.1 zz zz x.2 h l.U e9 p1 p2 p3 p4 w' k7;have e8:=λw'=>xQ (oN b l x h) w';have f4:List.range' h (b.U.n-h)=h::List.range' (h+1) (b.U.n-(h+1)):=by
      rw[show b.U.n-h=(b.U.n-(h+1))+1 by omega,List.range'_succ]
     have HR:=Hm f4;obtain⟨z0,z1,z2,z3,z4,z5,z6,z7,z8,z9,f8,f9,f',f0,c2⟩:=gH f.kn;obtain⟨s0,s1,s2,s3,s4,s5,s6,s7,s8,s9,l4,l9,l'⟩:=C.all;have o4:a.heap.size+1<a7.heap.size:=(ec.1 f.kn).1;have k0:=C.lt;have d2:=Hm f;have h4:=Hm C;have n3:=f.low.size;change ∀w',Cf w' b.U l.U->PH F 42 #[b.v,gN x.1 x.2,.int .i64 h] w' λe l0=>e=.returned (tJ (oN b l x h))/\X w'.heap.size w' l0 at a3;generalize d8:oN b l x h=n at a3 e8;have g4:=Hm d8;clear d8 t1 t2 t3 t4 t5 t6 t7 t8 t9 b0 p1 p2 p3 p4 f4 f0 c2 f C;unfold aC.v gN at a3
     go_wp2_with (first
      | (go_at_call 42;refine(a3 _ (N.out.U.below d2.out.low)).mono ?_;rintro e v1 ⟨rfl,a1⟩;obtain⟨i9,j4⟩:=aU a1)
      | (go_at_call 34;refine(e8 _).mono ?_;rintro e v2 ⟨A2,U,rfl,b6,a2⟩;obtain⟨i',j5⟩:=aU a2))
     have n8:=a1.size;have n5:(ie n 12).length<=12:=kO n 12;have d':eC v2 ⟨A2,(ie n 12).length,U⟩ (ie n 12):=Lm (by simpa using b6) rfl zz;have d6:∀y,I4 ⟨A2,(ie n 12).length,U⟩ (ie n 12) y->a.heap.size<y:=λy b9=>by
      obtain⟨-, o,e0⟩:=b9;simp only at e0;subst e0;have:=(b6.lt y rfl).1;omega
     have d7:=(d2.out.below a1).below a2;have d0:=(h4.out.below a1 k0).below a2 zz;have n1:a7.heap.size<=v2.heap.size:=by have:=a2.size;omega
     have g9:=Hm d';have g1:=Hm d6;have g2:=Hm d7;have h6:=Hm d0;clear d' d6 d7 d0 b6 i9 j4 i' j5 a1 a2 z0 z1 z2 z3 z4 z5 z6 z7 z8 z9 f8 f9 f' s0 s1 s2 s3 s4 s5 s6 s7 s8 s9 l4 l9 l';go_loopw [58] (λv S=>∃(k:Nat) (z:List gM),k<=(ie n 12).length/\v=.int .i64 k/\lQ w w.heap.size (a.heap.size+1) a.heap.size s.heap.size b ⟨Y ⟨g,0,I⟩,d.length,c⟩ d S z/\vl S m.heap.size 82 x.1 x.2/\eC S ⟨A2,(ie n 12).length,U⟩ (ie n 12)/\PQ (ko h z ((ie n 12).drop k)=ko h L2 (ie n 12))) (λv _=>(ie n 12).length-(intOf v).toNat)
     case atStart=>exact⟨0,L2,zz,rfl,g2.out,h6.out,g9.out,rfl⟩
     case round=>
      obtain⟨k,z,hk,rfl,f,C,a4,b3⟩:=hrel;obtain⟨R,rfl⟩:∃R:H,R=wr:=⟨_,rfl⟩;by_cases b4:k<(ie n 12).length
      .obtain⟨m2,o7,d5,m7,J⟩:=a4.2.2.2 zz;simp only at d5;subst d5;have i8:=J k b4;obtain⟨Q,b5⟩:∃Q,(ie n 12).getD k 0=Q:=⟨_,rfl⟩;have e5:(ie n 12).drop k=Q::(ie n 12).drop (k+1):=by
        rw[fx b4,<- b5];simp[List.getD,iv b4]
       rw[b5]at i8;have c2:=(gH f.kn).2.2.2.2.2.2.2.2.2.2.2.2.2.2;obtain⟨W1,W2,o3,r1,r2,r3,r4,r5,r6⟩:=Gm (w:=R.drew) (r:=a.heap.size) (L:=z) f.map (h,Q);have e':=lQ.kQ (wr':=W2) f zz zz zz zz ((aS.refl _ R).drew.tn r6) r5;have f5:=abj C ((aS.refl _ R).drew.tn r6) zz;have e7:=a4.keep ((aS.refl _ R).drew.tn r6) (λy b9=>by have:=g1.out y b9;omega);have t:=Hm e';have a9:=Hm f5;have g0:=Hm e7;have g3:=Hm e5;generalize i7:assoc z (h,Q)=m4 at r1 r2 r3 r4;unfold gG at r1 r2 r3;simp only at r1 r2 r3;clear J b5 e5 e' f5 e7 f C a4 r5 r6 i7;go_wp2;go_region
       all_goals
        go_wp2;go_roundw
        case rel=>
         refine⟨k+1,_,zz,by go_num,t.out,a9.out,g0.out,?_⟩;have e:ko h z ((ie n 12).drop k)=ko h (wD z (h,Q)) ((ie n 12).drop (k+1)):=by rw[g3.out];rfl
         rw[PQ,<- e];exact b3.out
        case measure=>simp[intOf];omega
      .obtain rfl:k=(ie n 12).length:=zz;have e3:z=ko h L2 (ie n 12):=by
        have:=b3.out;rw[ma (qN _)]at this;exact this
       have g7:=Hm e3;have t:=Hm f;have a9:=Hm C;clear e3 f C a4 b3;go_wp2;go_roundw
       case rel=>
        refine⟨h+1,z,zz,by go_num,t.out,a9.out,?_⟩;have e:ku b l x L2 (List.range' h (b.U.n-h))=ku b l x z (List.range' (h+1) (b.U.n-(h+1))):=by
         rw[HR.out,g7.out,<- g4.out];rfl
        rw[PQ,<- e];exact b2.out
       case measure=>simp[intOf];omega
    .obtain rfl:h=b.U.n:=zz;have d4:L2=ku b l x L (List.range' 0 l.U.length):=by
      have:=b2.out;rw[Nat.sub_self]at this;exact this
     have g6:=Hm d4;have t:=Hm f;clear d4 f C b2;go_wp2;go_roundw
     case rel=>
      refine⟨i+1,L2,zz,by go_num,t.out,?_⟩;have e:lP b l L (d.drop i)=lP b l L2 (d.drop (i+1)):=by rw[h7.out,g6.out];rfl
      rw[PQ,<- e];exact b1.out
     case measure=>simp[intOf];omega
  .obtain rfl:i=d.length:=zz;have e1:L=fN b l:=by
    have:=b1.out;rw[ma (qN _)]at this;exact this.tn d3.out.symm
   have g5:=Hm e1;obtain⟨z0,z1,z2,z3,z4,z5,z6,z7,z8,z9,f8,f9,f',f0,c2⟩:=gH f.kn;obtain⟨y0,y1,y2,y3,y4,y5,y6,y7,y8,y9,f7,o0,p5,p7,p8⟩:=gH f.res;have p9:∀j,m.frozen? ⟨w.heap.size+1,j,I⟩=false:=λj=>by simp[H.frozen?,f.res]
   have o6:w.heap.size+1<m.heap.size:=(ec.1 f.res).1;have t:=Hm f;clear e1 f b1;go_wp2;obtain⟨f1,f2⟩:=Bs (.int .i64 b.S) (.int .i64 b.D) (.int .i64 b.L) (.int .i64 b.lo) (.int .i64 b.hi) (.slice b.C.A b.C.n b.C.c) (.int .i64 b.rf) (.int .i64 b.rh) (.int .i64 b.cf) (.int .i64 b.ch) (.slice b.U.A b.U.n b.U.c) (.slice b.E.A b.E.n b.E.c) (.slice b.W.A b.W.n b.W.c) (.slice (Y ⟨g,0,I⟩) d.length c) (.map (Y a.heap.size)) t.out.res;obtain⟨c0,c1,U,c3,c4,c5,c6,c7,c8,c9,h8,h9,h',i1,i2⟩:=gH f1;refine bd (v:=.tuple #[uC b ⟨Y ⟨g,0,I⟩,d.length,c⟩ (Y a.heap.size),.int .i64 0]) ?_ rfl ⟨_,c,a.heap.size,rfl,?_,?_,zz,t.out.low.tn (f2.below t.out.low.size (λx u=>zz))⟩
   .simp[results,Tryz.results44,go_sem,uC,c0,c1,U,c3,c4,c5,c6,c7,c8,c9,h8,h9,h',i1,i2]
   .exact dy (B:=s.heap.size) zz (E5 t.out.own f2 (λg' a0=>by
     have:=(t.out.own.lt g' a0).1;omega))
   .rw[<- g5.out];exact f2.get zz t.out.map
def cP(b:aC)(l:pK)(q:Bool):Int:=if ay b l≠0 then ay b l else if q=false then 6 else if aJ b l b.D.toNat=[]then 9 else 0
def Yt{b:aC}{l:pK}{q:Bool}(h:cP b l q=0):ay b l=0/\q=true/\aJ b l b.D.toNat≠[]:=by
 unfold cP at h;by_cases a:ay b l=0
 .rw[qVB (by simpa using a)]at h
  cases q with
  | false=>rw[qWB rfl]at h;omega
  | true=>
   rw[qVB ss]at h;by_cases c:aJ b l b.D.toNat=[]
   .rw[qWB c]at h;omega
   .exact⟨a,rfl,c⟩
 .rw[qWB a]at h;exact mi h a
def qp(b:aC)(l:pK)(a:Nat)(c:Array M)(e:Enters F a)(q:Bool)(w:H)(hl:aI w b l)(g:aD w)(i:ay b l=0->abo a c b q w)(h:cP b l q=0):
  PH F 44 #[b.v,.func (.func a) #[] c] w (jo b l w):=by
 obtain⟨d,h2,f⟩:=Yt h;subst h2;exact Ob b l a c e w hl g d (i d) f
def lT:Enters F 45:=enters_of Tryz.func45 kr rfl
def Dw:Enters F 49:=enters_of Tryz.func49 kr rfl
def Dx:Enters F 52:=enters_of Tryz.func52 kr rfl
def Dy:Enters F 53:=enters_of Tryz.func53 kr rfl
def Dz:Enters F 54:=enters_of Tryz.func54 kr rfl
theorem gW(b:aC)(w:H):abo 45 #[] b true w:=by
 intro a _;simp only[zR,List.append_nil];unfold aC.v;go_enter Tryz.func45,Tryz.ntmps45;go_wp2;go_ret;exact⟨rfl,(X.refl _ _).alloc (qN _) _⟩
theorem Ay(b:aC)(i: -1000<=b.S)(h2:b.S<=1000)(step:Int)(a:Nat)(w:H)(f:w (a,0)=Y (.int .i64 step))(d:a<w):abo 49 #[.pointer (Y (a,0))] b (ax step 0 (b.S-1)) w:=by
 intro h c;have k:h (a,0)=Y (.int .i64 step):=(c.cell (p:=⟨a,0,I⟩) d).tn f;have l:a<h.heap.size:=qP d c.size;have g:=λw=>fB b step i h2 w;clear f d c;simp only[zR];unfold aC.v at g|-;go_enter Tryz.func49,Tryz.ntmps49;go_wp2_with (go_at_call 50;refine(g _).mono ?_;rintro e w' ⟨rfl,j⟩);go_ret;exact⟨rfl,aY j⟩
theorem xX(b:aC)(i: -1000<=b.S)(h2:b.S<=1000)(step:Int)(a:Nat)(w:H)(f:w (a,0)=Y (.int .i64 step))(d:a<w):abo 54 #[.pointer (Y (a,0))] b (ax step 0 (b.S-1)) w:=by
 intro h c;have k:h (a,0)=Y (.int .i64 step):=(c.cell (p:=⟨a,0,I⟩) d).tn f;have l:a<h.heap.size:=qP d c.size;have g:=λw=>fB b step i h2 w;clear f d c;simp only[zR];unfold aC.v at g|-;go_enter Tryz.func54,Tryz.ntmps54;go_wp2_with (go_at_call 50;refine(g _).mono ?_;rintro e w' ⟨rfl,j⟩);go_ret;exact⟨rfl,aY j⟩
theorem DC(b:aC)(j:b.U.n<=1000)(c:Int)(a:Nat)(w:H)(g:w (a,0)=Y (.int .i64 c))(f:a<w):abo 53 #[.pointer (Y (a,0))] b (ax c 0 (b.U.n-1)) w:=by
 intro i d;have l:i (a,0)=Y (.int .i64 c):=(d.cell (p:=⟨a,0,I⟩) f).tn g;have m:a<i.heap.size:=qP f d.size;have h:=λw=>oE b c j w;clear g f d;simp only[zR];unfold aC.v at h|-;go_enter Tryz.func53,Tryz.ntmps53;go_wp2_with (go_at_call 41;refine(h _).mono ?_;rintro e w' ⟨rfl,k⟩);go_ret;exact⟨rfl,aY k⟩
theorem xY(b:aC)(r:b.U.n<=1000)(h2: -1000<=b.S)(s:b.S<=1000)(g step:Int)(c a:Nat)(w:H)(m:w (c,0)=Y (.int .i64 g))(i:c<w)(n:w (a,0)=Y (.int .i64 step))(k:a<w):
  abo 52 #[.pointer (Y (c,0)),.pointer (Y (a,0))] b (ax g 0 (b.U.n-1)&&ax step 0 (b.S-1)) w:=by
 intro h f;have v:h (c,0)=Y (.int .i64 g):=(f.cell (p:=⟨c,0,I⟩) i).tn m;have x:h (a,0)=Y (.int .i64 step):=(f.cell (p:=⟨a,0,I⟩) k).tn n;have A:c<h.heap.size:=qP i f.size;have s2:a<h.heap.size:=qP k f.size;have j:=λw=>oE b g r w;have l:=λw=>fB b step h2 s w;clear m i n k f;simp only[zR];generalize ax g 0 (b.U.n-1)=p at j|-;generalize ax step 0 (b.S-1)=q at l|-;unfold aC.v at j l|-;cases p
 all_goals
  go_enter Tryz.func52,Tryz.ntmps52
  go_wp2_with (first
   | (go_at_call 41;refine(j _).mono ?_;rintro e o ⟨rfl,d⟩;obtain⟨y,z⟩:=aU d;have u:=d.size;have C:h.heap.size<o.heap.size:=(by simp only[aa]at u;omega);have E:a<o.heap.size:=zz)
   | (go_at_call 50;refine(l _).mono ?_;rintro e B ⟨rfl,t⟩))
  go_ret
 .exact⟨by simp,aY d⟩
 .exact⟨by simp,(aY d).tn (t.mono (aY d).size)⟩
def lY(n a:Int):Int:=if n=a then 1 else if n=0 then 2 else 0
theorem xZ(b:aC)(s:Sl)(m:Option Nat)(n:Int)(w:H):PH F 51 #[uC b s m,.int .i64 n] w λe w'=>e=.returned (.int .i64 (lY n s.n))/\X w w w':=by
 unfold uC;go_enter Tryz.func51,Tryz.ntmps51;go_wp2;all_goals go_ret
 all_goals exact⟨aW (by simp_all[lY]),(X.refl _ _).alloc (qN _) _⟩
variable{f:Int×(Nat->Bool)->Bool}{L:List (Int×(Nat->Bool))}{i:Nat}
def oP(f:Int×(Nat->Bool)->Bool)(L:List (Int×(Nat->Bool))):Nat:=(L.filter f).length
def Sq(h:i<L.length)(a:f (L.getD i (0,mI))=true):oP f (L.take (i+1))=oP f (L.take i)+1:=by
 have e:L.getD i (0,mI)=L[i]:=by simp[List.getD,iv h]
 rw[e]at a;rw[oP,oP,lh h,qBB,kl];simp only[List.filter_cons,a,if_true,List.filter_nil,ed,lA]
def WC(h:i<L.length)(a:f (L.getD i (0,mI))=false):oP f (L.take (i+1))=oP f (L.take i):=by
 have e:L.getD i (0,mI)=L[i]:=by simp[List.getD,iv h]
 rw[e]at a;rw[oP,oP,lh h,qBB,kl];simp only[List.filter_cons,a,lO,if_false,List.filter_nil,lA,Nat.add_zero]
def Gn(f:Int×(Nat->Bool)->Bool)(L:List (Int×(Nat->Bool)))(i:Nat):oP f (L.take i)<=i:=qO (nn _ _) (List.length_take_le _ _)
def vH(b:aC)(l:pK)(step:Int):Int×Int:=
 if cP b l (ax step 0 (b.S-1))=0 then(lY (oP (λx=>x.2 step.toNat) (aJ b l b.D.toNat)) (aJ b l b.D.toNat).length,0)else(0,cP b l (ax step 0 (b.S-1)))
def nL{b:aC}{l:pK}(h:ay b l=0):(aJ b l b.D.toNat).length<=1296:=by
 obtain⟨d,c,e,f,g,i,j,k,m,a,-⟩:=cS (bP h).1;exact qO (nn _ _) (nH c a zz)
theorem Ln(b:aC)(l:pK)(step:Int)(w:H)(hl:aI w b l)(W:aD w)(h:cP b l (ax step 0 (b.S-1))=0):
  PH F 16 #[b.v,.int .i64 step] w (oL (vH b l step) w):=by
 have a8:=Hm hl;have a6:=Hm W;have C:PQ (vH b l step=(lY (oP (λx=>x.2 step.toNat) (aJ b l b.D.toNat)) (aJ b l b.D.toNat).length,0)):=by unfold vH;rw[PQ,qWB h]
 obtain⟨k,h2,V⟩:=Yt h;obtain⟨t1,t2,-⟩:=cS (bP k).1;have t:=λd (k:aI d b l) (h2:aD d) (z:Nat) (b1:d.cell? ⟨z,0,I⟩=Y (.int .i64 step)) (b7:z<d.heap.size)=>qp b l 49 #[.pointer (Y ⟨z,0,I⟩)] Dw (ax step 0 (b.S-1)) d k h2 (λb0=>Ay b zz zz step z d b1 b7) h;have b4:=nL k;have b6:0<(aJ b l b.D.toNat).length:=List.length_pos_iff.2 V;obtain⟨f1,f2⟩:=qM.1 h2;obtain⟨p,rfl⟩:∃p:Nat,step=(p:Int):=⟨step.toNat,zz⟩;have c2:p<12:=zz;simp only[ll]at C;unfold jo at t;generalize aJ b l b.D.toNat=a at t C b4 b6;have a2:=λ(s:Sl) (m:Option Nat) (n:Int) w'=>xZ b s m n w';clear hl W h k h2 V f1 f2 t1 t2;unfold aC.v uC at t;unfold uC at a2;unfold aC.v;go_enter Tryz.func16,Tryz.ntmps16;go_wp2_with (go_at_call 44;refine(t _ (aq (aq a8.out _) _) (ai (ai a6.out _) _) (w.heap.size+1) (by rw[<- aa w (aE b 31)];exact one_cell (Sp _ _)) ss).mono ?_;rintro e d ⟨A,c,r,rfl,P,b5,c3,u⟩);obtain⟨g,rfl⟩:∃g,A=Y ⟨g,0,I⟩:=by
  rcases P.2 with⟨k,h2⟩|⟨g,b9,b',k,-⟩
  .omega
  .simp only[lL]at k;exact⟨g,k.1⟩
 have L:Gk (d.alloc (.cells (iG b ⟨Y (g,0),a.length,c⟩ (Y r)) 99)) d b ⟨Y (g,0),a.length,c⟩ (Y r):=Sp _ _;have Q:=P.alloc (.cells (iG b ⟨Y ⟨g,0,I⟩,a.length,c⟩ (Y r)) 99);have B:X w w (d.alloc (.cells (iG b ⟨Y (g,0),a.length,c⟩ (Y r)) 99)):=aP (IA u) (qN _) _;have J:(d.alloc (.cells (iG b ⟨Y (g,0),a.length,c⟩ (Y r)) 99)).heap[w.heap.size+1]?=Y (.cells #[.int .i64 p] 3 (0,0)):=(QR _ _ (by have:=u.size;simp only[aa]at this;omega)).tn ((u.block _ ss).tn (by rw[<- aa w (aE b 31)];exact Sp _ _));have c5:(w:Nat)+1<d:=by have:=u.size;simp only[aa]at this;omega
 clear P b5 u t;change Ly.wp _ _ _ _ (d.alloc (.cells (iG b ⟨Y ⟨g,0,I⟩,a.length,c⟩ (Y r)) 99));have a3:d.heap.size<(d.alloc (.cells (iG b ⟨Y (g,0),a.length,c⟩ (Y r)) 99)).heap.size:=by simp
 generalize(d.alloc (.cells (iG b ⟨Y ⟨g,0,I⟩,a.length,c⟩ (Y r)) 99))=a4 at L Q B J a3|-;have a7:=Hm L;have a':=Hm Q;have T:=Hm B;have a5:=Hm J;clear L Q B J;go_loopw [8,23] (λn v wr=>∃i:Nat,i<=a.length/\n=.int .i64 (oP (λx=>x.2 p) (a.take i))/\v=.int .i64 i/\X a4.heap.size a4 wr) (λ_ v _=>a.length-(intOf v).toNat)
 case atStart=>exact⟨0,zz,rfl,rfl,X.refl _ _⟩
 case round=>
  obtain⟨i,hi,rfl,rfl,o⟩:=hrel;have b8:=o.size;by_cases N:i<a.length
  .obtain⟨x,R⟩:∃x,a.getD i (0,mI)=x:=⟨_,rfl⟩;have b2:=Gn (λx=>x.2 p) a i;have S:=Sq (f:=λx=>x.2 p) N;have O:=WC (f:=λx=>x.2 p) N;have q:∀j,j<13->wr (g,i*13+j)=(zC x).toList[j]?:=λj b3=>by
    have k:=wO (E5 a'.out (aS.dY (K:=λ_=>True) o (λ_ h _=>h)) (λ_ _=>trivial)) rfl N j b3;rw[R]at k;exact k
   have q0:wr (g,i*13)=Y (.int .i64 x.1):=q 0 zz;have q1:wr (g,i*13+1)=Y (.bool (x.2 0)):=q 1 zz;have q2:wr (g,i*13+2)=Y (.bool (x.2 1)):=q 2 zz;have q3:wr (g,i*13+3)=Y (.bool (x.2 2)):=q 3 zz;have q4:wr (g,i*13+4)=Y (.bool (x.2 3)):=q 4 zz;have q5:wr (g,i*13+5)=Y (.bool (x.2 4)):=q 5 zz;have q6:wr (g,i*13+6)=Y (.bool (x.2 5)):=q 6 zz;have q7:wr (g,i*13+7)=Y (.bool (x.2 6)):=q 7 zz;have q8:wr (g,i*13+8)=Y (.bool (x.2 7)):=q 8 zz;have q9:wr (g,i*13+9)=Y (.bool (x.2 8)):=q 9 zz;have c6:wr (g,i*13+10)=Y (.bool (x.2 9)):=q 10 zz;have c7:wr (g,i*13+11)=Y (.bool (x.2 10)):=q 11 zz;have c8:wr (g,i*13+12)=Y (.bool (x.2 11)):=q 12 zz;have c4:wr (w.heap.size+1,0)=Y (.int .i64 p):=one_cell ((o.block _ zz).tn a5.out);have Z:(#[.int .i64 x.1,.bool (x.2 0),.bool (x.2 1),.bool (x.2 2),.bool (x.2 3),.bool (x.2 4),.bool (x.2 5),.bool (x.2 6),.bool (x.2 7),.bool (x.2 8),.bool (x.2 9),.bool (x.2 10),.bool (x.2 11)]:Array M)[1+p]?=Y (.bool (x.2 p)):=by
    rcases(show p=0\/p=1\/p=2\/p=3\/p=4\/p=5\/p=6\/p=7\/p=8\/p=9\/p=10\/p=11 from zz)with rfl|rfl|rfl|rfl|rfl|rfl|rfl|rfl|rfl|rfl|rfl|rfl<;>rfl
   have c1:(w:Nat)+1<wr:=zz;rw[R]at S O;have G:=Hm S;have E:=Hm O;generalize oP (λx=>x.2 p) (a.take i)=n at b2 G E;generalize a1:oP (λx=>x.2 p) (a.take (i+1))=n' at G E;have U:=Hm a1;clear q R S O a1;cases y:x.2 p
   .rw[y]at Z;go_wp2;go_roundw
    case rel=>exact⟨i+1,zz,by rw[U.out,E.out y],by go_num,aP o (qN _) _⟩
    case measure=>simp[intOf];omega
   .rw[y]at Z;go_wp2;go_roundw
    case rel=>exact⟨i+1,zz,by rw[U.out,G.out y];go_num,by go_num,aP o (qN _) _⟩
    case measure=>simp[intOf];omega
  .obtain rfl:i=a.length:=zz;rw[List.take_of_length_le (qN _)]at*;obtain⟨z0,z1,z2,z3,z4,z5,z6,z7,z8,z9,c9,c',d1,d2,d3⟩:=gH ((o.block _ a3).tn a7.out);have a9:=Hm o;clear o;go_wp2_with (go_at_call 51;refine(a2 ⟨Y ⟨g,0,I⟩,a.length,c⟩ _ _ _).mono ?_;rintro e w2 ⟨rfl,a0⟩);go_ret2;exact⟨by rw[C.out];rfl,T.out.tn ((a9.out.tn (a0.mono b8)).mono T.out.size)⟩
def Lr(b:aC)(l:pK)(step:Int)(w:H)(hl:aI w b l)(a:aD w)(h:cP b l (ax step 0 (b.S-1))=0:=by kernel_rfl):PH F 16 #[b.v,.int .i64 step] w (oL (vH b l step) w):=Ln b l step w hl a h
def mW(b:aC)(a step:Int):Bool:=ax a 0 (b.U.n-1)&&ax step 0 (b.S-1)
def oQ(b:aC)(l:pK)(a step:Int):Int×Int:=
 if cP b l (mW b a step)=0 then(lY (assoc (fN b l) (a,step)) (aJ b l b.D.toNat).length,0)else(0,cP b l (mW b a step))
theorem Gp(b:aC)(l:pK)(d step:Int)(w:H)(hl:aI w b l)(E:aD w)(h:cP b l (mW b d step)=0):
  PH F 17 #[b.v,.int .i64 d,.int .i64 step] w (oL (oQ b l d step) w):=by
 have N:=Hm hl;have K:=Hm E;have o:PQ (oQ b l d step=(lY (assoc (fN b l) (d,step)) (aJ b l b.D.toNat).length,0)):=by unfold oQ;rw[PQ,qWB h]
 have G:b.U.n<=1000:=by rw[hl.U.1];exact hl.U.2.2.1
 have j:=λf (O:aI f b l) (h2:aD f) (p t:Nat) (Q:f.cell? ⟨p,0,I⟩=Y (.int .i64 d)) (a1:p<f.heap.size) (R:f.cell? ⟨t,0,I⟩=Y (.int .i64 step)) (a2:t<f.heap.size)=>qp b l 52 #[.pointer (Y ⟨p,0,I⟩),.pointer (Y ⟨t,0,I⟩)] Dx (mW b d step) f O h2 (λT=>by
  obtain⟨t1,t2,-⟩:=cS (bP T).1;exact xY b G zz zz d step p t f Q a1 R a2) h
 unfold jo at j;generalize aJ b l b.D.toNat=g at j o;generalize fN b l=LL at j o;have J:=λ(s:Sl) (m:Option Nat) (n:Int) w'=>xZ b s m n w';clear hl E h G;have B:(((w.alloc (aE b 31)).alloc (.cells #[.int .i64 d] 3)).alloc (.cells #[.int .i64 step] 3)).cell? (w.heap.size+1,0)=Y (.int .i64 d):=one_cell ((QR _ _ ss).tn (by rw[<- aa w (aE b 31)];exact Sp _ _));have C:(((w.alloc (aE b 31)).alloc (.cells #[.int .i64 d] 3)).alloc (.cells #[.int .i64 step] 3)).cell? (w.heap.size+1+1,0)=Y (.int .i64 step):=one_cell (by rw[<- aa w (aE b 31),<- aa (w.alloc (aE b 31)) (.cells #[.int .i64 d] 3)];exact Sp _ _);have v:=j (((w.alloc (aE b 31)).alloc (.cells #[.int .i64 d] 3)).alloc (.cells #[.int .i64 step] 3)) (aq (aq (aq N.out _) _) _) (ai (ai (ai K.out _) _) _) (w.heap.size+1) (w.heap.size+1+1) B ss C ss;clear j B C;unfold aC.v aE uC at v;unfold uC at J;unfold aC.v;go_enter Tryz.func17,Tryz.ntmps17;go_wp2_with (go_at_call 44;refine v.mono ?_;clear v;rintro e f ⟨A,c,r,rfl,Z,y,a5,k⟩);have x:Gk (f.alloc (.cells (iG b ⟨A,g.length,c⟩ (Y r)) 99)) f b ⟨A,g.length,c⟩ (Y r):=Sp _ _;have q:jm (f.alloc (.cells (iG b ⟨A,g.length,c⟩ (Y r)) 99)) r LL:=(QR _ _ (ec.1 y).1).tn y;have a3:=k.size;simp only[aa]at a3;have u:X w w (f.alloc (.cells (iG b ⟨A,g.length,c⟩ (Y r)) 99)):=aP (jI k) (qN _) _;have S:(f.alloc (.cells (iG b ⟨A,g.length,c⟩ (Y r)) 99)).cell? (w.heap.size+1,0)=Y (.int .i64 d):=one_cell ((QR _ _ zz).tn ((k.block _ ss).tn ((QR _ _ ss).tn (by rw[<- aa w (aE b 31)];exact Sp _ _))));have U:(f.alloc (.cells (iG b ⟨A,g.length,c⟩ (Y r)) 99)).cell? (w.heap.size+1+1,0)=Y (.int .i64 step):=one_cell ((QR _ _ zz).tn ((k.block _ ss).tn (by rw[<- aa w (aE b 31),<- aa (w.alloc (aE b 31)) (.cells #[.int .i64 d] 3)];exact Sp _ _)));clear Z y k;change Ly.wp _ _ _ _ (f.alloc (.cells (iG b ⟨A,g.length,c⟩ (Y r)) 99));have a4:f.heap.size<(f.alloc (.cells (iG b ⟨A,g.length,c⟩ (Y r)) 99)).heap.size:=by simp
 generalize(f.alloc (.cells (iG b ⟨A,g.length,c⟩ (Y r)) 99))=i at x q u S U a4|-;obtain⟨z0,z1,z2,z3,z4,z5,z6,z7,z8,z9,a6,a7,a8,a9,a'⟩:=gH x;have V:∀n,(Instr.lookup 97 (.map (Y r)) (.agg #[.int .i64 d,.int .i64 step]) false).run F (i.drewN n)=.ok (.int .i64 (assoc LL (d,step))) (i.drewN n):=λn=>gd (w:=i.drewN n) (L:=LL) q (d,step);have W:(Instr.lookup 97 (.map (Y r)) (.agg #[.int .i64 d,.int .i64 step]) false).run F i.drew=.ok (.int .i64 (assoc LL (d,step))) i.drew:=gd (w:=i.drew) (L:=LL) q (d,step);generalize assoc LL (d,step)=a at V W o;have z:=Hm u;clear x q u;go_wp2_with (first|(go_at_call 51;refine(J ⟨A,g.length,c⟩ _ _ _).mono ?_;rintro e w2 ⟨rfl,P⟩)|go_still_tail 7,kr);go_ret2;exact⟨by rw[o.out];rfl,z.out.tn (((lH (X.refl _ i)).tn (P.mono (qN _))).mono z.out.size)⟩
def ya(b:aC)(l:pK)(a step:Int)(w:H)(hl:aI w b l)(c:aD w)(h:cP b l (mW b a step)=0:=by kernel_rfl):PH F 17 #[b.v,.int .i64 a,.int .i64 step] w (oL (oQ b l a step) w):=Gp b l a step w hl c h
variable{P:Ps}{o:Kp}{a:Act}{Q:Exit->Act->H->Prop}
def abm{K:Act->H->Prop}(s x:ae)(t:Lk)
  (r:o.op=.call {callee:=.builtin .append,args:= #[s,x],argTypes:= #[t,t]})
  (base:Nat)(e:Lk)(i:TypeInfo)(z:M)(size bytes:Nat)(G:P.underlying t=Y (.slice e))(hi:P.info? e=Y i)(L:i.zero=Y z)
  (C:i.size=size)(l:i.bytes=bytes)(N:z.cells.size=size)(E:0<size)
  (v:M)(n:Nat)(xs:List M)(B:a.eval s=v)(y:w.ownsRow base e size v n xs)
  (ad:Addr)(m c:Nat)(news:List M)(J:a.eval x=.slice (Y ad) m c)(hl:news.length=m*size)(q:∀j u,news[j]?=Y u->w.cell? (ad.add j)=Y u)(b:∀u∈news,u.oneCell'=true)
  (g:n+m<=maxLen)(p:(n+m)*bytes<=140737488355328)(k:base<=w.heap.size)
  (h:∀v' w',w'.ownsRow base e size v' (n+m) (xs++news)->w.grownBy w' v.ownBlock->(v'.ownBlock=v.ownBlock\/v'.ownBlock=Y w.heap.size)->K (a.put o.dst v') w'):o.wp P a w K Q:=by
 obtain⟨v',w',A,h2,d, -, f⟩:=gU (P:=P) w base t o.type e i z size bytes G hi L C l N E v n xs y ad m c news hl q b g p k;unfold Kp.wp Hn;simp only[r,ab,invoke,builtin,Sem.run_bind,Sem.run_pure,Result.andThen_ok,zM,B,J,A];exact h v' w' h2 d f
def ff{ops:Array Kp}{rest:List Kp}(r:o.guard=I)(s x:ae)(t:Lk)
  (A:o.op=.call {callee:=.builtin .append,args:= #[s,x],argTypes:= #[t,t]})
  (base:Nat)(e:Lk)(i:TypeInfo)(z:M)(size bytes:Nat)(J:P.underlying t=Y (.slice e))(hi:P.info? e=Y i)(L:i.zero=Y z)
  (E:i.size=size)(p:i.bytes=bytes)(N:z.cells.size=size)(G:0<size)
  (v:M)(n:Nat)(xs:List M)(C:a.eval s=v)(B:w.ownsRow base e size v n xs)
  (ad:Addr)(m c:Nat)(news:List M)(K:a.eval x=.slice (Y ad) m c)(hl:news.length=m*size)(y:∀j u,news[j]?=Y u->w.cell? (ad.add j)=Y u)(b:∀u∈news,u.oneCell'=true)
  (g:n+m<=maxLen)(q:(n+m)*bytes<=140737488355328)(l:base<=w.heap.size)
  (h:∀v' w',w'.ownsRow base e size v' (n+m) (xs++news)->w.grownBy w' v.ownBlock->(v'.ownBlock=v.ownBlock\/v'.ownBlock=Y w.heap.size)->wpList P ops Q rest (a.put o.dst v') w'):wpList P ops Q (o::rest) a w:=
 wpList_plain r λ_ k=>abm s x t A base e i z size bytes J hi L E p N G v n xs C B ad m c news K hl y b g q l λv' w' h2 d f=>k _ _ (h v' w' h2 d f)
def kH(B:Nat)(d e:M)(a b:List Int)(w:H):Prop:=
 (∃A c,d=.slice A a.length c)/\(∃A c,e=.slice A b.length c)/\w.ownsRow B 3 1 d a.length (a.map (M.int .i64))/\w.ownsRow B 3 1 e b.length (b.map (M.int .i64))/\(∀g,d.ownBlock=Y g->e.ownBlock≠Y g)
def kH.below{B:Nat}{v1 v2:M}{l1 l2:List Int}{w w':H}(h:kH B v1 v2 l1 l2 w)(a:X w w w'):kH B v1 v2 l1 l2 w':=
 have hk:=aS.dY (K:=λ_=>True) a (λ_ h _=>h)
 ⟨h.1,h.2.1,E5 h.2.2.1 hk (λ_ _=>trivial),E5 h.2.2.2.1 hk (λ_ _=>trivial),h.2.2.2.2⟩
def wP(p:List Int×List Int×Int)(w:H)(e:Ending)(w':H):Prop:=
 ∃a b,e=.returned (.tuple #[a,b,.int .i64 p.2.2])/\kH w.heap.size a b p.1 p.2.1 w'/\X w w w'
def sU(LL:List gM)(b a v:Int):Nat->Bool:=λn=>decide (lY (assoc LL (a,n)) b=v)
def DF(b:aC)(l:pK)(a:Int):List Int×List Int×Int:=
 if cP b l (ax a 0 (b.U.n-1))=0 then(ie (sU (fN b l) (aJ b l b.D.toNat).length a 1) b.S.toNat,ie (sU (fN b l) (aJ b l b.D.toNat).length a 0) b.S.toNat,0)else([],[],cP b l (ax a 0 (b.U.n-1)))
def Y3(b:aC)(s:Sl)(m:Option Nat)(n v:Int)(a:lY n s.n=v)(w:H):PH F 51 #[uC b s m,.int .i64 n] w λe w'=>e=.returned (.int .i64 v)/\X w w w':=a▸xZ b s m n w
def Od(n a:Int):lY n a=1\/lY n a=2\/lY n a=0:=by
 unfold lY;split
 .exact .inl rfl
 .split
  .exact .inr (.inl rfl)
  .exact .inr (.inr rfl)
variable{v1 v2:M}{l1 l2:List Int}
def kH.fst{v1 v2 v1':M}{l1 l2 l1':List Int}{w w':H}(h:kH B v1 v2 l1 l2 w)(x:Int)(hl:l1'=l1++[x])(i:w'.ownsRow B 3 1 v1' (l1.length+1) (l1.map (M.int .i64)++[.int .i64 x]))(l:w.grownBy w' v1.ownBlock)(a:v1'.ownBlock=v1.ownBlock\/v1'.ownBlock=Y w):kH B v1' v2 l1' l2 w':=by
 obtain⟨m,k,n,d,f⟩:=h;subst hl;refine⟨?_,k,by simpa using i,d.kept l ?_,λg j=>?_⟩
 .obtain⟨g,c,b⟩:=ownsRow_succ i;exact⟨Y ⟨g,0,I⟩,c,by rw[b];simp⟩
 .cases b:v1.ownBlock with
  | none=>cases h2:v2.ownBlock<;>simp
  | some g=>exact .inr (f g b)
 .rcases a with a|a
  .exact f g (a▸j)
  .rw[j]at a;cases a;intro e;have:=(d.lt _ e).2;omega
def kH.base{B B':Nat}(h:kH B v1 v2 l1 l2 w)(hB:B'<=B):kH B' v1 v2 l1 l2 w:=⟨h.1,h.2.1,dy hB h.2.2.1,dy hB h.2.2.2.1,h.2.2.2.2⟩
def kH.swap(h:kH B v1 v2 l1 l2 w):kH B v2 v1 l2 l1 w:=
 ⟨h.2.1,h.1,h.2.2.2.1,h.2.2.1,λg a b=>h.2.2.2.2 g b a⟩
theorem Oe(b:aC)(l:pK)(d:Int)(w:H)(hl:aI w b l)(b4:aD w)(h:cP b l (ax d 0 (b.U.n-1))=0):
  PH F 18 #[b.v,.int .i64 d] w (wP (DF b l d) w):=by
 have c5:=Hm hl;have c1:=Hm b4;have a1:PQ (DF b l d=(ie (sU (fN b l) (aJ b l b.D.toNat).length d 1) b.S.toNat,ie (sU (fN b l) (aJ b l b.D.toNat).length d 0) b.S.toNat,0)):=by unfold DF;rw[PQ,qWB h]
 have b5:b.U.n<=1000:=by rw[hl.U.1];exact hl.U.2.2.1
 obtain⟨t1,t2,-⟩:=cS (bP (Yt h).1).1;have Q:((w.alloc (aE b 31)).alloc (.cells #[.int .i64 d] 3)).cell? (w.heap.size+1,0)=Y (.int .i64 d):=one_cell (by rw[<- aa w (aE b 31)];exact Sp _ _);have G:=qp b l 53 #[.pointer (Y ⟨w.heap.size+1,0,I⟩)] Dy (ax d 0 (b.U.n-1)) ((w.alloc (aE b 31)).alloc (.cells #[.int .i64 d] 3)) (aq (aq c5.out _) _) (ai (ai c1.out _) _) (λ_=>DC b b5 d (w.heap.size+1) _ Q ss) h;unfold jo at G;generalize aJ b l b.D.toNat=f at G a1;generalize fN b l=LL at G a1;have a0:=λ(s:Sl) (m:Option Nat) (n v:Int) (d5:lY n s.n=v) w'=>Y3 b s m n v d5 w';clear hl b4 h b5 Q;unfold aC.v aE uC at G;unfold uC at a0;unfold aC.v;go_enter Tryz.func18,Tryz.ntmps18;go_wp2_with (go_at_call 44;refine G.mono ?_;rintro e i ⟨A,c,r,rfl,d3,R,e4,t⟩;obtain⟨c8,c9⟩:=aU t;have b3:w.heap.size<i.heap.size:=(by have:=t.size;simp only[aa]at this;omega));have d6:=t.size;simp only[aa]at d6;have a6:Gk (i.alloc (.cells (iG b ⟨A,f.length,c⟩ (Y r)) 99)) i b ⟨A,f.length,c⟩ (Y r):=Sp _ _;have a7:jm (i.alloc (.cells (iG b ⟨A,f.length,c⟩ (Y r)) 99)) r LL:=(QR _ _ (ec.1 R).1).tn R;have W:X w w (i.alloc (.cells (iG b ⟨A,f.length,c⟩ (Y r)) 99)):=aP (IA t) (qN _) _;have a4:(i.alloc (.cells (iG b ⟨A,f.length,c⟩ (Y r)) 99)).heap[w.heap.size+1]?=Y (.cells #[.int .i64 d] 3 (0,0)):=(QR _ _ zz).tn ((t.block _ ss).tn (by rw[<- aa w (aE b 31)];exact Sp _ _));have a3:(i.alloc (.cells (iG b ⟨A,f.length,c⟩ (Y r)) 99)).heap[w.heap.size]?=Y (aE b 31):=(QR _ _ zz).tn ((t.block _ so).tn ((QR _ _ ss).tn (Sp _ _)));have e5:r<i.heap.size:=(ec.1 R).1;clear d3 R t c8 c9;change Ly.wp _ _ _ _ (i.alloc (.cells (iG b ⟨A,f.length,c⟩ (Y r)) 99));have b8:i.heap.size<(i.alloc (.cells (iG b ⟨A,f.length,c⟩ (Y r)) 99)).heap.size:=by simp
 generalize(i.alloc (.cells (iG b ⟨A,f.length,c⟩ (Y r)) 99))=P at a6 a7 W a4 a3 b8|-;have c3:=Hm a6;have c6:=Hm a7;have Z:=Hm W;have b0:=Hm a4;have d7:=Hm a3;clear a6 a7 W a4 a3;obtain⟨i0,hi,b9,b3,b'⟩:=info_parts vD;go_loopw [4,5,20] (λv1 v2 v wr=>∃k:Nat,(k:Int)<=b.S/\v=.int .i64 k/\kH P.heap.size v1 v2 (ie (sU LL f.length d 1) k) (ie (sU LL f.length d 0) k) wr/\X P.heap.size P wr) (λ_ _ v _=>b.S.toNat-(intOf v).toNat)
 case atStart=>exact⟨0,zz,rfl,⟨⟨I,0,rfl⟩,⟨I,0,rfl⟩,H.ownsRow_nil _ _ _ _,H.ownsRow_nil _ _ _ _,λg c'=>by simp[M.ownBlock]at c'⟩,X.refl _ _⟩
 case round=>
  obtain⟨k,hk,rfl,S,p⟩:=hrel;have b2:=p.size;have e2:=kO (sU LL f.length d 1) k;have d0:=kO (sU LL f.length d 0) k;by_cases e3:(k:Int)<b.S
  .obtain⟨z0,z1,z2,z3,z4,z5,z6,z7,z8,z9,e6,e7,e8,e9,e'⟩:=gH ((p.block _ b8).tn c3.out);have d':=one_cell ((p.block _ zz).tn b0.out);have a2:jm wr r LL:=(p.block _ zz).tn c6.out;have d1:∀n,(Instr.lookup 97 (.map (Y r)) (.agg #[.int .i64 d,.int .i64 k]) false).run F (wr.drewN n)=.ok (.int .i64 (assoc LL (d,k))) (wr.drewN n):=λn=>gd (w:=wr.drewN n) (L:=LL) a2 (d,k);have d2:(Instr.lookup 97 (.map (Y r)) (.agg #[.int .i64 d,.int .i64 k]) false).run F wr.drew=.ok (.int .i64 (assoc LL (d,k))) wr.drew:=gd (w:=wr.drew) (L:=LL) a2 (d,k);have a5:∀v,sU LL f.length d v k=decide (lY (assoc LL (d,k)) f.length=v):=λv=>rfl;generalize assoc LL (d,k)=a at d1 d2 a5;rcases Od a f.length with N|N|N
   all_goals
    have b1:=λ(s:Sl) (m:Option Nat) (d4:s.n=f.length) w'=>a0 s m a _ ((cd (λq:Nat=>lY a (q:Int)) d4).tn N) w';have y:=Hm N;have u:=Hm a5;have HR:=Hm S;have E:=Hm p;obtain⟨⟨A1,Q,rfl⟩,⟨A2,c2,rfl⟩,T,U,o3⟩:=S;have d8:=Hm T;have d9:=Hm U;clear N a5 T U o3 a2 p a0
   .have e1:sU LL f.length d 1 k=true:=by rw[u.out,y.out];rfl
    have e0:sU LL f.length d 0 k=false:=by rw[u.out,y.out];rfl
    have C:=Hm (oG e1);have B:=Hm (mV e0);clear e1 e0
    go_wp2_with (first
     | (go_at_call 51;refine(b1 ⟨A,f.length,c⟩ _ rfl _).mono ?_;rintro e V ⟨rfl,J⟩;have j:=(lH (X.refl wr.heap.size wr)).tn (J.mono (qN _));have b7:=j.size;have o:=Hm (HR.out.below j);have z:=o.out.2.2.1)
     | go_still_tail 7,kr
     | (at_builtin;refine ff rfl _ _ 24 rfl P.heap.size 3 i0 (.int .i64 0) 1 8 Tryz.underlying24 hi b9 b3 b' rfl dd _ _ _ rfl (z.alloc _) ⟨V.heap.size,0,I⟩ 1 1 [.int .i64 k] rfl rfl (cell_one_new _ _ _) (λx O=>by simp at O;subst O;rfl) (by unfold maxLen;omega) zz so ?_;intro v' w3 a9 K a8))
    go_roundw
    case rel=>
     refine⟨k+1,zz,by go_num,?_,(aP (E.out.tn (j.mono b2)) (qN _) _).grown K so (λq a'=>(z.lt q a').1)⟩;rw[B.out];exact kH.fst (o.out.below (aP (X.refl _ _) (qN _) _)) (k:Int) C.out a9 K a8
    case measure=>simp[intOf];omega
   .have e1:sU LL f.length d 1 k=false:=by rw[u.out,y.out];rfl
    have e0:sU LL f.length d 0 k=false:=by rw[u.out,y.out];rfl
    have C:=Hm (mV e1);have B:=Hm (mV e0);clear e1 e0
    go_wp2_with (first
     | (go_at_call 51;refine(b1 ⟨A,f.length,c⟩ _ rfl _).mono ?_;rintro e V ⟨rfl,J⟩;have j:=(lH (X.refl wr.heap.size wr)).tn (J.mono (qN _));have b7:=j.size;have o:=Hm (HR.out.below j);have z:=o.out.2.2.2.1)
     | go_still_tail 7,kr)
    go_roundw
    case rel=>
     refine⟨k+1,zz,by go_num,?_,E.out.tn (j.mono b2)⟩;rw[B.out,C.out];exact o.out
    case measure=>simp[intOf];omega
   .have e1:sU LL f.length d 1 k=false:=by rw[u.out,y.out];rfl
    have e0:sU LL f.length d 0 k=true:=by rw[u.out,y.out];rfl
    have C:=Hm (mV e1);have B:=Hm (oG e0);clear e1 e0
    go_wp2_with (first
     | (go_at_call 51;refine(b1 ⟨A,f.length,c⟩ _ rfl _).mono ?_;rintro e V ⟨rfl,J⟩;have j:=(lH (X.refl wr.heap.size wr)).tn (J.mono (qN _));have b7:=j.size;have o:=Hm (HR.out.below j);have z:=o.out.2.2.2.1)
     | go_still_tail 7,kr
     | (at_builtin;refine ff rfl _ _ 24 rfl P.heap.size 3 i0 (.int .i64 0) 1 8 Tryz.underlying24 hi b9 b3 b' rfl dd _ _ _ rfl (z.alloc _) ⟨V.heap.size,0,I⟩ 1 1 [.int .i64 k] rfl rfl (cell_one_new _ _ _) (λx O=>by simp at O;subst O;rfl) (by unfold maxLen;omega) zz so ?_;intro v' w3 a9 K a8))
    go_roundw
    case rel=>
     refine⟨k+1,zz,by go_num,?_,(aP (E.out.tn (j.mono b2)) (qN _) _).grown K so (λq a'=>(z.lt q a').1)⟩;rw[C.out];exact(kH.fst (o.out.below (aP (X.refl _ _) (qN _) _)).swap (k:Int) B.out a9 K a8).swap
    case measure=>simp[intOf];omega
  .have c7:(k:Int)=b.S:=zz;have b6:k=b.S.toNat:=zz;have c4:=Hm b6;have HR:=Hm S;have E:=Hm p;obtain⟨⟨A1,Q,rfl⟩,⟨A2,c2,rfl⟩,T,U,o3⟩:=S;clear T U o3 b6 p c7;go_wp2;refine bd (results_tmp3 rfl _ _ _) rfl ?_;rw[a1.out,<- c4.out];exact⟨_,_,rfl,HR.out.base Z.out.size,Z.out.tn (E.out.mono Z.out.size)⟩
def Of(b:aC)(l:pK)(a:Int)(w:H)(hl:aI w b l)(c:aD w)(h:cP b l (ax a 0 (b.U.n-1))=0:=by kernel_rfl):PH F 18 #[b.v,.int .i64 a] w (wP (DF b l a) w):=Oe b l a w hl c h
def Og(LL:List gM)(n:Nat)(a:List Nat):Bool:=a.all λh=>decide (assoc LL ((h:Int),(n:Int))<=0)
def sw(LL:List gM)(U:Nat):Nat->Bool:=λn=>Og LL n (List.range' 0 U)
def qq(b:aC)(l:pK):List Int×Int:=
 if cP b l true=0 then(ie (sw (fN b l) b.U.n) b.S.toNat,0)else([],cP b l true)
theorem Lt(b:aC)(l:pK)(w:H)(hl:aI w b l)(T:aD w)(h:cP b l true=0):
  PH F 19 #[b.v] w (ji w (qq b l).1 (qq b l).2 w):=by
 have a7:=Hm hl;have a4:=Hm T;have S:PQ (qq b l=(ie (sw (fN b l) b.U.n) b.S.toNat,0)):=by unfold qq;rw[PQ,qWB h]
 have c1:b.U.n<=1000:=by rw[hl.U.1];exact hl.U.2.2.1
 obtain⟨t1,t2,-⟩:=cS (bP (Yt h).1).1;have p:=qp b l 45 #[] lT true (w.alloc (aE b 31)) (aq a7.out _) (ai a4.out _) (λ_=>gW b _) h;unfold jo at p;generalize aJ b l b.D.toNat=f at p;generalize fN b l=LL at p S;clear hl T h;unfold aC.v aE uC at p;unfold aC.v;go_enter Tryz.func19,Tryz.ntmps19;go_wp2;go_step3;go_wp2_with (fail);try go_step3
 go_wp2_with (go_at_call 44;refine p.mono ?_;rintro e d ⟨A,c,r,rfl,m,u,c8,s⟩;obtain⟨b1,b2⟩:=aU s;have d1:w.heap.size<d.heap.size:=(by have:=s.size;simp only[aa]at this;omega));go_step3;go_wp2;have P:Gk (d.alloc (.cells (iG b ⟨A,f.length,c⟩ (Y r)) 99)) d b ⟨A,f.length,c⟩ (Y r):=Sp _ _;have Q:jm (d.alloc (.cells (iG b ⟨A,f.length,c⟩ (Y r)) 99)) r LL:=(QR _ _ (ec.1 u).1).tn u;have B:X w w (d.alloc (.cells (iG b ⟨A,f.length,c⟩ (Y r)) 99)):=aP (di s) (qN _) _;have K:aK (d.alloc (.cells (iG b ⟨A,f.length,c⟩ (Y r)) 99)) w 31 b:=(QR _ _ zz).tn ((s.block _ ss).tn (Sp _ _));have c9:r<d.heap.size:=(ec.1 u).1;clear m u s b1 b2;change Ly.wp _ _ _ _ (d.alloc (.cells (iG b ⟨A,f.length,c⟩ (Y r)) 99));have a3:d.heap.size<(d.alloc (.cells (iG b ⟨A,f.length,c⟩ (Y r)) 99)).heap.size:=by simp
 generalize(d.alloc (.cells (iG b ⟨A,f.length,c⟩ (Y r)) 99))=y at P Q B K a3|-;have a5:=Hm P;have a8:=Hm Q;have C:=Hm B;have R:=Hm K;clear P Q B K;obtain⟨i0,hi,b9,b0,b'⟩:=info_parts vD;go_loopw [6,19] (λv1 v wr=>∃(k:Nat) (z:Option Addr) (J:Nat),(k:Int)<=b.S/\v=.int .i64 k/\v1=.slice z (ie (sw LL b.U.n) k).length J/\wr.ownsRow y.heap.size 3 1 v1 (ie (sw LL b.U.n) k).length ((ie (sw LL b.U.n) k).map (M.int .i64))/\X y.heap.size y wr) (λ_ v _=>b.S.toNat-(intOf v).toNat)
 case atStart=>exact⟨0,I,0,zz,rfl,rfl,H.ownsRow_nil _ _ _ _,X.refl _ _⟩
 case round=>
  obtain⟨k,z,J,hk,rfl,rfl,m,g⟩:=hrel;obtain⟨i,rfl⟩:∃i:H,i=wr:=⟨_,rfl⟩;have b8:=g.size;have c4:=kO (sw LL b.U.n) k;by_cases c5:(k:Int)<b.S
  .have d3:=(gH ((g.block _ a3).tn a5.out)).2.2.2.2.2.2.2.2.2.2.2.2.2.2;have j:aK i w 31 b:=(g.block _ zz).tn R.out;have d2:=(aM j).2.2.2.2.2.2.2.2.2.2.1;have y0:=(aM j).1;have U:jm i r LL:=(g.block _ zz).tn a8.out;have a9:=Hm U;have o:=Hm g;have E:=Hm m;clear U g m j;go_wp2;go_loop [25] (λv=>∃h:Nat,h<=b.U.n/\v=.int .i64 h/\PQ (Og LL k (List.range' h (b.U.n-h))=sw LL b.U.n k)) (λv=>b.U.n-(intOf v).toNat)
   case atStart=>exact⟨0,zz,rfl,rfl⟩
   case round=>
    obtain⟨h,c3,rfl,N⟩:=hrel;by_cases c6:h<b.U.n
    .have b4:(Instr.lookup 97 (.map (Y r)) (.agg #[.int .i64 h,.int .i64 k]) false).run F i=.ok (.int .i64 (assoc LL (h,k))) i:=gd (L:=LL) a9.out (h,k);have Z:List.range' h (b.U.n-h)=h::List.range' (h+1) (b.U.n-(h+1)):=by
      rw[show b.U.n-h=(b.U.n-(h+1))+1 by omega,List.range'_succ]
     have O:=N.out;rw[Z]at O;have a1:sw LL b.U.n k=(decide (assoc LL ((h:Int),(k:Int))<=0)&&Og LL k (List.range' (h+1) (b.U.n-(h+1)))):=by rw[<- O];rfl
     have G:=Hm a1;clear a1 O Z;generalize assoc LL ((h:Int),(k:Int))=a at b4 G;by_cases c2:0<a
     .have t:sw LL b.U.n k=false:=by rw[G.out];simp;omega
      have n:=Hm (mV t);clear t;go_wp2;go_roundw
      case rel=>exact⟨k+1,z,J,zz,by go_num,by rw[n.out],by rw[n.out];exact E.out,o.out⟩
      case measure=>simp[intOf];omega
     .have a0:a<=0:=zz;go_wp2;go_round
      case rel=>exact⟨h+1,zz,by go_num,by rw[PQ,G.out];simp[a0]⟩
      case measure=>simp[intOf];omega
    .obtain rfl:h=b.U.n:=zz;have t:sw LL b.U.n k=true:=by rw[<- N.out,Nat.sub_self];rfl
     have n:=Hm (oG t);have b5:=E.out;clear t N;go_wp2_with (at_builtin;refine ff rfl _ _ 24 rfl y.heap.size 3 i0 (.int .i64 0) 1 8 Tryz.underlying24 hi b9 b0 b' rfl dd _ _ _ rfl (b5.alloc _) ⟨i.heap.size,0,I⟩ 1 1 [.int .i64 k] rfl rfl (cell_one_new _ _ _) (λx a2=>by simp at a2;subst a2;rfl) (by unfold maxLen;omega) zz so ?_;intro v' w3 W b3 c7);go_roundw
     case rel=>
      obtain⟨A',c',b7⟩:=tK W;exact⟨k+1,A',c',zz,by go_num,by rw[b7,n.out];simp,by rw[n.out];simpa using W,(o.out.alloc b8 _).grown b3 so (λq b6=>(E.out.lt q b6).1)⟩
     case measure=>simp[intOf];omega
  .have V:k=b.S.toNat:=zz;have a6:=Hm V;have a':=Hm m;have o:=Hm g;clear V g m;have j:aK i w 31 b:=(o.out.block _ zz).tn R.out;have y0:=(aM j).1;clear j;go_wp2;go_ret2;rw[S.out,<- a6.out];exact⟨_,_,rfl,dy C.out.size a'.out,C.out.tn (o.out.mono C.out.size)⟩
def Lu(b:aC)(l:pK)(w:H)(hl:aI w b l)(a:aD w)(h:cP b l true=0:=by kernel_rfl):PH F 19 #[b.v] w (ji w (qq b l).1 (qq b l).2 w):=Lt b l w hl a h
variable{v0:M}
def Tz(b:aC)(l:pK)(x:Int×(Nat->Bool))(p:Nat):Nat->Bool:=λh=>oN b l x h p
def pF(b:aC)(l:pK)(x:Int×(Nat->Bool))(p k:Nat):Nat:=(ie (Tz b l x p) k).length
def yc(b:aC)(l:pK)(p:Nat)(z:Int×Int)(xs:List (Int×(Nat->Bool))):Int×Int:=xs.foldl (λz x=>(min z.1 (pF b l x p l.U.length:Nat),max z.2 (pF b l x p l.U.length:Nat))) z
def qs(b:aC)(l:pK)(step:Int):(Int×Int)×Int:=
 if cP b l (ax step 0 (b.S-1))=0 then(yc b l step.toNat ((l.U.length:Nat),0) (aJ b l b.D.toNat),0)else((0,0),cP b l (ax step 0 (b.S-1)))
def yd(p:(Int×Int)×Int)(w:H)(e:Ending)(w':H):Prop:=e=.returned (.tuple #[.agg #[.int .i64 p.1.1,.int .i64 p.1.2],.int .i64 p.2])/\X w w w'
def kV(h:w.heap[g]?=Y (.cells #[v0,v1] t (0,0))):w (g,0)=Y v0/\w (g,1)=Y v1:=by
 constructor<;>(rw[H.cell?,h];rfl)
def tR(a b:M)(h:w.heap[g]?=Y (.cells #[v0,v1] t (0,0))):((w.setCell (g,0) a).setCell (g,1) b).heap[g]?=Y (.cells #[a,b] t (0,0))/\aS (λx=>x≠g) w ((w.setCell (g,0) a).setCell (g,1) b):=by
 have c:=bJ (i:=0) h a;simp only[zS]at c;have d:=bJ (i:=1) c b;simp only[zS]at d;exact⟨d,((aS.refl _ _).set (p:=⟨g,0,I⟩) (λ_ h=>h rfl) _).set (p:=⟨g,1,I⟩) (λ_ h=>h rfl) _⟩
variable{sb0x r p:Nat}{l:pK}
structure tS(w:H)(kb sb0x B:Nat)(b:aC)(l:pK)(s:Sl)(r:Nat)(SS:List (Int×(Nat->Bool)))(p:Nat)(wr:H):Prop where
 box:aK wr w.heap.size 31 b
 st:wr.heap[sb0x]?=Y (.cells #[.int .i64 p] 3 (0,0))
 res:wr.heap[sb0x+1]?=Y (.cells #[.int .i64 0,.int .i64 0] 23 (0,0))
 kn:Gk wr kb b s (Y r)
 own:wr.ownsRow B 82 13 (.slice s.A s.n s.c) s.n (Gf SS)
 low:X w w wr
def tS.keep{K:Nat->Prop}(h:tS w kb sb0x B b l s r SS p wr)(hk:aS K wr wr')(k0:∀x,x<=w.heap.size->K x)(c:K sb0x)(d:K (sb0x+1))(e:K kb)(f:∀g,(M.slice s.A s.n s.c).ownBlock=Y g->K g):tS w kb sb0x B b l s r SS p wr':=
 ⟨hk.get (k0 _ (qN _)) h.box,hk.get c h.st,hk.get d h.res,hk.get e h.kn,E5 h.own hk f,h.low.tn (hk.below h.low.size (λx a=>k0 x (q5A a)))⟩
def tS.below(h:tS w kb sb0x B b l s r SS p wr)(a:X wr wr wr'):tS w kb sb0x B b l s r SS p wr':=
 h.keep (aS.dY (K:=λ_=>True) a (λ_ h _=>h)) (λ_ _=>trivial) qYB qYB qYB (λ_ _=>trivial)
def Oj(b:aC)(l:pK)(x:Int×(Nat->Bool))(p k:Nat):pF b l x p k<=k:=kO _ _
theorem Gq(b:aC)(l:pK)(step:Int)(w:H)(hl:aI w b l)(b4:aD w)(h:cP b l (ax step 0 (b.S-1))=0):
  PH F 20 #[b.v,.int .i64 step] w (yd (qs b l step) w):=by
 have b2:=Hm hl;have d4:=Hm b4;have W:PQ (qs b l step=(yc b l step.toNat ((l.U.length:Nat),0) (aJ b l b.D.toNat),0)):=by unfold qs;rw[PQ,qWB h]
 have g9:b.U.n<=1000:=by rw[hl.U.1];exact hl.U.2.2.1
 have a1:=Hm hl.U.1;obtain⟨R,h2,h3⟩:=Yt h;have a0:=Hm R;obtain⟨t1,t2,-⟩:=cS (bP R).1;have P:(((w.alloc (aE b 31)).alloc (.cells #[.int .i64 step] 3)).alloc (.cells #[.int .i64 0,.int .i64 0] 23)).cell? ⟨w.heap.size+1,0,I⟩=Y (.int .i64 step):=one_cell ((QR _ _ ss).tn (by rw[<- aa w (aE b 31)];exact Sp _ _));have Q:=qp b l 54 #[.pointer (Y ⟨w.heap.size+1,0,I⟩)] Dz (ax step 0 (b.S-1)) (((w.alloc (aE b 31)).alloc (.cells #[.int .i64 step] 3)).alloc (.cells #[.int .i64 0,.int .i64 0] 23)) (aq (aq (aq b2.out _) _) _) (ai (ai (ai d4.out _) _) _) (λ_=>xX b zz zz step (w.heap.size+1) _ P ss) h;have a8:∀x∈aJ b l b.D.toNat,b.lo<=x.1/\x.1<=b.hi:=λx u=>qn (List.mem_filter.1 u).1;have e8:=nL R;have f6:0<(aJ b l b.D.toNat).length:=List.length_pos_iff.2 h3;obtain⟨f1,f2⟩:=qM.1 h2;obtain⟨p,rfl⟩:∃p:Nat,step=(p:Int):=⟨step.toNat,zz⟩;have a7:p<12:=zz;simp only[ll]at W;unfold jo at Q;generalize aJ b l b.D.toNat=SS at Q W a8 e8 f6;have d9:=Hm a8;clear hl b4 h R h2 h3 f1 f2 P a8;unfold aC.v aE uC at Q;unfold aC.v;go_enter Tryz.func20,Tryz.ntmps20;go_wp2_with (go_at_call 44;refine Q.mono ?_;rintro e d ⟨A,c,r,rfl,K,e',h6,J⟩;obtain⟨e4,e5⟩:=aU J;have h7:w.heap.size+1+1<d.heap.size:=(by have:=J.size;simp only[aa]at this;omega);have h8:w.heap.size<d.heap.size:=zz);obtain⟨g,rfl⟩:∃g,A=Y ⟨g,0,I⟩:=by
  rcases K.2 with⟨h1,h2⟩|⟨g,g7,g8,h1,-⟩
  .omega
  .simp only[lL]at h1;exact⟨g,h1.1⟩
 have g':g<d.heap.size:=(K.lt g rfl).2;have e6:=(K.lt g rfl).1;simp only[aa]at e6;obtain⟨B,e3⟩:∃B,B=w.heap.size+1+1+1:=⟨_,rfl⟩;have U:tS w d.heap.size (w.heap.size+1) B b l ⟨Y ⟨g,0,I⟩,SS.length,c⟩ r SS p (d.alloc (.cells (iG b ⟨Y ⟨g,0,I⟩,SS.length,c⟩ (Y r)) 99)):=by
  have N:∀x,x<w.heap.size+3->(d.alloc (.cells (iG b ⟨Y ⟨g,0,I⟩,SS.length,c⟩ (Y r)) 99)).heap[x]?=(((w.alloc (aE b 31)).alloc (.cells #[.int .i64 p] 3)).alloc (.cells #[.int .i64 0,.int .i64 0] 23)).heap[x]?:=λx u=>(QR _ _ zz).tn (J.block x so);refine⟨?_,?_,?_,Sp _ _,?_,aP (jI J) (qN _) _⟩
  .exact(N _ zz).tn ((QR _ _ so).tn ((QR _ _ ss).tn (Sp _ _)))
  .exact(N _ zz).tn ((QR _ _ ss).tn (by rw[<- aa w (aE b 31)];exact Sp _ _))
  .exact(N _ zz).tn (by rw[<- aa w (aE b 31),<- aa (w.alloc (aE b 31)) (.cells #[.int .i64 p] 3)];exact Sp _ _)
  .rw[e3];have:=K.alloc (.cells (iG b ⟨Y ⟨g,0,I⟩,SS.length,c⟩ (Y r)) 99);simp only[aa]at this;exact this
 clear K e' J e4 e5;change Ly.wp _ _ _ _ ((d.alloc (.cells (iG b ⟨Y ⟨g,0,I⟩,SS.length,c⟩ (Y r)) 99)).alloc (.cells #[.int .i64 b.U.n,.int .i64 0] 23));have a9:(d.alloc (.cells (iG b ⟨Y ⟨g,0,I⟩,SS.length,c⟩ (Y r)) 99)).heap.size=d.heap.size+1:=by simp
 generalize(d.alloc (.cells (iG b ⟨Y ⟨g,0,I⟩,SS.length,c⟩ (Y r)) 99))=c7 at U a9|-;have V:=U.below ((X.refl _ _).alloc (qN _) (.cells #[.int .i64 b.U.n,.int .i64 0] 23));have a6:(c7.alloc (.cells #[.int .i64 b.U.n,.int .i64 0] 23)).heap[d.heap.size+1]?=Y (.cells #[.int .i64 b.U.n,.int .i64 0] 23 (0,0)):=by rw[<- a9];exact Sp _ _
 generalize(c7.alloc (.cells #[.int .i64 b.U.n,.int .i64 0] 23))=h0 at V a6|-;have d2:=Hm V;have d6:=Hm a6;clear U V a6 a9;go_loopw [30] (λv wr=>∃(i:Nat) (z:Int×Int),i<=SS.length/\v=.int .i64 i/\tS w d.heap.size (w.heap.size+1) B b l ⟨Y ⟨g,0,I⟩,SS.length,c⟩ r SS p wr/\wr.heap[d.heap.size+1]?=Y (.cells #[.int .i64 z.1,.int .i64 z.2] 23 (0,0))/\PQ (yc b l p z (SS.drop i)=yc b l p ((l.U.length:Nat),0) SS)) (λv _=>SS.length-(intOf v).toNat)
 case atStart=>exact⟨0,((l.U.length:Nat),0),zz,rfl,d2.out,by rw[<- a1.out];exact d6.out,rfl⟩
 case round=>
  obtain⟨i,z,hi,rfl,k,s,a4⟩:=hrel;obtain⟨a,rfl⟩:∃a:H,a=wr:=⟨_,rfl⟩;by_cases T:i<SS.length
  .obtain⟨x,u⟩:∃x,SS.getD i (0,mI)=x:=⟨_,rfl⟩;have f3:x∈SS:=by rw[<- u];simp[List.getD,iv T]
   obtain⟨e1,e2⟩:=d9.out x f3;have b5:SS.drop i=x::SS.drop (i+1):=by
    rw[fx T,<- u];simp[List.getD,iv T]
   have q:∀j,j<13->a.cell? ⟨g,i*13+j,I⟩=(zC x).toList[j]?:=λj e7=>by
    have:=wO k.own rfl T j e7;rw[u]at this;exact this
   have q0:a.cell? ⟨g,i*13,I⟩=Y (.int .i64 x.1):=q 0 zz;have q1:a.cell? ⟨g,i*13+1,I⟩=Y (.bool (x.2 0)):=q 1 zz;have q2:a.cell? ⟨g,i*13+2,I⟩=Y (.bool (x.2 1)):=q 2 zz;have q3:a.cell? ⟨g,i*13+3,I⟩=Y (.bool (x.2 2)):=q 3 zz;have q4:a.cell? ⟨g,i*13+4,I⟩=Y (.bool (x.2 3)):=q 4 zz;have q5:a.cell? ⟨g,i*13+5,I⟩=Y (.bool (x.2 4)):=q 5 zz;have q6:a.cell? ⟨g,i*13+6,I⟩=Y (.bool (x.2 5)):=q 6 zz;have q7:a.cell? ⟨g,i*13+7,I⟩=Y (.bool (x.2 6)):=q 7 zz;have q8:a.cell? ⟨g,i*13+8,I⟩=Y (.bool (x.2 7)):=q 8 zz;have q9:a.cell? ⟨g,i*13+9,I⟩=Y (.bool (x.2 8)):=q 9 zz;have f9:a.cell? ⟨g,i*13+10,I⟩=Y (.bool (x.2 9)):=q 10 zz;have f':a.cell? ⟨g,i*13+11,I⟩=Y (.bool (x.2 10)):=q 11 zz;have f0:a.cell? ⟨g,i*13+12,I⟩=Y (.bool (x.2 11)):=q 12 zz;have g3:=(aM k.box).2.2.2.2.2.2.2.2.2.2.1;have h5:w.heap.size<a.heap.size:=k.box.lt;have h4:d.heap.size+1<a.heap.size:=(ec.1 s).1;have d7:=Hm k;have d':=Hm b5;have d0:=Hm s;clear q u b5 k s;go_wp2;clear q0 q1 q2 q3 q4 q5 q6 q7 q8 q9 f9 f' f0 g3;go_loopw [11,37] (λn v a'=>∃h:Nat,h<=b.U.n/\v=.int .i64 h/\n=.int .i64 (pF b l x p h)/\tS w d.heap.size (w.heap.size+1) B b l ⟨Y ⟨g,0,I⟩,SS.length,c⟩ r SS p a'/\vl a' a.heap.size 82 x.1 x.2/\a'.heap[d.heap.size+1]?=Y (.cells #[.int .i64 z.1,.int .i64 z.2] 23 (0,0))) (λ_ v _=>b.U.n-(intOf v).toNat)
   case atStart=>exact⟨0,zz,rfl,rfl,d7.out.below ((X.refl _ _).alloc (qN _) _),vl.new a 82 x.1 x.2,(QR _ _ zz).tn d0.out⟩
   case round=>
    obtain⟨h,g0,rfl,rfl,k,L,s⟩:=hrel;obtain⟨m,rfl⟩:∃m:H,m=wr:=⟨_,rfl⟩;by_cases e9:h<b.U.n
    .have b7:h<l.U.length:=by rw[<- a1.out];exact e9
     obtain⟨c5,c6,t3,t4,t5,t6,t7,t8,t9,g1,-⟩:=cS (bP a0.out).1;obtain⟨p1,p2,p3,p4⟩:=kP (bP a0.out).2.2.1 h b7;have S:=λw' (a7:Cf w' b.U l.U)=>qX b c5 c6 t5 t6 x.1 zz zz x.2 h l.U b7 p1 p2 p3 p4 w' a7;have f5:=Oj b l x p h;have c1:oN b l x h p=true->pF b l x p (h+1)=pF b l x p h+1:=λe=>by unfold pF;rw[oG (show Tz b l x p h=true from e)];simp
     have b9:oN b l x h p=false->pF b l x p (h+1)=pF b l x p h:=λe=>by unfold pF;rw[mV (show Tz b l x p h=false from e)]
     have a2:=Hm c1;have Z:=Hm b9;change ∀w',Cf w' b.U l.U->PH F 42 #[b.v,gN x.1 x.2,.int .i64 h] w' λe g2=>e=.returned (tJ (oN b l x h))/\X w'.heap.size w' g2 at S;have b6:=λw=>Dl (oN b l x h) p a7 w;generalize oN b l x h=d1 at S a2 Z b6;generalize b8:pF b l x p h=n at f5 a2 Z|-;have g6:=Hm b8;have t:d.heap.size<m.heap.size:=(ec.1 k.kn).1;have o:=L.lt;have f8:w.heap.size+1<m.heap.size:=(ec.1 k.st).1;obtain⟨z0,z1,z2,z3,z4,z5,z6,z7,z8,z9,c8,c9,c',g4,g5⟩:=gH k.kn;obtain⟨s0,s1,s2,s3,s4,s5,s6,s7,s8,s9,c2,c3,c4⟩:=L.all;have b':=one_cell k.st;have O:=Hm k;have b3:=Hm L;have E:=Hm s;have d8:PQ (∀w',X m.heap.size m w'->w'.cell? ⟨d.heap.size,0,I⟩=Y (.int .i64 b.S)/\w'.cell? ⟨d.heap.size,1,I⟩=Y (.int .i64 b.D)/\w'.cell? ⟨d.heap.size,2,I⟩=Y (.int .i64 b.L)/\w'.cell? ⟨d.heap.size,3,I⟩=Y (.int .i64 b.lo)/\w'.cell? ⟨d.heap.size,4,I⟩=Y (.int .i64 b.hi)/\w'.cell? ⟨d.heap.size,5,I⟩=Y (.slice b.C.A b.C.n b.C.c)/\w'.cell? ⟨d.heap.size,6,I⟩=Y (.int .i64 b.rf)/\w'.cell? ⟨d.heap.size,7,I⟩=Y (.int .i64 b.rh)/\w'.cell? ⟨d.heap.size,8,I⟩=Y (.int .i64 b.cf)/\w'.cell? ⟨d.heap.size,9,I⟩=Y (.int .i64 b.ch)/\w'.cell? ⟨d.heap.size,10,I⟩=Y (.slice b.U.A b.U.n b.U.c)/\w'.cell? ⟨d.heap.size,11,I⟩=Y (.slice b.E.A b.E.n b.E.c)/\w'.cell? ⟨d.heap.size,12,I⟩=Y (.slice b.W.A b.W.n b.W.c)/\w'.cell? ⟨a.heap.size,0,I⟩=Y (.int .i64 x.1)/\w'.cell? ⟨a.heap.size,1,I⟩=Y (.bool (x.2 0))/\w'.cell? ⟨a.heap.size,2,I⟩=Y (.bool (x.2 1))/\w'.cell? ⟨a.heap.size,3,I⟩=Y (.bool (x.2 2))/\w'.cell? ⟨a.heap.size,4,I⟩=Y (.bool (x.2 3))/\w'.cell? ⟨a.heap.size,5,I⟩=Y (.bool (x.2 4))/\w'.cell? ⟨a.heap.size,6,I⟩=Y (.bool (x.2 5))/\w'.cell? ⟨a.heap.size,7,I⟩=Y (.bool (x.2 6))/\w'.cell? ⟨a.heap.size,8,I⟩=Y (.bool (x.2 7))/\w'.cell? ⟨a.heap.size,9,I⟩=Y (.bool (x.2 8))/\w'.cell? ⟨a.heap.size,10,I⟩=Y (.bool (x.2 9))/\w'.cell? ⟨a.heap.size,11,I⟩=Y (.bool (x.2 10))/\w'.cell? ⟨a.heap.size,12,I⟩=Y (.bool (x.2 11))/\w'.cell? ⟨w.heap.size+1,0,I⟩=Y (.int .i64 p)/\d.heap.size<w'.heap.size/\a.heap.size<w'.heap.size/\w.heap.size+1<w'.heap.size/\X m.heap.size m w'):=λw' f=>⟨(f.cell (p:=⟨_,_,I⟩) t).tn z0,(f.cell (p:=⟨_,_,I⟩) t).tn z1,(f.cell (p:=⟨_,_,I⟩) t).tn z2,(f.cell (p:=⟨_,_,I⟩) t).tn z3,(f.cell (p:=⟨_,_,I⟩) t).tn z4,(f.cell (p:=⟨_,_,I⟩) t).tn z5,(f.cell (p:=⟨_,_,I⟩) t).tn z6,(f.cell (p:=⟨_,_,I⟩) t).tn z7,(f.cell (p:=⟨_,_,I⟩) t).tn z8,(f.cell (p:=⟨_,_,I⟩) t).tn z9,(f.cell (p:=⟨_,_,I⟩) t).tn c8,(f.cell (p:=⟨_,_,I⟩) t).tn c9,(f.cell (p:=⟨_,_,I⟩) t).tn c',(f.cell (p:=⟨_,_,I⟩) o).tn s0,(f.cell (p:=⟨_,_,I⟩) o).tn s1,(f.cell (p:=⟨_,_,I⟩) o).tn s2,(f.cell (p:=⟨_,_,I⟩) o).tn s3,(f.cell (p:=⟨_,_,I⟩) o).tn s4,(f.cell (p:=⟨_,_,I⟩) o).tn s5,(f.cell (p:=⟨_,_,I⟩) o).tn s6,(f.cell (p:=⟨_,_,I⟩) o).tn s7,(f.cell (p:=⟨_,_,I⟩) o).tn s8,(f.cell (p:=⟨_,_,I⟩) o).tn s9,(f.cell (p:=⟨_,_,I⟩) o).tn c2,(f.cell (p:=⟨_,_,I⟩) o).tn c3,(f.cell (p:=⟨_,_,I⟩) o).tn c4,(f.cell (p:=⟨_,_,I⟩) f8).tn b',by have:=f.size;omega,by have:=f.size;omega,by have:=f.size;omega,f⟩;clear z0 z1 z2 z3 z4 z5 z6 z7 z8 z9 c8 c9 c' g4 g5 s0 s1 s2 s3 s4 s5 s6 s7 s8 s9 c2 c3 c4 b' k L s c1 b9 b8 c5 c6 t3 t4 t5 t6 t7 t8 t9 g1 p1 p2 p3 p4;unfold aC.v gN at S;cases a3:d1 p
     all_goals
      rw[a3]at b6;have b1:=Hm a3;clear a3;go_wp2;go_region_held3 (λw'=>w'.cell? ⟨d.heap.size,0,I⟩=Y (.int .i64 b.S)/\w'.cell? ⟨d.heap.size,1,I⟩=Y (.int .i64 b.D)/\w'.cell? ⟨d.heap.size,2,I⟩=Y (.int .i64 b.L)/\w'.cell? ⟨d.heap.size,3,I⟩=Y (.int .i64 b.lo)/\w'.cell? ⟨d.heap.size,4,I⟩=Y (.int .i64 b.hi)/\w'.cell? ⟨d.heap.size,5,I⟩=Y (.slice b.C.A b.C.n b.C.c)/\w'.cell? ⟨d.heap.size,6,I⟩=Y (.int .i64 b.rf)/\w'.cell? ⟨d.heap.size,7,I⟩=Y (.int .i64 b.rh)/\w'.cell? ⟨d.heap.size,8,I⟩=Y (.int .i64 b.cf)/\w'.cell? ⟨d.heap.size,9,I⟩=Y (.int .i64 b.ch)/\w'.cell? ⟨d.heap.size,10,I⟩=Y (.slice b.U.A b.U.n b.U.c)/\w'.cell? ⟨d.heap.size,11,I⟩=Y (.slice b.E.A b.E.n b.E.c)/\w'.cell? ⟨d.heap.size,12,I⟩=Y (.slice b.W.A b.W.n b.W.c)/\w'.cell? ⟨a.heap.size,0,I⟩=Y (.int .i64 x.1)/\w'.cell? ⟨a.heap.size,1,I⟩=Y (.bool (x.2 0))/\w'.cell? ⟨a.heap.size,2,I⟩=Y (.bool (x.2 1))/\w'.cell? ⟨a.heap.size,3,I⟩=Y (.bool (x.2 2))/\w'.cell? ⟨a.heap.size,4,I⟩=Y (.bool (x.2 3))/\w'.cell? ⟨a.heap.size,5,I⟩=Y (.bool (x.2 4))/\w'.cell? ⟨a.heap.size,6,I⟩=Y (.bool (x.2 5))/\w'.cell? ⟨a.heap.size,7,I⟩=Y (.bool (x.2 6))/\w'.cell? ⟨a.heap.size,8,I⟩=Y (.bool (x.2 7))/\w'.cell? ⟨a.heap.size,9,I⟩=Y (.bool (x.2 8))/\w'.cell? ⟨a.heap.size,10,I⟩=Y (.bool (x.2 9))/\w'.cell? ⟨a.heap.size,11,I⟩=Y (.bool (x.2 10))/\w'.cell? ⟨a.heap.size,12,I⟩=Y (.bool (x.2 11))/\w'.cell? ⟨w.heap.size+1,0,I⟩=Y (.int .i64 p)/\d.heap.size<w'.heap.size/\a.heap.size<w'.heap.size/\w.heap.size+1<w'.heap.size/\X m.heap.size m w')
       (exact d8.out _ bf)
       (first|(go_at_call 42;(with_reducible refine(S _ (b2.out.U.below (O.out.low.tn (X.mono (by first|with_reducible assumption|exact bt:X m.heap.size m _) O.out.low.size)))).mono ?_);rintro e v1 ⟨rfl,f7⟩;have C:X m.heap.size m v1:=X.tn bf (f7.mono (by first|(simp only[H.size_drew];omega)|exact(by with_reducible assumption:X m.heap.size m _).size))))
      go_wp2
     .go_roundw
      case rel=>exact⟨h+1,zz,by go_num,by rw[Z.out b1.out],O.out.below C,b3.out.below C o,(C.block _ (ec.1 E.out).1).tn E.out⟩
      case measure=>simp[intOf];omega
     .go_roundw
      case rel=>exact⟨h+1,zz,by go_num,by rw[a2.out b1.out];go_num,O.out.below C,b3.out.below C o,(C.block _ (ec.1 E.out).1).tn E.out⟩
      case measure=>simp[intOf];omega
    .obtain rfl:h=b.U.n:=zz;have G:=Hm k;have E:=Hm s;obtain⟨o0,o1⟩:=kV s;have of:∀j,m.frozen? ⟨d.heap.size+1,j,I⟩=false:=λj=>by simp[H.frozen?,s]
     have h':d.heap.size+1<m.heap.size:=(ec.1 s).1;obtain⟨n,a5⟩:∃n,pF b l x p b.U.n=n:=⟨_,rfl⟩;rw[a5];have d5:=Hm a5;clear k L s a5;go_wp2;go_roundw
     case rel=>
      have f4:(if(n:Int)<z.1 then(n:Int)else z.1)=min z.1 n:=by rw[Int.min_def];split<;>split<;>omega
      have e0:(if z.2<(n:Int)then(n:Int)else z.2)=max z.2 n:=by rw[Int.max_def];split<;>split<;>omega
      rw[f4,e0];obtain⟨N,C⟩:=tR (.int .i64 (min z.1 n)) (.int .i64 (max z.2 n)) E.out;refine⟨i+1,(min z.1 n,max z.2 n),zz,by go_num,G.out.keep C (λy b0=>zz) zz zz zz (λy b0=>by simp[M.ownBlock]at b0;omega),N,?_⟩;have e:yc b l p z (SS.drop i)=yc b l p (min z.1 n,max z.2 n) (SS.drop (i+1)):=by
       rw[d'.out,<- d5.out,a1.out];rfl
      rw[PQ,<- e];exact a4.out
     case measure=>simp[intOf];omega
  .obtain rfl:i=SS.length:=zz;have e1:z=yc b l p ((l.U.length:Nat),0) SS:=by
    have:=a4.out;rw[ma (qN _)]at this;exact this
   have d3:=Hm e1;obtain⟨o0,o1⟩:=kV s;obtain⟨y0,y1⟩:=kV k.res;have of:∀j,a.frozen? ⟨w.heap.size+1+1,j,I⟩=false:=λj=>by simp[H.frozen?,k.res]
   have h9:w.heap.size+1+1<a.heap.size:=(ec.1 k.res).1;have G:=Hm k;clear e1 k s a4;go_wp2;obtain⟨f1,f2⟩:=tR (.int .i64 z.1) (.int .i64 z.2) G.out.res;obtain⟨c0,P⟩:=kV f1;rw[W.out,<- d3.out];refine bd (v:=.tuple #[.agg #[.int .i64 z.1,.int .i64 z.2],.int .i64 0]) ?_ rfl ⟨rfl,G.out.low.tn (f2.below G.out.low.size (λx u=>zz))⟩;simp[results,Tryz.results20,go_sem,c0,P]
def Gr(b:aC)(l:pK)(step:Int)(w:H)(hl:aI w b l)(a:aD w)(h:cP b l (ax step 0 (b.S-1))=0:=by kernel_rfl):PH F 20 #[b.v,.int .i64 step] w (yd (qs b l step) w):=Gq b l step w hl a h
def Y4(w:H)(s:Sl)(L:List (Int×Int))(d:Int×Int):Prop:=s.n=L.length/\L.length<=s.c/\L.length<=1000/\(0<L.length->∃b off,s.A=Y ⟨b,off,I⟩/\b<w.heap.size/\∀k,k<L.length->w (b,off+k*2)=Y (.int .i64 (L.getD k d).1)/\w (b,off+k*2+1)=Y (.int .i64 (L.getD k d).2))
def Gs(a b:M)(h:w.heap[g]?=Y (.cells #[a0,a1] t (0,0))):((w.setCell (g,0) a).setCell (g,1) b).heap[g]?=Y (.cells #[a,b] t (0,0))/\aS (λx=>x≠g) w ((w.setCell (g,0) a).setCell (g,1) b):=by
 have c:=bJ (i:=0) h a;simp only[zS]at c;have d:=bJ (i:=1) c b;simp only[zS]at d;exact⟨d,(((aS.refl _ _).set (p:=⟨g,0,I⟩) (λ_ h=>h rfl) _).set (p:=⟨g,1,I⟩) (λ_ h=>h rfl) _)⟩
def tT(h:w.heap[g]?=Y (.cells #[a0,a1] t (0,0))):w (g,0)=Y a0/\w (g,1)=Y a1:=by
 refine⟨?_,?_⟩<;>(rw[H.cell?,h];rfl)
def dR(a:Int×Int->Int×Int->Bool)(one:Int×Int)(L:List (Int×Int)):Int×Int:=L.foldl (λone x=>if a x one then x else one) one
theorem Jb(b:Int×Int->Int×Int->Bool)(P:Int×Int->Prop)(one d:Int×Int)(s:Sl)(L:List (Int×Int))(w:H)(hl:Y4 w s L d)(a7:P one)(K:∀x∈L,P x)
  (N:∀x y l,X w.heap.size w l->P x->P y->PH F 57 #[.agg #[.int .i64 x.1,.int .i64 x.2],.agg #[.int .i64 y.1,.int .i64 y.2]] l λe w'=>e=.returned (.bool (b x y))/\X l.heap.size l w'):
  PH F 56 #[.func (.func 57) #[] #[],.agg #[.int .i64 one.1,.int .i64 one.2],.slice s.A s.n s.c] w λe w'=>e=.returned (.agg #[.int .i64 (dR b one L).1,.int .i64 (dR b one L).2])/\X w.heap.size w w':=by
 have a1:=Hm N;have a4:=Hm K;obtain⟨A,b8,c⟩:=s;obtain⟨rfl,a5,b1,R⟩:=hl;have a2:=Hm R;have a':∀(args:Array M) (w:H),(callFunc 57 args).run F w=.ok (.enter 57 args) w:=enters_of Tryz.func57 kr rfl;clear R N K;simp only at a5|-;go_enter Tryz.func56,Tryz.ntmps56;go_wp2;go_loopw [11] (λv wr=>∃(k:Nat) (a:Int×Int),k<=L.length/\v=.int .i64 k/\P a/\wr.heap[w.heap.size]?=Y (.cells #[.int .i64 a.1,.int .i64 a.2] 110 (0,0))/\wr.heap[w.heap.size+1]?=Y (.cells #[.int .i64 0,.int .i64 0] 110 (0,0))/\X w.heap.size w wr/\PQ (dR b a (L.drop k)=dR b one L)) (λv _=>L.length-(intOf v).toNat)
 case atStart=>
  refine⟨0,one,qT _,rfl,a7,(QR _ _ ss).tn (Sp _ _),?_,((X.refl _ _).alloc (qN _) _).alloc ss _,rfl⟩;rw[<- aa w (.cells #[.int .i64 one.1,.int .i64 one.2] 110)];exact Sp _ _
 case round=>
  obtain⟨k,a,hk,rfl,S,h,i,g,r⟩:=hrel;have b2:=g.size;have V:=(ec.1 h).1;have W:=(ec.1 i).1;by_cases t:k<L.length
  .obtain⟨x,u⟩:∃x,L.getD k d=x:=⟨_,rfl⟩;have a6:x∈L:=by rw[<- u];simp[List.getD,iv t]
   have T:L.drop k=x::L.drop (k+1):=by
    rw[fx t,<- u];simp[List.getD,iv t]
   obtain⟨n,off,rfl,O,q⟩:=a2.out zz;have q:=q k t;rw[u]at q;obtain⟨Z,p1⟩:=q;have c0:wr.cell? ⟨n,off+k*2,I⟩=Y (.int .i64 x.1):=(g.cell (p:=⟨n,_,I⟩) O).tn Z;have c1:wr.cell? ⟨n,off+k*2+1,I⟩=Y (.int .i64 x.2):=(g.cell (p:=⟨n,_,I⟩) O).tn p1;have b5:n<wr.heap.size:=zz;clear Z p1;have U:=a4.out x a6;have Q:=λl (h1:X w.heap.size w l)=>a1.out x a l h1 U S;obtain⟨o0,o1⟩:=tT h;have b6:∀j,wr.frozen? ⟨w.heap.size,j,I⟩=false:=λj=>by simp[H.frozen?,h]
   have G:=Hm h;have o:=Hm i;have J:=Hm T;have m:=Hm g;clear h i T g u;cases z:b x a
   all_goals
    rw[z]at Q;have E:=Hm z;clear z;go_wp2_with (go_at_call 57;refine(Q _ (aP m.out (qN _) _)).mono ?_;rintro e w2 ⟨rfl,f⟩;obtain⟨a9,a0⟩:=aU f;have b3:wr.heap.size<w2.heap.size:=(by have:=f.size;simp only[aa]at this;omega);have b4:w.heap.size<w2.heap.size:=zz)
   .go_roundw
    case rel=>
     refine⟨k+1,a,zz,by go_num,S,(f.block _ so).tn ((QR _ _ V).tn G.out),(f.block _ so).tn ((QR _ _ W).tn o.out),(aP m.out (qN _) _).tn (f.mono so),?_⟩;have e:dR b a (L.drop k)=dR b a (L.drop (k+1)):=by rw[J.out];simp[dR,E.out]
     rw[PQ,<- e];exact r.out
    case measure=>simp[intOf];omega
   .have g1:=(f.block w.heap.size so).tn ((QR _ _ V).tn G.out);have g2:=(f.block (w.heap.size+1) so).tn ((QR _ _ W).tn o.out);obtain⟨B,m2⟩:=Gs (.int .i64 x.1) (.int .i64 x.2) g1;have C:=(aP m.out (qN _) (.cells #[.int .i64 x.1,.int .i64 x.2] 110)).tn (f.mono so);go_roundw
    case rel=>
     refine⟨k+1,x,zz,by go_num,U,B,m2.get zz g2,C.tn (m2.below C.size (λy a8=>zz)),?_⟩;have e:dR b a (L.drop k)=dR b x (L.drop (k+1)):=by rw[J.out];simp[dR,E.out]
     rw[PQ,<- e];exact r.out
    case measure=>simp[intOf];omega
  .obtain rfl:k=L.length:=zz;have e1:a=dR b one L:=by
    have:=r.out;rw[ma (qN _)]at this;exact this
   have a3:=Hm e1;obtain⟨o0,o1⟩:=tT h;obtain⟨r0,r1⟩:=tT i;have b7:∀j,wr.frozen? ⟨w.heap.size+1,j,I⟩=false:=λj=>by simp[H.frozen?,i]
   have o:=Hm i;have m:=Hm g;clear e1 h i g r;go_wp2;obtain⟨B,m2⟩:=Gs (.int .i64 a.1) (.int .i64 a.2) o.out;obtain⟨n0,n1⟩:=tT B;rw[<- a3.out];refine bd (v:=.agg #[.int .i64 a.1,.int .i64 a.2]) ?_ rfl ⟨rfl,m.out.tn (m2.below m.out.size (λy a8=>zz))⟩;simp[results,Tryz.results56,go_sem,n0,n1]
def Y5(w:H)(s:Sl)(L:List ((Int×Int)×Int))(d:(Int×Int)×Int):Prop:=s.n=L.length/\L.length<=s.c/\L.length<=1000/\(0<L.length->∃b off,s.A=Y ⟨b,off,I⟩/\b<w.heap.size/\∀k,k<L.length->w (b,off+k*3)=Y (.int .i64 (L.getD k d).1.1)/\w (b,off+k*3+1)=Y (.int .i64 (L.getD k d).1.2)/\w (b,off+k*3+2)=Y (.int .i64 (L.getD k d).2))
def Ol(a b c:M)(h:w.heap[g]?=Y (.cells #[a0,a1,a2] t (0,0))):(((w.setCell (g,0) a).setCell (g,1) b).setCell (g,2) c).heap[g]?=Y (.cells #[a,b,c] t (0,0))/\aS (λx=>x≠g) w (((w.setCell (g,0) a).setCell (g,1) b).setCell (g,2) c):=by
 have d:=bJ (i:=0) h a;simp only[zS]at d;have e:=bJ (i:=1) d b;simp only[zS]at e;have h2:=bJ (i:=2) e c;simp only[zS]at h2;exact⟨h2,((((aS.refl _ _).set (p:=⟨g,0,I⟩) (λ_ h=>h rfl) _).set (p:=⟨g,1,I⟩) (λ_ h=>h rfl) _).set (p:=⟨g,2,I⟩) (λ_ h=>h rfl) _)⟩
def tU(h:w.heap[g]?=Y (.cells #[a0,a1,a2] t (0,0))):w (g,0)=Y a0/\w (g,1)=Y a1/\w (g,2)=Y a2:=by
 refine⟨?_,?_,?_⟩<;>(rw[H.cell?,h];rfl)
def iR(a:(Int×Int)×Int->(Int×Int)×Int->Bool)(one:(Int×Int)×Int)(L:List ((Int×Int)×Int)):(Int×Int)×Int:=L.foldl (λone x=>if a x one then x else one) one
theorem Ss(b:(Int×Int)×Int->(Int×Int)×Int->Bool)(P:(Int×Int)×Int->Prop)(one d:(Int×Int)×Int)(s:Sl)(L:List ((Int×Int)×Int))(w:H)(hl:Y5 w s L d)(a7:P one)(N:∀x∈L,P x)
  (O:∀x y m,X w.heap.size w m->P x->P y->PH F 59 #[.agg #[.int .i64 x.1.1,.int .i64 x.1.2,.int .i64 x.2],.agg #[.int .i64 y.1.1,.int .i64 y.1.2,.int .i64 y.2]] m λe w'=>e=.returned (.bool (b x y))/\X m.heap.size m w'):
  PH F 58 #[.func (.func 59) #[] #[],.agg #[.int .i64 one.1.1,.int .i64 one.1.2,.int .i64 one.2],.slice s.A s.n s.c] w λe w'=>e=.returned (.agg #[.int .i64 (iR b one L).1.1,.int .i64 (iR b one L).1.2,.int .i64 (iR b one L).2])/\X w.heap.size w w':=by
 have a1:=Hm O;have a4:=Hm N;obtain⟨A,b8,c⟩:=s;obtain⟨rfl,a5,b1,R⟩:=hl;have a2:=Hm R;have a':∀(args:Array M) (w:H),(callFunc 59 args).run F w=.ok (.enter 59 args) w:=enters_of Tryz.func59 kr rfl;clear R O N;simp only at a5|-;go_enter Tryz.func58,Tryz.ntmps58;go_wp2;go_loopw [11] (λv wr=>∃(k:Nat) (a:(Int×Int)×Int),k<=L.length/\v=.int .i64 k/\P a/\wr.heap[w.heap.size]?=Y (.cells #[.int .i64 a.1.1,.int .i64 a.1.2,.int .i64 a.2] 115 (0,0))/\wr.heap[w.heap.size+1]?=Y (.cells #[.int .i64 0,.int .i64 0,.int .i64 0] 115 (0,0))/\X w.heap.size w wr/\PQ (iR b a (L.drop k)=iR b one L)) (λv _=>L.length-(intOf v).toNat)
 case atStart=>
  refine⟨0,one,qT _,rfl,a7,(QR _ _ ss).tn (Sp _ _),?_,((X.refl _ _).alloc (qN _) _).alloc ss _,rfl⟩;rw[<- aa w (.cells #[.int .i64 one.1.1,.int .i64 one.1.2,.int .i64 one.2] 115)];exact Sp _ _
 case round=>
  obtain⟨k,a,hk,rfl,S,i,l,g,r⟩:=hrel;have b2:=g.size;have V:=(ec.1 i).1;have W:=(ec.1 l).1;by_cases t:k<L.length
  .obtain⟨x,u⟩:∃x,L.getD k d=x:=⟨_,rfl⟩;have a6:x∈L:=by rw[<- u];simp[List.getD,iv t]
   have T:L.drop k=x::L.drop (k+1):=by
    rw[fx t,<- u];simp[List.getD,iv t]
   obtain⟨h,off,rfl,z,q⟩:=a2.out zz;have q:=q k t;rw[u]at q;obtain⟨Z,p1,p2⟩:=q;have c0:wr.cell? ⟨h,off+k*3,I⟩=Y (.int .i64 x.1.1):=(g.cell (p:=⟨h,_,I⟩) z).tn Z;have c1:wr.cell? ⟨h,off+k*3+1,I⟩=Y (.int .i64 x.1.2):=(g.cell (p:=⟨h,_,I⟩) z).tn p1;have c2:wr.cell? ⟨h,off+k*3+2,I⟩=Y (.int .i64 x.2):=(g.cell (p:=⟨h,_,I⟩) z).tn p2;have b5:h<wr.heap.size:=zz;clear Z p1 p2;have U:=a4.out x a6;have Q:=λm (h1:X w.heap.size w m)=>a1.out x a m h1 U S;obtain⟨o0,o1,o2⟩:=tU i;have b6:∀j,wr.frozen? ⟨w.heap.size,j,I⟩=false:=λj=>by simp[H.frozen?,i]
   have J:=Hm i;have o:=Hm l;have K:=Hm T;have n:=Hm g;clear i l T g u;cases B:b x a
   all_goals
    rw[B]at Q;have G:=Hm B;clear B;go_wp2_with (go_at_call 59;refine(Q _ (aP n.out (qN _) _)).mono ?_;rintro e w2 ⟨rfl,f⟩;obtain⟨a9,a0⟩:=aU f;have b3:wr.heap.size<w2.heap.size:=(by have:=f.size;simp only[aa]at this;omega);have b4:w.heap.size<w2.heap.size:=zz)
   .go_roundw
    case rel=>
     refine⟨k+1,a,zz,by go_num,S,(f.block _ so).tn ((QR _ _ V).tn J.out),(f.block _ so).tn ((QR _ _ W).tn o.out),(aP n.out (qN _) _).tn (f.mono so),?_⟩;have e:iR b a (L.drop k)=iR b a (L.drop (k+1)):=by rw[K.out];simp[iR,G.out]
     rw[PQ,<- e];exact r.out
    case measure=>simp[intOf];omega
   .have g1:=(f.block w.heap.size so).tn ((QR _ _ V).tn J.out);have g2:=(f.block (w.heap.size+1) so).tn ((QR _ _ W).tn o.out);obtain⟨C,m2⟩:=Ol (.int .i64 x.1.1) (.int .i64 x.1.2) (.int .i64 x.2) g1;have E:=(aP n.out (qN _) (.cells #[.int .i64 x.1.1,.int .i64 x.1.2,.int .i64 x.2] 115)).tn (f.mono so);go_roundw
    case rel=>
     refine⟨k+1,x,zz,by go_num,U,C,m2.get zz g2,E.tn (m2.below E.size (λy a8=>zz)),?_⟩;have e:iR b a (L.drop k)=iR b x (L.drop (k+1)):=by rw[K.out];simp[iR,G.out]
     rw[PQ,<- e];exact r.out
    case measure=>simp[intOf];omega
  .obtain rfl:k=L.length:=zz;have e1:a=iR b one L:=by
    have:=r.out;rw[ma (qN _)]at this;exact this
   have a3:=Hm e1;obtain⟨o0,o1,o2⟩:=tU i;obtain⟨r0,r1,r2⟩:=tU l;have b7:∀j,wr.frozen? ⟨w.heap.size+1,j,I⟩=false:=λj=>by simp[H.frozen?,l]
   have o:=Hm l;have n:=Hm g;clear e1 i l g r;go_wp2;obtain⟨C,m2⟩:=Ol (.int .i64 a.1.1) (.int .i64 a.1.2) (.int .i64 a.2) o.out;obtain⟨n0,n1,n2⟩:=tU C;rw[<- a3.out];refine bd (v:=.agg #[.int .i64 a.1.1,.int .i64 a.1.2,.int .i64 a.2]) ?_ rfl ⟨rfl,n.out.tn (m2.below n.out.size (λy a8=>zz))⟩;simp[results,Tryz.results58,go_sem,n0,n1,n2]
def Y6(w:H)(s:Sl)(L:List (Sl×Int))(d:Sl×Int):Prop:=s.n=L.length/\L.length<=s.c/\L.length<=1000/\(0<L.length->∃b off,s.A=Y ⟨b,off,I⟩/\b<w.heap.size/\∀k,k<L.length->w (b,off+k*2)=Y (.slice (L.getD k d).1.A (L.getD k d).1.n (L.getD k d).1.c)/\w (b,off+k*2+1)=Y (.int .i64 (L.getD k d).2))
def Gt(a b:M)(h:w.heap[g]?=Y (.cells #[a0,a1] t (0,0))):((w.setCell (g,0) a).setCell (g,1) b).heap[g]?=Y (.cells #[a,b] t (0,0))/\aS (λx=>x≠g) w ((w.setCell (g,0) a).setCell (g,1) b):=by
 have c:=bJ (i:=0) h a;simp only[zS]at c;have d:=bJ (i:=1) c b;simp only[zS]at d;exact⟨d,(((aS.refl _ _).set (p:=⟨g,0,I⟩) (λ_ h=>h rfl) _).set (p:=⟨g,1,I⟩) (λ_ h=>h rfl) _)⟩
def tW(h:w.heap[g]?=Y (.cells #[a0,a1] t (0,0))):w (g,0)=Y a0/\w (g,1)=Y a1:=by
 refine⟨?_,?_⟩<;>(rw[H.cell?,h];rfl)
def dG(a:Sl×Int->Sl×Int->Bool)(one:Sl×Int)(L:List (Sl×Int)):Sl×Int:=L.foldl (λone x=>if a x one then x else one) one
theorem Jc(b:Sl×Int->Sl×Int->Bool)(P:Sl×Int->Prop)(one d:Sl×Int)(s:Sl)(L:List (Sl×Int))(w:H)(hl:Y6 w s L d)(a7:P one)(K:∀x∈L,P x)
  (N:∀x y l,X w.heap.size w l->P x->P y->PH F 73 #[.agg #[.slice x.1.A x.1.n x.1.c,.int .i64 x.2],.agg #[.slice y.1.A y.1.n y.1.c,.int .i64 y.2]] l λe w'=>e=.returned (.bool (b x y))/\X l.heap.size l w'):
  PH F 72 #[.func (.func 73) #[] #[],.agg #[.slice one.1.A one.1.n one.1.c,.int .i64 one.2],.slice s.A s.n s.c] w λe w'=>e=.returned (.agg #[.slice (dG b one L).1.A (dG b one L).1.n (dG b one L).1.c,.int .i64 (dG b one L).2])/\X w.heap.size w w':=by
 have a1:=Hm N;have a4:=Hm K;obtain⟨A,b8,c⟩:=s;obtain⟨rfl,a5,b1,R⟩:=hl;have a2:=Hm R;have a':∀(args:Array M) (w:H),(callFunc 73 args).run F w=.ok (.enter 73 args) w:=enters_of Tryz.func73 kr rfl;clear R N K;simp only at a5|-;go_enter Tryz.func72,Tryz.ntmps72;go_wp2;go_loopw [11] (λv wr=>∃(k:Nat) (a:Sl×Int),k<=L.length/\v=.int .i64 k/\P a/\wr.heap[w.heap.size]?=Y (.cells #[.slice a.1.A a.1.n a.1.c,.int .i64 a.2] 139 (0,0))/\wr.heap[w.heap.size+1]?=Y (.cells #[.slice I 0 0,.int .i64 0] 139 (0,0))/\X w.heap.size w wr/\PQ (dG b a (L.drop k)=dG b one L)) (λv _=>L.length-(intOf v).toNat)
 case atStart=>
  refine⟨0,one,qT _,rfl,a7,(QR _ _ ss).tn (Sp _ _),?_,((X.refl _ _).alloc (qN _) _).alloc ss _,rfl⟩;rw[<- aa w (.cells #[.slice one.1.A one.1.n one.1.c,.int .i64 one.2] 139)];exact Sp _ _
 case round=>
  obtain⟨k,a,hk,rfl,S,h,i,g,r⟩:=hrel;have b2:=g.size;have V:=(ec.1 h).1;have W:=(ec.1 i).1;by_cases t:k<L.length
  .obtain⟨x,u⟩:∃x,L.getD k d=x:=⟨_,rfl⟩;have a6:x∈L:=by rw[<- u];simp[List.getD,iv t]
   have T:L.drop k=x::L.drop (k+1):=by
    rw[fx t,<- u];simp[List.getD,iv t]
   obtain⟨n,off,rfl,O,q⟩:=a2.out zz;have q:=q k t;rw[u]at q;obtain⟨Z,p1⟩:=q;have c0:wr.cell? ⟨n,off+k*2,I⟩=Y (.slice x.1.A x.1.n x.1.c):=(g.cell (p:=⟨n,_,I⟩) O).tn Z;have c1:wr.cell? ⟨n,off+k*2+1,I⟩=Y (.int .i64 x.2):=(g.cell (p:=⟨n,_,I⟩) O).tn p1;have b5:n<wr.heap.size:=zz;clear Z p1;have U:=a4.out x a6;have Q:=λl (h1:X w.heap.size w l)=>a1.out x a l h1 U S;obtain⟨o0,o1⟩:=tW h;have b6:∀j,wr.frozen? ⟨w.heap.size,j,I⟩=false:=λj=>by simp[H.frozen?,h]
   have G:=Hm h;have o:=Hm i;have J:=Hm T;have m:=Hm g;clear h i T g u;cases z:b x a
   all_goals
    rw[z]at Q;have E:=Hm z;clear z;go_wp2_with (go_at_call 73;refine(Q _ (aP m.out (qN _) _)).mono ?_;rintro e w2 ⟨rfl,f⟩;obtain⟨a9,a0⟩:=aU f;have b3:wr.heap.size<w2.heap.size:=(by have:=f.size;simp only[aa]at this;omega);have b4:w.heap.size<w2.heap.size:=zz)
   .go_roundw
    case rel=>
     refine⟨k+1,a,zz,by go_num,S,(f.block _ so).tn ((QR _ _ V).tn G.out),(f.block _ so).tn ((QR _ _ W).tn o.out),(aP m.out (qN _) _).tn (f.mono so),?_⟩;have e:dG b a (L.drop k)=dG b a (L.drop (k+1)):=by rw[J.out];simp[dG,E.out]
     rw[PQ,<- e];exact r.out
    case measure=>simp[intOf];omega
   .have g1:=(f.block w.heap.size so).tn ((QR _ _ V).tn G.out);have g2:=(f.block (w.heap.size+1) so).tn ((QR _ _ W).tn o.out);obtain⟨B,m2⟩:=Gt (.slice x.1.A x.1.n x.1.c) (.int .i64 x.2) g1;have C:=(aP m.out (qN _) (.cells #[.slice x.1.A x.1.n x.1.c,.int .i64 x.2] 139)).tn (f.mono so);go_roundw
    case rel=>
     refine⟨k+1,x,zz,by go_num,U,B,m2.get zz g2,C.tn (m2.below C.size (λy a8=>zz)),?_⟩;have e:dG b a (L.drop k)=dG b x (L.drop (k+1)):=by rw[J.out];simp[dG,E.out]
     rw[PQ,<- e];exact r.out
    case measure=>simp[intOf];omega
  .obtain rfl:k=L.length:=zz;have e1:a=dG b one L:=by
    have:=r.out;rw[ma (qN _)]at this;exact this
   have a3:=Hm e1;obtain⟨o0,o1⟩:=tW h;obtain⟨r0,r1⟩:=tW i;have b7:∀j,wr.frozen? ⟨w.heap.size+1,j,I⟩=false:=λj=>by simp[H.frozen?,i]
   have o:=Hm i;have m:=Hm g;clear e1 h i g r;go_wp2;obtain⟨B,m2⟩:=Gt (.slice a.1.A a.1.n a.1.c) (.int .i64 a.2) o.out;obtain⟨n0,n1⟩:=tW B;rw[<- a3.out];refine bd (v:=.agg #[.slice a.1.A a.1.n a.1.c,.int .i64 a.2]) ?_ rfl ⟨rfl,m.out.tn (m2.below m.out.size (λy a8=>zz))⟩;simp[results,Tryz.results72,go_sem,n0,n1]
def jB(x y:Int×Int):Bool:=decide (y.2<x.2)||(decide (x.2=y.2)&&decide (x.1<y.1))
def Om(x y:(Int×Int)×Int):Bool:=decide (x.2<y.2)
theorem Oo(x y:(Int×Int)×Int)(w:H):PH F 59 #[.agg #[.int .i64 x.1.1,.int .i64 x.1.2,.int .i64 x.2],.agg #[.int .i64 y.1.1,.int .i64 y.1.2,.int .i64 y.2]] w λe w'=>e=.returned (.bool (Om x y))/\X w w w':=by
 go_enter Tryz.func59,Tryz.ntmps59;go_wp2;go_ret;exact⟨rfl,((X.refl _ _).alloc (qN _) _).alloc ss _⟩
theorem DG(x y:Int×Int)(w:H):PH F 57 #[.agg #[.int .i64 x.1,.int .i64 x.2],.agg #[.int .i64 y.1,.int .i64 y.2]] w λe w'=>e=.returned (.bool (jB x y))/\X w w w':=by
 obtain⟨f,a⟩:=x;obtain⟨g,y2⟩:=y;simp only;by_cases b:y2<a
 .go_enter Tryz.func57,Tryz.ntmps57;go_wp2;go_ret;exact⟨bR (by simp[jB,b]),((X.refl _ _).alloc (qN _) _).alloc ss _⟩
 .have c:a<=y2:=zz;by_cases h2:a=y2
  .subst h2;go_enter Tryz.func57,Tryz.ntmps57;go_wp2;go_ret;exact⟨bR (by simp[jB]),((X.refl _ _).alloc (qN _) _).alloc ss _⟩
  .have d:(a==y2)=false:=by simpa using h2
   go_enter Tryz.func57,Tryz.ntmps57;go_wp2;go_ret;exact⟨bR (by simp[jB,b,h2]),((X.refl _ _).alloc (qN _) _).alloc ss _⟩
def Gu(a b:Int):Int:=if a<b then -1 else if b<a then 1 else 0
theorem Lx(a:Int)(w:H):PH F 128 #[.int .i64 a] w λe w'=>e=.returned (.bool false)/\w=w':=by
 go_enter Tryz.func128,Tryz.ntmps128;go_wp2;go_ret;exact⟨rfl,rfl⟩
theorem Su(a b:Int)(w:H):PH F 109 #[.int .i64 a,.int .i64 b] w λe w'=>e=.returned (.int .i64 (Gu a b))/\w=w':=by
 go_enter Tryz.func109,Tryz.ntmps109;go_wp2_with (go_at_call 128;refine(Lx _ _).mono ?_;rintro e w' ⟨rfl,rfl⟩);all_goals go_ret
 all_goals exact⟨aW (by unfold Gu;split<;>first|rfl|omega|(split<;>first|rfl|omega)),rfl⟩
def abn:List Int->List Int->Int
 | [],[]=>0
 | [],_::_=> -1
 | _::_,[]=>1
 | x::r,y::s=>if Gu x y=0 then abn r s else Gu x y
def Lz(l m:List Int)(k:Nat)(a:k<l.length)(h2:k<m.length):abn (l.drop k) (m.drop k)=if Gu (l.getD k 0) (m.getD k 0)=0 then abn (l.drop (k+1)) (m.drop (k+1))else Gu (l.getD k 0) (m.getD k 0):=by
 rw[fx a,fx h2];have e1:l.getD k 0=l[k]:=by simp[List.getD,iv a]
 have b:m.getD k 0=m[k]:=by simp[List.getD,iv h2]
 rw[e1,b];rfl
theorem DI(s t:Sl)(l m:List Int)(w:H)(hl:eC w s l)(L:eC w t m):
  PH F 74 #[.slice s.A s.n s.c,.slice t.A t.n t.c] w λe w'=>e=.returned (.int .i64 (abn l m))/\w=w':=by
 obtain⟨A,a3,c⟩:=s;obtain⟨rfl,C,V,h⟩:=hl;obtain⟨N,a4,Q⟩:=t;obtain⟨rfl,E,W,j⟩:=L;have u:=Hm h;have v:=Hm j;clear h j;simp only at C E|-;go_enter Tryz.func74,Tryz.ntmps74;go_wp2;go_loop [11] (λi=>∃k:Nat,k<=l.length/\k<=m.length/\i=.int .i64 k/\PQ (abn l m=abn (l.drop k) (m.drop k))) (λi=>l.length-(intOf i).toNat)
 case atStart=>exact⟨0,qT _,qT _,rfl,rfl⟩
 case round=>
  obtain⟨k,hk,U,rfl,a⟩:=hrel;by_cases q:k<l.length
  .obtain⟨O,off,rfl,R,n⟩:=u.out zz;have G:=n k q;clear n;by_cases r:k<m.length
   .have b:=Lz l m k q r;obtain⟨P,a2,rfl,S,o⟩:=v.out zz;have J:=o k r;clear o;generalize l.getD k 0=x at b G;generalize m.getD k 0=y at b J;have f:=λw=>Su x y w;generalize Gu x y=z at b f;have g:=Hm b;clear b;by_cases d:z=0
    .subst d;go_wp2_with (go_at_call 109;refine(f _).mono ?_;rintro e w' ⟨rfl,rfl⟩);go_round
     case rel=>exact⟨k+1,zz,zz,by go_num,by rw[PQ,a.out,g.out];simp⟩
     case measure=>simp[intOf];omega
    .have a1:(z != 0)=true:=by simpa using d
     have B:=Hm d;clear d;go_wp2_with (go_at_call 109;refine(f _).mono ?_;rintro e w' ⟨rfl,rfl⟩);go_ret;exact⟨aW (by rw[a.out,g.out,qVB B.out]),rfl⟩
   .have p:k=m.length:=zz;have HR:PQ (abn l m=1):=by
     rw[PQ,a.out,p,ma (qN _),fx zz];rfl
    have T:(m.length:Int)<=(k:Int):=zz;clear p a;go_wp2;go_ret;exact⟨aW HR.out.symm,rfl⟩
  .obtain rfl:k=l.length:=zz;by_cases K:l.length<m.length
   .have HR:PQ (abn l m= -1):=by
     rw[PQ,a.out,ma (qN _),fx K];rfl
    clear a;go_wp2;go_ret;exact⟨aW HR.out.symm,rfl⟩
   .have HR:PQ (abn l m=0):=by
     rw[PQ,a.out,ma (qN _),ma zz];rfl
    have Z:m.length<=l.length:=zz;clear a;go_wp2;go_ret;exact⟨aW HR.out.symm,rfl⟩
def Oq(x y:(Sl×List Int)×Int):Bool:=decide (x.2<y.2)||(decide (x.2=y.2)&&decide (abn x.1.2 y.1.2<0))
theorem Ot(a b:Sl)(lx f:List Int)(nx c:Int)(w:H)(h:eC w a lx)(i:eC w b f):PH F 73 #[.agg #[.slice a.A a.n a.c,.int .i64 nx],.agg #[.slice b.A b.n b.c,.int .i64 c]] w λe w'=>e=.returned (.bool (Oq ((a,lx),nx) ((b,f),c)))/\X w w w':=by
 have j:=Hm h;have k:=Hm i;have l:=λg (d:eC g a lx) (h2:eC g b f)=>DI a b lx f g d h2;clear h i;by_cases d:nx<c
 .go_enter Tryz.func73,Tryz.ntmps73;go_wp2;go_ret;exact⟨bR (by simp[Oq,d]),((X.refl _ _).alloc (qN _) _).alloc ss _⟩
 .have m:c<=nx:=zz;by_cases h2:nx=c
  .subst h2;go_enter Tryz.func73,Tryz.ntmps73;go_wp2_with (go_at_call 74;refine(l _ (aZ (aZ j.out _) _) (aZ (aZ k.out _) _)).mono ?_;rintro e w' ⟨rfl,rfl⟩);go_ret;exact⟨bR (by simp[Oq]),((X.refl _ _).alloc (qN _) _).alloc ss _⟩
  .have n:(nx==c)=false:=by simpa using h2
   go_enter Tryz.func73,Tryz.ntmps73;go_wp2;go_ret;exact⟨bR (by simp[Oq,d,h2]),((X.refl _ _).alloc (qN _) _).alloc ss _⟩
section
variable{L:List gM}{M:Int}
def wrap_small{n:Int}(a:0<=n)(h2:n<=4611686018427387904):wrap64 n=n:=by unfold wrap64;omega
def Small(L:List gM)(M:Int):Prop:=∀k,0<=assoc L k/\assoc L k<=M
def Small.nil:Small [] 0:=λk=>by simp[assoc,dP]
def Small.mono{M M':Int}(h:Small L M)(a:M<=M'):Small L M':=λk=>⟨(h k).1,Int.le_trans (h k).2 a⟩
def LA(h:Small L M)(a:M<=4611686018427387903)(k0:Int×Int):Small (wD L k0) (M+1)/\∀k,assoc (wD L k0) k=assoc L k+if k=k0 then 1 else 0:=by
 have e:∀k,assoc (wD L k0) k=assoc L k+if k=k0 then 1 else 0:=λk=>by
  rw[Li];by_cases hk:k=k0
  .subst hk;rw[qWB rfl,qWB rfl,wrap_small (by have:=h k;omega) (by have:=h k;omega)]
  .rw[qVB hk,qVB hk,Int.add_zero]
 refine⟨λk=>?_,e⟩;rw[e];have:=h k;split<;>omega
def uw(b:Int):∀(c:List Int) {L:List gM} {M:Int},Small L M->M+c.length<=4611686018427387903->Small (ko b L c) (M+c.length)/\∀h n,assoc (ko b L c) (h,n)=assoc L (h,n)+if h=b then(c.count n:Int)else 0
 | [],L,M,d,_=>by
  simp only[ko,List.foldl_nil,lA,Int.natCast_zero,Int.add_zero];exact⟨d,λh n=>by simp⟩
 | a::r,L,M,d,l=>by
  simp only[ed,Int.natCast_add,Int.natCast_one]at l;obtain⟨i,h2⟩:=LA d zz (b,a);obtain⟨j,k⟩:=uw b r i zz;have e:ko b L (a::r)=ko b (wD L (b,a)) r:=rfl;rw[e];refine⟨j.mono (by simp only[ed];omega),λh n=>?_⟩;rw[k,h2,List.count_cons];by_cases g:h=b
  .subst g;by_cases f:n=a
   .subst f;simp;omega
   .have m:¬(a=n):=λe=>f e.symm;simp[f,m]
  .simp[g]
def LB(d:Nat->Bool)(k n:Nat):(ie d k).count (n:Int)=if n<k/\d n=true then 1 else 0:=by
 induction k with
 | zero=>simp[ie]
 | succ k c=>
  cases a:d k
  .rw[mV a,c];by_cases b:n=k
   .subst b;simp[a]
   .congr 1;simp;omega
  .rw[oG a,List.count_append,c,List.count_cons,List.count_nil];by_cases b:n=k
   .subst b;simp[a]
   .have e:¬((k:Int)=(n:Int)):=zz;simp[e];congr 1;simp;omega
def vJ(b:aC)(l:pK)(x:Int×(Nat->Bool)):∀(c:List Nat) {L:List gM} {M:Int},Small L M->M+12*c.length<=4611686018427387903->Small (ku b l x L c) (M+12*c.length)/\∀(h n:Nat),n<12->assoc (ku b l x L c) ((h:Int),(n:Int))=assoc L ((h:Int),(n:Int))+(c.count h:Int)*(if oN b l x h n=true then 1 else 0)
 | [],L,M,d,_=>by
  simp only[ku,List.foldl_nil,lA,Int.natCast_zero,Int.mul_zero,Int.add_zero];exact⟨d,λh n _=>by simp⟩
 | a::r,L,M,d,m=>by
  simp only[ed,Int.natCast_add,Int.natCast_one]at m;have hl:(ie (oN b l x a) 12).length<=12:=kO _ _;obtain⟨i,h2⟩:=uw (a:Int) (ie (oN b l x a) 12) d zz;obtain⟨j,k⟩:=vJ b l x r (i.mono (M':=M+12) zz) zz;have e:ku b l x L (a::r)=ku b l x (ko (a:Int) L (ie (oN b l x a) 12)) r:=rfl;rw[e];refine⟨j.mono (by simp only[ed];omega),λh n g=>?_⟩;rw[k h n g,h2,LB,List.count_cons];by_cases f:h=a
  .subst f;cases q:oN b l x h n<;>simp[g];omega
  .have o:¬(a=h):=λe=>f e.symm;have p:¬((h:Int)=(a:Int)):=zz;simp[o,p]
def vK(b:aC)(l:pK):∀(xs:List (Int×(Nat->Bool))) {L:List gM} {M:Int},Small L M->M+12*l.U.length*xs.length<=4611686018427387903->Small (lP b l L xs) (M+12*l.U.length*xs.length)/\∀(h n:Nat),h<l.U.length->n<12->assoc (lP b l L xs) ((h:Int),(n:Int))=assoc L ((h:Int),(n:Int))+(oP (λx=>oN b l x h n) xs:Int)
 | [],L,M,a,_=>by
  simp only[lP,List.foldl_nil,lA,Int.natCast_zero,Int.mul_zero,Int.add_zero];exact⟨a,λh n _ _=>by simp[oP]⟩
 | x::r,L,M,a,m=>by
  have i:(12:Int)*l.U.length*(x::r).length=12*l.U.length+12*l.U.length*r.length:=by
   rw[ed,Int.natCast_add,Int.natCast_one,Int.mul_add,Int.mul_one,Int.add_comm]
  have q:(0:Int)<=12*l.U.length*r.length:=Int.mul_nonneg zz zz;rw[i]at m|-;have f:(List.range' 0 l.U.length).length=l.U.length:=List.length_range';obtain⟨c,h2⟩:=vJ b l x (List.range' 0 l.U.length) a (by rw[f];omega);rw[f]at c;obtain⟨j,k⟩:=vK b l r c zz;have e:lP b l L (x::r)=lP b l (ku b l x L (List.range' 0 l.U.length)) r:=rfl;rw[e];refine⟨j.mono zz,λh n d g=>?_⟩;rw[k h n d g,h2 h n g];have o:(List.range' 0 l.U.length).count h=1:=by
   rw[List.Nodup.count (List.nodup_range' (step:=1))];simp[List.mem_range'_1,d]
  rw[o];cases p:oN b l x h n<;>simp[oP,List.filter_cons,p];omega
def LC{b:aC}{l:pK}(d:ay b l=0)(c:l.U.length<=1000)(h n:Nat)(f:h<l.U.length)(g:n<12):assoc (fN b l) ((h:Int),(n:Int))=(oP (λx=>oN b l x h n) (aJ b l b.D.toNat):Int):=by
 have i:=nL d;have a:(0:Int)+12*l.U.length*(aJ b l b.D.toNat).length<=4611686018427387903:=by
  have:12*l.U.length*(aJ b l b.D.toNat).length<=12*1000*1296:=Nat.mul_le_mul (Nat.mul_le_mul_left _ c) i;have e:(0:Int)+12*l.U.length*(aJ b l b.D.toNat).length=((12*l.U.length*(aJ b l b.D.toNat).length:Nat):Int):=by simp
  rw[e];exact Int.ofNat_le.2 (qO this dd)
 have:=(vK b l (aJ b l b.D.toNat) Small.nil a).2 h n f g;rw[fN,this];simp[assoc,dP]
end
abbrev Ct:Type:=(Int×Int)×Int
def ye(LL:List gM)(n:Int)(h k:Nat):Ct:=(((h:Int),(k:Int)),max (assoc LL ((h:Int),(k:Int))) (n-assoc LL ((h:Int),(k:Int))))
def DJ(LL:List gM)(n:Int)(h:Nat)(a:List Nat):List Ct:=a.map (ye LL n h)
def nM(LL:List gM)(n:Int)(S:Nat)(a:List Nat):List Ct:=a.flatMap λh=>DJ LL n h (List.range' 0 S)
def DK(b:aC)(l:pK):Ct:=iR Om ((-1, -1),(aJ b l b.D.toNat).length) (nM (fN b l) (aJ b l b.D.toNat).length b.S.toNat (List.range' 0 b.U.n))
def vL(b:aC)(l:pK):Int×Int×Int×Int:=
 if cP b l true=0 then((DK b l).1.1,(DK b l).1.2,(DK b l).2,0)else(0,0,0,cP b l true)
def yg(p:Int×Int×Int×Int)(w:H)(e:Ending)(w':H):Prop:=e=.returned (.tuple #[.int .i64 p.1,.int .i64 p.2.1,.int .i64 p.2.2.1,.int .i64 p.2.2.2])/\X w w w'
def Sv(x:Ct):List M:=[.int .i64 x.1.1,.int .i64 x.1.2,.int .i64 x.2]
def UX(L:List Ct):List M:=L.flatMap Sv
def DL(L:List Ct)(x:Ct):UX (L++[x])=UX L++Sv x:=by simp[UX]
def Jd:∀(L:List Ct) (d:Ct) (i j:Nat),i<L.length->j<3->(UX L)[i*3+j]?=(Sv (L.getD i d))[j]?
 | [],_,i,j,hi,_=>by simp at hi
 | x::r,d,0,j,_,a=>by
  have hl:(Sv x).length=3:=rfl;simp only[UX,lv,Nat.zero_mul,kx,List.getD_cons_zero];exact List.getElem?_append_left (by rw[hl];exact a)
 | x::r,d,i+1,j,hi,a=>by
  have hl:(Sv x).length=3:=rfl;have b:=Jd r d i j (by simpa using hi) a;simp only[UX,lv,List.getD_cons_succ]at b|-;rw[List.getElem?_append_right (by rw[hl];omega),hl,show(i+1)*3+j-3=i*3+j by omega];exact b
def Z5:(F.info? 115).map (λi=>(i.zero,i.size,i.bytes))=Y (Y (.agg #[.int .i64 0,.int .i64 0,.int .i64 0]),3,24):=by kernel_rfl
def Je(x:Ct):∀u∈Sv x,u.oneCell'=true:=by
 intro u a;simp only[Sv,dq,fp,or_false]at a;rcases a with rfl|rfl|rfl<;>rfl
def UC(LL:List gM)(n:Int)(h:Nat){k S:Nat}(hk:k<S):DJ LL n h (List.range' k (S-k))=ye LL n h k::DJ LL n h (List.range' (k+1) (S-(k+1))):=by
 rw[show S-k=(S-(k+1))+1 by omega,List.range'_succ];rfl
def Gv(LL:List gM)(n:Int)(S:Nat){h U:Nat}(a:h<U):nM LL n S (List.range' h (U-h))=DJ LL n h (List.range' 0 S)++nM LL n S (List.range' (h+1) (U-(h+1))):=by
 rw[show U-h=(U-(h+1))+1 by omega,List.range'_succ];rfl
def Az(LL:List gM)(n:Int)(S:Nat)(b:List Nat):(nM LL n S b).length=b.length*S:=by
 induction b with
 | nil=>simp[nM]
 | cons a r c=>
  have:nM LL n S (a::r)=DJ LL n a (List.range' 0 S)++nM LL n S r:=rfl;rw[this,kl,c,ed,Nat.succ_mul];simp[DJ,Nat.add_comm]
theorem LF(b:aC)(l:pK)(w:H)(hl:aI w b l)(c':aD w)(h:cP b l true=0):
  PH F 23 #[b.v] w (yg (vL b l) w):=by
 have e8:=Hm hl;have e6:=Hm c';have e5:PQ (vL b l=((DK b l).1.1,(DK b l).1.2,(DK b l).2,0)):=by unfold vL;rw[PQ,qWB h]
 have f6:b.U.n<=1000:=by rw[hl.U.1];exact hl.U.2.2.1
 have a':=Hm hl.U.1;obtain⟨R, -, h3⟩:=Yt h;obtain⟨t1,t2,-⟩:=cS (bP R).1;have b1:1<=b.U.n/\b.U.n<=4:=by
  have d8:=(bP R).2.2.1;unfold fH at d8;split at d8
  .rename_i a4;have:=qM.1 a4;rw[a'.out];omega
  .omega
 obtain⟨b1,f5⟩:=b1;have a2:∀h k:Nat,h<b.U.n->(k:Int)<b.S->0<=assoc (fN b l) ((h:Int),(k:Int))/\assoc (fN b l) ((h:Int),(k:Int))<=(aJ b l b.D.toNat).length:=λh k a4 hk=>by
  rw[LC R (by rw[<- a'.out];exact f6) h k (by rw[<- a'.out];exact a4) zz];have:oP (λx=>oN b l x h k) (aJ b l b.D.toNat)<=(aJ b l b.D.toNat).length:=nn _ _;omega
 have P:=qp b l 45 #[] lT true (w.alloc (aE b 31)) (aq e8.out _) (ai e6.out _) (λ_=>gW b _) h;have f0:=nL R;have a7:PQ (DK b l=iR Om ((-1, -1),(aJ b l b.D.toNat).length) (nM (fN b l) (aJ b l b.D.toNat).length b.S.toNat (List.range' 0 b.U.n))):=rfl;unfold jo at P;generalize aJ b l b.D.toNat=d at P f0 a2 a7;generalize fN b l=LL at P a2 a7;have e4:=Hm a2;clear hl c' h R h3 a2;unfold aC.v aE uC at P;unfold aC.v;go_enter Tryz.func23,Tryz.ntmps23;go_wp2_with (go_at_call 44;refine P.mono ?_;rintro e m ⟨A,c,r,rfl,s,a5,i2,Q⟩;obtain⟨f7,f8⟩:=aU Q;have i7:w.heap.size<m.heap.size:=(by have:=Q.size;simp only[aa]at this;omega));have b9:Gk (m.alloc (.cells (iG b ⟨A,d.length,c⟩ (Y r)) 99)) m b ⟨A,d.length,c⟩ (Y r):=Sp _ _;have c1:jm (m.alloc (.cells (iG b ⟨A,d.length,c⟩ (Y r)) 99)) r LL:=(QR _ _ (ec.1 a5).1).tn a5;have B1:X w w (m.alloc (.cells (iG b ⟨A,d.length,c⟩ (Y r)) 99)):=aP (di Q) (qN _) _;have b2:aK (m.alloc (.cells (iG b ⟨A,d.length,c⟩ (Y r)) 99)) w 31 b:=(QR _ _ zz).tn ((Q.block _ ss).tn (Sp _ _));have i3:r<m.heap.size:=(ec.1 a5).1;clear s a5 Q f7 f8;change Ly.wp _ _ _ _ ((m.alloc (.cells (iG b ⟨A,d.length,c⟩ (Y r)) 99)).alloc (.cells #[.int .i64 (-1),.int .i64 (-1),.int .i64 d.length] 115));have a6:(m.alloc (.cells (iG b ⟨A,d.length,c⟩ (Y r)) 99)).heap.size=m.heap.size+1:=by simp
 generalize(m.alloc (.cells (iG b ⟨A,d.length,c⟩ (Y r)) 99))=N at b9 c1 B1 b2 a6|-;have b':=H.ownsRow_lit (w:=N) (base:=N.heap.size) (e:=115) (size:=3) #[.int .i64 (-1),.int .i64 (-1),.int .i64 d.length] 1 (qN _) (by unfold maxLen;omega) rfl;rw[a6]at b';have e9:=Hm b';have G:=Hm a6;have e7:=Hm b9;have e':=Hm c1;have a8:=Hm B1;have e3:=Hm b2;obtain⟨J,t⟩:∃J:List Ct,J=((-1, -1),(d.length:Int))::nM LL d.length b.S.toNat (List.range' 0 b.U.n):=⟨_,rfl⟩;have f':J.length<=49:=by
  rw[t,ed,Az,List.length_range'];have:b.U.n*b.S.toNat<=4*12:=Nat.mul_le_mul f5 zz;omega
 have f9:2<=J.length:=by
  rw[t,ed,Az,List.length_range'];have:1*1<=b.U.n*b.S.toNat:=Nat.mul_le_mul b1 zz;omega
 have c8:=Hm t;clear b9 c1 B1 b2 b' a6 t;obtain⟨i0,hi,d',d0,e1⟩:=info_parts Z5;go_loopw [7,29] (λV v wr=>∃(h:Nat) (n:List Ct) (W:Option Addr) (C:Nat),h<=b.U.n/\v=.int .i64 h/\V=.slice W n.length C/\wr.ownsRow (m.heap.size+1) 115 3 V n.length (UX n)/\X N.heap.size N wr/\PQ (n++nM LL d.length b.S.toNat (List.range' h (b.U.n-h))=J)) (λ_ v _=>b.U.n-(intOf v).toNat)
 case atStart=>exact⟨0,[((-1, -1),(d.length:Int))],_,_,zz,rfl,rfl,e9.out,(X.refl _ _).alloc (qN _) _,c8.out.symm⟩
 case round=>
  obtain⟨h,n,W,C,a4,rfl,rfl,s,o,b7⟩:=hrel;obtain⟨f,rfl⟩:∃f:H,f=wr:=⟨_,rfl⟩;have g6:=o.size;have i5:(m:Nat)+1<=f:=by rw[<- G.out];exact g6
  by_cases b0:h<b.U.n
  .have d9:=Gv LL d.length b.S.toNat b0;have d1:aK f w 31 b:=(o.block _ (by rw[G.out];omega)).tn e3.out;have y0:=(aM d1).1;have f3:=Hm d9;have O:=Hm o;have e0:=Hm s;clear d9 d1 o s;go_wp2;clear y0;go_loopw [7,34] (λV v e2=>∃(k:Nat) (u:List Ct) (A2:Option Addr) (c2:Nat),(k:Int)<=b.S/\v=.int .i64 k/\V=.slice A2 u.length c2/\e2.ownsRow (m.heap.size+1) 115 3 V u.length (UX u)/\X N.heap.size N e2/\PQ (u++DJ LL d.length h (List.range' k (b.S.toNat-k))++nM LL d.length b.S.toNat (List.range' (h+1) (b.U.n-(h+1)))=J)) (λ_ v _=>b.S.toNat-(intOf v).toNat)
   case atStart=>exact⟨0,n,W,C,zz,rfl,rfl,e0.out,O.out,by rw[PQ,ml,Nat.sub_zero,<- f3.out];exact b7.out⟩
   case round=>
    obtain⟨k,u,A2,c2,hk,rfl,rfl,s,o,T⟩:=hrel;obtain⟨K,rfl⟩:∃K:H,K=wr:=⟨_,rfl⟩;have c7:=o.size;have i6:(m:Nat)+1<=K:=by rw[<- G.out];exact c7
    by_cases g2:(k:Int)<b.S
    .have c4:=UC LL d.length h (k:=k) (S:=b.S.toNat) zz;have d7:u.length+1<=49:=by
      have:=cd List.length T.out;rw[c4]at this;simp only[kl,ed]at this;omega
     obtain⟨p1,p2⟩:=e4.out h k b0 g2;have g1:(Instr.lookup 97 (.map (Y r)) (.agg #[.int .i64 h,.int .i64 k]) false).run F K=.ok (.int .i64 (assoc LL (h,k))) K:=gd (L:=LL) ((o.block _ (by rw[G.out];omega)).tn e'.out) (h,k);obtain⟨z0,z1,z2,z3,z4,z5,z6,z7,z8,z9,g7,g8,g9,i8,i9⟩:=gH ((o.block _ (by rw[G.out];omega)).tn e7.out);clear z0 z1 z2 z3 z4 z5 z6 z7 z8 z9 g7 g8 g9;have d2:ye LL d.length h k=(((h:Int),(k:Int)),max (assoc LL ((h:Int),(k:Int))) ((d.length:Int)-assoc LL ((h:Int),(k:Int)))):=rfl;have a9:=Hm d2;have c9:=Hm c4;have Z:=Hm o;have a1:=Hm s;generalize assoc LL ((h:Int),(k:Int))=a at p1 p2 g1 a9;clear d2 c4 o;by_cases g3:a<(d.length:Int)-a
     .have g4:=g3;go_wp2_with (at_builtin;refine wpList_append_own _ rfl _ _ 116 rfl (m.heap.size+1) 115 i0 (.agg #[.int .i64 0,.int .i64 0,.int .i64 0]) 3 24 Tryz.underlying116 hi d' d0 e1 rfl dd _ _ _ rfl (s.alloc _) ⟨K.heap.size,0,I⟩ 1 1 [.int .i64 h,.int .i64 k,.int .i64 ((d.length:Int)-a)] rfl rfl (nI _ _ _) (Je ((h,k),(d.length:Int)-a)) (by unfold maxLen;omega) zz so ?_;intro v' w3 U b6 g5);go_roundw
      case rel=>
       obtain⟨g',a0,rfl⟩:=ownsRow_succ U;have b4:ye LL d.length h k=(((h:Int),(k:Int)),(d.length:Int)-a):=by rw[a9.out];congr 1;rw[Int.max_def];split<;>omega
       refine⟨k+1,u++[ye LL d.length h k],Y ⟨g',0,I⟩,a0,zz,by go_num,by simp,?_,(Z.out.alloc c7 _).grown b6 so (λq E=>by rw[G.out];exact(a1.out.lt q E).1),?_⟩
       .rw[kl,DL,b4];exact U
       .have:=T.out;rw[c9.out]at this;rw[PQ,ml u,List.singleton_append];exact this
      case measure=>simp[intOf];omega
     .have g4:(d.length:Int)-a<=a:=zz;go_wp2_with (at_builtin;refine wpList_append_own _ rfl _ _ 116 rfl (m.heap.size+1) 115 i0 (.agg #[.int .i64 0,.int .i64 0,.int .i64 0]) 3 24 Tryz.underlying116 hi d' d0 e1 rfl dd _ _ _ rfl (s.alloc _) ⟨K.heap.size,0,I⟩ 1 1 [.int .i64 h,.int .i64 k,.int .i64 (a)] rfl rfl (nI _ _ _) (Je ((h,k),a)) (by unfold maxLen;omega) zz so ?_;intro v' w3 U b6 g5);go_roundw
      case rel=>
       obtain⟨g',a0,rfl⟩:=ownsRow_succ U;have b4:ye LL d.length h k=(((h:Int),(k:Int)),a):=by rw[a9.out];congr 1;rw[Int.max_def];split<;>omega
       refine⟨k+1,u++[ye LL d.length h k],Y ⟨g',0,I⟩,a0,zz,by go_num,by simp,?_,(Z.out.alloc c7 _).grown b6 so (λq E=>by rw[G.out];exact(a1.out.lt q E).1),?_⟩
       .rw[kl,DL,b4];exact U
       .have:=T.out;rw[c9.out]at this;rw[PQ,ml u,List.singleton_append];exact this
      case measure=>simp[intOf];omega
    .have d5:b.S.toNat-k=0:=zz;have c3:=T.out;rw[d5]at c3;have f1:=Hm c3;have Z:=Hm o;have a1:=Hm s;clear d5 c3 T o s;go_wp2;go_roundw
     case rel=>
      refine⟨h+1,u,A2,c2,zz,by go_num,rfl,a1.out,Z.out,?_⟩;have:=f1.out;simp only[List.range'_zero,DJ,zM,List.append_nil]at this;exact this
     case measure=>simp[intOf];omega
  .have d4:h=b.U.n:=zz;have d6:n=J:=by
    have:=b7.out;rw[d4,Nat.sub_self]at this;simpa[nM]using this
   have t:=c8.out;rw[<- d6]at t f9 f';obtain⟨g,rfl,h0⟩:∃g,W=Y ⟨g,0,I⟩/\n.length<=C:=by
    rcases s.2 with⟨h1,h2⟩|⟨g,h6,h7,h1,h2,h3,h4,-⟩
    .omega
    .simp only[lL]at h1;exact⟨g,h1.1,zz⟩
   have E:∀(i j:Nat),i<n.length->j<3->f (g,i*3+j)=(Sv (n.getD i ((0,0),0)))[j]?:=λi j hi b8=>by
    rw[s.cellAt (i*3+j) zz,Jd n ((0,0),0) i j hi b8]
   have q0:f (g,0)=Y (.int .i64 (-1)):=by have:=E 0 0 zz zz;rw[t]at this;exact this
   have q1:f (g,1)=Y (.int .i64 (-1)):=by have:=E 0 1 zz zz;rw[t]at this;exact this
   have q2:f (g,2)=Y (.int .i64 d.length):=by have:=E 0 2 zz zz;rw[t]at this;exact this
   have a3:g<f.heap.size:=(s.lt g rfl).2;obtain⟨cs,b5⟩:∃cs:List Ct,cs=nM LL d.length b.S.toNat (List.range' 0 b.U.n):=⟨_,rfl⟩;rw[<- b5]at t;have d7:n.length=cs.length+1:=by rw[t];rfl
   have d3:∀w',X f f w'->Y5 w' ⟨Y (g,3),n.length-1,C-1⟩ cs ((0,0),0):=λw' B=>by
    refine⟨by show n.length-1=cs.length;omega,by show cs.length<=C-1;omega,?_,λ_=>⟨g,3,rfl,by have:=B.size;omega,λk hk=>?_⟩⟩
    .show cs.length<=1000;omega
    .have e:∀j,j<3->w' (g,3+k*3+j)=(Sv (cs.getD k ((0,0),0)))[j]?:=λj b8=>by
      rw[B.cell (p:=⟨g,_,I⟩) a3];have:=E (k+1) j zz b8;rw[t,List.getD_cons_succ,show(k+1)*3+j=3+k*3+j by omega]at this;exact this
     exact⟨e 0 zz,e 1 zz,e 2 zz⟩
   have b3:=λw' (B:X f.heap.size f w')=>Ss Om (λ_=>True) ((-1, -1),(d.length:Int)) ((0,0),0) ⟨Y ⟨g,3,I⟩,n.length-1,C-1⟩ cs w' (d3 w' B) qYB (λ_ _=>trivial) (λx y m _ _ _=>Oo x y m);obtain⟨z,c6⟩:∃z,iR Om ((-1, -1),(d.length:Int)) cs=z:=⟨_,rfl⟩;rw[c6]at b3;have f4:PQ (DK b l=z):=by rw[PQ,a7.out,<- b5];exact c6
   simp only at b3;have O:=Hm o;have f2:PQ (∀w',X f f w'->w' (g,0)=Y (.int .i64 (-1))/\w' (g,1)=Y (.int .i64 (-1))/\w' (g,2)=Y (.int .i64 d.length)/\g<w'.heap.size/\X f f w'):=λw' B=>⟨(B.cell (p:=⟨_,_,I⟩) a3).tn q0,(B.cell (p:=⟨_,_,I⟩) a3).tn q1,(B.cell (p:=⟨_,_,I⟩) a3).tn q2,by have:=B.size;omega,B⟩;have h8:2<=C:=zz;have h3:(1:Int)<=(n.length:Int):=zz;have h4:¬(C=1):=zz;have h5:0<n.length:=zz;have i1:¬(h<b.U.n):=b0;clear E q0 q1 q2 d3 c6 b5 t o s b7 d6 d7 d4;go_wp2;obtain⟨r0,r1,r2,r3,-⟩:=f2.out f (X.refl _ _);go_region_with (go_at_call 58;(with_reducible refine(b3 _ bf).mono ?_);rintro e v1 ⟨rfl,c5⟩;obtain⟨h9,h'⟩:=aU c5;have g0:=c5.size;have k2:X f.heap.size f v1:=X.tn bf (c5.mono ss);(first|(have i':f.heap.size<v1.heap.size:=(by simp only[aa,H.size_drew]at g0;omega))|skip))
   all_goals
    go_wp2;go_quiet ((fail));go_wp2;rw[e5.out,f4.out];refine bd (v:=.tuple #[.int .i64 z.1.1,.int .i64 z.1.2,.int .i64 z.2,.int .i64 0]) (by simp[results,Tryz.results23,go_sem]) rfl ⟨rfl,?_⟩;have i4:(w:Nat)<=f:=by have:=a8.out.size;have:=O.out.size;omega
    have B3:X w w v1:=a8.out.tn ((O.out.tn (k2.mono O.out.size)).mono a8.out.size);exact bt
def LG(b:aC)(l:pK)(w:H)(hl:aI w b l)(a:aD w)(h:cP b l true=0:=by kernel_rfl):PH F 23 #[b.v] w (yg (vL b l) w):=LF b l w hl a h
open Go.Shelf
section
attribute [local go_sem] Oper.semAt_some
def WE(b:aC)(l:pK):Option (Int×(Nat->Bool)):=(gT b l.C (b.S.toNat-l.C.length)).find? (fM b l)
def zV(b:aC)(l:pK):Int×Bool×Int:=
 if ay b l≠0 then(0,false,ay b l)else match WE b l with
  | some x=>((((ie x.2 12).length:Nat):Int),true,0)
  | none=>(0,false,0)
def Bv(p:Int×Bool×Int)(w:H)(e:Ending)(w':H):Prop:=e=.returned (.tuple #[.int .i64 p.1,.bool p.2.1,.int .i64 p.2.2])/\X w w w'
def yj(S:Int):∀(l:List Int) (p:Int),bS S (Y p) l=0-> -1<=p->p<S->(l.length:Int)<=S-1-p
 | [],p,_,_,_=>by simp;omega
 | n::r,p,h,c,h2=>by
  simp only[bS]at h;by_cases a:ax n 0 (S-1)=false
  .rw[qWB a]at h;omega
  .rw[qVB a]at h;by_cases b:decide (n<=p)=true
   .rw[qWB b]at h;omega
   .rw[qVB b]at h;have e:=qM.1 (by simpa using a);have:=yj S r n h zz zz;simp at b;simp only[ed];omega
def uO{S:Int}{l:List Int}(h:bS S I l=0)(b:0<=S):(l.length:Int)<=S:=by
 cases l with
 | nil=>simpa using b
 | cons n r=>
  simp only[bS]at h;by_cases a:ax n 0 (S-1)=false
  .rw[qWB a]at h;omega
  .rw[qVB a,qVB ss]at h;have e:=qM.1 (by simpa using a);have:=yj S r n h zz zz;simp only[ed];omega
def AA{w:H}{g:Nat}{t1 t2 t3:Lk}{v1 v2 v3:M}(a b c:M)(d:w.heap[g]?=Y (.cells #[v1] t1 (0,0)))(h2:w.heap[g+1]?=Y (.cells #[v2] t2 (0,0)))(e:w.heap[g+1+1]?=Y (.cells #[v3] t3 (0,0))):
  (((w.setCell (g,0) a).setCell (g+1,0) b).setCell (g+1+1,0) c).heap[g]?=Y (.cells #[a] t1 (0,0))/\
  (((w.setCell (g,0) a).setCell (g+1,0) b).setCell (g+1+1,0) c).heap[g+1]?=Y (.cells #[b] t2 (0,0))/\
  (((w.setCell (g,0) a).setCell (g+1,0) b).setCell (g+1+1,0) c).heap[g+1+1]?=Y (.cells #[c] t3 (0,0))/\
  (((w.setCell (g,0) a).setCell (g+1,0) b).setCell (g+1+1,0) c).heap.size=w.heap.size/\
  aS (λx=>x≠g/\x≠g+1/\x≠g+1+1) w (((w.setCell (g,0) a).setCell (g+1,0) b).setCell (g+1+1,0) c):=by
 refine⟨?_,?_,?_,by simp[H.setCell],(((aS.refl _ _).set (λ_ h=>h.1 rfl) _).set (λ_ h=>h.2.1 rfl) _).set (λ_ h=>h.2.2 rfl) _⟩
 .exact(X.heap_setCell _ _ _ _ (by show g≠g+1+1;omega)).tn ((X.heap_setCell _ _ _ _ (by show g≠g+1;omega)).tn (Boxed.set _ d))
 .exact(X.heap_setCell _ _ _ _ (by show g+1≠g+1+1;omega)).tn (Boxed.set _ ((X.heap_setCell _ _ _ _ (by show g+1≠g;omega)).tn h2))
 .exact Boxed.set _ ((X.heap_setCell _ _ _ _ (by show g+1+1≠g+1;omega)).tn ((X.heap_setCell _ _ _ _ (by show g+1+1≠g;omega)).tn e))
def SD{α:Type}{f:α->Bool}{pre xs:List α}{x:α}(b:pre++[x] <+: xs)(a:pre.find? f=I)(c:f x=true):xs.find? f=Y x:=by
 obtain⟨t,rfl⟩:=b;rw[ml,nh,a];simp[c]
theorem DY(b:aC)(l:pK)(w:H)(hl:aI w b l)(c3:aD w)(r:ay b l=0):
  PH F 7 #[b.v] w (Bv (zV b l) w):=by
 have P:=Hm hl;have d1:=Hm c3;have a8:=Hm r;have a4:=λa (q:aI a b l) (h2:aD a)=>cG b l a q h2;have a5:=λm a=>uK b m a;have b0:=Hm hl.C.1;obtain⟨t1,t2,t3,t4,t5,t6,t7,t8,t9,f7,d0⟩:=cS (bP r).1;have d3:(l.C.length:Int)<=b.S:=uO d0 zz;have e9:(b.C.n:Int)<=b.S:=by rw[b0.out];exact d3
 have c8:(b.S-(b.C.n:Int))=((b.S.toNat-l.C.length:Nat):Int):=by rw[b0.out];omega
 have d2:=Hm c8;simp only[r]at a4;clear hl c3 r c8;refine(callsIn_wide (n:=9)).1 ?_;refine callsIn_of_wp_marks Tryz.func7 rfl qYB ?_ rfl;unfold aC.v at a4 a5|-;unfold mJ aE at a5;simp only[Tryz.ntmps7,List.size_toArray,ed,lA,Nat.reduceAdd,Nat.reduceSub,zR]
 gi_wp2_with (first
  | (refine⟨qYB,?_⟩;gi_at_call 30;refine(callsIn_wide.2 (a4 _ (aq (aq (aq (aq P.out _) _) _) _) (ai (ai (ai (ai d1.out _) _) _) _))).mono ?_;rintro e a ⟨rfl,d⟩;obtain⟨b4,b5⟩:=aU d;have c':w.heap.size+4<=a.heap.size:=(by have:=d.size;simp only[aa]at this;omega);have e':w.heap.size<a.heap.size:=zz)
  | (refine⟨qYB,?_⟩;gi_at_call 32;refine(callsIn_wide.2 (a5 _ _)).mono ?_;rintro e v1 ⟨rfl,rfl⟩))
 have C:a.heap[w.heap.size+1]?=Y (.cells #[.int .i64 0] 3 (0,0)):=(d.block _ ss).tn ((QR _ _ ss).tn ((QR _ _ ss).tn (by rw[<- aa w (aE b 31)];exact Sp _ _)));have E:a.heap[w.heap.size+1+1]?=Y (.cells #[.bool false] 4 (0,0)):=(d.block _ ss).tn ((QR _ _ ss).tn (by rw[<- aa w (aE b 31),<- aa (w.alloc (aE b 31)) (.cells #[.int .i64 0] 3)];exact Sp _ _));have G:a.heap[w.heap.size+1+1+1]?=Y (.cells #[.int .i64 0] 34 (0,0)):=(d.block _ ss).tn (by rw[<- aa w (aE b 31),<- aa (w.alloc (aE b 31)) (.cells #[.int .i64 0] 3),<- aa ((w.alloc (aE b 31)).alloc (.cells #[.int .i64 0] 3)) (.cells #[.bool false] 4)];exact Sp _ _);have B1:X w w a:=(((((X.refl _ w).alloc (qN _) _).alloc ss _).alloc so _).alloc so _).tn (d.mono so);clear b4 b5 d a4 a5;rw[d2.out];have d9:(((a.alloc (aE b 75)).alloc (aE b 75)).alloc (.cells #[.int .i64 ((b.S.toNat-l.C.length:Nat):Int)] 3)).heap.size=a.heap.size+3:=by simp only[aa]
 have S:=(((aS.refl (λ_=>True) a).alloc (aE b 75)).alloc (aE b 75)).alloc (.cells #[.int .i64 ((b.S.toNat-l.C.length:Nat):Int)] 3);have c1:(((a.alloc (aE b 75)).alloc (aE b 75)).alloc (.cells #[.int .i64 ((b.S.toNat-l.C.length:Nat):Int)] 3)).heap[a.heap.size]?=Y (aE b 75):=
  (QR _ _ (by simp only[aa];omega)).tn ((QR _ _ (by simp only[aa];omega)).tn (Sp _ _))
 have c2:(((a.alloc (aE b 75)).alloc (aE b 75)).alloc (.cells #[.int .i64 ((b.S.toNat-l.C.length:Nat):Int)] 3)).heap[a.heap.size+1]?=Y (aE b 75):=
  (QR _ _ (by simp only[aa];omega)).tn (by rw[<- aa a (aE b 75)];exact Sp _ _)
 have c6:(((a.alloc (aE b 75)).alloc (aE b 75)).alloc (.cells #[.int .i64 ((b.S.toNat-l.C.length:Nat):Int)] 3)).heap[a.heap.size+1+1]?=Y (.cells #[.int .i64 ((b.S.toNat-l.C.length:Nat):Int)] 3 (0,0)):=by
  rw[<- aa a (aE b 75),<- aa (a.alloc (aE b 75)) (aE b 75)];exact Sp _ _
 change Ly.wpIn _ _ _ _ _ _ (((a.alloc (aE b 75)).alloc (aE b 75)).alloc (.cells #[.int .i64 ((b.S.toNat-l.C.length:Nat):Int)] 3));generalize(((a.alloc (aE b 75)).alloc (aE b 75)).alloc (.cells #[.int .i64 ((b.S.toNat-l.C.length:Nat):Int)] 3))=w4 at d9 S c1 c2 c6|-;replace C:=S.get qYB C;replace E:=S.get qYB E;replace G:=S.get qYB G;have Q:X w w w4:=B1.tn (S.below B1.size (λ_ _=>trivial));obtain⟨z,c5⟩:∃z:Nat->Prop,z=λx=>x=w.heap.size+1\/x=w.heap.size+1+1\/x=w.heap.size+1+1+1:=⟨_,rfl⟩;have u:∀x,z x↔(x=w.heap.size+1\/x=w.heap.size+1+1\/x=w.heap.size+1+1+1):=λx=>by rw[c5]
 clear c5;refine qg (R:=Le b l.C (a.heap.size+1) (a.heap.size+1+1)) (xs:=gT b l.C (b.S.toNat-l.C.length)) (encs:=Ux) rfl (enters_of Tryz.func75 kr rfl)
  (sP b t7 t9 t8 zz t2 l.C (a.heap.size+1) (a.heap.size+1+1) (b.S.toNat-l.C.length) zz w4 c2 (P.out.C.below Q) c6) (λ_=>rfl)
  z ?rk ?rl (λx f=>by rw[u]at f;omega)
  (λK J W=>K=z/\X w4.heap.size w4 W/\PQ (J.find? (fM b l)=I))
  (λK J W=>K=z/\X w.heap.size w W/\∃x,PQ (WE b l=Y x)/\W.heap[w.heap.size+1]?=Y (.cells #[.int .i64 ((ie x.2 12).length:Nat)] 3 (0,0))/\W.heap[w.heap.size+1+1]?=Y (.cells #[.bool true] 4 (0,0))/\W.heap[w.heap.size+1+1+1]?=Y (.cells #[.int .i64 0] 34 (0,0)))
  ?li ?lx ⟨rfl,X.refl _ _,rfl⟩ 82 zC
  (λx a7=> {tmps:= #[b.v,.pointer (Y ⟨w.heap.size,0,I⟩),.pointer (Y ⟨w.heap.size+1,0,I⟩),.pointer (Y ⟨w.heap.size+1+1,0,I⟩),.pointer (Y ⟨w.heap.size+1+1+1,0,I⟩),.int .i64 0,.pointer (Y ⟨a.heap.size,0,I⟩),.pointer (Y ⟨a7,0,I⟩),b.v,.int .i64 0,.int .i64 0,.bool false,Hc,b.v,b.v,b.v,.pointer (Y ⟨w.heap.size,0,I⟩),.int .i64 b.S,.pointer (Y ⟨w.heap.size,5,I⟩),.slice b.C.A b.C.n b.C.c,.int .i64 b.C.n,.int .i64 ((b.S.toNat-l.C.length:Nat):Int),mJ (a.heap.size+1) (a.heap.size+1+1),gN x.1 x.2,Hc,Hc,Hc,Hc,Hc,Hc,Hc],defers:=[]})
  ?assign ?body ?done ?stop
 case rk=>
  rintro x (rfl|rfl|f) h
  .rw[u]at h;omega
  .rw[u]at h;omega
  .have:=I4.lt P.out.C f;rw[u]at h;omega
 case rl=>
  rintro x (rfl|rfl|f)
  .omega
  .omega
  .have:=I4.lt P.out.C f;omega
 case li=>
  rintro K J A B ⟨rfl,q,h2⟩ c9 hk;exact⟨rfl,q.tn (hk.below c9 (λx f=>.inr f)),h2⟩
 case lx=>
  rintro K J A B ⟨rfl,q,x,h2,h3,h4,h5⟩ c9 hk;exact⟨rfl,q.tn (hk.below zz (λx f=>.inr zz)),x,h2,hk.get (.inr zz) h3,hk.get (.inr zz) h4,hk.get (.inr zz) h5⟩
 case assign=>
  intro a6 x W e5 s;unfold aC.v mJ gN zC at s;unfold Ux gN;gi_wp2;exact s
 case body=>
  rintro a6 K J x W a7 ⟨rfl,g,T⟩ b8 e8 a' c4;have d7:x∈gT b l.C (b.S.toNat-l.C.length):=by
   obtain⟨t,d8⟩:=b8;rw[<- d8];simp
  obtain⟨e1,e2⟩:=qn d7;obtain⟨y0,y1,y2,y3,y4,y5,y6,y7,y8,y9,f8,f9,f'⟩:=aM ((g.block _ zz).tn c1);have b9:=Gd a';have e6:=b9.lt;obtain⟨s0,s1,s2,s3,s4,s5,s6,s7,s8,s9,f4,f5,f6⟩:=b9.all;have a0:X w w W:=Q.tn (g.mono Q.size);have d':=g.size;cases r:fM b l x
  all_goals
   have U:=Ge a8.out e1 e2 r W (P.out.below a0);have HR:=Hm r;have v:=Hm g;have b':=Hm a0;have e3:=Hm a';have e4:=Hm c4;clear r g a0 a' c4 b9;unfold aC.v gN at U;unfold aC.v mJ gN
  .gi_wp2_with (refine⟨qYB,?_⟩;gi_at_call 33;refine CallsIn.mono (CallsIn.inRound a6 (callsIn_wide.2 U)) ?_;clear U;rintro e v1 ⟨rfl,d⟩;obtain⟨b4,b5⟩:=aU d);have c':=d.size;exact⟨_,λy p=>⟨by rw[u]at p;omega,.inl p⟩,aS.dY d (λ_ h _=>h),rfl,v.out.tn (d.mono d'),by
    rw[PQ,nh,T.out];simp[HR.out]⟩
  .have b7:=λa=>xQ x.2 a;have j:=(v.out.block _ zz).tn C;have k:=(v.out.block _ zz).tn E;have o:=(v.out.block _ zz).tn G;have L:=Hm j;have N:=Hm k;have O:=Hm o;clear j k o C E G;unfold tJ at b7
   gi_wp2_with (first
    | (refine⟨qYB,?_⟩;gi_at_call 33;refine CallsIn.mono (CallsIn.inRound a6 (callsIn_wide.2 U)) ?_;clear U;rintro e v1 ⟨rfl,d⟩;obtain⟨b4,b5⟩:=aU d;have c':=d.size;have e7:a7<v1.heap.size:=zz)
    | (refine⟨qYB,?_⟩;gi_at_call 34;refine CallsIn.mono (CallsIn.inRound a6 (callsIn_wide.2 (b7 _))) ?_;clear b7;rintro e Z ⟨A,c,rfl, -, i⟩;have e0:=i.size;have a1:=one_cell ((i.block (w.heap.size+1) zz).tn ((d.block _ zz).tn L.out));have a2:=one_cell ((i.block (w.heap.size+1+1) zz).tn ((d.block _ zz).tn N.out));have a3:=one_cell ((i.block (w.heap.size+1+1+1) zz).tn ((d.block _ zz).tn O.out));have f1:Z.frozen? ⟨w.heap.size+1,0,I⟩=false:=(by simp[H.frozen?,(i.block (w.heap.size+1) zz).tn ((d.block _ zz).tn L.out)]);have f2:Z.frozen? ⟨w.heap.size+1+1,0,I⟩=false:=(by simp[H.frozen?,(i.block (w.heap.size+1+1) zz).tn ((d.block _ zz).tn N.out)]);have f3:Z.frozen? ⟨w.heap.size+1+1+1,0,I⟩=false:=(by simp[H.frozen?,(i.block (w.heap.size+1+1+1) zz).tn ((d.block _ zz).tn O.out)]);have l1:w.heap.size+1+1+1<Z.heap.size:=zz))
   have G1:=(i.block (w.heap.size+1) zz).tn ((d.block _ zz).tn L.out);have G2:=(i.block (w.heap.size+1+1) zz).tn ((d.block _ zz).tn N.out);have G3:=(i.block (w.heap.size+1+1+1) zz).tn ((d.block _ zz).tn O.out);obtain⟨q1,q2,q3,q4,V⟩:=AA (.int .i64 ((ie x.2 12).length:Nat)) (.bool true) (.int .i64 0) G1 G2 G3;have c7:aS (λ_=>True) W Z:=(aS.dY d (λ_ h _=>h)).tn (aS.dY i (λ_ h _=>h));refine⟨_,λy p=>⟨by rw[q4];rw[u]at p;omega,.inl p⟩,(c7.mono (K':=λy=>¬K y) (λ_ _ _=>trivial)).tn' V (λy _ p=>by rw[u]at p;omega),rfl,?_,x,SD b8 T.out HR.out,q1,q2,q3⟩
   .exact b'.out.tn (((c7.below (n:=w.heap.size) b'.out.size (λ_ _=>trivial))).tn (V.below zz (λy p=>zz)))
 case done=>
  rintro D K W d4 d6 ⟨rfl,g,T⟩ s;have j:=(g.block _ zz).tn C;have k:=(g.block _ zz).tn E;have o:=(g.block _ zz).tn G;have a1:=one_cell j;have a2:=one_cell k;have a3:=one_cell o;have f1:W.frozen? (w.heap.size+1,0)=false:=by simp[H.frozen?,j]
  have f2:W.frozen? (w.heap.size+1+1,0)=false:=by simp[H.frozen?,k]
  have f3:W.frozen? (w.heap.size+1+1+1,0)=false:=by simp[H.frozen?,o]
  have l1:(w:Nat)+1+1+1<W:=zz;have L:=Hm j;have N:=Hm k;have O:=Hm o;have v:=Hm g;have HK:=Hm s;have a9:PQ (zV b l=(0,false,0)):=by
   have:WE b l=I:=T.out;unfold zV;rw[PQ,qVB (by simp[a8.out]),this]
  clear j k o g s T C E G;gi_wp2;obtain⟨q1,q2,q3,q4,V⟩:=AA (.int .i64 0) (.bool false) (.int .i64 0) L.out N.out O.out;have b6:∀x,x≠D->(((((W.setCell (w.heap.size+1,0) (.int .i64 0)).setCell (w.heap.size+1+1,0) (.bool false)).setCell (w.heap.size+1+1+1,0) (.int .i64 0)).putObj D (.deferred I)).heap[x]?=(((W.setCell (w.heap.size+1,0) (.int .i64 0)).setCell (w.heap.size+1+1,0) (.bool false)).setCell (w.heap.size+1+1+1,0) (.int .i64 0)).heap[x]?):=λx f=>H.putObj_heap_other f;have b1:=one_cell ((b6 _ zz).tn q1);have b2:=one_cell ((b6 _ zz).tn q2);have b3:=one_cell ((b6 _ zz).tn q3);have d5:=V.get (b:=D) ⟨zz,zz,zz⟩ HK.out;refine⟨by simp,.inl ⟨_,_,rfl,run_takeDeferred d5,?_⟩⟩;refine⟨.tuple #[.int .i64 0,.bool false,.int .i64 0],by simp[results,Tryz.results7,go_sem,b1,b2,b3],by rw[a9.out],?_⟩;have q:X w w _:=(Q.tn (v.out.mono Q.size)).tn (V.below (n:=w.heap.size) zz (λy p=>zz));exact q.tn (((aS.refl (λx=>x≠D) _).put (λ_ h=>h rfl) _).below (n:=w.heap.size) q.size (λx f=>zz))
 case stop=>
  rintro D K J W d4 d6 b8 ⟨rfl,g,x,f,j,k,o⟩ s;have a9:PQ (zV b l=((((ie x.2 12).length:Nat):Int),true,0)):=by
   unfold zV;rw[PQ,qVB (by simp[a8.out]),f.out]
  clear f;gi_wp2;have b1:=one_cell (w:=W.putObj D (.deferred I)) ((H.putObj_heap_other zz).tn j);have b2:=one_cell (w:=W.putObj D (.deferred I)) ((H.putObj_heap_other zz).tn k);have b3:=one_cell (w:=W.putObj D (.deferred I)) ((H.putObj_heap_other zz).tn o);refine⟨by simp,.inl ⟨_,_,rfl,run_takeDeferred s,?_⟩⟩;refine⟨.tuple #[.int .i64 ((ie x.2 12).length:Nat),.bool true,.int .i64 0],by simp[results,Tryz.results7,go_sem,b1,b2,b3],by rw[a9.out],?_⟩;exact g.tn (((aS.refl (λx=>x≠D) _).put (λ_ h=>h rfl) _).below (n:=w.heap.size) g.size (λx f=>zz))
def DZ(b:aC)(l:pK)(w:H)(hl:aI w b l)(a:aD w)(h:ay b l=0:=by kernel_rfl):
  PH F 7 #[b.v] w (Bv (zV b l) w):=DY b l w hl a h
end
end Go.Proofs.YthfhocgpjjkjlaaGreatDoor
