import Derived.Test.YtfdbdkhgaajdoaaGreatDoorZk
import Derived.RegionTactic
import Derived.BigRegion
import Derived.StillTailTactics
import Derived.BigQuiet
import Derived.WalkMore
import Derived.Deep.RegionHeld3
set_option maxRecDepth 100000
set_option maxHeartbeats 4000000
set_option linter.all false
noncomputable section
open Go.Proofs.Tryz renaming prog->F
open Go renaming World->H,undef->Hc,execOp->Hn,Oper->Kp,TypeId->Lk,Code->Ly,Value->M,Calls->PH,Program->Ps,heap_alloc_old->QR,heap_alloc_new->Sp,resolve->ab,Operand->ae,bodyPost_ret->bd
open Go.Lib renaming hid->Hm
open Option renaming none->I,some->Y
open Go.RowKit renaming Hid->PQ,Below->X
namespace Go.Proofs.YtfdbdkhgaajdoaaGreatDoor
open Go.RowKit
def oK(b:aC)(l:pK):Int×Int:=if ay b l≠0 then(0,ay b l)else((((aJ b l b.D.toNat).length:Nat):Int),0)
def oL(p:Int×Int)(w:H)(e:Ending)(w':H):Prop:=e=.returned (.tuple #[.int .i64 p.1,.int .i64 p.2])/\X w w w'
theorem vG(b:aC)(l:pK)(w:H)(o:aI w b l)(n:aD w)(d:ay b l=0:=by kernel_rfl):
  PH F 19 #[b.v] w (oL (oK b l) w):=by
 have m:=Hm o;have p:=Hm n;clear o n;have i:=λa (g:aI a b l) (h2:aD a)=>cG b l a g h2
 .simp only[d]at i;have j:=λa (g:aI a b l)=>sQ b l d a g;have k:PQ (oK b l=((((aJ b l b.D.toNat).length:Nat):Int),0)):=by
   unfold oK;rw[PQ,qVB (by simp[d])]
  have r:(aJ b l b.D.toNat).length<=1296:=by
   obtain⟨y,t,z,B,C,E,G,J,K,s,-⟩:=cS (bP d).1;exact qO (nn _ _) (nH t s zz)
  generalize aJ b l b.D.toNat=L at j k r;clear d;unfold aC.v at i j|-;go_enter Tryz.func19,Tryz.ntmps19;go_wp2_with (first|(go_at_call 51;refine(i _ (aq m.out _) (ai p.out _)).mono ?_;rintro e a ⟨rfl,h⟩;obtain⟨u,v⟩:=aU h;have f:=di h;have x:w.heap.size<a.heap.size:=(by have:=h.size;simp only[aa]at this;omega))|(go_at_call 52;refine(j _ (m.out.below f)).mono ?_;rintro e N ⟨A,c,rfl, -, q⟩));go_ret2;exact⟨by rw[k.out];rfl,f.tn (q.mono f.size)⟩
variable{w:H}{g:Nat}{t:Lk}{a0 a1 a2 a3 a4 a5 a6 a7 a8 a9 a10 a11 a12 a13 a14:M}
def uC(b:aC)(s:Sl)(m:Option Nat):M:=.agg #[.int .i64 b.S,.int .i64 b.D,.int .i64 b.L,.int .i64 b.lo,.int .i64 b.hi,.slice b.C.A b.C.n b.C.c,.int .i64 b.rf,.int .i64 b.rh,.int .i64 b.cf,.int .i64 b.ch,.slice b.U.A b.U.n b.U.c,.slice b.E.A b.E.n b.E.c,.slice b.W.A b.W.n b.W.c,.slice s.A s.n s.c,.map m]
def kn0:M:=uC bI iy I
def bJ{g i:Nat}{cs:Array M}(h:w.heap[g]?=Y (.cells cs t (0,0)))(v:M):(w.setCell (g,i) v).heap[g]?=Y (.cells (cs.setIfInBounds i v) t (0,0)):=by
 simp[H.setCell,nc,h]
def Bs(a b k l m n o q r s c d e f j:M)(h:w.heap[g]?=Y (.cells #[a0,a1,a2,a3,a4,a5,a6,a7,a8,a9,a10,a11,a12,a13,a14] t (0,0))):
  (((((((((((((((w.setCell (g,0) a).setCell (g,1) b).setCell (g,2) k).setCell (g,3) l).setCell (g,4) m).setCell (g,5) n).setCell (g,6) o).setCell (g,7) q).setCell (g,8) r).setCell (g,9) s).setCell (g,10) c).setCell (g,11) d).setCell (g,12) e).setCell (g,13) f).setCell (g,14) j).heap[g]?=Y (.cells #[a,b,k,l,m,n,o,q,r,s,c,d,e,f,j] t (0,0))/\aS (λx=>x≠g) w (((((((((((((((w.setCell (g,0) a).setCell (g,1) b).setCell (g,2) k).setCell (g,3) l).setCell (g,4) m).setCell (g,5) n).setCell (g,6) o).setCell (g,7) q).setCell (g,8) r).setCell (g,9) s).setCell (g,10) c).setCell (g,11) d).setCell (g,12) e).setCell (g,13) f).setCell (g,14) j):=
 by
  have u:=bJ (i:=0) h a;simp only[zS]at u;have v:=bJ (i:=1) u b;simp only[zS]at v;have h2:=bJ (i:=2) v k;simp only[zS]at h2;have E:=bJ (i:=3) h2 l;simp only[zS]at E;have G:=bJ (i:=4) E m;simp only[zS]at G;have J:=bJ (i:=5) G n;simp only[zS]at J;have K:=bJ (i:=6) J o;simp only[zS]at K;have L:=bJ (i:=7) K q;simp only[zS]at L;have N:=bJ (i:=8) L r;simp only[zS]at N;have O:=bJ (i:=9) N s;simp only[zS]at O;have y:=bJ (i:=10) O c;simp only[zS]at y;have z:=bJ (i:=11) y d;simp only[zS]at z;have A:=bJ (i:=12) z e;simp only[zS]at A;have B:=bJ (i:=13) A f;simp only[zS]at B;have C:=bJ (i:=14) B j;simp only[zS]at C;exact⟨C,((((((((((((((((aS.refl _ _).set (p:=⟨g,0,I⟩) (λ_ h=>h rfl) a).set (p:=⟨g,1,I⟩) (λ_ h=>h rfl) b).set (p:=⟨g,2,I⟩) (λ_ h=>h rfl) k).set (p:=⟨g,3,I⟩) (λ_ h=>h rfl) l).set (p:=⟨g,4,I⟩) (λ_ h=>h rfl) m).set (p:=⟨g,5,I⟩) (λ_ h=>h rfl) n).set (p:=⟨g,6,I⟩) (λ_ h=>h rfl) o).set (p:=⟨g,7,I⟩) (λ_ h=>h rfl) q).set (p:=⟨g,8,I⟩) (λ_ h=>h rfl) r).set (p:=⟨g,9,I⟩) (λ_ h=>h rfl) s).set (p:=⟨g,10,I⟩) (λ_ h=>h rfl) c).set (p:=⟨g,11,I⟩) (λ_ h=>h rfl) d).set (p:=⟨g,12,I⟩) (λ_ h=>h rfl) e).set (p:=⟨g,13,I⟩) (λ_ h=>h rfl) f).set (p:=⟨g,14,I⟩) (λ_ h=>h rfl) j)⟩
def gH(h:w.heap[g]?=Y (.cells #[a0,a1,a2,a3,a4,a5,a6,a7,a8,a9,a10,a11,a12,a13,a14] t (0,0))):
  w.cell? ⟨g,0,I⟩=Y a0/\w.cell? ⟨g,1,I⟩=Y a1/\w.cell? ⟨g,2,I⟩=Y a2/\w.cell? ⟨g,3,I⟩=Y a3/\w.cell? ⟨g,4,I⟩=Y a4/\w.cell? ⟨g,5,I⟩=Y a5/\w.cell? ⟨g,6,I⟩=Y a6/\w.cell? ⟨g,7,I⟩=Y a7/\w.cell? ⟨g,8,I⟩=Y a8/\w.cell? ⟨g,9,I⟩=Y a9/\w.cell? ⟨g,10,I⟩=Y a10/\w.cell? ⟨g,11,I⟩=Y a11/\w.cell? ⟨g,12,I⟩=Y a12/\w.cell? ⟨g,13,I⟩=Y a13/\w.cell? ⟨g,14,I⟩=Y a14:=by
 have key:∀i v,(#[a0,a1,a2,a3,a4,a5,a6,a7,a8,a9,a10,a11,a12,a13,a14]:Array M)[i]?=Y v->w.cell? ⟨g,i,I⟩=Y v:=λi v a=>by rw[H.cell?,h];exact a
 exact⟨key _ _ rfl,key _ _ rfl,key _ _ rfl,key _ _ rfl,key _ _ rfl,key _ _ rfl,key _ _ rfl,key _ _ rfl,key _ _ rfl,key _ _ rfl,key _ _ rfl,key _ _ rfl,key _ _ rfl,key _ _ rfl,key _ _ rfl⟩
def iG(b:aC)(s:Sl)(m:Option Nat):Array M:= #[.int .i64 b.S,.int .i64 b.D,.int .i64 b.L,.int .i64 b.lo,.int .i64 b.hi,.slice b.C.A b.C.n b.C.c,.int .i64 b.rf,.int .i64 b.rh,.int .i64 b.cf,.int .i64 b.ch,.slice b.U.A b.U.n b.U.c,.slice b.E.A b.E.n b.E.c,.slice b.W.A b.W.n b.W.c,.slice s.A s.n s.c,.map m]
def Gk(w:H)(g:Nat)(b:aC)(s:Sl)(m:Option Nat):Prop:=w.heap[g]?=Y (.cells (iG b s m) 80 (0,0))
def aaN(r:Int)(w:H)(e:Ending)(w':H):Prop:=e=.returned (.tuple #[kn0,.int .i64 r])/\X w w w'
def abo(c:Nat)(d:Array M)(b:aC)(v:Bool)(w:H):Prop:=∀a,X w w a->PH F c (#[b.v]++d) a λe w'=>e=.returned (.bool v)/\X a a w'
theorem abX(b:aC)(l:pK)(f:Nat)(C:Array M)(a1:Enters F f)(w:H)(z:aI w b l)(u:aD w)(o:ay b l=0)(y:abo f C b true w)(t:aJ b l b.D.toNat=[]):
  PH F 32 #[b.v,.func (.func f) #[] C] w (aaN 9 w):=by
 have s:=Hm z;have E:=Hm u;have G:=Hm y;have n:=λa (d:aI a b l) (h2:aD a)=>cG b l a d h2;have p:=λa (d:aI a b l)=>sQ b l o a d;have B:=λa (d:X w.heap.size w a)=>G.out a d;simp only[o]at n;simp only[t]at p;clear o t z u y;have b3:=@run_makeMap F;have a':∀(args:Array M) (w:H),(callFunc f args).run F w=.ok (.enter f args) w:=a1;unfold aC.v at n B p|-;go_enter Tryz.func32,Tryz.ntmps32
 go_wp2_with (first
  | (go_at_call 51;refine(n _ (aq (aq s.out _) _) (ai (ai E.out _) _)).mono ?_;rintro e a ⟨rfl,h⟩;obtain⟨a7,a0⟩:=aU h;have b7:w.heap.size+2<=a.heap.size:=(by have:=h.size;simp only[aa]at this;omega);have b6:w.heap.size<a.heap.size:=zz;have a5:w.heap.size+1<a.heap.size:=zz;have q:X w.heap.size w a:=(((X.refl _ w).alloc (qN _) _).alloc ss _).tn (h.mono so))
  | (go_at_fn f;refine(B _ (by exact bt)).mono ?_;rintro e g ⟨rfl,i⟩;obtain⟨a8,b1⟩:=aU i;have m:X w.heap.size w g:=(((q.alloc q.size _).alloc so _)).tn (i.mono so);have b8:a.heap.size+2<=g.heap.size:=(by have:=i.size;simp only[aa]at this;omega);have b9:a.heap.size+1<g.heap.size:=zz;have a6:w.heap.size+1<g.heap.size:=zz)
  | (go_at_call 52;refine(p _ (s.out.below m)).mono ?_;rintro e k ⟨A,c,rfl,b4,j⟩;obtain⟨a9,b2⟩:=aU j;have b':=j.size;have b0:a.heap.size+1<k.heap.size:=zz;have c1:w.heap.size+1<k.heap.size:=zz))
 have a2:a.heap[w.heap.size+1]?=Y (.cells (iG bI iy I) 80 (0,0)):=(h.block _ ss).tn (by rw[<- aa w (aE b 31)];exact Sp _ _);have a3:g.heap[w.heap.size+1]?=Y (.cells (iG bI iy I) 80 (0,0)):=(i.block _ so).tn ((QR _ _ so).tn ((QR _ _ a5).tn a2));have a4:(k.setCell (a.heap.size+1,13) (.slice A 0 c)).heap[w.heap.size+1]?=Y (.cells (iG bI iy I) 80 (0,0)):=(X.heap_setCell _ _ _ _ (by show w.heap.size+1≠a.heap.size+1;omega)).tn ((j.block _ a6).tn a3);have r:X w w (k.setCell (a.heap.size+1,13) (.slice A 0 c)):=(m.tn (j.mono m.size)).setCell so _;obtain⟨d,h2⟩:=Bs (.int .i64 0) (.int .i64 0) (.int .i64 0) (.int .i64 0) (.int .i64 0) (.slice I 0 0) (.int .i64 0) (.int .i64 0) (.int .i64 0) (.int .i64 0) (.slice I 0 0) (.slice I 0 0) (.slice I 0 0) (.slice I 0 0) (.map I) a4;obtain⟨c0,J,Q,R,S,T,U,V,W,Z,K,L,N,O,P⟩:=gH d;refine bd (v:=.tuple #[kn0,.int .i64 9]) ?_ rfl ⟨rfl,r.tn (h2.below r.size (λx b5=>zz))⟩;simp[results,Tryz.results32,go_sem,kn0,uC,bI,iy,c0,J,Q,R,S,T,U,V,W,Z,K,L,N,O,P]
variable{wr wr':H}{B n c bb kb mb:Nat}{L:List gM}{b:aC}{s:Sl}{SS:List (Int×(Nat->Bool))}
def ko(h:Int)(L:List gM)(a:List Int):List gM:=a.foldl (λL n=>wD L (h,n)) L
def oN(b:aC)(l:pK)(x:Int×(Nat->Bool))(h:Nat):Nat->Bool:=eT b.S b.L x.1 x.2 (l.U.getD h (0,0))
def ku(b:aC)(l:pK)(x:Int×(Nat->Bool))(L:List gM)(a:List Nat):List gM:=a.foldl (λL (h:Nat)=>ko (h:Int) L (ie (oN b l x h) 12)) L
def lP(b:aC)(l:pK)(L:List gM)(xs:List (Int×(Nat->Bool))):List gM:=xs.foldl (λL x=>ku b l x L (List.range' 0 l.U.length)) L
def fN(b:aC)(l:pK):List gM:=lP b l [] (aJ b l b.D.toNat)
def jo(b:aC)(l:pK)(w:H)(e:Ending)(w':H):Prop:=∃A c r,e=.returned (.tuple #[uC b ⟨A,(aJ b l b.D.toNat).length,c⟩ (Y r),.int .i64 0])/\
 w'.ownsRow w.heap.size 91 13 (.slice A (aJ b l b.D.toNat).length c) (aJ b l b.D.toNat).length (Gf (aJ b l b.D.toNat))/\jm w' r (fN b l)/\w.heap.size<=r/\X w w w'
def Ja:∀(L:List (Int×(Nat->Bool))) (i j:Nat),i<L.length->j<13->(Gf L)[i*13+j]?=(zC (L.getD i (0,mI))).toList[j]?
 | [],i,j,hi,_=>by simp at hi
 | x::r,0,j,_,b=>by
  have a:(zC x).toList.length=13:=rfl;simp only[Gf,lv,Nat.zero_mul,kx,List.getD_cons_zero];exact List.getElem?_append_left (by rw[a];exact b)
 | x::r,i+1,j,hi,b=>by
  have a:(zC x).toList.length=13:=rfl;have c:=Ja r i j (by simpa using hi) b;simp only[Gf,lv,List.getD_cons_succ]at c|-;rw[List.getElem?_append_right (by rw[a];omega),a,show(i+1)*13+j-13=i*13+j by omega];exact c
def wO{B g n c:Nat}{L:List (Int×(Nat->Bool))}(h:w.ownsRow B 91 13 (.slice (Y (g,0)) n c) n (Gf L))(b:n=L.length){i:Nat}(hi:i<n)(j:Nat)(a:j<13):w (g,i*13+j)=(zC (L.getD i (0,mI))).toList[j]?:=by
 rw[h.cellAt (i*13+j) (by
  have:i*13+13<=n*13:=zz;omega),Ja L i j zz a]
structure lQ(w:H)(bb kb mb B:Nat)(b:aC)(s:Sl)(SS:List (Int×(Nat->Bool)))(wr:H)(L:List gM):Prop where
 box:aK wr bb 31 b
 res:wr.heap[bb+1]?=Y (.cells (iG bI iy I) 80 (0,0))
 kn:Gk wr kb b s (Y mb)
 own:wr.ownsRow B 91 13 (.slice s.A s.n s.c) s.n (Gf SS)
 map:jm wr mb L
 low:X w w wr
def lQ.below(h:lQ w bb kb mb B b s SS wr L)(a:X wr wr wr'):lQ w bb kb mb B b s SS wr' L:=
 have hk:=aS.dY (K:=λ_=>True) a (λ_ h _=>h)
 ⟨hk.get qYB h.box,hk.get qYB h.res,hk.get qYB h.kn,bB h.own hk (λ_ _=>trivial),hk.get qYB h.map,h.low.tn (a.mono h.low.size)⟩
def lQ.kQ{L L':List gM}(h:lQ w bb kb mb B b s SS wr L)(d:w.heap.size<=mb)(h2:bb+1<mb)(e:mb<kb)(f:kb<B)(hk:aS (λx=>x≠mb) wr wr')(a:jm wr' mb L'):lQ w bb kb mb B b s SS wr' L':=
 ⟨hk.get zz h.box,hk.get zz h.res,hk.get zz h.kn,bB h.own hk (λg c=>by have:=(h.own.lt g c).1;omega),a,h.low.tn (hk.below h.low.size (λx i=>zz))⟩
def Gm{r:Nat}(c:jm w r L)(k:Int×Int):∃(a b:H) (i:Nat),(Instr.lookup 78 (.map (Y r)) (gG k) false).run F w=.ok (.int .i64 (assoc L k)) w/\
  (Instr.mapEntry 78 (.map (Y r)) (gG k)).run F w=.ok (.tuple #[.int .i64 (assoc L k),.int .i64 i]) a/\(Instr.lookup 78 (.map (Y r)) (gG k) false).run F a=.ok (.int .i64 (assoc L k)) a/\
  (Instr.entryStore 78 (.map (Y r)) (.int .i64 i) (.int .i64 (wrap64 (assoc L k+1)))).run F a=.ok () b/\jm b r (wD L k)/\aS (λx=>x≠r) w b:=by
 have g:r<w.heap.size:=(ec.1 c).1;obtain⟨i,j,h2,m⟩:=Ll c k;have f:jm (w.putObj r (.map (jl (sS k L)).toArray (sS k L).length)) r (sS k L):=H.putObj_heap_same g;have d:=run_store f h2 (wrap64 (assoc L k+1));rw[<- m]at d;have n:=(aS.refl (λx=>x≠r) w).put (l:=r) (λ_ h=>h rfl) (.map (jl (sS k L)).toArray (sS k L).length);have e:=gd f k;rw[Lj]at e;exact⟨_,_,i,gd c k,j,e,d,H.putObj_heap_same (by simpa using g),n.put (λ_ h=>h rfl) _⟩
def Lm{A:Option Addr}{l:List Int}(h:w.ownsRow B 3 1 (.slice A n c) n (l.map (M.int .i64)))(f:n=l.length)(e:l.length<=1000):eC w ⟨A,n,c⟩ l:=by
 subst f;rcases h.2 with⟨a,h2⟩|⟨g,i,j,a,h2,b,d,m,o,p⟩
 .have:l=[]:=List.eq_nil_of_length_eq_zero h2;subst this;exact⟨rfl,qT _,qT _,λh=>mi h ss⟩
 .simp only[lL]at a;obtain⟨rfl, -, rfl⟩:=a;refine⟨rfl,d,e,λ_=>⟨g,0,rfl,(ec.1 b).1,λk hk=>?_⟩⟩;have:=h.cellAt k zz;rw[kx,this];simp[List.getD,iv hk]
theorem Ob(b:aC)(l:pK)(O:Nat)(f8:Array M)(i5:Enters F O)(w:H)(e8:aI w b l)(d9:aD w)(Z:ay b l=0)(e6:abo O f8 b true w)(h0:aJ b l b.D.toNat≠[]):
  PH F 32 #[b.v,.func (.func O) #[] f8] w (jo b l w):=by
 have N:=Hm e8;have g0:=Hm d9;have h5:=Hm e6;have d1:=Hm Z;have d3:PQ (fN b l=lP b l [] (aJ b l b.D.toNat)):=rfl;have J:=λa (E:aI a b l) (h2:aD a)=>cG b l a E h2;have a6:=λa (E:aI a b l)=>sQ b l Z a E;have b8:=λa (E:X w.heap.size w a)=>h5.out a E;have b7:∀x∈aJ b l b.D.toNat,b.lo<=x.1/\x.1<=b.hi:=λx u=>qn ((List.mem_filter.1 u).1);have k5:(aJ b l b.D.toNat).length<=1296:=by
  obtain⟨t1,t2,t3,t4,t5,t6,t7,t8,t9,b0,-⟩:=cS (bP Z).1;exact qO (nn _ _) (nH t2 b0 zz)
 unfold jo;generalize aJ b l b.D.toNat=d at a6 b7 k5 h0 d3|-;have h7:=Hm b7;have n8:0<d.length:=List.length_pos_iff.2 h0;have n6:((d.length:Int)==0)=false:=by simp;omega
 simp only[Z]at J;clear Z h0 e8 d9 e6 b7;have k8:=@run_makeMap F;have j2:∀(args:Array M) (w:H),(callFunc O args).run F w=.ok (.enter O args) w:=i5;unfold aC.v at J b8 a6|-;go_enter Tryz.func32,Tryz.ntmps32
 go_wp2_with (first
  | (go_at_call 51;refine(J _ (aq (aq N.out _) _) (ai (ai g0.out _) _)).mono ?_;rintro e a ⟨rfl,P⟩;obtain⟨i6,j3⟩:=aU P;have n9:w.heap.size+2<=a.heap.size:=(by have:=P.size;simp only[aa]at this;omega);have k':w.heap.size<a.heap.size:=zz;have k0:w.heap.size+1<a.heap.size:=zz;have B1:X w.heap.size w a:=(((X.refl _ w).alloc (qN _) _).alloc ss _).tn (P.mono so))
  | (go_at_fn O;refine(b8 _ (by exact bt)).mono ?_;rintro e s ⟨rfl,V⟩;obtain⟨i7,j4⟩:=aU V;have B2:X w.heap.size w s:=(((B1.alloc B1.size _).alloc so _)).tn (V.mono so);have n0:a.heap.size+2<=s.heap.size:=(by have:=V.size;simp only[aa]at this;omega);have l1:a.heap.size+1<s.heap.size:=zz;have o3:w.heap.size+1<s.heap.size:=zz)
  | (go_at_call 52;refine(a6 _ (N.out.below B2)).mono ?_;rintro e G ⟨A,c,rfl,f4,W⟩;obtain⟨i8,j5⟩:=aU W;have o1:=W.size;have o2:a.heap.size+1<G.heap.size:=zz;have o4:w.heap.size+1<G.heap.size:=zz;have T:=Hm f4;clear f4))
 obtain⟨g,rfl⟩:∃g,A=Y ⟨g,0,I⟩:=by
  rcases T.out.2 with⟨E,h2⟩|⟨g,m5,m7,E,-⟩
  .omega
  .simp only[lL]at E;exact⟨g,E.1⟩
 have a8:lQ w w.heap.size (a.heap.size+1) a.heap.size s.heap.size b ⟨Y ⟨g,0,I⟩,d.length,c⟩ d (G.setCell ⟨a.heap.size+1,13,I⟩ (.slice (Y ⟨g,0,I⟩) d.length c)) []:=by
  have k3:∀x,x<s.heap.size->G.heap[x]?=s.heap[x]?:=λx u=>W.block x u;have k2:∀x,x<a.heap.size+2->s.heap[x]?=((a.alloc (.map #[] 0)).alloc (.cells (iG b iy (Y a.heap.size)) 80)).heap[x]?:=λx u=>V.block x so;have b':∀x,x≠a.heap.size+1->(G.setCell ⟨a.heap.size+1,13,I⟩ (.slice (Y ⟨g,0,I⟩) d.length c)).heap[x]?=G.heap[x]?:=λx u=>X.heap_setCell _ _ _ _ u;have q0:a.heap[w.heap.size]?=Y (aE b 31):=(P.block _ so).tn ((QR _ _ ss).tn (Sp _ _));have q1:a.heap[w.heap.size+1]?=Y (.cells (iG bI iy I) 80 (0,0)):=(P.block _ ss).tn (by rw[<- aa w (aE b 31)];exact Sp _ _);have q2:((a.alloc (.map #[] 0)).alloc (.cells (iG b iy (Y a.heap.size)) 80)).heap[a.heap.size+1]?=Y (.cells (iG b iy (Y a.heap.size)) 80 (0,0)):=by rw[<- aa a (.map #[] 0)];exact Sp _ _
  have q3:((a.alloc (.map #[] 0)).alloc (.cells (iG b iy (Y a.heap.size)) 80)).heap[a.heap.size]?=Y (.map #[] 0):=(QR _ _ ss).tn (Sp _ _);have q4:=(k3 _ l1).tn ((k2 _ zz).tn q2);have q5:=bJ (i:=13) q4 (.slice (Y ⟨g,0,I⟩) d.length c);refine⟨?_,?_,q5,?_,?_,?_⟩
  .exact(b' _ zz).tn ((k3 _ zz).tn ((k2 _ zz).tn ((QR _ _ so).tn ((QR _ _ k').tn q0))))
  .exact(b' _ zz).tn ((k3 _ zz).tn ((k2 _ zz).tn ((QR _ _ so).tn ((QR _ _ k0).tn q1))))
  .refine bB T.out (K:=λx=>x≠a.heap.size+1) ((aS.refl _ _).set (p:=⟨a.heap.size+1,13,I⟩) (λ_ h=>h rfl) _) (λg' a0=>?_);have:=(T.out.lt g' a0).1;omega
  .exact(b' _ zz).tn ((k3 _ zz).tn ((k2 _ zz).tn q3))
  .exact(B2.tn (W.mono B2.size)).setCell so _
 have c':=Hm a8;have m0:g<G.heap.size:=(T.out.lt g rfl).2;have m':s.heap.size<=g:=(T.out.lt g rfl).1;generalize(G.setCell ⟨a.heap.size+1,13,I⟩ (.slice (Y ⟨g,0,I⟩) d.length c))=p5 at a8 c'|-;clear a8 i6 j3 i7 j4 i8 j5 P V W k8 j2 J a6 b8;have m3:=Hm (N.out.below B1);have a':=Hm N.out.U.1;have m8:b.U.n<=1000:=by rw[a'.out];exact N.out.U.2.2.1
 go_loopw [41] (λv wr=>∃(i:Nat) (L:List gM),i<=d.length/\v=.int .i64 i/\lQ w w.heap.size (a.heap.size+1) a.heap.size s.heap.size b ⟨Y ⟨g,0,I⟩,d.length,c⟩ d wr L/\PQ (lP b l L (d.drop i)=lP b l [] d)) (λv _=>d.length-(intOf v).toNat)
 case atStart=>exact⟨0,[],zz,rfl,c'.out,rfl⟩
 case round=>
  obtain⟨i,L,hi,rfl,f,b1⟩:=hrel;obtain⟨m,rfl⟩:∃m:H,m=wr:=⟨_,rfl⟩;by_cases a5:i<d.length
  .obtain⟨x,u⟩:∃x,d.getD i (0,mI)=x:=⟨_,rfl⟩;have k7:x∈d:=by rw[<- u];simp[List.getD,iv a5]
   obtain⟨e1,e2⟩:=h7.out x k7;have e4:d.drop i=x::d.drop (i+1):=by
    rw[fx a5,<- u];simp[List.getD,iv a5]
   have q:∀j,j<13->m.cell? ⟨g,i*13+j,I⟩=(zC x).toList[j]?:=λj k4=>by
    have:=wO f.own rfl a5 j k4;rw[u]at this;exact this
   have q0:m.cell? ⟨g,i*13,I⟩=Y (.int .i64 x.1):=q 0 zz;have q1:m.cell? ⟨g,i*13+1,I⟩=Y (.bool (x.2 0)):=q 1 zz;have q2:m.cell? ⟨g,i*13+2,I⟩=Y (.bool (x.2 1)):=q 2 zz;have q3:m.cell? ⟨g,i*13+3,I⟩=Y (.bool (x.2 2)):=q 3 zz;have q4:m.cell? ⟨g,i*13+4,I⟩=Y (.bool (x.2 3)):=q 4 zz;have q5:m.cell? ⟨g,i*13+5,I⟩=Y (.bool (x.2 4)):=q 5 zz;have q6:m.cell? ⟨g,i*13+6,I⟩=Y (.bool (x.2 5)):=q 6 zz;have q7:m.cell? ⟨g,i*13+7,I⟩=Y (.bool (x.2 6)):=q 7 zz;have q8:m.cell? ⟨g,i*13+8,I⟩=Y (.bool (x.2 7)):=q 8 zz;have q9:m.cell? ⟨g,i*13+9,I⟩=Y (.bool (x.2 8)):=q 9 zz;have l3:m.cell? ⟨g,i*13+10,I⟩=Y (.bool (x.2 9)):=q 10 zz;have l4:m.cell? ⟨g,i*13+11,I⟩=Y (.bool (x.2 10)):=q 11 zz;have l9:m.cell? ⟨g,i*13+12,I⟩=Y (.bool (x.2 11)):=q 12 zz;have f9:=(aM f.box).2.2.2.2.2.2.2.2.2.2.1;have n4:w.heap.size<m.heap.size:=f.box.lt;have n2:a.heap.size+1<m.heap.size:=(ec.1 f.kn).1;have h4:=Hm f;have h9:=Hm e4;clear q u e4 f;go_wp2;clear q0 q1 q2 q3 q4 q5 q6 q7 q8 q9 l3 l4 l9 f9;go_loopw [48] (λv S=>∃(h:Nat) (L2:List gM),h<=b.U.n/\v=.int .i64 h/\lQ w w.heap.size (a.heap.size+1) a.heap.size s.heap.size b ⟨Y ⟨g,0,I⟩,d.length,c⟩ d S L2/\bA S m.heap.size 91 x.1 x.2/\PQ (ku b l x L2 (List.range' h (b.U.n-h))=ku b l x L (List.range' 0 l.U.length))) (λv _=>b.U.n-(intOf v).toNat)
   case atStart=>
    refine⟨0,L,zz,rfl,h4.out.below ((X.refl _ _).alloc (qN _) _),?_,by rw[PQ,a'.out];rfl⟩;have:=bA.new m 91 x.1 x.2;exact this
   case round=>
    obtain⟨h,L2,n1,rfl,f,C,b2⟩:=hrel;obtain⟨a7,rfl⟩:∃a7:H,a7=wr:=⟨_,rfl⟩;by_cases k6:h<b.U.n
    .have e':h<l.U.length:=by rw[<- a'.out];exact k6
     obtain⟨t1,t2,t3,t4,t5,t6,t7,t8,t9,b0,-⟩:=cS (bP d1.out).1;obtain⟨p1,p2,p3,p4⟩:=kP (bP d1.out).2.2.1 h e';have a3:=λw' (k9:bp w' b.U l.U)=>qX b t1 t2 t5 t6 x.1 zz zz x.2 h l.U e' p1 p2 p3 p4 w' k9;have e9:=λw'=>xQ (oN b l x h) w';have f5:List.range' h (b.U.n-h)=h::List.range' (h+1) (b.U.n-(h+1)):=by
      rw[show b.U.n-h=(b.U.n-(h+1))+1 by omega,List.range'_succ]
     have HR:=Hm f5;obtain⟨z0,z1,z2,z3,z4,z5,z6,z7,z8,z9,f',f0,g1,g2,c2⟩:=gH f.kn;obtain⟨s0,s1,s2,s3,s4,s5,s6,s7,s8,s9,l',l0,m1⟩:=C.all;have o7:a.heap.size+1<a7.heap.size:=(ec.1 f.kn).1;have l2:=C.lt;have d2:=Hm f;have h6:=Hm C;have n5:=f.low.size;change ∀w',bp w' b.U l.U->PH F 39 #[b.v,gN x.1 x.2,.int .i64 h] w' λe m2=>e=.returned (tJ (oN b l x h))/\X w'.heap.size w' m2 at a3;generalize d8:oN b l x h=n at a3 e9;have g6:=Hm d8;clear d8 t1 t2 t3 t4 t5 t6 t7 t8 t9 b0 p1 p2 p3 p4 f5 g2 c2 f C;unfold aC.v gN at a3
     go_wp2_with (first
      | (go_at_call 39;refine(a3 _ (N.out.U.below d2.out.low)).mono ?_;rintro e v1 ⟨rfl,a1⟩;obtain⟨i0,j'⟩:=aU a1)
      | (go_at_call 48;refine(e9 _).mono ?_;rintro e v2 ⟨A2,U,rfl,b6,a2⟩;obtain⟨j1,k1⟩:=aU a2))
     have n':=a1.size;have n7:(ie n 12).length<=12:=kO n 12;have d':eC v2 ⟨A2,(ie n 12).length,U⟩ (ie n 12):=Lm (by simpa using b6) rfl zz;have d6:∀y,I4 ⟨A2,(ie n 12).length,U⟩ (ie n 12) y->a.heap.size<y:=λy b9=>by
      obtain⟨-, o,f3⟩:=b9;simp only at f3;subst f3;have:=(b6.lt y rfl).1;omega
     have d7:=(d2.out.below a1).below a2;have d0:=(h6.out.below a1 l2).below a2 zz;have n3:a7.heap.size<=v2.heap.size:=by have:=a2.size;omega
     have h1:=Hm d';have g3:=Hm d6;have g4:=Hm d7;have h8:=Hm d0;clear d' d6 d7 d0 b6 i0 j' j1 k1 a1 a2 z0 z1 z2 z3 z4 z5 z6 z7 z8 z9 f' f0 g1 s0 s1 s2 s3 s4 s5 s6 s7 s8 s9 l' l0 m1;go_loopw [58] (λv S=>∃(k:Nat) (z:List gM),k<=(ie n 12).length/\v=.int .i64 k/\lQ w w.heap.size (a.heap.size+1) a.heap.size s.heap.size b ⟨Y ⟨g,0,I⟩,d.length,c⟩ d S z/\bA S m.heap.size 91 x.1 x.2/\eC S ⟨A2,(ie n 12).length,U⟩ (ie n 12)/\PQ (ko h z ((ie n 12).drop k)=ko h L2 (ie n 12))) (λv _=>(ie n 12).length-(intOf v).toNat)
     case atStart=>exact⟨0,L2,zz,rfl,g4.out,h8.out,h1.out,rfl⟩
     case round=>
      obtain⟨k,z,hk,rfl,f,C,a4,b3⟩:=hrel;obtain⟨R,rfl⟩:∃R:H,R=wr:=⟨_,rfl⟩;by_cases b4:k<(ie n 12).length
      .obtain⟨m4,o0,d5,m9,J⟩:=a4.2.2.2 zz;simp only at d5;subst d5;have i':=J k b4;obtain⟨Q,b5⟩:∃Q,(ie n 12).getD k 0=Q:=⟨_,rfl⟩;have e5:(ie n 12).drop k=Q::(ie n 12).drop (k+1):=by
        rw[fx b4,<- b5];simp[List.getD,iv b4]
       rw[b5]at i';have c2:=(gH f.kn).2.2.2.2.2.2.2.2.2.2.2.2.2.2;obtain⟨W1,W2,o6,r1,r2,r3,r4,r5,r6⟩:=Gm (w:=R.drew) (r:=a.heap.size) (L:=z) f.map (h,Q);have e0:=lQ.kQ (wr':=W2) f zz zz zz zz ((aS.refl _ R).drew.tn r6) r5;have f6:=abj C ((aS.refl _ R).drew.tn r6) zz;have e7:=a4.keep ((aS.refl _ R).drew.tn r6) (λy b9=>by have:=g3.out y b9;omega);have t:=Hm e0;have a9:=Hm f6;have h3:=Hm e7;have g5:=Hm e5;generalize i9:assoc z (h,Q)=m6 at r1 r2 r3 r4;unfold gG at r1 r2 r3;simp only at r1 r2 r3;clear J b5 e5 e0 f6 e7 f C a4 r5 r6 i9;go_wp2;go_region
       all_goals
        go_wp2;go_roundw
        case rel=>
         refine⟨k+1,_,zz,by go_num,t.out,a9.out,h3.out,?_⟩;have e:ko h z ((ie n 12).drop k)=ko h (wD z (h,Q)) ((ie n 12).drop (k+1)):=by rw[g5.out];rfl
         rw[PQ,<- e];exact b3.out
        case measure=>simp[intOf];omega
      .obtain rfl:k=(ie n 12).length:=zz;have e3:z=ko h L2 (ie n 12):=by
        have:=b3.out;rw[ma (qN _)]at this;exact this
       have g9:=Hm e3;have t:=Hm f;have a9:=Hm C;clear e3 f C a4 b3;go_wp2;go_roundw
       case rel=>
        refine⟨h+1,z,zz,by go_num,t.out,a9.out,?_⟩;have e:ku b l x L2 (List.range' h (b.U.n-h))=ku b l x z (List.range' (h+1) (b.U.n-(h+1))):=by
         rw[HR.out,g9.out,<- g6.out];rfl
        rw[PQ,<- e];exact b2.out
       case measure=>simp[intOf];omega
    .obtain rfl:h=b.U.n:=zz;have d4:L2=ku b l x L (List.range' 0 l.U.length):=by
      have:=b2.out;rw[Nat.sub_self]at this;exact this
     have g8:=Hm d4;have t:=Hm f;clear d4 f C b2;go_wp2;go_roundw
     case rel=>
      refine⟨i+1,L2,zz,by go_num,t.out,?_⟩;have e:lP b l L (d.drop i)=lP b l L2 (d.drop (i+1)):=by rw[h9.out,g8.out];rfl
      rw[PQ,<- e];exact b1.out
     case measure=>simp[intOf];omega
  .obtain rfl:i=d.length:=zz;have e1:L=fN b l:=by
    have:=b1.out;rw[ma (qN _)]at this;exact this.tn d3.out.symm
   have g7:=Hm e1;obtain⟨z0,z1,z2,z3,z4,z5,z6,z7,z8,z9,f',f0,g1,g2,c2⟩:=gH f.kn;obtain⟨y0,y1,y2,y3,y4,y5,y6,y7,y8,y9,f9,p7,p8,p9,p'⟩:=gH f.res;have p0:∀j,m.frozen? ⟨w.heap.size+1,j,I⟩=false:=λj=>by simp[H.frozen?,f.res]
   have o':w.heap.size+1<m.heap.size:=(ec.1 f.res).1;have t:=Hm f;clear e1 f b1;go_wp2;obtain⟨f1,f2⟩:=Bs (.int .i64 b.S) (.int .i64 b.D) (.int .i64 b.L) (.int .i64 b.lo) (.int .i64 b.hi) (.slice b.C.A b.C.n b.C.c) (.int .i64 b.rf) (.int .i64 b.rh) (.int .i64 b.cf) (.int .i64 b.ch) (.slice b.U.A b.U.n b.U.c) (.slice b.E.A b.E.n b.E.c) (.slice b.W.A b.W.n b.W.c) (.slice (Y ⟨g,0,I⟩) d.length c) (.map (Y a.heap.size)) t.out.res;obtain⟨c0,c1,U,c3,c4,c5,c6,c7,c8,c9,h',i1,i2,i3,i4⟩:=gH f1;refine bd (v:=.tuple #[uC b ⟨Y ⟨g,0,I⟩,d.length,c⟩ (Y a.heap.size),.int .i64 0]) ?_ rfl ⟨_,c,a.heap.size,rfl,?_,?_,zz,t.out.low.tn (f2.below t.out.low.size (λx u=>zz))⟩
   .simp[results,Tryz.results32,go_sem,uC,c0,c1,U,c3,c4,c5,c6,c7,c8,c9,h',i1,i2,i3,i4]
   .exact dy (B:=s.heap.size) zz (bB t.out.own f2 (λg' a0=>by
     have:=(t.out.own.lt g' a0).1;omega))
   .rw[<- g7.out];exact f2.get zz t.out.map
def cP(b:aC)(l:pK)(q:Bool):Int:=if ay b l≠0 then ay b l else if q=false then 6 else if aJ b l b.D.toNat=[]then 9 else 0
def Bt{b:aC}{l:pK}{q:Bool}(h:cP b l q=0):ay b l=0/\q=true/\aJ b l b.D.toNat≠[]:=by
 unfold cP at h;by_cases a:ay b l=0
 .rw[qVB (by simpa using a)]at h
  cases q with
  | false=>rw[qWB rfl]at h;omega
  | true=>
   rw[qVB ss]at h;by_cases c:aJ b l b.D.toNat=[]
   .rw[qWB c]at h;omega
   .exact⟨a,rfl,c⟩
 .rw[qWB a]at h;exact mi h a
def qp(b:aC)(l:pK)(a:Nat)(c:Array M)(e:Enters F a)(q:Bool)(w:H)(j:aI w b l)(g:aD w)(i:ay b l=0->abo a c b q w)(h:cP b l q=0):
  PH F 32 #[b.v,.func (.func a) #[] c] w (jo b l w):=by
 obtain⟨d,h2,f⟩:=Bt h;subst h2;exact Ob b l a c e w j g d (i d) f
def lT:Enters F 36:=enters_of Tryz.func36 kr rfl
def Dw:Enters F 56:=enters_of Tryz.func56 kr rfl
def Dx:Enters F 43:=enters_of Tryz.func43 kr rfl
def Dy:Enters F 33:=enters_of Tryz.func33 kr rfl
def Dz:Enters F 37:=enters_of Tryz.func37 kr rfl
theorem gW(b:aC)(w:H):abo 36 #[] b true w:=by
 intro a _;simp only[zR,List.append_nil];unfold aC.v;go_enter Tryz.func36,Tryz.ntmps36;go_wp2;go_ret;exact⟨rfl,(X.refl _ _).alloc (qN _) _⟩
theorem Ay(b:aC)(i: -1000<=b.S)(h2:b.S<=1000)(step:Int)(a:Nat)(w:H)(f:w (a,0)=Y (.int .i64 step))(d:a<w):abo 56 #[.pointer (Y (a,0))] b (ax step 0 (b.S-1)) w:=by
 intro h c;have k:h (a,0)=Y (.int .i64 step):=(c.cell (p:=⟨a,0,I⟩) d).tn f;have l:a<h.heap.size:=qP d c.size;have g:=λw=>fB b step i h2 w;clear f d c;simp only[zR];unfold aC.v at g|-;go_enter Tryz.func56,Tryz.ntmps56;go_wp2_with (go_at_call 38;refine(g _).mono ?_;rintro e w' ⟨rfl,j⟩);go_ret;exact⟨rfl,aY j⟩
theorem xX(b:aC)(i: -1000<=b.S)(h2:b.S<=1000)(step:Int)(a:Nat)(w:H)(f:w (a,0)=Y (.int .i64 step))(d:a<w):abo 37 #[.pointer (Y (a,0))] b (ax step 0 (b.S-1)) w:=by
 intro h c;have k:h (a,0)=Y (.int .i64 step):=(c.cell (p:=⟨a,0,I⟩) d).tn f;have l:a<h.heap.size:=qP d c.size;have g:=λw=>fB b step i h2 w;clear f d c;simp only[zR];unfold aC.v at g|-;go_enter Tryz.func37,Tryz.ntmps37;go_wp2_with (go_at_call 38;refine(g _).mono ?_;rintro e w' ⟨rfl,j⟩);go_ret;exact⟨rfl,aY j⟩
theorem DC(b:aC)(j:b.U.n<=1000)(c:Int)(a:Nat)(w:H)(g:w (a,0)=Y (.int .i64 c))(f:a<w):abo 33 #[.pointer (Y (a,0))] b (ax c 0 (b.U.n-1)) w:=by
 intro i d;have l:i (a,0)=Y (.int .i64 c):=(d.cell (p:=⟨a,0,I⟩) f).tn g;have m:a<i.heap.size:=qP f d.size;have h:=λw=>oE b c j w;clear g f d;simp only[zR];unfold aC.v at h|-;go_enter Tryz.func33,Tryz.ntmps33;go_wp2_with (go_at_call 34;refine(h _).mono ?_;rintro e w' ⟨rfl,k⟩);go_ret;exact⟨rfl,aY k⟩
theorem xY(b:aC)(r:b.U.n<=1000)(h2: -1000<=b.S)(s:b.S<=1000)(g step:Int)(c a:Nat)(w:H)(m:w (c,0)=Y (.int .i64 g))(i:c<w)(n:w (a,0)=Y (.int .i64 step))(k:a<w):
  abo 43 #[.pointer (Y (c,0)),.pointer (Y (a,0))] b (ax g 0 (b.U.n-1)&&ax step 0 (b.S-1)) w:=by
 intro h f;have v:h (c,0)=Y (.int .i64 g):=(f.cell (p:=⟨c,0,I⟩) i).tn m;have x:h (a,0)=Y (.int .i64 step):=(f.cell (p:=⟨a,0,I⟩) k).tn n;have A:c<h.heap.size:=qP i f.size;have s2:a<h.heap.size:=qP k f.size;have j:=λw=>oE b g r w;have l:=λw=>fB b step h2 s w;clear m i n k f;simp only[zR];generalize ax g 0 (b.U.n-1)=p at j|-;generalize ax step 0 (b.S-1)=q at l|-;unfold aC.v at j l|-;cases p
 all_goals
  go_enter Tryz.func43,Tryz.ntmps43
  go_wp2_with (first
   | (go_at_call 34;refine(j _).mono ?_;rintro e o ⟨rfl,d⟩;obtain⟨y,z⟩:=aU d;have u:=d.size;have C:h.heap.size<o.heap.size:=(by simp only[aa]at u;omega);have E:a<o.heap.size:=zz)
   | (go_at_call 38;refine(l _).mono ?_;rintro e B ⟨rfl,t⟩))
  go_ret
 .exact⟨by simp,aY d⟩
 .exact⟨by simp,(aY d).tn (t.mono (aY d).size)⟩
def lY(n a:Int):Int:=if n=a then 1 else if n=0 then 2 else 0
theorem xZ(b:aC)(s:Sl)(m:Option Nat)(n:Int)(w:H):PH F 35 #[uC b s m,.int .i64 n] w λe w'=>e=.returned (.int .i64 (lY n s.n))/\X w w w':=by
 unfold uC;go_enter Tryz.func35,Tryz.ntmps35;go_wp2;all_goals go_ret
 all_goals exact⟨aW (by simp_all[lY]),(X.refl _ _).alloc (qN _) _⟩
variable{f:Int×(Nat->Bool)->Bool}{L:List (Int×(Nat->Bool))}{i:Nat}
def oP(f:Int×(Nat->Bool)->Bool)(L:List (Int×(Nat->Bool))):Nat:=(L.filter f).length
def Sq(h:i<L.length)(a:f (L.getD i (0,mI))=true):oP f (L.take (i+1))=oP f (L.take i)+1:=by
 have e:L.getD i (0,mI)=L[i]:=by simp[List.getD,iv h]
 rw[e]at a;rw[oP,oP,lh h,qBB,kl];simp only[List.filter_cons,a,if_true,List.filter_nil,ed,lA]
def WC(h:i<L.length)(a:f (L.getD i (0,mI))=false):oP f (L.take (i+1))=oP f (L.take i):=by
 have e:L.getD i (0,mI)=L[i]:=by simp[List.getD,iv h]
 rw[e]at a;rw[oP,oP,lh h,qBB,kl];simp only[List.filter_cons,a,lO,if_false,List.filter_nil,lA,Nat.add_zero]
def Gn(f:Int×(Nat->Bool)->Bool)(L:List (Int×(Nat->Bool)))(i:Nat):oP f (L.take i)<=i:=qO (nn _ _) (List.length_take_le _ _)
def vH(b:aC)(l:pK)(step:Int):Int×Int:=
 if cP b l (ax step 0 (b.S-1))=0 then(lY (oP (λx=>x.2 step.toNat) (aJ b l b.D.toNat)) (aJ b l b.D.toNat).length,0)else(0,cP b l (ax step 0 (b.S-1)))
def nL{b:aC}{l:pK}(h:ay b l=0):(aJ b l b.D.toNat).length<=1296:=by
 obtain⟨d,c,e,f,g,i,j,k,m,a,-⟩:=cS (bP h).1;exact qO (nn _ _) (nH c a zz)
theorem Ln(b:aC)(l:pK)(step:Int)(w:H)(a1:aI w b l)(W:aD w)(h:cP b l (ax step 0 (b.S-1))=0):
  PH F 22 #[b.v,.int .i64 step] w (oL (vH b l step) w):=by
 have a9:=Hm a1;have a7:=Hm W;have C:PQ (vH b l step=(lY (oP (λx=>x.2 step.toNat) (aJ b l b.D.toNat)) (aJ b l b.D.toNat).length,0)):=by unfold vH;rw[PQ,qWB h]
 obtain⟨k,h2,V⟩:=Bt h;obtain⟨t1,t2,-⟩:=cS (bP k).1;have t:=λd (k:aI d b l) (h2:aD d) (z:Nat) (b2:d.cell? ⟨z,0,I⟩=Y (.int .i64 step)) (b8:z<d.heap.size)=>qp b l 56 #[.pointer (Y ⟨z,0,I⟩)] Dw (ax step 0 (b.S-1)) d k h2 (λc1=>Ay b zz zz step z d b2 b8) h;have b5:=nL k;have b7:0<(aJ b l b.D.toNat).length:=List.length_pos_iff.2 V;obtain⟨f1,f2⟩:=cq.1 h2;obtain⟨p,rfl⟩:∃p:Nat,step=(p:Int):=⟨step.toNat,zz⟩;have c3:p<12:=zz;simp only[ll]at C;unfold jo at t;generalize aJ b l b.D.toNat=a at t C b5 b7;have a3:=λ(s:Sl) (m:Option Nat) (n:Int) w'=>xZ b s m n w';clear a1 W h k h2 V f1 f2 t1 t2;unfold aC.v uC at t;unfold uC at a3;unfold aC.v;go_enter Tryz.func22,Tryz.ntmps22;go_wp2_with (go_at_call 32;refine(t _ (aq (aq a9.out _) _) (ai (ai a7.out _) _) (w.heap.size+1) (by rw[<- aa w (aE b 31)];exact one_cell (Sp _ _)) ss).mono ?_;rintro e d ⟨A,c,r,rfl,P,b6,c4,u⟩);obtain⟨g,rfl⟩:∃g,A=Y ⟨g,0,I⟩:=by
  rcases P.2 with⟨k,h2⟩|⟨g,b',b0,k,-⟩
  .omega
  .simp only[lL]at k;exact⟨g,k.1⟩
 have L:Gk (d.alloc (.cells (iG b ⟨Y (g,0),a.length,c⟩ (Y r)) 80)) d b ⟨Y (g,0),a.length,c⟩ (Y r):=Sp _ _;have Q:=P.alloc (.cells (iG b ⟨Y ⟨g,0,I⟩,a.length,c⟩ (Y r)) 80);have B:X w w (d.alloc (.cells (iG b ⟨Y (g,0),a.length,c⟩ (Y r)) 80)):=aP (cB u) (qN _) _;have J:(d.alloc (.cells (iG b ⟨Y (g,0),a.length,c⟩ (Y r)) 80)).heap[w.heap.size+1]?=Y (.cells #[.int .i64 p] 3 (0,0)):=(QR _ _ (by have:=u.size;simp only[aa]at this;omega)).tn ((u.block _ ss).tn (by rw[<- aa w (aE b 31)];exact Sp _ _));have c6:(w:Nat)+1<d:=by have:=u.size;simp only[aa]at this;omega
 clear P b6 u t;change Ly.wp _ _ _ _ (d.alloc (.cells (iG b ⟨Y ⟨g,0,I⟩,a.length,c⟩ (Y r)) 80));have a4:d.heap.size<(d.alloc (.cells (iG b ⟨Y (g,0),a.length,c⟩ (Y r)) 80)).heap.size:=by simp
 generalize(d.alloc (.cells (iG b ⟨Y ⟨g,0,I⟩,a.length,c⟩ (Y r)) 80))=a5 at L Q B J a4|-;have a8:=Hm L;have a0:=Hm Q;have T:=Hm B;have a6:=Hm J;clear L Q B J;go_loopw [8,23] (λn v wr=>∃i:Nat,i<=a.length/\n=.int .i64 (oP (λx=>x.2 p) (a.take i))/\v=.int .i64 i/\X a5.heap.size a5 wr) (λ_ v _=>a.length-(intOf v).toNat)
 case atStart=>exact⟨0,zz,rfl,rfl,X.refl _ _⟩
 case round=>
  obtain⟨i,hi,rfl,rfl,o⟩:=hrel;have b9:=o.size;by_cases N:i<a.length
  .obtain⟨x,R⟩:∃x,a.getD i (0,mI)=x:=⟨_,rfl⟩;have b3:=Gn (λx=>x.2 p) a i;have S:=Sq (f:=λx=>x.2 p) N;have O:=WC (f:=λx=>x.2 p) N;have q:∀j,j<13->wr (g,i*13+j)=(zC x).toList[j]?:=λj b4=>by
    have k:=wO (bB a0.out (aS.dY (K:=λ_=>True) o (λ_ h _=>h)) (λ_ _=>trivial)) rfl N j b4;rw[R]at k;exact k
   have q0:wr (g,i*13)=Y (.int .i64 x.1):=q 0 zz;have q1:wr (g,i*13+1)=Y (.bool (x.2 0)):=q 1 zz;have q2:wr (g,i*13+2)=Y (.bool (x.2 1)):=q 2 zz;have q3:wr (g,i*13+3)=Y (.bool (x.2 2)):=q 3 zz;have q4:wr (g,i*13+4)=Y (.bool (x.2 3)):=q 4 zz;have q5:wr (g,i*13+5)=Y (.bool (x.2 4)):=q 5 zz;have q6:wr (g,i*13+6)=Y (.bool (x.2 5)):=q 6 zz;have q7:wr (g,i*13+7)=Y (.bool (x.2 6)):=q 7 zz;have q8:wr (g,i*13+8)=Y (.bool (x.2 7)):=q 8 zz;have q9:wr (g,i*13+9)=Y (.bool (x.2 8)):=q 9 zz;have c7:wr (g,i*13+10)=Y (.bool (x.2 9)):=q 10 zz;have c8:wr (g,i*13+11)=Y (.bool (x.2 10)):=q 11 zz;have c9:wr (g,i*13+12)=Y (.bool (x.2 11)):=q 12 zz;have c5:wr (w.heap.size+1,0)=Y (.int .i64 p):=one_cell ((o.block _ zz).tn a6.out);have Z:(#[.int .i64 x.1,.bool (x.2 0),.bool (x.2 1),.bool (x.2 2),.bool (x.2 3),.bool (x.2 4),.bool (x.2 5),.bool (x.2 6),.bool (x.2 7),.bool (x.2 8),.bool (x.2 9),.bool (x.2 10),.bool (x.2 11)]:Array M)[1+p]?=Y (.bool (x.2 p)):=by
    rcases(show p=0\/p=1\/p=2\/p=3\/p=4\/p=5\/p=6\/p=7\/p=8\/p=9\/p=10\/p=11 from zz)with rfl|rfl|rfl|rfl|rfl|rfl|rfl|rfl|rfl|rfl|rfl|rfl<;>rfl
   have c2:(w:Nat)+1<wr:=zz;rw[R]at S O;have G:=Hm S;have E:=Hm O;generalize oP (λx=>x.2 p) (a.take i)=n at b3 G E;generalize a2:oP (λx=>x.2 p) (a.take (i+1))=n' at G E;have U:=Hm a2;clear q R S O a2;cases y:x.2 p
   .rw[y]at Z;go_wp2;go_roundw
    case rel=>exact⟨i+1,zz,by rw[U.out,E.out y],by go_num,aP o (qN _) _⟩
    case measure=>simp[intOf];omega
   .rw[y]at Z;go_wp2;go_roundw
    case rel=>exact⟨i+1,zz,by rw[U.out,G.out y];go_num,by go_num,aP o (qN _) _⟩
    case measure=>simp[intOf];omega
  .obtain rfl:i=a.length:=zz;rw[List.take_of_length_le (qN _)]at*;obtain⟨z0,z1,z2,z3,z4,z5,z6,z7,z8,z9,c',d1,d2,d3,d4⟩:=gH ((o.block _ a4).tn a8.out);have a':=Hm o;clear o;go_wp2_with (go_at_call 35;refine(a3 ⟨Y ⟨g,0,I⟩,a.length,c⟩ _ _ _).mono ?_;rintro e w2 ⟨rfl,b1⟩);go_ret2;exact⟨by rw[C.out];rfl,T.out.tn ((a'.out.tn (b1.mono b9)).mono T.out.size)⟩
def Lr(b:aC)(l:pK)(step:Int)(w:H)(c:aI w b l)(a:aD w)(h:cP b l (ax step 0 (b.S-1))=0:=by kernel_rfl):PH F 22 #[b.v,.int .i64 step] w (oL (vH b l step) w):=Ln b l step w c a h
def mW(b:aC)(a step:Int):Bool:=ax a 0 (b.U.n-1)&&ax step 0 (b.S-1)
def oQ(b:aC)(l:pK)(a step:Int):Int×Int:=
 if cP b l (mW b a step)=0 then(lY (assoc (fN b l) (a,step)) (aJ b l b.D.toNat).length,0)else(0,cP b l (mW b a step))
theorem Gp(b:aC)(l:pK)(d step:Int)(w:H)(q:aI w b l)(G:aD w)(h:cP b l (mW b d step)=0):
  PH F 10 #[b.v,.int .i64 d,.int .i64 step] w (oL (oQ b l d step) w):=by
 have O:=Hm q;have N:=Hm G;have o:PQ (oQ b l d step=(lY (assoc (fN b l) (d,step)) (aJ b l b.D.toNat).length,0)):=by unfold oQ;rw[PQ,qWB h]
 have J:b.U.n<=1000:=by rw[q.U.1];exact q.U.2.2.1
 have j:=λf (P:aI f b l) (h2:aD f) (p u:Nat) (R:f.cell? ⟨p,0,I⟩=Y (.int .i64 d)) (a2:p<f.heap.size) (S:f.cell? ⟨u,0,I⟩=Y (.int .i64 step)) (a3:u<f.heap.size)=>qp b l 43 #[.pointer (Y ⟨p,0,I⟩),.pointer (Y ⟨u,0,I⟩)] Dx (mW b d step) f P h2 (λU=>by
  obtain⟨t1,t2,-⟩:=cS (bP U).1;exact xY b J zz zz d step p u f R a2 S a3) h
 unfold jo at j;generalize aJ b l b.D.toNat=g at j o;generalize fN b l=LL at j o;have K:=λ(s:Sl) (m:Option Nat) (n:Int) w'=>xZ b s m n w';clear q G h J;have C:(((w.alloc (aE b 31)).alloc (.cells #[.int .i64 d] 3)).alloc (.cells #[.int .i64 step] 3)).cell? (w.heap.size+1,0)=Y (.int .i64 d):=one_cell ((QR _ _ ss).tn (by rw[<- aa w (aE b 31)];exact Sp _ _));have E:(((w.alloc (aE b 31)).alloc (.cells #[.int .i64 d] 3)).alloc (.cells #[.int .i64 step] 3)).cell? (w.heap.size+1+1,0)=Y (.int .i64 step):=one_cell (by rw[<- aa w (aE b 31),<- aa (w.alloc (aE b 31)) (.cells #[.int .i64 d] 3)];exact Sp _ _);have x:=j (((w.alloc (aE b 31)).alloc (.cells #[.int .i64 d] 3)).alloc (.cells #[.int .i64 step] 3)) (aq (aq (aq O.out _) _) _) (ai (ai (ai N.out _) _) _) (w.heap.size+1) (w.heap.size+1+1) C ss E ss;clear j C E;unfold aC.v aE uC at x;unfold uC at K;unfold aC.v;go_enter Tryz.func10,Tryz.ntmps10;go_wp2_with (go_at_call 32;refine x.mono ?_;clear x;rintro e f ⟨A,c,r,rfl,a1,z,a6,k⟩);have y:Gk (f.alloc (.cells (iG b ⟨A,g.length,c⟩ (Y r)) 80)) f b ⟨A,g.length,c⟩ (Y r):=Sp _ _;have t:jm (f.alloc (.cells (iG b ⟨A,g.length,c⟩ (Y r)) 80)) r LL:=(QR _ _ (ec.1 z).1).tn z;have a4:=k.size;simp only[aa]at a4;have v:X w w (f.alloc (.cells (iG b ⟨A,g.length,c⟩ (Y r)) 80)):=aP (jI k) (qN _) _;have T:(f.alloc (.cells (iG b ⟨A,g.length,c⟩ (Y r)) 80)).cell? (w.heap.size+1,0)=Y (.int .i64 d):=one_cell ((QR _ _ zz).tn ((k.block _ ss).tn ((QR _ _ ss).tn (by rw[<- aa w (aE b 31)];exact Sp _ _))));have V:(f.alloc (.cells (iG b ⟨A,g.length,c⟩ (Y r)) 80)).cell? (w.heap.size+1+1,0)=Y (.int .i64 step):=one_cell ((QR _ _ zz).tn ((k.block _ ss).tn (by rw[<- aa w (aE b 31),<- aa (w.alloc (aE b 31)) (.cells #[.int .i64 d] 3)];exact Sp _ _)));clear a1 z k;change Ly.wp _ _ _ _ (f.alloc (.cells (iG b ⟨A,g.length,c⟩ (Y r)) 80));have a5:f.heap.size<(f.alloc (.cells (iG b ⟨A,g.length,c⟩ (Y r)) 80)).heap.size:=by simp
 generalize(f.alloc (.cells (iG b ⟨A,g.length,c⟩ (Y r)) 80))=i at y t v T V a5|-;obtain⟨z0,z1,z2,z3,z4,z5,z6,z7,z8,z9,a7,a8,a9,a',a0⟩:=gH y;have W:∀n,(Instr.lookup 78 (.map (Y r)) (.agg #[.int .i64 d,.int .i64 step]) false).run F (i.drewN n)=.ok (.int .i64 (assoc LL (d,step))) (i.drewN n):=λn=>gd (w:=i.drewN n) (L:=LL) t (d,step);have Z:(Instr.lookup 78 (.map (Y r)) (.agg #[.int .i64 d,.int .i64 step]) false).run F i.drew=.ok (.int .i64 (assoc LL (d,step))) i.drew:=gd (w:=i.drew) (L:=LL) t (d,step);generalize assoc LL (d,step)=a at W Z o;have B:=Hm v;clear y t v;go_wp2_with (first|(go_at_call 35;refine(K ⟨A,g.length,c⟩ _ _ _).mono ?_;rintro e w2 ⟨rfl,Q⟩)|go_still_tail 7,kr);go_ret2;exact⟨by rw[o.out];rfl,B.out.tn (((lH (X.refl _ i)).tn (Q.mono (qN _))).mono B.out.size)⟩
def ya(b:aC)(l:pK)(a step:Int)(w:H)(d:aI w b l)(c:aD w)(h:cP b l (mW b a step)=0:=by kernel_rfl):PH F 10 #[b.v,.int .i64 a,.int .i64 step] w (oL (oQ b l a step) w):=Gp b l a step w d c h
variable{P:Ps}{o:Kp}{a:Act}{Q:Exit->Act->H->Prop}
def abm{K:Act->H->Prop}(s x:ae)(t:Lk)
  (y:o.op=.call {callee:=.builtin .append,args:= #[s,x],argTypes:= #[t,t]})
  (base:Nat)(e:Lk)(i:TypeInfo)(z:M)(size bytes:Nat)(J:P.underlying t=Y (.slice e))(hi:P.info? e=Y i)(N:i.zero=Y z)
  (E:i.size=size)(l:i.bytes=bytes)(O:z.cells.size=size)(G:0<size)
  (v:M)(n:Nat)(xs:List M)(C:a.eval s=v)(A:w.ownsRow base e size v n xs)
  (ad:Addr)(m c:Nat)(news:List M)(L:a.eval x=.slice (Y ad) m c)(q:news.length=m*size)(r:∀j u,news[j]?=Y u->w.cell? (ad.add j)=Y u)(b:∀u∈news,u.oneCell'=true)
  (g:n+m<=maxLen)(p:(n+m)*bytes<=140737488355328)(k:base<=w.heap.size)
  (h:∀v' w',w'.ownsRow base e size v' (n+m) (xs++news)->w.grownBy w' v.ownBlock->(v'.ownBlock=v.ownBlock\/v'.ownBlock=Y w.heap.size)->K (a.put o.dst v') w'):o.wp P a w K Q:=by
 obtain⟨v',w',B,h2,d, -, f⟩:=gU (P:=P) w base t o.type e i z size bytes J hi N E l O G v n xs A ad m c news q r b g p k;unfold Kp.wp Hn;simp only[y,ab,invoke,builtin,Sem.run_bind,Sem.run_pure,Result.andThen_ok,zM,C,L,B];exact h v' w' h2 d f
def ff{ops:Array Kp}{rest:List Kp}(r:o.guard=I)(s x:ae)(t:Lk)
  (B:o.op=.call {callee:=.builtin .append,args:= #[s,x],argTypes:= #[t,t]})
  (base:Nat)(e:Lk)(i:TypeInfo)(z:M)(size bytes:Nat)(K:P.underlying t=Y (.slice e))(hi:P.info? e=Y i)(N:i.zero=Y z)
  (G:i.size=size)(p:i.bytes=bytes)(O:z.cells.size=size)(J:0<size)
  (v:M)(n:Nat)(xs:List M)(E:a.eval s=v)(C:w.ownsRow base e size v n xs)
  (ad:Addr)(m c:Nat)(news:List M)(L:a.eval x=.slice (Y ad) m c)(y:news.length=m*size)(A:∀j u,news[j]?=Y u->w.cell? (ad.add j)=Y u)(b:∀u∈news,u.oneCell'=true)
  (g:n+m<=maxLen)(q:(n+m)*bytes<=140737488355328)(l:base<=w.heap.size)
  (h:∀v' w',w'.ownsRow base e size v' (n+m) (xs++news)->w.grownBy w' v.ownBlock->(v'.ownBlock=v.ownBlock\/v'.ownBlock=Y w.heap.size)->wpList P ops Q rest (a.put o.dst v') w'):wpList P ops Q (o::rest) a w:=
 wpList_plain r λ_ k=>abm s x t B base e i z size bytes K hi N G p O J v n xs E C ad m c news L y A b g q l λv' w' h2 d f=>k _ _ (h v' w' h2 d f)
def kH(B:Nat)(d e:M)(a b:List Int)(w:H):Prop:=
 (∃A c,d=.slice A a.length c)/\(∃A c,e=.slice A b.length c)/\w.ownsRow B 3 1 d a.length (a.map (M.int .i64))/\w.ownsRow B 3 1 e b.length (b.map (M.int .i64))/\(∀g,d.ownBlock=Y g->e.ownBlock≠Y g)
def kH.below{B:Nat}{v1 v2:M}{l1 l2:List Int}{w w':H}(h:kH B v1 v2 l1 l2 w)(a:X w w w'):kH B v1 v2 l1 l2 w':=
 have hk:=aS.dY (K:=λ_=>True) a (λ_ h _=>h)
 ⟨h.1,h.2.1,bB h.2.2.1 hk (λ_ _=>trivial),bB h.2.2.2.1 hk (λ_ _=>trivial),h.2.2.2.2⟩
def wP(p:List Int×List Int×Int)(w:H)(e:Ending)(w':H):Prop:=
 ∃a b,e=.returned (.tuple #[a,b,.int .i64 p.2.2])/\kH w.heap.size a b p.1 p.2.1 w'/\X w w w'
def sU(LL:List gM)(b a v:Int):Nat->Bool:=λn=>decide (lY (assoc LL (a,n)) b=v)
def DF(b:aC)(l:pK)(a:Int):List Int×List Int×Int:=
 if cP b l (ax a 0 (b.U.n-1))=0 then(ie (sU (fN b l) (aJ b l b.D.toNat).length a 1) b.S.toNat,ie (sU (fN b l) (aJ b l b.D.toNat).length a 0) b.S.toNat,0)else([],[],cP b l (ax a 0 (b.U.n-1)))
def Y3(b:aC)(s:Sl)(m:Option Nat)(n v:Int)(a:lY n s.n=v)(w:H):PH F 35 #[uC b s m,.int .i64 n] w λe w'=>e=.returned (.int .i64 v)/\X w w w':=a▸xZ b s m n w
def Od(n a:Int):lY n a=1\/lY n a=2\/lY n a=0:=by
 unfold lY;split
 .exact .inl rfl
 .split
  .exact .inr (.inl rfl)
  .exact .inr (.inr rfl)
variable{v1 v2:M}{l1 l2:List Int}
def kH.fst{v1 v2 v1':M}{l1 l2 l1':List Int}{w w':H}(h:kH B v1 v2 l1 l2 w)(x:Int)(m:l1'=l1++[x])(i:w'.ownsRow B 3 1 v1' (l1.length+1) (l1.map (M.int .i64)++[.int .i64 x]))(l:w.grownBy w' v1.ownBlock)(a:v1'.ownBlock=v1.ownBlock\/v1'.ownBlock=Y w):kH B v1' v2 l1' l2 w':=by
 obtain⟨n,k,o,d,f⟩:=h;subst m;refine⟨?_,k,by simpa using i,d.kept l ?_,λg j=>?_⟩
 .obtain⟨g,c,b⟩:=ownsRow_succ i;exact⟨Y ⟨g,0,I⟩,c,by rw[b];simp⟩
 .cases b:v1.ownBlock with
  | none=>cases h2:v2.ownBlock<;>simp
  | some g=>exact .inr (f g b)
 .rcases a with a|a
  .exact f g (a▸j)
  .rw[j]at a;cases a;intro e;have:=(d.lt _ e).2;omega
def kH.base{B B':Nat}(h:kH B v1 v2 l1 l2 w)(hB:B'<=B):kH B' v1 v2 l1 l2 w:=⟨h.1,h.2.1,dy hB h.2.2.1,dy hB h.2.2.2.1,h.2.2.2.2⟩
def kH.swap(h:kH B v1 v2 l1 l2 w):kH B v2 v1 l2 l1 w:=
 ⟨h.2.1,h.1,h.2.2.2.1,h.2.2.1,λg a b=>h.2.2.2.2 g b a⟩
theorem Oe(b:aC)(l:pK)(d:Int)(w:H)(R:aI w b l)(b5:aD w)(h:cP b l (ax d 0 (b.U.n-1))=0):
  PH F 6 #[b.v,.int .i64 d] w (wP (DF b l d) w):=by
 have c6:=Hm R;have c3:=Hm b5;have a2:PQ (DF b l d=(ie (sU (fN b l) (aJ b l b.D.toNat).length d 1) b.S.toNat,ie (sU (fN b l) (aJ b l b.D.toNat).length d 0) b.S.toNat,0)):=by unfold DF;rw[PQ,qWB h]
 have b6:b.U.n<=1000:=by rw[R.U.1];exact R.U.2.2.1
 obtain⟨t1,t2,-⟩:=cS (bP (Bt h).1).1;have Q:((w.alloc (aE b 31)).alloc (.cells #[.int .i64 d] 3)).cell? (w.heap.size+1,0)=Y (.int .i64 d):=one_cell (by rw[<- aa w (aE b 31)];exact Sp _ _);have G:=qp b l 33 #[.pointer (Y ⟨w.heap.size+1,0,I⟩)] Dy (ax d 0 (b.U.n-1)) ((w.alloc (aE b 31)).alloc (.cells #[.int .i64 d] 3)) (aq (aq c6.out _) _) (ai (ai c3.out _) _) (λ_=>DC b b6 d (w.heap.size+1) _ Q ss) h;unfold jo at G;generalize aJ b l b.D.toNat=f at G a2;generalize fN b l=LL at G a2;have b1:=λ(s:Sl) (m:Option Nat) (n v:Int) (d6:lY n s.n=v) w'=>Y3 b s m n v d6 w';clear R b5 h b6 Q;unfold aC.v aE uC at G;unfold uC at b1;unfold aC.v;go_enter Tryz.func6,Tryz.ntmps6;go_wp2_with (go_at_call 32;refine G.mono ?_;rintro e i ⟨A,c,r,rfl,d4,S,e5,t⟩;obtain⟨c9,c'⟩:=aU t;have b4:w.heap.size<i.heap.size:=(by have:=t.size;simp only[aa]at this;omega));have d7:=t.size;simp only[aa]at d7;have a7:Gk (i.alloc (.cells (iG b ⟨A,f.length,c⟩ (Y r)) 80)) i b ⟨A,f.length,c⟩ (Y r):=Sp _ _;have a8:jm (i.alloc (.cells (iG b ⟨A,f.length,c⟩ (Y r)) 80)) r LL:=(QR _ _ (ec.1 S).1).tn S;have Z:X w w (i.alloc (.cells (iG b ⟨A,f.length,c⟩ (Y r)) 80)):=aP (cB t) (qN _) _;have a5:(i.alloc (.cells (iG b ⟨A,f.length,c⟩ (Y r)) 80)).heap[w.heap.size+1]?=Y (.cells #[.int .i64 d] 3 (0,0)):=(QR _ _ zz).tn ((t.block _ ss).tn (by rw[<- aa w (aE b 31)];exact Sp _ _));have a4:(i.alloc (.cells (iG b ⟨A,f.length,c⟩ (Y r)) 80)).heap[w.heap.size]?=Y (aE b 31):=(QR _ _ zz).tn ((t.block _ so).tn ((QR _ _ ss).tn (Sp _ _)));have e6:r<i.heap.size:=(ec.1 S).1;clear d4 S t c9 c';change Ly.wp _ _ _ _ (i.alloc (.cells (iG b ⟨A,f.length,c⟩ (Y r)) 80));have b9:i.heap.size<(i.alloc (.cells (iG b ⟨A,f.length,c⟩ (Y r)) 80)).heap.size:=by simp
 generalize(i.alloc (.cells (iG b ⟨A,f.length,c⟩ (Y r)) 80))=P at a7 a8 Z a5 a4 b9|-;have c4:=Hm a7;have c7:=Hm a8;have a1:=Hm Z;have c1:=Hm a5;have d8:=Hm a4;clear a7 a8 Z a5 a4;obtain⟨i0,hi,b',b4,b0⟩:=info_parts vD;go_loopw [4,5,20] (λv1 v2 v wr=>∃k:Nat,(k:Int)<=b.S/\v=.int .i64 k/\kH P.heap.size v1 v2 (ie (sU LL f.length d 1) k) (ie (sU LL f.length d 0) k) wr/\X P.heap.size P wr) (λ_ _ v _=>b.S.toNat-(intOf v).toNat)
 case atStart=>exact⟨0,zz,rfl,⟨⟨I,0,rfl⟩,⟨I,0,rfl⟩,H.ownsRow_nil _ _ _ _,H.ownsRow_nil _ _ _ _,λg d1=>by simp[M.ownBlock]at d1⟩,X.refl _ _⟩
 case round=>
  obtain⟨k,hk,rfl,T,p⟩:=hrel;have b3:=p.size;have e3:=kO (sU LL f.length d 1) k;have e2:=kO (sU LL f.length d 0) k;by_cases e4:(k:Int)<b.S
  .obtain⟨z0,z1,z2,z3,z4,z5,z6,z7,z8,z9,e7,e8,e9,e',f1⟩:=gH ((p.block _ b9).tn c4.out);have d0:=one_cell ((p.block _ zz).tn c1.out);have a3:jm wr r LL:=(p.block _ zz).tn c7.out;have d2:∀n,(Instr.lookup 78 (.map (Y r)) (.agg #[.int .i64 d,.int .i64 k]) false).run F (wr.drewN n)=.ok (.int .i64 (assoc LL (d,k))) (wr.drewN n):=λn=>gd (w:=wr.drewN n) (L:=LL) a3 (d,k);have d3:(Instr.lookup 78 (.map (Y r)) (.agg #[.int .i64 d,.int .i64 k]) false).run F wr.drew=.ok (.int .i64 (assoc LL (d,k))) wr.drew:=gd (w:=wr.drew) (L:=LL) a3 (d,k);have a6:∀v,sU LL f.length d v k=decide (lY (assoc LL (d,k)) f.length=v):=λv=>rfl;generalize assoc LL (d,k)=a at d2 d3 a6;rcases Od a f.length with N|N|N
   all_goals
    have b2:=λ(s:Sl) (m:Option Nat) (d5:s.n=f.length) w'=>b1 s m a _ ((cd (λq:Nat=>lY a (q:Int)) d5).tn N) w';have y:=Hm N;have u:=Hm a6;have HR:=Hm T;have E:=Hm p;obtain⟨⟨A1,Q,rfl⟩,⟨A2,c2,rfl⟩,U,V,o3⟩:=T;have d9:=Hm U;have d':=Hm V;clear N a6 U V o3 a3 p b1
   .have e1:sU LL f.length d 1 k=true:=by rw[u.out,y.out];rfl
    have e0:sU LL f.length d 0 k=false:=by rw[u.out,y.out];rfl
    have C:=Hm (oG e1);have B:=Hm (mV e0);clear e1 e0
    go_wp2_with (first
     | (go_at_call 35;refine(b2 ⟨A,f.length,c⟩ _ rfl _).mono ?_;rintro e W ⟨rfl,J⟩;have j:=(lH (X.refl wr.heap.size wr)).tn (J.mono (qN _));have b8:=j.size;have o:=Hm (HR.out.below j);have z:=o.out.2.2.1)
     | go_still_tail 7,kr
     | (at_builtin;refine ff rfl _ _ 24 rfl P.heap.size 3 i0 (.int .i64 0) 1 8 Tryz.underlying24 hi b' b4 b0 rfl dd _ _ _ rfl (z.alloc _) ⟨W.heap.size,0,I⟩ 1 1 [.int .i64 k] rfl rfl (cell_one_new _ _ _) (λx O=>by simp at O;subst O;rfl) (by unfold maxLen;omega) zz so ?_;intro v' w3 a' K a9))
    go_roundw
    case rel=>
     refine⟨k+1,zz,by go_num,?_,(aP (E.out.tn (j.mono b3)) (qN _) _).grown K so (λq a0=>(z.lt q a0).1)⟩;rw[B.out];exact kH.fst (o.out.below (aP (X.refl _ _) (qN _) _)) (k:Int) C.out a' K a9
    case measure=>simp[intOf];omega
   .have e1:sU LL f.length d 1 k=false:=by rw[u.out,y.out];rfl
    have e0:sU LL f.length d 0 k=false:=by rw[u.out,y.out];rfl
    have C:=Hm (mV e1);have B:=Hm (mV e0);clear e1 e0
    go_wp2_with (first
     | (go_at_call 35;refine(b2 ⟨A,f.length,c⟩ _ rfl _).mono ?_;rintro e W ⟨rfl,J⟩;have j:=(lH (X.refl wr.heap.size wr)).tn (J.mono (qN _));have b8:=j.size;have o:=Hm (HR.out.below j);have z:=o.out.2.2.2.1)
     | go_still_tail 7,kr)
    go_roundw
    case rel=>
     refine⟨k+1,zz,by go_num,?_,E.out.tn (j.mono b3)⟩;rw[B.out,C.out];exact o.out
    case measure=>simp[intOf];omega
   .have e1:sU LL f.length d 1 k=false:=by rw[u.out,y.out];rfl
    have e0:sU LL f.length d 0 k=true:=by rw[u.out,y.out];rfl
    have C:=Hm (mV e1);have B:=Hm (oG e0);clear e1 e0
    go_wp2_with (first
     | (go_at_call 35;refine(b2 ⟨A,f.length,c⟩ _ rfl _).mono ?_;rintro e W ⟨rfl,J⟩;have j:=(lH (X.refl wr.heap.size wr)).tn (J.mono (qN _));have b8:=j.size;have o:=Hm (HR.out.below j);have z:=o.out.2.2.2.1)
     | go_still_tail 7,kr
     | (at_builtin;refine ff rfl _ _ 24 rfl P.heap.size 3 i0 (.int .i64 0) 1 8 Tryz.underlying24 hi b' b4 b0 rfl dd _ _ _ rfl (z.alloc _) ⟨W.heap.size,0,I⟩ 1 1 [.int .i64 k] rfl rfl (cell_one_new _ _ _) (λx O=>by simp at O;subst O;rfl) (by unfold maxLen;omega) zz so ?_;intro v' w3 a' K a9))
    go_roundw
    case rel=>
     refine⟨k+1,zz,by go_num,?_,(aP (E.out.tn (j.mono b3)) (qN _) _).grown K so (λq a0=>(z.lt q a0).1)⟩;rw[C.out];exact(kH.fst (o.out.below (aP (X.refl _ _) (qN _) _)).swap (k:Int) B.out a' K a9).swap
    case measure=>simp[intOf];omega
  .have c8:(k:Int)=b.S:=zz;have b7:k=b.S.toNat:=zz;have c5:=Hm b7;have HR:=Hm T;have E:=Hm p;obtain⟨⟨A1,Q,rfl⟩,⟨A2,c2,rfl⟩,U,V,o3⟩:=T;clear U V o3 b7 p c8;go_wp2;refine bd (results_tmp3 rfl _ _ _) rfl ?_;rw[a2.out,<- c5.out];exact⟨_,_,rfl,HR.out.base a1.out.size,a1.out.tn (E.out.mono a1.out.size)⟩
def Of(b:aC)(l:pK)(a:Int)(w:H)(d:aI w b l)(c:aD w)(h:cP b l (ax a 0 (b.U.n-1))=0:=by kernel_rfl):PH F 6 #[b.v,.int .i64 a] w (wP (DF b l a) w):=Oe b l a w d c h
def Og(LL:List gM)(n:Nat)(a:List Nat):Bool:=a.all λh=>decide (assoc LL ((h:Int),(n:Int))<=0)
def sw(LL:List gM)(U:Nat):Nat->Bool:=λn=>Og LL n (List.range' 0 U)
def qq(b:aC)(l:pK):List Int×Int:=
 if cP b l true=0 then(ie (sw (fN b l) b.U.n) b.S.toNat,0)else([],cP b l true)
theorem Lt(b:aC)(l:pK)(w:H)(u:aI w b l)(U:aD w)(h:cP b l true=0):
  PH F 7 #[b.v] w (ji w (qq b l).1 (qq b l).2 w):=by
 have a8:=Hm u;have a5:=Hm U;have T:PQ (qq b l=(ie (sw (fN b l) b.U.n) b.S.toNat,0)):=by unfold qq;rw[PQ,qWB h]
 have c2:b.U.n<=1000:=by rw[u.U.1];exact u.U.2.2.1
 obtain⟨t1,t2,-⟩:=cS (bP (Bt h).1).1;have p:=qp b l 36 #[] lT true (w.alloc (aE b 31)) (aq a8.out _) (ai a5.out _) (λ_=>gW b _) h;unfold jo at p;generalize aJ b l b.D.toNat=f at p;generalize fN b l=LL at p T;clear u U h;unfold aC.v aE uC at p;unfold aC.v;go_enter Tryz.func7,Tryz.ntmps7;go_wp2;go_step3;go_wp2_with (fail);try go_step3
 go_wp2_with (go_at_call 32;refine p.mono ?_;rintro e d ⟨A,c,r,rfl,m,y,c9,s⟩;obtain⟨b2,b3⟩:=aU s;have d2:w.heap.size<d.heap.size:=(by have:=s.size;simp only[aa]at this;omega));go_step3;go_wp2;have Q:Gk (d.alloc (.cells (iG b ⟨A,f.length,c⟩ (Y r)) 80)) d b ⟨A,f.length,c⟩ (Y r):=Sp _ _;have R:jm (d.alloc (.cells (iG b ⟨A,f.length,c⟩ (Y r)) 80)) r LL:=(QR _ _ (ec.1 y).1).tn y;have C:X w w (d.alloc (.cells (iG b ⟨A,f.length,c⟩ (Y r)) 80)):=aP (di s) (qN _) _;have N:aK (d.alloc (.cells (iG b ⟨A,f.length,c⟩ (Y r)) 80)) w 31 b:=(QR _ _ zz).tn ((s.block _ ss).tn (Sp _ _));have d1:r<d.heap.size:=(ec.1 y).1;clear m y s b2 b3;change Ly.wp _ _ _ _ (d.alloc (.cells (iG b ⟨A,f.length,c⟩ (Y r)) 80));have a4:d.heap.size<(d.alloc (.cells (iG b ⟨A,f.length,c⟩ (Y r)) 80)).heap.size:=by simp
 generalize(d.alloc (.cells (iG b ⟨A,f.length,c⟩ (Y r)) 80))=z at Q R C N a4|-;have a6:=Hm Q;have a9:=Hm R;have E:=Hm C;have S:=Hm N;clear Q R C N;obtain⟨i0,hi,b',c1,b0⟩:=info_parts vD;go_loopw [6,19] (λv1 v wr=>∃(k:Nat) (B:Option Addr) (K:Nat),(k:Int)<=b.S/\v=.int .i64 k/\v1=.slice B (ie (sw LL b.U.n) k).length K/\wr.ownsRow z.heap.size 3 1 v1 (ie (sw LL b.U.n) k).length ((ie (sw LL b.U.n) k).map (M.int .i64))/\X z.heap.size z wr) (λ_ v _=>b.S.toNat-(intOf v).toNat)
 case atStart=>exact⟨0,I,0,zz,rfl,rfl,H.ownsRow_nil _ _ _ _,X.refl _ _⟩
 case round=>
  obtain⟨k,B,K,hk,rfl,rfl,m,g⟩:=hrel;obtain⟨i,rfl⟩:∃i:H,i=wr:=⟨_,rfl⟩;have b9:=g.size;have c5:=kO (sw LL b.U.n) k;by_cases c6:(k:Int)<b.S
  .have d4:=(gH ((g.block _ a4).tn a6.out)).2.2.2.2.2.2.2.2.2.2.2.2.2.2;have j:aK i w 31 b:=(g.block _ zz).tn S.out;have d3:=(aM j).2.2.2.2.2.2.2.2.2.2.1;have y0:=(aM j).1;have V:jm i r LL:=(g.block _ zz).tn a9.out;have a':=Hm V;have o:=Hm g;have G:=Hm m;clear V g m j;go_wp2;go_loop [25] (λv=>∃h:Nat,h<=b.U.n/\v=.int .i64 h/\PQ (Og LL k (List.range' h (b.U.n-h))=sw LL b.U.n k)) (λv=>b.U.n-(intOf v).toNat)
   case atStart=>exact⟨0,zz,rfl,rfl⟩
   case round=>
    obtain⟨h,c4,rfl,O⟩:=hrel;by_cases c7:h<b.U.n
    .have b5:(Instr.lookup 78 (.map (Y r)) (.agg #[.int .i64 h,.int .i64 k]) false).run F i=.ok (.int .i64 (assoc LL (h,k))) i:=gd (L:=LL) a'.out (h,k);have a1:List.range' h (b.U.n-h)=h::List.range' (h+1) (b.U.n-(h+1)):=by
      rw[show b.U.n-h=(b.U.n-(h+1))+1 by omega,List.range'_succ]
     have P:=O.out;rw[a1]at P;have a2:sw LL b.U.n k=(decide (assoc LL ((h:Int),(k:Int))<=0)&&Og LL k (List.range' (h+1) (b.U.n-(h+1)))):=by rw[<- P];rfl
     have J:=Hm a2;clear a2 P a1;generalize assoc LL ((h:Int),(k:Int))=a at b5 J;by_cases c3:0<a
     .have t:sw LL b.U.n k=false:=by rw[J.out];simp;omega
      have n:=Hm (mV t);clear t;go_wp2;go_roundw
      case rel=>exact⟨k+1,B,K,zz,by go_num,by rw[n.out],by rw[n.out];exact G.out,o.out⟩
      case measure=>simp[intOf];omega
     .have b1:a<=0:=zz;go_wp2;go_round
      case rel=>exact⟨h+1,zz,by go_num,by rw[PQ,J.out];simp[b1]⟩
      case measure=>simp[intOf];omega
    .obtain rfl:h=b.U.n:=zz;have t:sw LL b.U.n k=true:=by rw[<- O.out,Nat.sub_self];rfl
     have n:=Hm (oG t);have b6:=G.out;clear t O;go_wp2_with (at_builtin;refine ff rfl _ _ 24 rfl z.heap.size 3 i0 (.int .i64 0) 1 8 Tryz.underlying24 hi b' c1 b0 rfl dd _ _ _ rfl (b6.alloc _) ⟨i.heap.size,0,I⟩ 1 1 [.int .i64 k] rfl rfl (cell_one_new _ _ _) (λx a3=>by simp at a3;subst a3;rfl) (by unfold maxLen;omega) zz so ?_;intro v' w3 Z b4 c8);go_roundw
     case rel=>
      obtain⟨A',c',b8⟩:=tK Z;exact⟨k+1,A',c',zz,by go_num,by rw[b8,n.out];simp,by rw[n.out];simpa using Z,(o.out.alloc b9 _).grown b4 so (λq b7=>(G.out.lt q b7).1)⟩
     case measure=>simp[intOf];omega
  .have W:k=b.S.toNat:=zz;have a7:=Hm W;have a0:=Hm m;have o:=Hm g;clear W g m;have j:aK i w 31 b:=(o.out.block _ zz).tn S.out;have y0:=(aM j).1;clear j;go_wp2;go_ret2;rw[T.out,<- a7.out];exact⟨_,_,rfl,dy E.out.size a0.out,E.out.tn (o.out.mono E.out.size)⟩
def Lu(b:aC)(l:pK)(w:H)(c:aI w b l)(a:aD w)(h:cP b l true=0:=by kernel_rfl):PH F 7 #[b.v] w (ji w (qq b l).1 (qq b l).2 w):=Lt b l w c a h
variable{v0:M}
def Tz(b:aC)(l:pK)(x:Int×(Nat->Bool))(p:Nat):Nat->Bool:=λh=>oN b l x h p
def pF(b:aC)(l:pK)(x:Int×(Nat->Bool))(p k:Nat):Nat:=(ie (Tz b l x p) k).length
def yc(b:aC)(l:pK)(p:Nat)(z:Int×Int)(xs:List (Int×(Nat->Bool))):Int×Int:=xs.foldl (λz x=>(min z.1 (pF b l x p l.U.length:Nat),max z.2 (pF b l x p l.U.length:Nat))) z
def qs(b:aC)(l:pK)(step:Int):(Int×Int)×Int:=
 if cP b l (ax step 0 (b.S-1))=0 then(yc b l step.toNat ((l.U.length:Nat),0) (aJ b l b.D.toNat),0)else((0,0),cP b l (ax step 0 (b.S-1)))
def yd(p:(Int×Int)×Int)(w:H)(e:Ending)(w':H):Prop:=e=.returned (.tuple #[.agg #[.int .i64 p.1.1,.int .i64 p.1.2],.int .i64 p.2])/\X w w w'
def kV(h:w.heap[g]?=Y (.cells #[v0,v1] t (0,0))):w (g,0)=Y v0/\w (g,1)=Y v1:=by
 constructor<;>(rw[H.cell?,h];rfl)
def tR(a b:M)(h:w.heap[g]?=Y (.cells #[v0,v1] t (0,0))):((w.setCell (g,0) a).setCell (g,1) b).heap[g]?=Y (.cells #[a,b] t (0,0))/\aS (λx=>x≠g) w ((w.setCell (g,0) a).setCell (g,1) b):=by
 have c:=bJ (i:=0) h a;simp only[zS]at c;have d:=bJ (i:=1) c b;simp only[zS]at d;exact⟨d,((aS.refl _ _).set (p:=⟨g,0,I⟩) (λ_ h=>h rfl) _).set (p:=⟨g,1,I⟩) (λ_ h=>h rfl) _⟩
variable{sb0x r p:Nat}{l:pK}
structure tS(w:H)(kb sb0x B:Nat)(b:aC)(l:pK)(s:Sl)(r:Nat)(SS:List (Int×(Nat->Bool)))(p:Nat)(wr:H):Prop where
 box:aK wr w.heap.size 31 b
 st:wr.heap[sb0x]?=Y (.cells #[.int .i64 p] 3 (0,0))
 res:wr.heap[sb0x+1]?=Y (.cells #[.int .i64 0,.int .i64 0] 23 (0,0))
 kn:Gk wr kb b s (Y r)
 own:wr.ownsRow B 91 13 (.slice s.A s.n s.c) s.n (Gf SS)
 low:X w w wr
def tS.keep{K:Nat->Prop}(h:tS w kb sb0x B b l s r SS p wr)(hk:aS K wr wr')(k0:∀x,x<=w.heap.size->K x)(c:K sb0x)(d:K (sb0x+1))(e:K kb)(f:∀g,(M.slice s.A s.n s.c).ownBlock=Y g->K g):tS w kb sb0x B b l s r SS p wr':=
 ⟨hk.get (k0 _ (qN _)) h.box,hk.get c h.st,hk.get d h.res,hk.get e h.kn,bB h.own hk f,h.low.tn (hk.below h.low.size (λx a=>k0 x (q5A a)))⟩
def tS.below(h:tS w kb sb0x B b l s r SS p wr)(a:X wr wr wr'):tS w kb sb0x B b l s r SS p wr':=
 h.keep (aS.dY (K:=λ_=>True) a (λ_ h _=>h)) (λ_ _=>trivial) qYB qYB qYB (λ_ _=>trivial)
def Oj(b:aC)(l:pK)(x:Int×(Nat->Bool))(p k:Nat):pF b l x p k<=k:=kO _ _
theorem Gq(b:aC)(l:pK)(step:Int)(w:H)(K:aI w b l)(b5:aD w)(h:cP b l (ax step 0 (b.S-1))=0):
  PH F 8 #[b.v,.int .i64 step] w (yd (qs b l step) w):=by
 have b3:=Hm K;have d5:=Hm b5;have Z:PQ (qs b l step=(yc b l step.toNat ((l.U.length:Nat),0) (aJ b l b.D.toNat),0)):=by unfold qs;rw[PQ,qWB h]
 have g0:b.U.n<=1000:=by rw[K.U.1];exact K.U.2.2.1
 have a2:=Hm K.U.1;obtain⟨S,h2,h3⟩:=Bt h;have b1:=Hm S;obtain⟨t1,t2,-⟩:=cS (bP S).1;have Q:(((w.alloc (aE b 31)).alloc (.cells #[.int .i64 step] 3)).alloc (.cells #[.int .i64 0,.int .i64 0] 23)).cell? ⟨w.heap.size+1,0,I⟩=Y (.int .i64 step):=one_cell ((QR _ _ ss).tn (by rw[<- aa w (aE b 31)];exact Sp _ _));have R:=qp b l 37 #[.pointer (Y ⟨w.heap.size+1,0,I⟩)] Dz (ax step 0 (b.S-1)) (((w.alloc (aE b 31)).alloc (.cells #[.int .i64 step] 3)).alloc (.cells #[.int .i64 0,.int .i64 0] 23)) (aq (aq (aq b3.out _) _) _) (ai (ai (ai d5.out _) _) _) (λ_=>xX b zz zz step (w.heap.size+1) _ Q ss) h;have a9:∀x∈aJ b l b.D.toNat,b.lo<=x.1/\x.1<=b.hi:=λx u=>qn (List.mem_filter.1 u).1;have e9:=nL S;have f8:0<(aJ b l b.D.toNat).length:=List.length_pos_iff.2 h3;obtain⟨f1,f2⟩:=cq.1 h2;obtain⟨p,rfl⟩:∃p:Nat,step=(p:Int):=⟨step.toNat,zz⟩;have a8:p<12:=zz;simp only[ll]at Z;unfold jo at R;generalize aJ b l b.D.toNat=SS at R Z a9 e9 f8;have d':=Hm a9;clear K b5 h S h2 h3 f1 f2 Q a9;unfold aC.v aE uC at R;unfold aC.v;go_enter Tryz.func8,Tryz.ntmps8;go_wp2_with (go_at_call 32;refine R.mono ?_;rintro e d ⟨A,c,r,rfl,L,e0,h8,J⟩;obtain⟨e5,e6⟩:=aU J;have h9:w.heap.size+1+1<d.heap.size:=(by have:=J.size;simp only[aa]at this;omega);have h':w.heap.size<d.heap.size:=zz);obtain⟨g,rfl⟩:∃g,A=Y ⟨g,0,I⟩:=by
  rcases L.2 with⟨h1,h2⟩|⟨g,g9,g',h1,-⟩
  .omega
  .simp only[lL]at h1;exact⟨g,h1.1⟩
 have h4:g<d.heap.size:=(L.lt g rfl).2;have e7:=(L.lt g rfl).1;simp only[aa]at e7;obtain⟨B,e4⟩:∃B,B=w.heap.size+1+1+1:=⟨_,rfl⟩;have V:tS w d.heap.size (w.heap.size+1) B b l ⟨Y ⟨g,0,I⟩,SS.length,c⟩ r SS p (d.alloc (.cells (iG b ⟨Y ⟨g,0,I⟩,SS.length,c⟩ (Y r)) 80)):=by
  have O:∀x,x<w.heap.size+3->(d.alloc (.cells (iG b ⟨Y ⟨g,0,I⟩,SS.length,c⟩ (Y r)) 80)).heap[x]?=(((w.alloc (aE b 31)).alloc (.cells #[.int .i64 p] 3)).alloc (.cells #[.int .i64 0,.int .i64 0] 23)).heap[x]?:=λx u=>(QR _ _ zz).tn (J.block x so);refine⟨?_,?_,?_,Sp _ _,?_,aP (jI J) (qN _) _⟩
  .exact(O _ zz).tn ((QR _ _ so).tn ((QR _ _ ss).tn (Sp _ _)))
  .exact(O _ zz).tn ((QR _ _ ss).tn (by rw[<- aa w (aE b 31)];exact Sp _ _))
  .exact(O _ zz).tn (by rw[<- aa w (aE b 31),<- aa (w.alloc (aE b 31)) (.cells #[.int .i64 p] 3)];exact Sp _ _)
  .rw[e4];have:=L.alloc (.cells (iG b ⟨Y ⟨g,0,I⟩,SS.length,c⟩ (Y r)) 80);simp only[aa]at this;exact this
 clear L e0 J e5 e6;change Ly.wp _ _ _ _ ((d.alloc (.cells (iG b ⟨Y ⟨g,0,I⟩,SS.length,c⟩ (Y r)) 80)).alloc (.cells #[.int .i64 b.U.n,.int .i64 0] 23));have a':(d.alloc (.cells (iG b ⟨Y ⟨g,0,I⟩,SS.length,c⟩ (Y r)) 80)).heap.size=d.heap.size+1:=by simp
 generalize(d.alloc (.cells (iG b ⟨Y ⟨g,0,I⟩,SS.length,c⟩ (Y r)) 80))=c8 at V a'|-;have W:=V.below ((X.refl _ _).alloc (qN _) (.cells #[.int .i64 b.U.n,.int .i64 0] 23));have a7:(c8.alloc (.cells #[.int .i64 b.U.n,.int .i64 0] 23)).heap[d.heap.size+1]?=Y (.cells #[.int .i64 b.U.n,.int .i64 0] 23 (0,0)):=by rw[<- a'];exact Sp _ _
 generalize(c8.alloc (.cells #[.int .i64 b.U.n,.int .i64 0] 23))=i2 at W a7|-;have d3:=Hm W;have d7:=Hm a7;clear V W a7 a';go_loopw [30] (λv wr=>∃(i:Nat) (z:Int×Int),i<=SS.length/\v=.int .i64 i/\tS w d.heap.size (w.heap.size+1) B b l ⟨Y ⟨g,0,I⟩,SS.length,c⟩ r SS p wr/\wr.heap[d.heap.size+1]?=Y (.cells #[.int .i64 z.1,.int .i64 z.2] 23 (0,0))/\PQ (yc b l p z (SS.drop i)=yc b l p ((l.U.length:Nat),0) SS)) (λv _=>SS.length-(intOf v).toNat)
 case atStart=>exact⟨0,((l.U.length:Nat),0),zz,rfl,d3.out,by rw[<- a2.out];exact d7.out,rfl⟩
 case round=>
  obtain⟨i,z,hi,rfl,k,s,a5⟩:=hrel;obtain⟨a,rfl⟩:∃a:H,a=wr:=⟨_,rfl⟩;by_cases U:i<SS.length
  .obtain⟨x,u⟩:∃x,SS.getD i (0,mI)=x:=⟨_,rfl⟩;have f4:x∈SS:=by rw[<- u];simp[List.getD,iv U]
   obtain⟨e1,e2⟩:=d'.out x f4;have b6:SS.drop i=x::SS.drop (i+1):=by
    rw[fx U,<- u];simp[List.getD,iv U]
   have q:∀j,j<13->a.cell? ⟨g,i*13+j,I⟩=(zC x).toList[j]?:=λj e8=>by
    have:=wO k.own rfl U j e8;rw[u]at this;exact this
   have q0:a.cell? ⟨g,i*13,I⟩=Y (.int .i64 x.1):=q 0 zz;have q1:a.cell? ⟨g,i*13+1,I⟩=Y (.bool (x.2 0)):=q 1 zz;have q2:a.cell? ⟨g,i*13+2,I⟩=Y (.bool (x.2 1)):=q 2 zz;have q3:a.cell? ⟨g,i*13+3,I⟩=Y (.bool (x.2 2)):=q 3 zz;have q4:a.cell? ⟨g,i*13+4,I⟩=Y (.bool (x.2 3)):=q 4 zz;have q5:a.cell? ⟨g,i*13+5,I⟩=Y (.bool (x.2 4)):=q 5 zz;have q6:a.cell? ⟨g,i*13+6,I⟩=Y (.bool (x.2 5)):=q 6 zz;have q7:a.cell? ⟨g,i*13+7,I⟩=Y (.bool (x.2 6)):=q 7 zz;have q8:a.cell? ⟨g,i*13+8,I⟩=Y (.bool (x.2 7)):=q 8 zz;have q9:a.cell? ⟨g,i*13+9,I⟩=Y (.bool (x.2 8)):=q 9 zz;have f0:a.cell? ⟨g,i*13+10,I⟩=Y (.bool (x.2 9)):=q 10 zz;have g1:a.cell? ⟨g,i*13+11,I⟩=Y (.bool (x.2 10)):=q 11 zz;have g2:a.cell? ⟨g,i*13+12,I⟩=Y (.bool (x.2 11)):=q 12 zz;have g5:=(aM k.box).2.2.2.2.2.2.2.2.2.2.1;have h7:w.heap.size<a.heap.size:=k.box.lt;have h6:d.heap.size+1<a.heap.size:=(ec.1 s).1;have d8:=Hm k;have d0:=Hm b6;have e3:=Hm s;clear q u b6 k s;go_wp2;clear q0 q1 q2 q3 q4 q5 q6 q7 q8 q9 f0 g1 g2 g5;go_loopw [11,37] (λn v a0=>∃h:Nat,h<=b.U.n/\v=.int .i64 h/\n=.int .i64 (pF b l x p h)/\tS w d.heap.size (w.heap.size+1) B b l ⟨Y ⟨g,0,I⟩,SS.length,c⟩ r SS p a0/\bA a0 a.heap.size 91 x.1 x.2/\a0.heap[d.heap.size+1]?=Y (.cells #[.int .i64 z.1,.int .i64 z.2] 23 (0,0))) (λ_ v _=>b.U.n-(intOf v).toNat)
   case atStart=>exact⟨0,zz,rfl,rfl,d8.out.below ((X.refl _ _).alloc (qN _) _),bA.new a 91 x.1 x.2,(QR _ _ zz).tn e3.out⟩
   case round=>
    obtain⟨h,h5,rfl,rfl,k,N,s⟩:=hrel;obtain⟨m,rfl⟩:∃m:H,m=wr:=⟨_,rfl⟩;by_cases e':h<b.U.n
    .have b8:h<l.U.length:=by rw[<- a2.out];exact e'
     obtain⟨c6,c7,t3,t4,t5,t6,t7,t8,t9,g3,-⟩:=cS (bP b1.out).1;obtain⟨p1,p2,p3,p4⟩:=kP (bP b1.out).2.2.1 h b8;have T:=λw' (a8:bp w' b.U l.U)=>qX b c6 c7 t5 t6 x.1 zz zz x.2 h l.U b8 p1 p2 p3 p4 w' a8;have f6:=Oj b l x p h;have c2:oN b l x h p=true->pF b l x p (h+1)=pF b l x p h+1:=λe=>by unfold pF;rw[oG (show Tz b l x p h=true from e)];simp
     have b':oN b l x h p=false->pF b l x p (h+1)=pF b l x p h:=λe=>by unfold pF;rw[mV (show Tz b l x p h=false from e)]
     have a3:=Hm c2;have a1:=Hm b';change ∀w',bp w' b.U l.U->PH F 39 #[b.v,gN x.1 x.2,.int .i64 h] w' λe g4=>e=.returned (tJ (oN b l x h))/\X w'.heap.size w' g4 at T;have b7:=λw=>Dl (oN b l x h) p a8 w;generalize oN b l x h=d2 at T a3 a1 b7;generalize b9:pF b l x p h=n at f6 a3 a1|-;have g8:=Hm b9;have t:d.heap.size<m.heap.size:=(ec.1 k.kn).1;have o:=N.lt;have f':w.heap.size+1<m.heap.size:=(ec.1 k.st).1;obtain⟨z0,z1,z2,z3,z4,z5,z6,z7,z8,z9,c9,c',d1,g6,g7⟩:=gH k.kn;obtain⟨s0,s1,s2,s3,s4,s5,s6,s7,s8,s9,c3,c4,c5⟩:=N.all;have b0:=one_cell k.st;have P:=Hm k;have b4:=Hm N;have E:=Hm s;have d9:PQ (∀w',X m.heap.size m w'->w'.cell? ⟨d.heap.size,0,I⟩=Y (.int .i64 b.S)/\w'.cell? ⟨d.heap.size,1,I⟩=Y (.int .i64 b.D)/\w'.cell? ⟨d.heap.size,2,I⟩=Y (.int .i64 b.L)/\w'.cell? ⟨d.heap.size,3,I⟩=Y (.int .i64 b.lo)/\w'.cell? ⟨d.heap.size,4,I⟩=Y (.int .i64 b.hi)/\w'.cell? ⟨d.heap.size,5,I⟩=Y (.slice b.C.A b.C.n b.C.c)/\w'.cell? ⟨d.heap.size,6,I⟩=Y (.int .i64 b.rf)/\w'.cell? ⟨d.heap.size,7,I⟩=Y (.int .i64 b.rh)/\w'.cell? ⟨d.heap.size,8,I⟩=Y (.int .i64 b.cf)/\w'.cell? ⟨d.heap.size,9,I⟩=Y (.int .i64 b.ch)/\w'.cell? ⟨d.heap.size,10,I⟩=Y (.slice b.U.A b.U.n b.U.c)/\w'.cell? ⟨d.heap.size,11,I⟩=Y (.slice b.E.A b.E.n b.E.c)/\w'.cell? ⟨d.heap.size,12,I⟩=Y (.slice b.W.A b.W.n b.W.c)/\w'.cell? ⟨a.heap.size,0,I⟩=Y (.int .i64 x.1)/\w'.cell? ⟨a.heap.size,1,I⟩=Y (.bool (x.2 0))/\w'.cell? ⟨a.heap.size,2,I⟩=Y (.bool (x.2 1))/\w'.cell? ⟨a.heap.size,3,I⟩=Y (.bool (x.2 2))/\w'.cell? ⟨a.heap.size,4,I⟩=Y (.bool (x.2 3))/\w'.cell? ⟨a.heap.size,5,I⟩=Y (.bool (x.2 4))/\w'.cell? ⟨a.heap.size,6,I⟩=Y (.bool (x.2 5))/\w'.cell? ⟨a.heap.size,7,I⟩=Y (.bool (x.2 6))/\w'.cell? ⟨a.heap.size,8,I⟩=Y (.bool (x.2 7))/\w'.cell? ⟨a.heap.size,9,I⟩=Y (.bool (x.2 8))/\w'.cell? ⟨a.heap.size,10,I⟩=Y (.bool (x.2 9))/\w'.cell? ⟨a.heap.size,11,I⟩=Y (.bool (x.2 10))/\w'.cell? ⟨a.heap.size,12,I⟩=Y (.bool (x.2 11))/\w'.cell? ⟨w.heap.size+1,0,I⟩=Y (.int .i64 p)/\d.heap.size<w'.heap.size/\a.heap.size<w'.heap.size/\w.heap.size+1<w'.heap.size/\X m.heap.size m w'):=λw' f=>⟨(f.cell (p:=⟨_,_,I⟩) t).tn z0,(f.cell (p:=⟨_,_,I⟩) t).tn z1,(f.cell (p:=⟨_,_,I⟩) t).tn z2,(f.cell (p:=⟨_,_,I⟩) t).tn z3,(f.cell (p:=⟨_,_,I⟩) t).tn z4,(f.cell (p:=⟨_,_,I⟩) t).tn z5,(f.cell (p:=⟨_,_,I⟩) t).tn z6,(f.cell (p:=⟨_,_,I⟩) t).tn z7,(f.cell (p:=⟨_,_,I⟩) t).tn z8,(f.cell (p:=⟨_,_,I⟩) t).tn z9,(f.cell (p:=⟨_,_,I⟩) t).tn c9,(f.cell (p:=⟨_,_,I⟩) t).tn c',(f.cell (p:=⟨_,_,I⟩) t).tn d1,(f.cell (p:=⟨_,_,I⟩) o).tn s0,(f.cell (p:=⟨_,_,I⟩) o).tn s1,(f.cell (p:=⟨_,_,I⟩) o).tn s2,(f.cell (p:=⟨_,_,I⟩) o).tn s3,(f.cell (p:=⟨_,_,I⟩) o).tn s4,(f.cell (p:=⟨_,_,I⟩) o).tn s5,(f.cell (p:=⟨_,_,I⟩) o).tn s6,(f.cell (p:=⟨_,_,I⟩) o).tn s7,(f.cell (p:=⟨_,_,I⟩) o).tn s8,(f.cell (p:=⟨_,_,I⟩) o).tn s9,(f.cell (p:=⟨_,_,I⟩) o).tn c3,(f.cell (p:=⟨_,_,I⟩) o).tn c4,(f.cell (p:=⟨_,_,I⟩) o).tn c5,(f.cell (p:=⟨_,_,I⟩) f').tn b0,by have:=f.size;omega,by have:=f.size;omega,by have:=f.size;omega,f⟩;clear z0 z1 z2 z3 z4 z5 z6 z7 z8 z9 c9 c' d1 g6 g7 s0 s1 s2 s3 s4 s5 s6 s7 s8 s9 c3 c4 c5 b0 k N s c2 b' b9 c6 c7 t3 t4 t5 t6 t7 t8 t9 g3 p1 p2 p3 p4;unfold aC.v gN at T;cases a4:d2 p
     all_goals
      rw[a4]at b7;have b2:=Hm a4;clear a4;go_wp2;go_region_held3 (λw'=>w'.cell? ⟨d.heap.size,0,I⟩=Y (.int .i64 b.S)/\w'.cell? ⟨d.heap.size,1,I⟩=Y (.int .i64 b.D)/\w'.cell? ⟨d.heap.size,2,I⟩=Y (.int .i64 b.L)/\w'.cell? ⟨d.heap.size,3,I⟩=Y (.int .i64 b.lo)/\w'.cell? ⟨d.heap.size,4,I⟩=Y (.int .i64 b.hi)/\w'.cell? ⟨d.heap.size,5,I⟩=Y (.slice b.C.A b.C.n b.C.c)/\w'.cell? ⟨d.heap.size,6,I⟩=Y (.int .i64 b.rf)/\w'.cell? ⟨d.heap.size,7,I⟩=Y (.int .i64 b.rh)/\w'.cell? ⟨d.heap.size,8,I⟩=Y (.int .i64 b.cf)/\w'.cell? ⟨d.heap.size,9,I⟩=Y (.int .i64 b.ch)/\w'.cell? ⟨d.heap.size,10,I⟩=Y (.slice b.U.A b.U.n b.U.c)/\w'.cell? ⟨d.heap.size,11,I⟩=Y (.slice b.E.A b.E.n b.E.c)/\w'.cell? ⟨d.heap.size,12,I⟩=Y (.slice b.W.A b.W.n b.W.c)/\w'.cell? ⟨a.heap.size,0,I⟩=Y (.int .i64 x.1)/\w'.cell? ⟨a.heap.size,1,I⟩=Y (.bool (x.2 0))/\w'.cell? ⟨a.heap.size,2,I⟩=Y (.bool (x.2 1))/\w'.cell? ⟨a.heap.size,3,I⟩=Y (.bool (x.2 2))/\w'.cell? ⟨a.heap.size,4,I⟩=Y (.bool (x.2 3))/\w'.cell? ⟨a.heap.size,5,I⟩=Y (.bool (x.2 4))/\w'.cell? ⟨a.heap.size,6,I⟩=Y (.bool (x.2 5))/\w'.cell? ⟨a.heap.size,7,I⟩=Y (.bool (x.2 6))/\w'.cell? ⟨a.heap.size,8,I⟩=Y (.bool (x.2 7))/\w'.cell? ⟨a.heap.size,9,I⟩=Y (.bool (x.2 8))/\w'.cell? ⟨a.heap.size,10,I⟩=Y (.bool (x.2 9))/\w'.cell? ⟨a.heap.size,11,I⟩=Y (.bool (x.2 10))/\w'.cell? ⟨a.heap.size,12,I⟩=Y (.bool (x.2 11))/\w'.cell? ⟨w.heap.size+1,0,I⟩=Y (.int .i64 p)/\d.heap.size<w'.heap.size/\a.heap.size<w'.heap.size/\w.heap.size+1<w'.heap.size/\X m.heap.size m w')
       (exact d9.out _ bf)
       (first|(go_at_call 39;(with_reducible refine(T _ (b3.out.U.below (P.out.low.tn (X.mono (by first|with_reducible assumption|exact bt:X m.heap.size m _) P.out.low.size)))).mono ?_);rintro e v1 ⟨rfl,f9⟩;have C:X m.heap.size m v1:=X.tn bf (f9.mono (by first|(simp only[H.size_drew];omega)|exact(by with_reducible assumption:X m.heap.size m _).size))))
      go_wp2
     .go_roundw
      case rel=>exact⟨h+1,zz,by go_num,by rw[a1.out b2.out],P.out.below C,b4.out.below C o,(C.block _ (ec.1 E.out).1).tn E.out⟩
      case measure=>simp[intOf];omega
     .go_roundw
      case rel=>exact⟨h+1,zz,by go_num,by rw[a3.out b2.out];go_num,P.out.below C,b4.out.below C o,(C.block _ (ec.1 E.out).1).tn E.out⟩
      case measure=>simp[intOf];omega
    .obtain rfl:h=b.U.n:=zz;have G:=Hm k;have E:=Hm s;obtain⟨o0,o1⟩:=kV s;have of:∀j,m.frozen? ⟨d.heap.size+1,j,I⟩=false:=λj=>by simp[H.frozen?,s]
     have i1:d.heap.size+1<m.heap.size:=(ec.1 s).1;obtain⟨n,a6⟩:∃n,pF b l x p b.U.n=n:=⟨_,rfl⟩;rw[a6];have d6:=Hm a6;clear k N s a6;go_wp2;go_roundw
     case rel=>
      have f5:(if(n:Int)<z.1 then(n:Int)else z.1)=min z.1 n:=by rw[Int.min_def];split<;>split<;>omega
      have f3:(if z.2<(n:Int)then(n:Int)else z.2)=max z.2 n:=by rw[Int.max_def];split<;>split<;>omega
      rw[f5,f3];obtain⟨O,C⟩:=tR (.int .i64 (min z.1 n)) (.int .i64 (max z.2 n)) E.out;refine⟨i+1,(min z.1 n,max z.2 n),zz,by go_num,G.out.keep C (λy c1=>zz) zz zz zz (λy c1=>by simp[M.ownBlock]at c1;omega),O,?_⟩;have e:yc b l p z (SS.drop i)=yc b l p (min z.1 n,max z.2 n) (SS.drop (i+1)):=by
       rw[d0.out,<- d6.out,a2.out];rfl
      rw[PQ,<- e];exact a5.out
     case measure=>simp[intOf];omega
  .obtain rfl:i=SS.length:=zz;have e1:z=yc b l p ((l.U.length:Nat),0) SS:=by
    have:=a5.out;rw[ma (qN _)]at this;exact this
   have d4:=Hm e1;obtain⟨o0,o1⟩:=kV s;obtain⟨y0,y1⟩:=kV k.res;have of:∀j,a.frozen? ⟨w.heap.size+1+1,j,I⟩=false:=λj=>by simp[H.frozen?,k.res]
   have h0:w.heap.size+1+1<a.heap.size:=(ec.1 k.res).1;have G:=Hm k;clear e1 k s a5;go_wp2;obtain⟨f1,f2⟩:=tR (.int .i64 z.1) (.int .i64 z.2) G.out.res;obtain⟨c0,Q⟩:=kV f1;rw[Z.out,<- d4.out];refine bd (v:=.tuple #[.agg #[.int .i64 z.1,.int .i64 z.2],.int .i64 0]) ?_ rfl ⟨rfl,G.out.low.tn (f2.below G.out.low.size (λx u=>zz))⟩;simp[results,Tryz.results8,go_sem,c0,Q]
def Gr(b:aC)(l:pK)(step:Int)(w:H)(c:aI w b l)(a:aD w)(h:cP b l (ax step 0 (b.S-1))=0:=by kernel_rfl):PH F 8 #[b.v,.int .i64 step] w (yd (qs b l step) w):=Gq b l step w c a h
def Y4(w:H)(s:Sl)(L:List (Int×Int))(d:Int×Int):Prop:=s.n=L.length/\L.length<=s.c/\L.length<=1000/\(0<L.length->∃b off,s.A=Y ⟨b,off,I⟩/\b<w.heap.size/\∀k,k<L.length->w (b,off+k*2)=Y (.int .i64 (L.getD k d).1)/\w (b,off+k*2+1)=Y (.int .i64 (L.getD k d).2))
def Gs(a b:M)(h:w.heap[g]?=Y (.cells #[a0,a1] t (0,0))):((w.setCell (g,0) a).setCell (g,1) b).heap[g]?=Y (.cells #[a,b] t (0,0))/\aS (λx=>x≠g) w ((w.setCell (g,0) a).setCell (g,1) b):=by
 have c:=bJ (i:=0) h a;simp only[zS]at c;have d:=bJ (i:=1) c b;simp only[zS]at d;exact⟨d,(((aS.refl _ _).set (p:=⟨g,0,I⟩) (λ_ h=>h rfl) _).set (p:=⟨g,1,I⟩) (λ_ h=>h rfl) _)⟩
def tT(h:w.heap[g]?=Y (.cells #[a0,a1] t (0,0))):w (g,0)=Y a0/\w (g,1)=Y a1:=by
 refine⟨?_,?_⟩<;>(rw[H.cell?,h];rfl)
def dR(a:Int×Int->Int×Int->Bool)(one:Int×Int)(L:List (Int×Int)):Int×Int:=L.foldl (λone x=>if a x one then x else one) one
theorem Jb(b:Int×Int->Int×Int->Bool)(P:Int×Int->Prop)(one d:Int×Int)(s:Sl)(L:List (Int×Int))(w:H)(a6:Y4 w s L d)(a8:P one)(K:∀x∈L,P x)
  (N:∀x y l,X w.heap.size w l->P x->P y->PH F 42 #[.agg #[.int .i64 x.1,.int .i64 x.2],.agg #[.int .i64 y.1,.int .i64 y.2]] l λe w'=>e=.returned (.bool (b x y))/\X l.heap.size l w'):
  PH F 41 #[.func (.func 42) #[] #[],.agg #[.int .i64 one.1,.int .i64 one.2],.slice s.A s.n s.c] w λe w'=>e=.returned (.agg #[.int .i64 (dR b one L).1,.int .i64 (dR b one L).2])/\X w.heap.size w w':=by
 have a1:=Hm N;have a4:=Hm K;obtain⟨A,sn,c⟩:=s;obtain⟨rfl,a5,b2,R⟩:=a6;have a2:=Hm R;have a0:∀(args:Array M) (w:H),(callFunc 42 args).run F w=.ok (.enter 42 args) w:=enters_of Tryz.func42 kr rfl;clear R N K;simp only at a5|-;go_enter Tryz.func41,Tryz.ntmps41;go_wp2;go_loopw [11] (λv wr=>∃(k:Nat) (a:Int×Int),k<=L.length/\v=.int .i64 k/\P a/\wr.heap[w.heap.size]?=Y (.cells #[.int .i64 a.1,.int .i64 a.2] 95 (0,0))/\wr.heap[w.heap.size+1]?=Y (.cells #[.int .i64 0,.int .i64 0] 95 (0,0))/\X w.heap.size w wr/\PQ (dR b a (L.drop k)=dR b one L)) (λv _=>L.length-(intOf v).toNat)
 case atStart=>
  refine⟨0,one,qT _,rfl,a8,(QR _ _ ss).tn (Sp _ _),?_,((X.refl _ _).alloc (qN _) _).alloc ss _,rfl⟩;rw[<- aa w (.cells #[.int .i64 one.1,.int .i64 one.2] 95)];exact Sp _ _
 case round=>
  obtain⟨k,a,hk,rfl,S,h,i,g,r⟩:=hrel;have b3:=g.size;have V:=(ec.1 h).1;have W:=(ec.1 i).1;by_cases t:k<L.length
  .obtain⟨x,u⟩:∃x,L.getD k d=x:=⟨_,rfl⟩;have a7:x∈L:=by rw[<- u];simp[List.getD,iv t]
   have T:L.drop k=x::L.drop (k+1):=by
    rw[fx t,<- u];simp[List.getD,iv t]
   obtain⟨n,off,rfl,O,q⟩:=a2.out zz;have q:=q k t;rw[u]at q;obtain⟨Z,p1⟩:=q;have c0:wr.cell? ⟨n,off+k*2,I⟩=Y (.int .i64 x.1):=(g.cell (p:=⟨n,_,I⟩) O).tn Z;have c1:wr.cell? ⟨n,off+k*2+1,I⟩=Y (.int .i64 x.2):=(g.cell (p:=⟨n,_,I⟩) O).tn p1;have b6:n<wr.heap.size:=zz;clear Z p1;have U:=a4.out x a7;have Q:=λl (h1:X w.heap.size w l)=>a1.out x a l h1 U S;obtain⟨o0,o1⟩:=tT h;have b7:∀j,wr.frozen? ⟨w.heap.size,j,I⟩=false:=λj=>by simp[H.frozen?,h]
   have G:=Hm h;have o:=Hm i;have J:=Hm T;have m:=Hm g;clear h i T g u;cases z:b x a
   all_goals
    rw[z]at Q;have E:=Hm z;clear z;go_wp2_with (go_at_call 42;refine(Q _ (aP m.out (qN _) _)).mono ?_;rintro e w2 ⟨rfl,f⟩;obtain⟨a',b1⟩:=aU f;have b4:wr.heap.size<w2.heap.size:=(by have:=f.size;simp only[aa]at this;omega);have b5:w.heap.size<w2.heap.size:=zz)
   .go_roundw
    case rel=>
     refine⟨k+1,a,zz,by go_num,S,(f.block _ so).tn ((QR _ _ V).tn G.out),(f.block _ so).tn ((QR _ _ W).tn o.out),(aP m.out (qN _) _).tn (f.mono so),?_⟩;have e:dR b a (L.drop k)=dR b a (L.drop (k+1)):=by rw[J.out];simp[dR,E.out]
     rw[PQ,<- e];exact r.out
    case measure=>simp[intOf];omega
   .have g1:=(f.block w.heap.size so).tn ((QR _ _ V).tn G.out);have g2:=(f.block (w.heap.size+1) so).tn ((QR _ _ W).tn o.out);obtain⟨B,m2⟩:=Gs (.int .i64 x.1) (.int .i64 x.2) g1;have C:=(aP m.out (qN _) (.cells #[.int .i64 x.1,.int .i64 x.2] 95)).tn (f.mono so);go_roundw
    case rel=>
     refine⟨k+1,x,zz,by go_num,U,B,m2.get zz g2,C.tn (m2.below C.size (λy a9=>zz)),?_⟩;have e:dR b a (L.drop k)=dR b x (L.drop (k+1)):=by rw[J.out];simp[dR,E.out]
     rw[PQ,<- e];exact r.out
    case measure=>simp[intOf];omega
  .obtain rfl:k=L.length:=zz;have e1:a=dR b one L:=by
    have:=r.out;rw[ma (qN _)]at this;exact this
   have a3:=Hm e1;obtain⟨o0,o1⟩:=tT h;obtain⟨r0,r1⟩:=tT i;have b8:∀j,wr.frozen? ⟨w.heap.size+1,j,I⟩=false:=λj=>by simp[H.frozen?,i]
   have o:=Hm i;have m:=Hm g;clear e1 h i g r;go_wp2;obtain⟨B,m2⟩:=Gs (.int .i64 a.1) (.int .i64 a.2) o.out;obtain⟨n0,n1⟩:=tT B;rw[<- a3.out];refine bd (v:=.agg #[.int .i64 a.1,.int .i64 a.2]) ?_ rfl ⟨rfl,m.out.tn (m2.below m.out.size (λy a9=>zz))⟩;simp[results,Tryz.results41,go_sem,n0,n1]
def Y5(w:H)(s:Sl)(L:List ((Int×Int)×Int))(d:(Int×Int)×Int):Prop:=s.n=L.length/\L.length<=s.c/\L.length<=1000/\(0<L.length->∃b off,s.A=Y ⟨b,off,I⟩/\b<w.heap.size/\∀k,k<L.length->w (b,off+k*3)=Y (.int .i64 (L.getD k d).1.1)/\w (b,off+k*3+1)=Y (.int .i64 (L.getD k d).1.2)/\w (b,off+k*3+2)=Y (.int .i64 (L.getD k d).2))
def Ol(a b c:M)(h:w.heap[g]?=Y (.cells #[a0,a1,a2] t (0,0))):(((w.setCell (g,0) a).setCell (g,1) b).setCell (g,2) c).heap[g]?=Y (.cells #[a,b,c] t (0,0))/\aS (λx=>x≠g) w (((w.setCell (g,0) a).setCell (g,1) b).setCell (g,2) c):=by
 have d:=bJ (i:=0) h a;simp only[zS]at d;have e:=bJ (i:=1) d b;simp only[zS]at e;have h2:=bJ (i:=2) e c;simp only[zS]at h2;exact⟨h2,((((aS.refl _ _).set (p:=⟨g,0,I⟩) (λ_ h=>h rfl) _).set (p:=⟨g,1,I⟩) (λ_ h=>h rfl) _).set (p:=⟨g,2,I⟩) (λ_ h=>h rfl) _)⟩
def tU(h:w.heap[g]?=Y (.cells #[a0,a1,a2] t (0,0))):w (g,0)=Y a0/\w (g,1)=Y a1/\w (g,2)=Y a2:=by
 refine⟨?_,?_,?_⟩<;>(rw[H.cell?,h];rfl)
def iR(a:(Int×Int)×Int->(Int×Int)×Int->Bool)(one:(Int×Int)×Int)(L:List ((Int×Int)×Int)):(Int×Int)×Int:=L.foldl (λone x=>if a x one then x else one) one
theorem Ss(b:(Int×Int)×Int->(Int×Int)×Int->Bool)(P:(Int×Int)×Int->Prop)(one d:(Int×Int)×Int)(s:Sl)(L:List ((Int×Int)×Int))(w:H)(a6:Y5 w s L d)(a8:P one)(N:∀x∈L,P x)
  (O:∀x y m,X w.heap.size w m->P x->P y->PH F 59 #[.agg #[.int .i64 x.1.1,.int .i64 x.1.2,.int .i64 x.2],.agg #[.int .i64 y.1.1,.int .i64 y.1.2,.int .i64 y.2]] m λe w'=>e=.returned (.bool (b x y))/\X m.heap.size m w'):
  PH F 58 #[.func (.func 59) #[] #[],.agg #[.int .i64 one.1.1,.int .i64 one.1.2,.int .i64 one.2],.slice s.A s.n s.c] w λe w'=>e=.returned (.agg #[.int .i64 (iR b one L).1.1,.int .i64 (iR b one L).1.2,.int .i64 (iR b one L).2])/\X w.heap.size w w':=by
 have a1:=Hm O;have a4:=Hm N;obtain⟨A,sn,c⟩:=s;obtain⟨rfl,a5,b2,R⟩:=a6;have a2:=Hm R;have a0:∀(args:Array M) (w:H),(callFunc 59 args).run F w=.ok (.enter 59 args) w:=enters_of Tryz.func59 kr rfl;clear R O N;simp only at a5|-;go_enter Tryz.func58,Tryz.ntmps58;go_wp2;go_loopw [11] (λv wr=>∃(k:Nat) (a:(Int×Int)×Int),k<=L.length/\v=.int .i64 k/\P a/\wr.heap[w.heap.size]?=Y (.cells #[.int .i64 a.1.1,.int .i64 a.1.2,.int .i64 a.2] 116 (0,0))/\wr.heap[w.heap.size+1]?=Y (.cells #[.int .i64 0,.int .i64 0,.int .i64 0] 116 (0,0))/\X w.heap.size w wr/\PQ (iR b a (L.drop k)=iR b one L)) (λv _=>L.length-(intOf v).toNat)
 case atStart=>
  refine⟨0,one,qT _,rfl,a8,(QR _ _ ss).tn (Sp _ _),?_,((X.refl _ _).alloc (qN _) _).alloc ss _,rfl⟩;rw[<- aa w (.cells #[.int .i64 one.1.1,.int .i64 one.1.2,.int .i64 one.2] 116)];exact Sp _ _
 case round=>
  obtain⟨k,a,hk,rfl,S,i,l,g,r⟩:=hrel;have b3:=g.size;have V:=(ec.1 i).1;have W:=(ec.1 l).1;by_cases t:k<L.length
  .obtain⟨x,u⟩:∃x,L.getD k d=x:=⟨_,rfl⟩;have a7:x∈L:=by rw[<- u];simp[List.getD,iv t]
   have T:L.drop k=x::L.drop (k+1):=by
    rw[fx t,<- u];simp[List.getD,iv t]
   obtain⟨h,off,rfl,z,q⟩:=a2.out zz;have q:=q k t;rw[u]at q;obtain⟨Z,p1,p2⟩:=q;have c0:wr.cell? ⟨h,off+k*3,I⟩=Y (.int .i64 x.1.1):=(g.cell (p:=⟨h,_,I⟩) z).tn Z;have c1:wr.cell? ⟨h,off+k*3+1,I⟩=Y (.int .i64 x.1.2):=(g.cell (p:=⟨h,_,I⟩) z).tn p1;have c2:wr.cell? ⟨h,off+k*3+2,I⟩=Y (.int .i64 x.2):=(g.cell (p:=⟨h,_,I⟩) z).tn p2;have b6:h<wr.heap.size:=zz;clear Z p1 p2;have U:=a4.out x a7;have Q:=λm (h1:X w.heap.size w m)=>a1.out x a m h1 U S;obtain⟨o0,o1,o2⟩:=tU i;have b7:∀j,wr.frozen? ⟨w.heap.size,j,I⟩=false:=λj=>by simp[H.frozen?,i]
   have J:=Hm i;have o:=Hm l;have K:=Hm T;have n:=Hm g;clear i l T g u;cases B:b x a
   all_goals
    rw[B]at Q;have G:=Hm B;clear B;go_wp2_with (go_at_call 59;refine(Q _ (aP n.out (qN _) _)).mono ?_;rintro e w2 ⟨rfl,f⟩;obtain⟨a',b1⟩:=aU f;have b4:wr.heap.size<w2.heap.size:=(by have:=f.size;simp only[aa]at this;omega);have b5:w.heap.size<w2.heap.size:=zz)
   .go_roundw
    case rel=>
     refine⟨k+1,a,zz,by go_num,S,(f.block _ so).tn ((QR _ _ V).tn J.out),(f.block _ so).tn ((QR _ _ W).tn o.out),(aP n.out (qN _) _).tn (f.mono so),?_⟩;have e:iR b a (L.drop k)=iR b a (L.drop (k+1)):=by rw[K.out];simp[iR,G.out]
     rw[PQ,<- e];exact r.out
    case measure=>simp[intOf];omega
   .have g1:=(f.block w.heap.size so).tn ((QR _ _ V).tn J.out);have g2:=(f.block (w.heap.size+1) so).tn ((QR _ _ W).tn o.out);obtain⟨C,m2⟩:=Ol (.int .i64 x.1.1) (.int .i64 x.1.2) (.int .i64 x.2) g1;have E:=(aP n.out (qN _) (.cells #[.int .i64 x.1.1,.int .i64 x.1.2,.int .i64 x.2] 116)).tn (f.mono so);go_roundw
    case rel=>
     refine⟨k+1,x,zz,by go_num,U,C,m2.get zz g2,E.tn (m2.below E.size (λy a9=>zz)),?_⟩;have e:iR b a (L.drop k)=iR b x (L.drop (k+1)):=by rw[K.out];simp[iR,G.out]
     rw[PQ,<- e];exact r.out
    case measure=>simp[intOf];omega
  .obtain rfl:k=L.length:=zz;have e1:a=iR b one L:=by
    have:=r.out;rw[ma (qN _)]at this;exact this
   have a3:=Hm e1;obtain⟨o0,o1,o2⟩:=tU i;obtain⟨r0,r1,r2⟩:=tU l;have b8:∀j,wr.frozen? ⟨w.heap.size+1,j,I⟩=false:=λj=>by simp[H.frozen?,l]
   have o:=Hm l;have n:=Hm g;clear e1 i l g r;go_wp2;obtain⟨C,m2⟩:=Ol (.int .i64 a.1.1) (.int .i64 a.1.2) (.int .i64 a.2) o.out;obtain⟨n0,n1,n2⟩:=tU C;rw[<- a3.out];refine bd (v:=.agg #[.int .i64 a.1.1,.int .i64 a.1.2,.int .i64 a.2]) ?_ rfl ⟨rfl,n.out.tn (m2.below n.out.size (λy a9=>zz))⟩;simp[results,Tryz.results58,go_sem,n0,n1,n2]
def Y6(w:H)(s:Sl)(L:List (Sl×Int))(d:Sl×Int):Prop:=s.n=L.length/\L.length<=s.c/\L.length<=1000/\(0<L.length->∃b off,s.A=Y ⟨b,off,I⟩/\b<w.heap.size/\∀k,k<L.length->w (b,off+k*2)=Y (.slice (L.getD k d).1.A (L.getD k d).1.n (L.getD k d).1.c)/\w (b,off+k*2+1)=Y (.int .i64 (L.getD k d).2))
def Gt(a b:M)(h:w.heap[g]?=Y (.cells #[a0,a1] t (0,0))):((w.setCell (g,0) a).setCell (g,1) b).heap[g]?=Y (.cells #[a,b] t (0,0))/\aS (λx=>x≠g) w ((w.setCell (g,0) a).setCell (g,1) b):=by
 have c:=bJ (i:=0) h a;simp only[zS]at c;have d:=bJ (i:=1) c b;simp only[zS]at d;exact⟨d,(((aS.refl _ _).set (p:=⟨g,0,I⟩) (λ_ h=>h rfl) _).set (p:=⟨g,1,I⟩) (λ_ h=>h rfl) _)⟩
def tW(h:w.heap[g]?=Y (.cells #[a0,a1] t (0,0))):w (g,0)=Y a0/\w (g,1)=Y a1:=by
 refine⟨?_,?_⟩<;>(rw[H.cell?,h];rfl)
def dG(a:Sl×Int->Sl×Int->Bool)(one:Sl×Int)(L:List (Sl×Int)):Sl×Int:=L.foldl (λone x=>if a x one then x else one) one
theorem Jc(b:Sl×Int->Sl×Int->Bool)(P:Sl×Int->Prop)(one d:Sl×Int)(s:Sl)(L:List (Sl×Int))(w:H)(a6:Y6 w s L d)(a8:P one)(K:∀x∈L,P x)
  (N:∀x y l,X w.heap.size w l->P x->P y->PH F 73 #[.agg #[.slice x.1.A x.1.n x.1.c,.int .i64 x.2],.agg #[.slice y.1.A y.1.n y.1.c,.int .i64 y.2]] l λe w'=>e=.returned (.bool (b x y))/\X l.heap.size l w'):
  PH F 72 #[.func (.func 73) #[] #[],.agg #[.slice one.1.A one.1.n one.1.c,.int .i64 one.2],.slice s.A s.n s.c] w λe w'=>e=.returned (.agg #[.slice (dG b one L).1.A (dG b one L).1.n (dG b one L).1.c,.int .i64 (dG b one L).2])/\X w.heap.size w w':=by
 have a1:=Hm N;have a4:=Hm K;obtain⟨A,sn,c⟩:=s;obtain⟨rfl,a5,b2,R⟩:=a6;have a2:=Hm R;have a0:∀(args:Array M) (w:H),(callFunc 73 args).run F w=.ok (.enter 73 args) w:=enters_of Tryz.func73 kr rfl;clear R N K;simp only at a5|-;go_enter Tryz.func72,Tryz.ntmps72;go_wp2;go_loopw [11] (λv wr=>∃(k:Nat) (a:Sl×Int),k<=L.length/\v=.int .i64 k/\P a/\wr.heap[w.heap.size]?=Y (.cells #[.slice a.1.A a.1.n a.1.c,.int .i64 a.2] 139 (0,0))/\wr.heap[w.heap.size+1]?=Y (.cells #[.slice I 0 0,.int .i64 0] 139 (0,0))/\X w.heap.size w wr/\PQ (dG b a (L.drop k)=dG b one L)) (λv _=>L.length-(intOf v).toNat)
 case atStart=>
  refine⟨0,one,qT _,rfl,a8,(QR _ _ ss).tn (Sp _ _),?_,((X.refl _ _).alloc (qN _) _).alloc ss _,rfl⟩;rw[<- aa w (.cells #[.slice one.1.A one.1.n one.1.c,.int .i64 one.2] 139)];exact Sp _ _
 case round=>
  obtain⟨k,a,hk,rfl,S,h,i,g,r⟩:=hrel;have b3:=g.size;have V:=(ec.1 h).1;have W:=(ec.1 i).1;by_cases t:k<L.length
  .obtain⟨x,u⟩:∃x,L.getD k d=x:=⟨_,rfl⟩;have a7:x∈L:=by rw[<- u];simp[List.getD,iv t]
   have T:L.drop k=x::L.drop (k+1):=by
    rw[fx t,<- u];simp[List.getD,iv t]
   obtain⟨n,off,rfl,O,q⟩:=a2.out zz;have q:=q k t;rw[u]at q;obtain⟨Z,p1⟩:=q;have c0:wr.cell? ⟨n,off+k*2,I⟩=Y (.slice x.1.A x.1.n x.1.c):=(g.cell (p:=⟨n,_,I⟩) O).tn Z;have c1:wr.cell? ⟨n,off+k*2+1,I⟩=Y (.int .i64 x.2):=(g.cell (p:=⟨n,_,I⟩) O).tn p1;have b6:n<wr.heap.size:=zz;clear Z p1;have U:=a4.out x a7;have Q:=λl (h1:X w.heap.size w l)=>a1.out x a l h1 U S;obtain⟨o0,o1⟩:=tW h;have b7:∀j,wr.frozen? ⟨w.heap.size,j,I⟩=false:=λj=>by simp[H.frozen?,h]
   have G:=Hm h;have o:=Hm i;have J:=Hm T;have m:=Hm g;clear h i T g u;cases z:b x a
   all_goals
    rw[z]at Q;have E:=Hm z;clear z;go_wp2_with (go_at_call 73;refine(Q _ (aP m.out (qN _) _)).mono ?_;rintro e w2 ⟨rfl,f⟩;obtain⟨a',b1⟩:=aU f;have b4:wr.heap.size<w2.heap.size:=(by have:=f.size;simp only[aa]at this;omega);have b5:w.heap.size<w2.heap.size:=zz)
   .go_roundw
    case rel=>
     refine⟨k+1,a,zz,by go_num,S,(f.block _ so).tn ((QR _ _ V).tn G.out),(f.block _ so).tn ((QR _ _ W).tn o.out),(aP m.out (qN _) _).tn (f.mono so),?_⟩;have e:dG b a (L.drop k)=dG b a (L.drop (k+1)):=by rw[J.out];simp[dG,E.out]
     rw[PQ,<- e];exact r.out
    case measure=>simp[intOf];omega
   .have g1:=(f.block w.heap.size so).tn ((QR _ _ V).tn G.out);have g2:=(f.block (w.heap.size+1) so).tn ((QR _ _ W).tn o.out);obtain⟨B,m2⟩:=Gt (.slice x.1.A x.1.n x.1.c) (.int .i64 x.2) g1;have C:=(aP m.out (qN _) (.cells #[.slice x.1.A x.1.n x.1.c,.int .i64 x.2] 139)).tn (f.mono so);go_roundw
    case rel=>
     refine⟨k+1,x,zz,by go_num,U,B,m2.get zz g2,C.tn (m2.below C.size (λy a9=>zz)),?_⟩;have e:dG b a (L.drop k)=dG b x (L.drop (k+1)):=by rw[J.out];simp[dG,E.out]
     rw[PQ,<- e];exact r.out
    case measure=>simp[intOf];omega
  .obtain rfl:k=L.length:=zz;have e1:a=dG b one L:=by
    have:=r.out;rw[ma (qN _)]at this;exact this
   have a3:=Hm e1;obtain⟨o0,o1⟩:=tW h;obtain⟨r0,r1⟩:=tW i;have b8:∀j,wr.frozen? ⟨w.heap.size+1,j,I⟩=false:=λj=>by simp[H.frozen?,i]
   have o:=Hm i;have m:=Hm g;clear e1 h i g r;go_wp2;obtain⟨B,m2⟩:=Gt (.slice a.1.A a.1.n a.1.c) (.int .i64 a.2) o.out;obtain⟨n0,n1⟩:=tW B;rw[<- a3.out];refine bd (v:=.agg #[.slice a.1.A a.1.n a.1.c,.int .i64 a.2]) ?_ rfl ⟨rfl,m.out.tn (m2.below m.out.size (λy a9=>zz))⟩;simp[results,Tryz.results72,go_sem,n0,n1]
def jB(x y:Int×Int):Bool:=decide (y.2<x.2)||(decide (x.2=y.2)&&decide (x.1<y.1))
def Om(x y:(Int×Int)×Int):Bool:=decide (x.2<y.2)
theorem Oo(x y:(Int×Int)×Int)(w:H):PH F 59 #[.agg #[.int .i64 x.1.1,.int .i64 x.1.2,.int .i64 x.2],.agg #[.int .i64 y.1.1,.int .i64 y.1.2,.int .i64 y.2]] w λe w'=>e=.returned (.bool (Om x y))/\X w w w':=by
 go_enter Tryz.func59,Tryz.ntmps59;go_wp2;go_ret;exact⟨rfl,((X.refl _ _).alloc (qN _) _).alloc ss _⟩
theorem DG(x y:Int×Int)(w:H):PH F 42 #[.agg #[.int .i64 x.1,.int .i64 x.2],.agg #[.int .i64 y.1,.int .i64 y.2]] w λe w'=>e=.returned (.bool (jB x y))/\X w w w':=by
 obtain⟨f,a⟩:=x;obtain⟨g,y2⟩:=y;simp only;by_cases b:y2<a
 .go_enter Tryz.func42,Tryz.ntmps42;go_wp2;go_ret;exact⟨bR (by simp[jB,b]),((X.refl _ _).alloc (qN _) _).alloc ss _⟩
 .have c:a<=y2:=zz;by_cases h2:a=y2
  .subst h2;go_enter Tryz.func42,Tryz.ntmps42;go_wp2;go_ret;exact⟨bR (by simp[jB]),((X.refl _ _).alloc (qN _) _).alloc ss _⟩
  .have d:(a==y2)=false:=by simpa using h2
   go_enter Tryz.func42,Tryz.ntmps42;go_wp2;go_ret;exact⟨bR (by simp[jB,b,h2]),((X.refl _ _).alloc (qN _) _).alloc ss _⟩
def Gu(a b:Int):Int:=if a<b then -1 else if b<a then 1 else 0
theorem Lx(a:Int)(w:H):PH F 126 #[.int .i64 a] w λe w'=>e=.returned (.bool false)/\w=w':=by
 go_enter Tryz.func126,Tryz.ntmps126;go_wp2;go_ret;exact⟨rfl,rfl⟩
theorem Su(a b:Int)(w:H):PH F 107 #[.int .i64 a,.int .i64 b] w λe w'=>e=.returned (.int .i64 (Gu a b))/\w=w':=by
 go_enter Tryz.func107,Tryz.ntmps107;go_wp2_with (go_at_call 126;refine(Lx _ _).mono ?_;rintro e w' ⟨rfl,rfl⟩);all_goals go_ret
 all_goals exact⟨aW (by unfold Gu;split<;>first|rfl|omega|(split<;>first|rfl|omega)),rfl⟩
def abn:List Int->List Int->Int
 | [],[]=>0
 | [],_::_=> -1
 | _::_,[]=>1
 | x::r,y::s=>if Gu x y=0 then abn r s else Gu x y
def Lz(l m:List Int)(k:Nat)(a:k<l.length)(h2:k<m.length):abn (l.drop k) (m.drop k)=if Gu (l.getD k 0) (m.getD k 0)=0 then abn (l.drop (k+1)) (m.drop (k+1))else Gu (l.getD k 0) (m.getD k 0):=by
 rw[fx a,fx h2];have e1:l.getD k 0=l[k]:=by simp[List.getD,iv a]
 have b:m.getD k 0=m[k]:=by simp[List.getD,iv h2]
 rw[e1,b];rfl
theorem DI(s t:Sl)(l m:List Int)(w:H)(K:eC w s l)(N:eC w t m):
  PH F 74 #[.slice s.A s.n s.c,.slice t.A t.n t.c] w λe w'=>e=.returned (.int .i64 (abn l m))/\w=w':=by
 obtain⟨A,sn,c⟩:=s;obtain⟨rfl,C,W,h⟩:=K;obtain⟨O,a4,R⟩:=t;obtain⟨rfl,E,Z,j⟩:=N;have u:=Hm h;have v:=Hm j;clear h j;simp only at C E|-;go_enter Tryz.func74,Tryz.ntmps74;go_wp2;go_loop [11] (λi=>∃k:Nat,k<=l.length/\k<=m.length/\i=.int .i64 k/\PQ (abn l m=abn (l.drop k) (m.drop k))) (λi=>l.length-(intOf i).toNat)
 case atStart=>exact⟨0,qT _,qT _,rfl,rfl⟩
 case round=>
  obtain⟨k,hk,V,rfl,a⟩:=hrel;by_cases q:k<l.length
  .obtain⟨P,off,rfl,S,n⟩:=u.out zz;have G:=n k q;clear n;by_cases r:k<m.length
   .have b:=Lz l m k q r;obtain⟨Q,a3,rfl,T,o⟩:=v.out zz;have J:=o k r;clear o;generalize l.getD k 0=x at b G;generalize m.getD k 0=y at b J;have f:=λw=>Su x y w;generalize Gu x y=z at b f;have g:=Hm b;clear b;by_cases d:z=0
    .subst d;go_wp2_with (go_at_call 107;refine(f _).mono ?_;rintro e w' ⟨rfl,rfl⟩);go_round
     case rel=>exact⟨k+1,zz,zz,by go_num,by rw[PQ,a.out,g.out];simp⟩
     case measure=>simp[intOf];omega
    .have a2:(z != 0)=true:=by simpa using d
     have B:=Hm d;clear d;go_wp2_with (go_at_call 107;refine(f _).mono ?_;rintro e w' ⟨rfl,rfl⟩);go_ret;exact⟨aW (by rw[a.out,g.out,qVB B.out]),rfl⟩
   .have p:k=m.length:=zz;have HR:PQ (abn l m=1):=by
     rw[PQ,a.out,p,ma (qN _),fx zz];rfl
    have U:(m.length:Int)<=(k:Int):=zz;clear p a;go_wp2;go_ret;exact⟨aW HR.out.symm,rfl⟩
  .obtain rfl:k=l.length:=zz;by_cases L:l.length<m.length
   .have HR:PQ (abn l m= -1):=by
     rw[PQ,a.out,ma (qN _),fx L];rfl
    clear a;go_wp2;go_ret;exact⟨aW HR.out.symm,rfl⟩
   .have HR:PQ (abn l m=0):=by
     rw[PQ,a.out,ma (qN _),ma zz];rfl
    have a1:m.length<=l.length:=zz;clear a;go_wp2;go_ret;exact⟨aW HR.out.symm,rfl⟩
def Oq(x y:(Sl×List Int)×Int):Bool:=decide (x.2<y.2)||(decide (x.2=y.2)&&decide (abn x.1.2 y.1.2<0))
theorem Ot(a b:Sl)(lx f:List Int)(nx c:Int)(w:H)(h:eC w a lx)(i:eC w b f):PH F 73 #[.agg #[.slice a.A a.n a.c,.int .i64 nx],.agg #[.slice b.A b.n b.c,.int .i64 c]] w λe w'=>e=.returned (.bool (Oq ((a,lx),nx) ((b,f),c)))/\X w w w':=by
 have j:=Hm h;have k:=Hm i;have l:=λg (d:eC g a lx) (h2:eC g b f)=>DI a b lx f g d h2;clear h i;by_cases d:nx<c
 .go_enter Tryz.func73,Tryz.ntmps73;go_wp2;go_ret;exact⟨bR (by simp[Oq,d]),((X.refl _ _).alloc (qN _) _).alloc ss _⟩
 .have m:c<=nx:=zz;by_cases h2:nx=c
  .subst h2;go_enter Tryz.func73,Tryz.ntmps73;go_wp2_with (go_at_call 74;refine(l _ (aZ (aZ j.out _) _) (aZ (aZ k.out _) _)).mono ?_;rintro e w' ⟨rfl,rfl⟩);go_ret;exact⟨bR (by simp[Oq]),((X.refl _ _).alloc (qN _) _).alloc ss _⟩
  .have n:(nx==c)=false:=by simpa using h2
   go_enter Tryz.func73,Tryz.ntmps73;go_wp2;go_ret;exact⟨bR (by simp[Oq,d,h2]),((X.refl _ _).alloc (qN _) _).alloc ss _⟩
section
variable{L:List gM}{M:Int}
def wrap_small{n:Int}(a:0<=n)(h2:n<=4611686018427387904):wrap64 n=n:=by unfold wrap64;omega
def Small(L:List gM)(M:Int):Prop:=∀k,0<=assoc L k/\assoc L k<=M
def Small.nil:Small [] 0:=λk=>by simp[assoc,dP]
def Small.mono{M M':Int}(h:Small L M)(a:M<=M'):Small L M':=λk=>⟨(h k).1,Int.le_trans (h k).2 a⟩
def LA(h:Small L M)(a:M<=4611686018427387903)(k0:Int×Int):Small (wD L k0) (M+1)/\∀k,assoc (wD L k0) k=assoc L k+if k=k0 then 1 else 0:=by
 have e:∀k,assoc (wD L k0) k=assoc L k+if k=k0 then 1 else 0:=λk=>by
  rw[Li];by_cases hk:k=k0
  .subst hk;rw[qWB rfl,qWB rfl,wrap_small (by have:=h k;omega) (by have:=h k;omega)]
  .rw[qVB hk,qVB hk,Int.add_zero]
 refine⟨λk=>?_,e⟩;rw[e];have:=h k;split<;>omega
def uw(b:Int):∀(c:List Int) {L:List gM} {M:Int},Small L M->M+c.length<=4611686018427387903->Small (ko b L c) (M+c.length)/\∀h n,assoc (ko b L c) (h,n)=assoc L (h,n)+if h=b then(c.count n:Int)else 0
 | [],L,M,d,_=>by
  simp only[ko,List.foldl_nil,lA,Int.natCast_zero,Int.add_zero];exact⟨d,λh n=>by simp⟩
 | a::r,L,M,d,l=>by
  simp only[ed,Int.natCast_add,Int.natCast_one]at l;obtain⟨i,h2⟩:=LA d zz (b,a);obtain⟨j,k⟩:=uw b r i zz;have e:ko b L (a::r)=ko b (wD L (b,a)) r:=rfl;rw[e];refine⟨j.mono (by simp only[ed];omega),λh n=>?_⟩;rw[k,h2,List.count_cons];by_cases g:h=b
  .subst g;by_cases f:n=a
   .subst f;simp;omega
   .have m:¬(a=n):=λe=>f e.symm;simp[f,m]
  .simp[g]
def LB(d:Nat->Bool)(k n:Nat):(ie d k).count (n:Int)=if n<k/\d n=true then 1 else 0:=by
 induction k with
 | zero=>simp[ie]
 | succ k c=>
  cases a:d k
  .rw[mV a,c];by_cases b:n=k
   .subst b;simp[a]
   .congr 1;simp;omega
  .rw[oG a,List.count_append,c,List.count_cons,List.count_nil];by_cases b:n=k
   .subst b;simp[a]
   .have e:¬((k:Int)=(n:Int)):=zz;simp[e];congr 1;simp;omega
def vJ(b:aC)(l:pK)(x:Int×(Nat->Bool)):∀(c:List Nat) {L:List gM} {M:Int},Small L M->M+12*c.length<=4611686018427387903->Small (ku b l x L c) (M+12*c.length)/\∀(h n:Nat),n<12->assoc (ku b l x L c) ((h:Int),(n:Int))=assoc L ((h:Int),(n:Int))+(c.count h:Int)*(if oN b l x h n=true then 1 else 0)
 | [],L,M,d,_=>by
  simp only[ku,List.foldl_nil,lA,Int.natCast_zero,Int.mul_zero,Int.add_zero];exact⟨d,λh n _=>by simp⟩
 | a::r,L,M,d,m=>by
  simp only[ed,Int.natCast_add,Int.natCast_one]at m;have s:(ie (oN b l x a) 12).length<=12:=kO _ _;obtain⟨i,h2⟩:=uw (a:Int) (ie (oN b l x a) 12) d zz;obtain⟨j,k⟩:=vJ b l x r (i.mono (M':=M+12) zz) zz;have e:ku b l x L (a::r)=ku b l x (ko (a:Int) L (ie (oN b l x a) 12)) r:=rfl;rw[e];refine⟨j.mono (by simp only[ed];omega),λh n g=>?_⟩;rw[k h n g,h2,LB,List.count_cons];by_cases f:h=a
  .subst f;cases q:oN b l x h n<;>simp[g];omega
  .have o:¬(a=h):=λe=>f e.symm;have p:¬((h:Int)=(a:Int)):=zz;simp[o,p]
def vK(b:aC)(l:pK):∀(xs:List (Int×(Nat->Bool))) {L:List gM} {M:Int},Small L M->M+12*l.U.length*xs.length<=4611686018427387903->Small (lP b l L xs) (M+12*l.U.length*xs.length)/\∀(h n:Nat),h<l.U.length->n<12->assoc (lP b l L xs) ((h:Int),(n:Int))=assoc L ((h:Int),(n:Int))+(oP (λx=>oN b l x h n) xs:Int)
 | [],L,M,a,_=>by
  simp only[lP,List.foldl_nil,lA,Int.natCast_zero,Int.mul_zero,Int.add_zero];exact⟨a,λh n _ _=>by simp[oP]⟩
 | x::r,L,M,a,m=>by
  have i:(12:Int)*l.U.length*(x::r).length=12*l.U.length+12*l.U.length*r.length:=by
   rw[ed,Int.natCast_add,Int.natCast_one,Int.mul_add,Int.mul_one,Int.add_comm]
  have q:(0:Int)<=12*l.U.length*r.length:=Int.mul_nonneg zz zz;rw[i]at m|-;have f:(List.range' 0 l.U.length).length=l.U.length:=List.length_range';obtain⟨c,h2⟩:=vJ b l x (List.range' 0 l.U.length) a (by rw[f];omega);rw[f]at c;obtain⟨j,k⟩:=vK b l r c zz;have e:lP b l L (x::r)=lP b l (ku b l x L (List.range' 0 l.U.length)) r:=rfl;rw[e];refine⟨j.mono zz,λh n d g=>?_⟩;rw[k h n d g,h2 h n g];have o:(List.range' 0 l.U.length).count h=1:=by
   rw[List.Nodup.count (List.nodup_range' (step:=1))];simp[List.mem_range'_1,d]
  rw[o];cases p:oN b l x h n<;>simp[oP,List.filter_cons,p];omega
def LC{b:aC}{l:pK}(d:ay b l=0)(c:l.U.length<=1000)(h n:Nat)(f:h<l.U.length)(g:n<12):assoc (fN b l) ((h:Int),(n:Int))=(oP (λx=>oN b l x h n) (aJ b l b.D.toNat):Int):=by
 have i:=nL d;have a:(0:Int)+12*l.U.length*(aJ b l b.D.toNat).length<=4611686018427387903:=by
  have:12*l.U.length*(aJ b l b.D.toNat).length<=12*1000*1296:=Nat.mul_le_mul (Nat.mul_le_mul_left _ c) i;have e:(0:Int)+12*l.U.length*(aJ b l b.D.toNat).length=((12*l.U.length*(aJ b l b.D.toNat).length:Nat):Int):=by simp
  rw[e];exact Int.ofNat_le.2 (qO this dd)
 have:=(vK b l (aJ b l b.D.toNat) Small.nil a).2 h n f g;rw[fN,this];simp[assoc,dP]
end
abbrev Ct:Type:=(Int×Int)×Int
def ye(LL:List gM)(n:Int)(h k:Nat):Ct:=(((h:Int),(k:Int)),max (assoc LL ((h:Int),(k:Int))) (n-assoc LL ((h:Int),(k:Int))))
def DJ(LL:List gM)(n:Int)(h:Nat)(a:List Nat):List Ct:=a.map (ye LL n h)
def nM(LL:List gM)(n:Int)(S:Nat)(a:List Nat):List Ct:=a.flatMap λh=>DJ LL n h (List.range' 0 S)
def DK(b:aC)(l:pK):Ct:=iR Om ((-1, -1),(aJ b l b.D.toNat).length) (nM (fN b l) (aJ b l b.D.toNat).length b.S.toNat (List.range' 0 b.U.n))
def vL(b:aC)(l:pK):Int×Int×Int×Int:=
 if cP b l true=0 then((DK b l).1.1,(DK b l).1.2,(DK b l).2,0)else(0,0,0,cP b l true)
def yg(p:Int×Int×Int×Int)(w:H)(e:Ending)(w':H):Prop:=e=.returned (.tuple #[.int .i64 p.1,.int .i64 p.2.1,.int .i64 p.2.2.1,.int .i64 p.2.2.2])/\X w w w'
def Sv(x:Ct):List M:=[.int .i64 x.1.1,.int .i64 x.1.2,.int .i64 x.2]
def UX(L:List Ct):List M:=L.flatMap Sv
def DL(L:List Ct)(x:Ct):UX (L++[x])=UX L++Sv x:=by simp[UX]
def Jd:∀(L:List Ct) (d:Ct) (i j:Nat),i<L.length->j<3->(UX L)[i*3+j]?=(Sv (L.getD i d))[j]?
 | [],_,i,j,hi,_=>by simp at hi
 | x::r,d,0,j,_,b=>by
  have a:(Sv x).length=3:=rfl;simp only[UX,lv,Nat.zero_mul,kx,List.getD_cons_zero];exact List.getElem?_append_left (by rw[a];exact b)
 | x::r,d,i+1,j,hi,b=>by
  have a:(Sv x).length=3:=rfl;have c:=Jd r d i j (by simpa using hi) b;simp only[UX,lv,List.getD_cons_succ]at c|-;rw[List.getElem?_append_right (by rw[a];omega),a,show(i+1)*3+j-3=i*3+j by omega];exact c
def Z5:(F.info? 116).map (λi=>(i.zero,i.size,i.bytes))=Y (Y (.agg #[.int .i64 0,.int .i64 0,.int .i64 0]),3,24):=by kernel_rfl
def Je(x:Ct):∀u∈Sv x,u.oneCell'=true:=by
 intro u a;simp only[Sv,dq,fp,or_false]at a;rcases a with rfl|rfl|rfl<;>rfl
def UC(LL:List gM)(n:Int)(h:Nat){k S:Nat}(hk:k<S):DJ LL n h (List.range' k (S-k))=ye LL n h k::DJ LL n h (List.range' (k+1) (S-(k+1))):=by
 rw[show S-k=(S-(k+1))+1 by omega,List.range'_succ];rfl
def Gv(LL:List gM)(n:Int)(S:Nat){h U:Nat}(a:h<U):nM LL n S (List.range' h (U-h))=DJ LL n h (List.range' 0 S)++nM LL n S (List.range' (h+1) (U-(h+1))):=by
 rw[show U-h=(U-(h+1))+1 by omega,List.range'_succ];rfl
def Az(LL:List gM)(n:Int)(S:Nat)(b:List Nat):(nM LL n S b).length=b.length*S:=by
 induction b with
 | nil=>simp[nM]
 | cons a r c=>
  have:nM LL n S (a::r)=DJ LL n a (List.range' 0 S)++nM LL n S r:=rfl;rw[this,kl,c,ed,Nat.succ_mul];simp[DJ,Nat.add_comm]
theorem LF(b:aC)(l:pK)(w:H)(U:aI w b l)(d1:aD w)(h:cP b l true=0):
  PH F 25 #[b.v] w (yg (vL b l) w):=by
 have e9:=Hm U;have e7:=Hm d1;have e6:PQ (vL b l=((DK b l).1.1,(DK b l).1.2,(DK b l).2,0)):=by unfold vL;rw[PQ,qWB h]
 have f8:b.U.n<=1000:=by rw[U.U.1];exact U.U.2.2.1
 have a0:=Hm U.U.1;obtain⟨R, -, h3⟩:=Bt h;obtain⟨t1,t2,-⟩:=cS (bP R).1;have b2:1<=b.U.n/\b.U.n<=4:=by
  have d9:=(bP R).2.2.1;unfold fH at d9;split at d9
  .rename_i a5;have:=cq.1 a5;rw[a0.out];omega
  .omega
 obtain⟨b2,f6⟩:=b2;have a3:∀h k:Nat,h<b.U.n->(k:Int)<b.S->0<=assoc (fN b l) ((h:Int),(k:Int))/\assoc (fN b l) ((h:Int),(k:Int))<=(aJ b l b.D.toNat).length:=λh k a5 hk=>by
  rw[LC R (by rw[<- a0.out];exact f8) h k (by rw[<- a0.out];exact a5) zz];have:oP (λx=>oN b l x h k) (aJ b l b.D.toNat)<=(aJ b l b.D.toNat).length:=nn _ _;omega
 have P:=qp b l 36 #[] lT true (w.alloc (aE b 31)) (aq e9.out _) (ai e7.out _) (λ_=>gW b _) h;have g2:=nL R;have a8:PQ (DK b l=iR Om ((-1, -1),(aJ b l b.D.toNat).length) (nM (fN b l) (aJ b l b.D.toNat).length b.S.toNat (List.range' 0 b.U.n))):=rfl;unfold jo at P;generalize aJ b l b.D.toNat=d at P g2 a3 a8;generalize fN b l=LL at P a3 a8;have e5:=Hm a3;clear U d1 h R h3 a3;unfold aC.v aE uC at P;unfold aC.v;go_enter Tryz.func25,Tryz.ntmps25;go_wp2_with (go_at_call 32;refine P.mono ?_;rintro e m ⟨A,c,r,rfl,s,a6,i4,Q⟩;obtain⟨f9,f'⟩:=aU Q;have i9:w.heap.size<m.heap.size:=(by have:=Q.size;simp only[aa]at this;omega));have b':Gk (m.alloc (.cells (iG b ⟨A,d.length,c⟩ (Y r)) 80)) m b ⟨A,d.length,c⟩ (Y r):=Sp _ _;have c3:jm (m.alloc (.cells (iG b ⟨A,d.length,c⟩ (Y r)) 80)) r LL:=(QR _ _ (ec.1 a6).1).tn a6;have B1:X w w (m.alloc (.cells (iG b ⟨A,d.length,c⟩ (Y r)) 80)):=aP (di Q) (qN _) _;have b3:aK (m.alloc (.cells (iG b ⟨A,d.length,c⟩ (Y r)) 80)) w 31 b:=(QR _ _ zz).tn ((Q.block _ ss).tn (Sp _ _));have i5:r<m.heap.size:=(ec.1 a6).1;clear s a6 Q f9 f';change Ly.wp _ _ _ _ ((m.alloc (.cells (iG b ⟨A,d.length,c⟩ (Y r)) 80)).alloc (.cells #[.int .i64 (-1),.int .i64 (-1),.int .i64 d.length] 116));have a7:(m.alloc (.cells (iG b ⟨A,d.length,c⟩ (Y r)) 80)).heap.size=m.heap.size+1:=by simp
 generalize(m.alloc (.cells (iG b ⟨A,d.length,c⟩ (Y r)) 80))=N at b' c3 B1 b3 a7|-;have b0:=H.ownsRow_lit (w:=N) (base:=N.heap.size) (e:=116) (size:=3) #[.int .i64 (-1),.int .i64 (-1),.int .i64 d.length] 1 (qN _) (by unfold maxLen;omega) rfl;rw[a7]at b0;have e':=Hm b0;have G:=Hm a7;have e8:=Hm b';have e0:=Hm c3;have a9:=Hm B1;have e4:=Hm b3;obtain⟨J,t⟩:∃J:List Ct,J=((-1, -1),(d.length:Int))::nM LL d.length b.S.toNat (List.range' 0 b.U.n):=⟨_,rfl⟩;have g1:J.length<=49:=by
  rw[t,ed,Az,List.length_range'];have:b.U.n*b.S.toNat<=4*12:=Nat.mul_le_mul f6 zz;omega
 have f0:2<=J.length:=by
  rw[t,ed,Az,List.length_range'];have:1*1<=b.U.n*b.S.toNat:=Nat.mul_le_mul b2 zz;omega
 have c9:=Hm t;clear b' c3 B1 b3 b0 a7 t;obtain⟨i0,hi,d0,e1,e2⟩:=info_parts Z5;go_loopw [7,29] (λW v wr=>∃(h:Nat) (n:List Ct) (Z:Option Addr) (C:Nat),h<=b.U.n/\v=.int .i64 h/\W=.slice Z n.length C/\wr.ownsRow (m.heap.size+1) 116 3 W n.length (UX n)/\X N.heap.size N wr/\PQ (n++nM LL d.length b.S.toNat (List.range' h (b.U.n-h))=J)) (λ_ v _=>b.U.n-(intOf v).toNat)
 case atStart=>exact⟨0,[((-1, -1),(d.length:Int))],_,_,zz,rfl,rfl,e'.out,(X.refl _ _).alloc (qN _) _,c9.out.symm⟩
 case round=>
  obtain⟨h,n,Z,C,a5,rfl,rfl,s,o,b8⟩:=hrel;obtain⟨f,rfl⟩:∃f:H,f=wr:=⟨_,rfl⟩;have g8:=o.size;have i7:(m:Nat)+1<=f:=by rw[<- G.out];exact g8
  by_cases c1:h<b.U.n
  .have d':=Gv LL d.length b.S.toNat c1;have d2:aK f w 31 b:=(o.block _ (by rw[G.out];omega)).tn e4.out;have y0:=(aM d2).1;have f4:=Hm d';have O:=Hm o;have f1:=Hm s;clear d' d2 o s;go_wp2;clear y0;go_loopw [7,34] (λW v e3=>∃(k:Nat) (u:List Ct) (A2:Option Addr) (c2:Nat),(k:Int)<=b.S/\v=.int .i64 k/\W=.slice A2 u.length c2/\e3.ownsRow (m.heap.size+1) 116 3 W u.length (UX u)/\X N.heap.size N e3/\PQ (u++DJ LL d.length h (List.range' k (b.S.toNat-k))++nM LL d.length b.S.toNat (List.range' (h+1) (b.U.n-(h+1)))=J)) (λ_ v _=>b.S.toNat-(intOf v).toNat)
   case atStart=>exact⟨0,n,Z,C,zz,rfl,rfl,f1.out,O.out,by rw[PQ,ml,Nat.sub_zero,<- f4.out];exact b8.out⟩
   case round=>
    obtain⟨k,u,A2,c2,hk,rfl,rfl,s,o,T⟩:=hrel;obtain⟨K,rfl⟩:∃K:H,K=wr:=⟨_,rfl⟩;have c8:=o.size;have i8:(m:Nat)+1<=K:=by rw[<- G.out];exact c8
    by_cases g4:(k:Int)<b.S
    .have c5:=UC LL d.length h (k:=k) (S:=b.S.toNat) zz;have d8:u.length+1<=49:=by
      have:=cd List.length T.out;rw[c5]at this;simp only[kl,ed]at this;omega
     obtain⟨p1,p2⟩:=e5.out h k c1 g4;have g3:(Instr.lookup 78 (.map (Y r)) (.agg #[.int .i64 h,.int .i64 k]) false).run F K=.ok (.int .i64 (assoc LL (h,k))) K:=gd (L:=LL) ((o.block _ (by rw[G.out];omega)).tn e0.out) (h,k);obtain⟨z0,z1,z2,z3,z4,z5,z6,z7,z8,z9,g9,g0,h6,i',j1⟩:=gH ((o.block _ (by rw[G.out];omega)).tn e8.out);clear z0 z1 z2 z3 z4 z5 z6 z7 z8 z9 g9 g0 h6;have d3:ye LL d.length h k=(((h:Int),(k:Int)),max (assoc LL ((h:Int),(k:Int))) ((d.length:Int)-assoc LL ((h:Int),(k:Int)))):=rfl;have a':=Hm d3;have c':=Hm c5;have a1:=Hm o;have a2:=Hm s;generalize assoc LL ((h:Int),(k:Int))=a at p1 p2 g3 a';clear d3 c5 o;by_cases g5:a<(d.length:Int)-a
     .have g6:=g5;go_wp2_with (at_builtin;refine wpList_append_own _ rfl _ _ 117 rfl (m.heap.size+1) 116 i0 (.agg #[.int .i64 0,.int .i64 0,.int .i64 0]) 3 24 Tryz.underlying117 hi d0 e1 e2 rfl dd _ _ _ rfl (s.alloc _) ⟨K.heap.size,0,I⟩ 1 1 [.int .i64 h,.int .i64 k,.int .i64 ((d.length:Int)-a)] rfl rfl (nI _ _ _) (Je ((h,k),(d.length:Int)-a)) (by unfold maxLen;omega) zz so ?_;intro v' w3 V b7 g7);go_roundw
      case rel=>
       obtain⟨g',b1,rfl⟩:=ownsRow_succ V;have b5:ye LL d.length h k=(((h:Int),(k:Int)),(d.length:Int)-a):=by rw[a'.out];congr 1;rw[Int.max_def];split<;>omega
       refine⟨k+1,u++[ye LL d.length h k],Y ⟨g',0,I⟩,b1,zz,by go_num,by simp,?_,(a1.out.alloc c8 _).grown b7 so (λq E=>by rw[G.out];exact(a2.out.lt q E).1),?_⟩
       .rw[kl,DL,b5];exact V
       .have:=T.out;rw[c'.out]at this;rw[PQ,ml u,List.singleton_append];exact this
      case measure=>simp[intOf];omega
     .have g6:(d.length:Int)-a<=a:=zz;go_wp2_with (at_builtin;refine wpList_append_own _ rfl _ _ 117 rfl (m.heap.size+1) 116 i0 (.agg #[.int .i64 0,.int .i64 0,.int .i64 0]) 3 24 Tryz.underlying117 hi d0 e1 e2 rfl dd _ _ _ rfl (s.alloc _) ⟨K.heap.size,0,I⟩ 1 1 [.int .i64 h,.int .i64 k,.int .i64 (a)] rfl rfl (nI _ _ _) (Je ((h,k),a)) (by unfold maxLen;omega) zz so ?_;intro v' w3 V b7 g7);go_roundw
      case rel=>
       obtain⟨g',b1,rfl⟩:=ownsRow_succ V;have b5:ye LL d.length h k=(((h:Int),(k:Int)),a):=by rw[a'.out];congr 1;rw[Int.max_def];split<;>omega
       refine⟨k+1,u++[ye LL d.length h k],Y ⟨g',0,I⟩,b1,zz,by go_num,by simp,?_,(a1.out.alloc c8 _).grown b7 so (λq E=>by rw[G.out];exact(a2.out.lt q E).1),?_⟩
       .rw[kl,DL,b5];exact V
       .have:=T.out;rw[c'.out]at this;rw[PQ,ml u,List.singleton_append];exact this
      case measure=>simp[intOf];omega
    .have d6:b.S.toNat-k=0:=zz;have c4:=T.out;rw[d6]at c4;have f2:=Hm c4;have a1:=Hm o;have a2:=Hm s;clear d6 c4 T o s;go_wp2;go_roundw
     case rel=>
      refine⟨h+1,u,A2,c2,zz,by go_num,rfl,a2.out,a1.out,?_⟩;have:=f2.out;simp only[List.range'_zero,DJ,zM,List.append_nil]at this;exact this
     case measure=>simp[intOf];omega
  .have d5:h=b.U.n:=zz;have d7:n=J:=by
    have:=b8.out;rw[d5,Nat.sub_self]at this;simpa[nM]using this
   have t:=c9.out;rw[<- d7]at t f0 g1;obtain⟨g,rfl,i2⟩:∃g,Z=Y ⟨g,0,I⟩/\n.length<=C:=by
    rcases s.2 with⟨h1,h2⟩|⟨g,h8,h9,h1,h2,h3,h4,-⟩
    .omega
    .simp only[lL]at h1;exact⟨g,h1.1,zz⟩
   have E:∀(i j:Nat),i<n.length->j<3->f (g,i*3+j)=(Sv (n.getD i ((0,0),0)))[j]?:=λi j hi b9=>by
    rw[s.cellAt (i*3+j) zz,Jd n ((0,0),0) i j hi b9]
   have q0:f (g,0)=Y (.int .i64 (-1)):=by have:=E 0 0 zz zz;rw[t]at this;exact this
   have q1:f (g,1)=Y (.int .i64 (-1)):=by have:=E 0 1 zz zz;rw[t]at this;exact this
   have q2:f (g,2)=Y (.int .i64 d.length):=by have:=E 0 2 zz zz;rw[t]at this;exact this
   have a4:g<f.heap.size:=(s.lt g rfl).2;obtain⟨cs,b6⟩:∃cs:List Ct,cs=nM LL d.length b.S.toNat (List.range' 0 b.U.n):=⟨_,rfl⟩;rw[<- b6]at t;have d8:n.length=cs.length+1:=by rw[t];rfl
   have d4:∀w',X f f w'->Y5 w' ⟨Y (g,3),n.length-1,C-1⟩ cs ((0,0),0):=λw' B=>by
    refine⟨by show n.length-1=cs.length;omega,by show cs.length<=C-1;omega,?_,λ_=>⟨g,3,rfl,by have:=B.size;omega,λk hk=>?_⟩⟩
    .show cs.length<=1000;omega
    .have e:∀j,j<3->w' (g,3+k*3+j)=(Sv (cs.getD k ((0,0),0)))[j]?:=λj b9=>by
      rw[B.cell (p:=⟨g,_,I⟩) a4];have:=E (k+1) j zz b9;rw[t,List.getD_cons_succ,show(k+1)*3+j=3+k*3+j by omega]at this;exact this
     exact⟨e 0 zz,e 1 zz,e 2 zz⟩
   have b4:=λw' (B:X f.heap.size f w')=>Ss Om (λ_=>True) ((-1, -1),(d.length:Int)) ((0,0),0) ⟨Y ⟨g,3,I⟩,n.length-1,C-1⟩ cs w' (d4 w' B) qYB (λ_ _=>trivial) (λx y m _ _ _=>Oo x y m);obtain⟨z,c7⟩:∃z,iR Om ((-1, -1),(d.length:Int)) cs=z:=⟨_,rfl⟩;rw[c7]at b4;have f5:PQ (DK b l=z):=by rw[PQ,a8.out,<- b6];exact c7
   simp only at b4;have O:=Hm o;have f3:PQ (∀w',X f f w'->w' (g,0)=Y (.int .i64 (-1))/\w' (g,1)=Y (.int .i64 (-1))/\w' (g,2)=Y (.int .i64 d.length)/\g<w'.heap.size/\X f f w'):=λw' B=>⟨(B.cell (p:=⟨_,_,I⟩) a4).tn q0,(B.cell (p:=⟨_,_,I⟩) a4).tn q1,(B.cell (p:=⟨_,_,I⟩) a4).tn q2,by have:=B.size;omega,B⟩;have h':2<=C:=zz;have h3:(1:Int)<=(n.length:Int):=zz;have h4:¬(C=1):=zz;have h5:0<n.length:=zz;have i3:¬(h<b.U.n):=c1;clear E q0 q1 q2 d4 c7 b6 t o s b8 d7 d8 d5;go_wp2;obtain⟨r0,r1,r2,r3,-⟩:=f3.out f (X.refl _ _);go_region_with (go_at_call 58;(with_reducible refine(b4 _ bf).mono ?_);rintro e v1 ⟨rfl,c6⟩;obtain⟨h0,i1⟩:=aU c6;have h7:=c6.size;have k2:X f.heap.size f v1:=X.tn bf (c6.mono ss);(first|(have j2:f.heap.size<v1.heap.size:=(by simp only[aa,H.size_drew]at h7;omega))|skip))
   all_goals
    go_wp2;go_quiet ((fail));go_wp2;rw[e6.out,f5.out];refine bd (v:=.tuple #[.int .i64 z.1.1,.int .i64 z.1.2,.int .i64 z.2,.int .i64 0]) (by simp[results,Tryz.results25,go_sem]) rfl ⟨rfl,?_⟩;have i6:(w:Nat)<=f:=by have:=a9.out.size;have:=O.out.size;omega
    have B3:X w w v1:=a9.out.tn ((O.out.tn (k2.mono O.out.size)).mono a9.out.size);exact bt
def LG(b:aC)(l:pK)(w:H)(c:aI w b l)(a:aD w)(h:cP b l true=0:=by kernel_rfl):PH F 25 #[b.v] w (yg (vL b l) w):=LF b l w c a h
open Go.Shelf
section
attribute [local go_sem] Oper.semAt_some
def WE(b:aC)(l:pK):Option (Int×(Nat->Bool)):=(gT b l.C (b.S.toNat-l.C.length)).find? (fM b l)
def zV(b:aC)(l:pK):Int×Bool×Int:=
 if ay b l≠0 then(0,false,ay b l)else match WE b l with
  | some x=>((((ie x.2 12).length:Nat):Int),true,0)
  | none=>(0,false,0)
def Bv(p:Int×Bool×Int)(w:H)(e:Ending)(w':H):Prop:=e=.returned (.tuple #[.int .i64 p.1,.bool p.2.1,.int .i64 p.2.2])/\X w w w'
def yj(S:Int):∀(l:List Int) (p:Int),bS S (Y p) l=0-> -1<=p->p<S->(l.length:Int)<=S-1-p
 | [],p,_,_,_=>by simp;omega
 | n::r,p,h,c,h2=>by
  simp only[bS]at h;by_cases a:ax n 0 (S-1)=false
  .rw[qWB a]at h;omega
  .rw[qVB a]at h;by_cases b:decide (n<=p)=true
   .rw[qWB b]at h;omega
   .rw[qVB b]at h;have e:=cq.1 (by simpa using a);have:=yj S r n h zz zz;simp at b;simp only[ed];omega
def uO{S:Int}{l:List Int}(h:bS S I l=0)(b:0<=S):(l.length:Int)<=S:=by
 cases l with
 | nil=>simpa using b
 | cons n r=>
  simp only[bS]at h;by_cases a:ax n 0 (S-1)=false
  .rw[qWB a]at h;omega
  .rw[qVB a,qVB ss]at h;have e:=cq.1 (by simpa using a);have:=yj S r n h zz zz;simp only[ed];omega
def AA{w:H}{g:Nat}{t1 t2 t3:Lk}{v1 v2 v3:M}(a b c:M)(d:w.heap[g]?=Y (.cells #[v1] t1 (0,0)))(h2:w.heap[g+1]?=Y (.cells #[v2] t2 (0,0)))(e:w.heap[g+1+1]?=Y (.cells #[v3] t3 (0,0))):
  (((w.setCell (g,0) a).setCell (g+1,0) b).setCell (g+1+1,0) c).heap[g]?=Y (.cells #[a] t1 (0,0))/\
  (((w.setCell (g,0) a).setCell (g+1,0) b).setCell (g+1+1,0) c).heap[g+1]?=Y (.cells #[b] t2 (0,0))/\
  (((w.setCell (g,0) a).setCell (g+1,0) b).setCell (g+1+1,0) c).heap[g+1+1]?=Y (.cells #[c] t3 (0,0))/\
  (((w.setCell (g,0) a).setCell (g+1,0) b).setCell (g+1+1,0) c).heap.size=w.heap.size/\
  aS (λx=>x≠g/\x≠g+1/\x≠g+1+1) w (((w.setCell (g,0) a).setCell (g+1,0) b).setCell (g+1+1,0) c):=by
 refine⟨?_,?_,?_,by simp[H.setCell],(((aS.refl _ _).set (λ_ h=>h.1 rfl) _).set (λ_ h=>h.2.1 rfl) _).set (λ_ h=>h.2.2 rfl) _⟩
 .exact(X.heap_setCell _ _ _ _ (by show g≠g+1+1;omega)).tn ((X.heap_setCell _ _ _ _ (by show g≠g+1;omega)).tn (Boxed.set _ d))
 .exact(X.heap_setCell _ _ _ _ (by show g+1≠g+1+1;omega)).tn (Boxed.set _ ((X.heap_setCell _ _ _ _ (by show g+1≠g;omega)).tn h2))
 .exact Boxed.set _ ((X.heap_setCell _ _ _ _ (by show g+1+1≠g+1;omega)).tn ((X.heap_setCell _ _ _ _ (by show g+1+1≠g;omega)).tn e))
def SD{α:Type}{f:α->Bool}{pre xs:List α}{x:α}(b:pre++[x] <+: xs)(a:pre.find? f=I)(c:f x=true):xs.find? f=Y x:=by
 obtain⟨t,rfl⟩:=b;rw[ml,nh,a];simp[c]
theorem DY(b:aC)(l:pK)(w:H)(b7:aI w b l)(c4:aD w)(r:ay b l=0):
  PH F 24 #[b.v] w (Bv (zV b l) w):=by
 have P:=Hm b7;have d2:=Hm c4;have a8:=Hm r;have a4:=λa (q:aI a b l) (h2:aD a)=>cG b l a q h2;have a5:=λm a=>uK b m a;have c1:=Hm b7.C.1;obtain⟨t1,t2,t3,t4,t5,t6,t7,t8,t9,f9,e3⟩:=cS (bP r).1;have d4:(l.C.length:Int)<=b.S:=uO e3 zz;have e':(b.C.n:Int)<=b.S:=by rw[c1.out];exact d4
 have c9:(b.S-(b.C.n:Int))=((b.S.toNat-l.C.length:Nat):Int):=by rw[c1.out];omega
 have d3:=Hm c9;simp only[r]at a4;clear b7 c4 r c9;refine(callsIn_wide (n:=9)).1 ?_;refine callsIn_of_wp_marks Tryz.func24 rfl qYB ?_ rfl;unfold aC.v at a4 a5|-;unfold mJ aE at a5;simp only[Tryz.ntmps24,List.size_toArray,ed,lA,Nat.reduceAdd,Nat.reduceSub,zR]
 gi_wp2_with (first
  | (refine⟨qYB,?_⟩;gi_at_call 51;refine(callsIn_wide.2 (a4 _ (aq (aq (aq (aq P.out _) _) _) _) (ai (ai (ai (ai d2.out _) _) _) _))).mono ?_;rintro e a ⟨rfl,d⟩;obtain⟨b4,b5⟩:=aU d;have d1:w.heap.size+4<=a.heap.size:=(by have:=d.size;simp only[aa]at this;omega);have e0:w.heap.size<a.heap.size:=zz)
  | (refine⟨qYB,?_⟩;gi_at_call 57;refine(callsIn_wide.2 (a5 _ _)).mono ?_;rintro e v1 ⟨rfl,rfl⟩))
 have C:a.heap[w.heap.size+1]?=Y (.cells #[.int .i64 0] 3 (0,0)):=(d.block _ ss).tn ((QR _ _ ss).tn ((QR _ _ ss).tn (by rw[<- aa w (aE b 31)];exact Sp _ _)));have E:a.heap[w.heap.size+1+1]?=Y (.cells #[.bool false] 4 (0,0)):=(d.block _ ss).tn ((QR _ _ ss).tn (by rw[<- aa w (aE b 31),<- aa (w.alloc (aE b 31)) (.cells #[.int .i64 0] 3)];exact Sp _ _));have G:a.heap[w.heap.size+1+1+1]?=Y (.cells #[.int .i64 0] 34 (0,0)):=(d.block _ ss).tn (by rw[<- aa w (aE b 31),<- aa (w.alloc (aE b 31)) (.cells #[.int .i64 0] 3),<- aa ((w.alloc (aE b 31)).alloc (.cells #[.int .i64 0] 3)) (.cells #[.bool false] 4)];exact Sp _ _);have B1:X w w a:=(((((X.refl _ w).alloc (qN _) _).alloc ss _).alloc so _).alloc so _).tn (d.mono so);clear b4 b5 d a4 a5;rw[d3.out];have d':(((a.alloc (aE b 76)).alloc (aE b 76)).alloc (.cells #[.int .i64 ((b.S.toNat-l.C.length:Nat):Int)] 3)).heap.size=a.heap.size+3:=by simp only[aa]
 have S:=(((aS.refl (λ_=>True) a).alloc (aE b 76)).alloc (aE b 76)).alloc (.cells #[.int .i64 ((b.S.toNat-l.C.length:Nat):Int)] 3);have c2:(((a.alloc (aE b 76)).alloc (aE b 76)).alloc (.cells #[.int .i64 ((b.S.toNat-l.C.length:Nat):Int)] 3)).heap[a.heap.size]?=Y (aE b 76):=
  (QR _ _ (by simp only[aa];omega)).tn ((QR _ _ (by simp only[aa];omega)).tn (Sp _ _))
 have c3:(((a.alloc (aE b 76)).alloc (aE b 76)).alloc (.cells #[.int .i64 ((b.S.toNat-l.C.length:Nat):Int)] 3)).heap[a.heap.size+1]?=Y (aE b 76):=
  (QR _ _ (by simp only[aa];omega)).tn (by rw[<- aa a (aE b 76)];exact Sp _ _)
 have c7:(((a.alloc (aE b 76)).alloc (aE b 76)).alloc (.cells #[.int .i64 ((b.S.toNat-l.C.length:Nat):Int)] 3)).heap[a.heap.size+1+1]?=Y (.cells #[.int .i64 ((b.S.toNat-l.C.length:Nat):Int)] 3 (0,0)):=by
  rw[<- aa a (aE b 76),<- aa (a.alloc (aE b 76)) (aE b 76)];exact Sp _ _
 change Ly.wpIn _ _ _ _ _ _ (((a.alloc (aE b 76)).alloc (aE b 76)).alloc (.cells #[.int .i64 ((b.S.toNat-l.C.length:Nat):Int)] 3));generalize(((a.alloc (aE b 76)).alloc (aE b 76)).alloc (.cells #[.int .i64 ((b.S.toNat-l.C.length:Nat):Int)] 3))=w4 at d' S c2 c3 c7|-;replace C:=S.get qYB C;replace E:=S.get qYB E;replace G:=S.get qYB G;have Q:X w w w4:=B1.tn (S.below B1.size (λ_ _=>trivial));obtain⟨z,c6⟩:∃z:Nat->Prop,z=λx=>x=w.heap.size+1\/x=w.heap.size+1+1\/x=w.heap.size+1+1+1:=⟨_,rfl⟩;have u:∀x,z x↔(x=w.heap.size+1\/x=w.heap.size+1+1\/x=w.heap.size+1+1+1):=λx=>by rw[c6]
 clear c6;refine qg (R:=Le b l.C (a.heap.size+1) (a.heap.size+1+1)) (xs:=gT b l.C (b.S.toNat-l.C.length)) (encs:=su) rfl (enters_of Tryz.func82 kr rfl)
  (sP b t7 t9 t8 zz t2 l.C (a.heap.size+1) (a.heap.size+1+1) (b.S.toNat-l.C.length) zz w4 c3 (P.out.C.below Q) c7) (λ_=>rfl)
  z ?rk ?rl (λx f=>by rw[u]at f;omega)
  (λK J W=>K=z/\X w4.heap.size w4 W/\PQ (J.find? (fM b l)=I))
  (λK J W=>K=z/\X w.heap.size w W/\∃x,PQ (WE b l=Y x)/\W.heap[w.heap.size+1]?=Y (.cells #[.int .i64 ((ie x.2 12).length:Nat)] 3 (0,0))/\W.heap[w.heap.size+1+1]?=Y (.cells #[.bool true] 4 (0,0))/\W.heap[w.heap.size+1+1+1]?=Y (.cells #[.int .i64 0] 34 (0,0)))
  ?li ?lx ⟨rfl,X.refl _ _,rfl⟩ 91 zC
  (λx a7=> {tmps:= #[b.v,.pointer (Y ⟨w.heap.size,0,I⟩),.pointer (Y ⟨w.heap.size+1,0,I⟩),.pointer (Y ⟨w.heap.size+1+1,0,I⟩),.pointer (Y ⟨w.heap.size+1+1+1,0,I⟩),.int .i64 0,.pointer (Y ⟨a.heap.size,0,I⟩),.pointer (Y ⟨a7,0,I⟩),b.v,.int .i64 0,.int .i64 0,.bool false,Hc,b.v,b.v,b.v,.pointer (Y ⟨w.heap.size,0,I⟩),.int .i64 b.S,.pointer (Y ⟨w.heap.size,5,I⟩),.slice b.C.A b.C.n b.C.c,.int .i64 b.C.n,.int .i64 ((b.S.toNat-l.C.length:Nat):Int),mJ (a.heap.size+1) (a.heap.size+1+1),gN x.1 x.2,Hc,Hc,Hc,Hc,Hc,Hc,Hc],defers:=[]})
  ?assign ?body ?done ?stop
 case rk=>
  rintro x (rfl|rfl|f) h
  .rw[u]at h;omega
  .rw[u]at h;omega
  .have:=I4.lt P.out.C f;rw[u]at h;omega
 case rl=>
  rintro x (rfl|rfl|f)
  .omega
  .omega
  .have:=I4.lt P.out.C f;omega
 case li=>
  rintro K J A B ⟨rfl,q,h2⟩ c' hk;exact⟨rfl,q.tn (hk.below c' (λx f=>.inr f)),h2⟩
 case lx=>
  rintro K J A B ⟨rfl,q,x,h2,h3,h4,h5⟩ c' hk;exact⟨rfl,q.tn (hk.below zz (λx f=>.inr zz)),x,h2,hk.get (.inr zz) h3,hk.get (.inr zz) h4,hk.get (.inr zz) h5⟩
 case assign=>
  intro a6 x W e6 s;unfold aC.v mJ gN zC at s;unfold su gN;gi_wp2;exact s
 case body=>
  rintro a6 K J x W a7 ⟨rfl,g,T⟩ b9 e9 a' c5;have d8:x∈gT b l.C (b.S.toNat-l.C.length):=by
   obtain⟨t,d9⟩:=b9;rw[<- d9];simp
  obtain⟨e1,e2⟩:=qn d8;obtain⟨y0,y1,y2,y3,y4,y5,y6,y7,y8,y9,f',f0,g1⟩:=aM ((g.block _ zz).tn c2);have b':=Gd a';have e7:=b'.lt;obtain⟨s0,s1,s2,s3,s4,s5,s6,s7,s8,s9,f5,f6,f8⟩:=b'.all;have a0:X w w W:=Q.tn (g.mono Q.size);have d0:=g.size;cases r:fM b l x
  all_goals
   have U:=Ge a8.out e1 e2 r W (P.out.below a0);have HR:=Hm r;have v:=Hm g;have b0:=Hm a0;have e4:=Hm a';have e5:=Hm c5;clear r g a0 a' c5 b';unfold aC.v gN at U;unfold aC.v mJ gN
  .gi_wp2_with (refine⟨qYB,?_⟩;gi_at_call 50;refine CallsIn.mono (CallsIn.inRound a6 (callsIn_wide.2 U)) ?_;clear U;rintro e v1 ⟨rfl,d⟩;obtain⟨b4,b5⟩:=aU d);have d1:=d.size;exact⟨_,λy p=>⟨by rw[u]at p;omega,.inl p⟩,aS.dY d (λ_ h _=>h),rfl,v.out.tn (d.mono d0),by
    rw[PQ,nh,T.out];simp[HR.out]⟩
  .have b8:=λa=>xQ x.2 a;have j:=(v.out.block _ zz).tn C;have k:=(v.out.block _ zz).tn E;have o:=(v.out.block _ zz).tn G;have L:=Hm j;have N:=Hm k;have O:=Hm o;clear j k o C E G;unfold tJ at b8
   gi_wp2_with (first
    | (refine⟨qYB,?_⟩;gi_at_call 50;refine CallsIn.mono (CallsIn.inRound a6 (callsIn_wide.2 U)) ?_;clear U;rintro e v1 ⟨rfl,d⟩;obtain⟨b4,b5⟩:=aU d;have d1:=d.size;have e8:a7<v1.heap.size:=zz)
    | (refine⟨qYB,?_⟩;gi_at_call 48;refine CallsIn.mono (CallsIn.inRound a6 (callsIn_wide.2 (b8 _))) ?_;clear b8;rintro e Z ⟨A,c,rfl, -, i⟩;have f4:=i.size;have a1:=one_cell ((i.block (w.heap.size+1) zz).tn ((d.block _ zz).tn L.out));have a2:=one_cell ((i.block (w.heap.size+1+1) zz).tn ((d.block _ zz).tn N.out));have a3:=one_cell ((i.block (w.heap.size+1+1+1) zz).tn ((d.block _ zz).tn O.out));have f1:Z.frozen? ⟨w.heap.size+1,0,I⟩=false:=(by simp[H.frozen?,(i.block (w.heap.size+1) zz).tn ((d.block _ zz).tn L.out)]);have f2:Z.frozen? ⟨w.heap.size+1+1,0,I⟩=false:=(by simp[H.frozen?,(i.block (w.heap.size+1+1) zz).tn ((d.block _ zz).tn N.out)]);have f3:Z.frozen? ⟨w.heap.size+1+1+1,0,I⟩=false:=(by simp[H.frozen?,(i.block (w.heap.size+1+1+1) zz).tn ((d.block _ zz).tn O.out)]);have l1:w.heap.size+1+1+1<Z.heap.size:=zz))
   have G1:=(i.block (w.heap.size+1) zz).tn ((d.block _ zz).tn L.out);have G2:=(i.block (w.heap.size+1+1) zz).tn ((d.block _ zz).tn N.out);have G3:=(i.block (w.heap.size+1+1+1) zz).tn ((d.block _ zz).tn O.out);obtain⟨q1,q2,q3,q4,V⟩:=AA (.int .i64 ((ie x.2 12).length:Nat)) (.bool true) (.int .i64 0) G1 G2 G3;have c8:aS (λ_=>True) W Z:=(aS.dY d (λ_ h _=>h)).tn (aS.dY i (λ_ h _=>h));refine⟨_,λy p=>⟨by rw[q4];rw[u]at p;omega,.inl p⟩,(c8.mono (K':=λy=>¬K y) (λ_ _ _=>trivial)).tn' V (λy _ p=>by rw[u]at p;omega),rfl,?_,x,SD b9 T.out HR.out,q1,q2,q3⟩
   .exact b0.out.tn (((c8.below (n:=w.heap.size) b0.out.size (λ_ _=>trivial))).tn (V.below zz (λy p=>zz)))
 case done=>
  rintro D K W d5 d7 ⟨rfl,g,T⟩ s;have j:=(g.block _ zz).tn C;have k:=(g.block _ zz).tn E;have o:=(g.block _ zz).tn G;have a1:=one_cell j;have a2:=one_cell k;have a3:=one_cell o;have f1:W.frozen? (w.heap.size+1,0)=false:=by simp[H.frozen?,j]
  have f2:W.frozen? (w.heap.size+1+1,0)=false:=by simp[H.frozen?,k]
  have f3:W.frozen? (w.heap.size+1+1+1,0)=false:=by simp[H.frozen?,o]
  have l1:(w:Nat)+1+1+1<W:=zz;have L:=Hm j;have N:=Hm k;have O:=Hm o;have v:=Hm g;have HK:=Hm s;have a9:PQ (zV b l=(0,false,0)):=by
   have:WE b l=I:=T.out;unfold zV;rw[PQ,qVB (by simp[a8.out]),this]
  clear j k o g s T C E G;gi_wp2;obtain⟨q1,q2,q3,q4,V⟩:=AA (.int .i64 0) (.bool false) (.int .i64 0) L.out N.out O.out;have b6:∀x,x≠D->(((((W.setCell (w.heap.size+1,0) (.int .i64 0)).setCell (w.heap.size+1+1,0) (.bool false)).setCell (w.heap.size+1+1+1,0) (.int .i64 0)).putObj D (.deferred I)).heap[x]?=(((W.setCell (w.heap.size+1,0) (.int .i64 0)).setCell (w.heap.size+1+1,0) (.bool false)).setCell (w.heap.size+1+1+1,0) (.int .i64 0)).heap[x]?):=λx f=>H.putObj_heap_other f;have b1:=one_cell ((b6 _ zz).tn q1);have b2:=one_cell ((b6 _ zz).tn q2);have b3:=one_cell ((b6 _ zz).tn q3);have d6:=V.get (b:=D) ⟨zz,zz,zz⟩ HK.out;refine⟨by simp,.inl ⟨_,_,rfl,run_takeDeferred d6,?_⟩⟩;refine⟨.tuple #[.int .i64 0,.bool false,.int .i64 0],by simp[results,Tryz.results24,go_sem,b1,b2,b3],by rw[a9.out],?_⟩;have q:X w w _:=(Q.tn (v.out.mono Q.size)).tn (V.below (n:=w.heap.size) zz (λy p=>zz));exact q.tn (((aS.refl (λx=>x≠D) _).put (λ_ h=>h rfl) _).below (n:=w.heap.size) q.size (λx f=>zz))
 case stop=>
  rintro D K J W d5 d7 b9 ⟨rfl,g,x,f,j,k,o⟩ s;have a9:PQ (zV b l=((((ie x.2 12).length:Nat):Int),true,0)):=by
   unfold zV;rw[PQ,qVB (by simp[a8.out]),f.out]
  clear f;gi_wp2;have b1:=one_cell (w:=W.putObj D (.deferred I)) ((H.putObj_heap_other zz).tn j);have b2:=one_cell (w:=W.putObj D (.deferred I)) ((H.putObj_heap_other zz).tn k);have b3:=one_cell (w:=W.putObj D (.deferred I)) ((H.putObj_heap_other zz).tn o);refine⟨by simp,.inl ⟨_,_,rfl,run_takeDeferred s,?_⟩⟩;refine⟨.tuple #[.int .i64 ((ie x.2 12).length:Nat),.bool true,.int .i64 0],by simp[results,Tryz.results24,go_sem,b1,b2,b3],by rw[a9.out],?_⟩;exact g.tn (((aS.refl (λx=>x≠D) _).put (λ_ h=>h rfl) _).below (n:=w.heap.size) g.size (λx f=>zz))
def DZ(b:aC)(l:pK)(w:H)(c:aI w b l)(a:aD w)(h:ay b l=0:=by kernel_rfl):
  PH F 24 #[b.v] w (Bv (zV b l) w):=DY b l w c a h
end
end Go.Proofs.YtfdbdkhgaajdoaaGreatDoor
