import Derived.Test.YtimmnfbjckbneaaGreatDoorChecked
import Derived.WalkKit
import Derived.RangeFuncNested
import Derived.RangeFuncBound
import Derived.RangeFuncCalls
import Derived.RangeFuncLeaves
import Derived.Shelf.Abstract
import Derived.OwnWalkIn
import Derived.TacticsInMore
import Derived.LoopNIn
import Derived.LoopIn
import Derived.Outline
import Derived.Sort.CutIn
import Derived.Laws.EntriesVeiled
import Derived.Maps.AppendAt
import Derived.MapKept
import Derived.RegionTactic
import Derived.BigRegion
import Derived.StillTailTactics
import Derived.BigQuiet
import Derived.WalkMore
import Derived.Deep.RegionHeld3
import Derived.Test.YtimmnfbjckbneaaGreatDoorZd
set_option maxRecDepth 100000
set_option maxHeartbeats 4000000
set_option linter.all false
noncomputable section
open Go renaming undef->D,World->H,undef->Hc,execOp->Hn,Oper->Kp,TypeId->Lk,Code->Ly,Value->M,Calls->PH,Program->Ps,heap_alloc_old->QR,heap_alloc_new->Sp,resolve->ab,Operand->ae,FuncId->ba,bodyPost_ret->bd
open Go.Proofs.Tryz renaming prog->F
open Go.Lib renaming hid->Hm
open Option renaming none->I,some->Y
open Go.RowKit renaming Hid->PQ,Below->X
namespace Go
def pa{p:Prop}(h:p:=by
 have a4:=Hm W;have b8:=Hm V;obtain⟨A,c7,c⟩:=s;obtain⟨rfl,b9,b0,a'⟩:=a5;have b7:=Hm a';first|have _:=ø;have b1:∀(args:Array M) (w:H),(callFunc 58 args).run F w=.ok (.enter 58 args) w:=enters_of Tryz.func58 kr rfl|have _:=å;have b1:∀(args:Array M) (w:H),(callFunc 75 args).run F w=.ok (.enter 75 args) w:=enters_of Tryz.func75 kr rfl|have b1:∀(args:Array M) (w:H),(callFunc 61 args).run F w=.ok (.enter 61 args) w:=enters_of Tryz.func61 kr rfl
 clear a' W V;simp only at b9|-;first|have _:=ø;go_enter Tryz.func57,Tryz.ntmps57;go_wp2;go_loopw [11] (λv wr=>∃(k:Nat) (a:Int×Int),k<=L.length/\v=.int .i64 k/\P a/\wr.heap[w.heap.size]?=Y (.cells #[.int .i64 a.1,.int .i64 a.2] 112 (0,0))/\wr.heap[w.heap.size+1]?=Y (.cells #[.int .i64 0,.int .i64 0] 112 (0,0))/\X w.heap.size w wr/\PQ (dR b a (L.drop k)=dR b one L)) (λv _=>L.length-(intOf v).toNat)|have _:=å;go_enter Tryz.func74,Tryz.ntmps74;go_wp2;go_loopw [11] (λv wr=>∃(k:Nat) (a:Sl×Int),k<=L.length/\v=.int .i64 k/\P a/\wr.heap[w.heap.size]?=Y (.cells #[.slice a.1.A a.1.n a.1.c,.int .i64 a.2] 143 (0,0))/\wr.heap[w.heap.size+1]?=Y (.cells #[.slice I 0 0,.int .i64 0] 143 (0,0))/\X w.heap.size w wr/\PQ (dG b a (L.drop k)=dG b one L)) (λv _=>L.length-(intOf v).toNat)|go_enter Tryz.func60,Tryz.ntmps60;go_wp2;go_loopw [11] (λv wr=>∃(k:Nat) (a:(Int×Int)×Int),k<=L.length/\v=.int .i64 k/\P a/\wr.heap[w.heap.size]?=Y (.cells #[.int .i64 a.1.1,.int .i64 a.1.2,.int .i64 a.2] 119 (0,0))/\wr.heap[w.heap.size+1]?=Y (.cells #[.int .i64 0,.int .i64 0,.int .i64 0] 119 (0,0))/\X w.heap.size w wr/\PQ (iR b a (L.drop k)=iR b one L)) (λv _=>L.length-(intOf v).toNat)
 case atStart=>
  refine⟨0,one,fi _,rfl,a6,(QR _ _ ss).tn (Sp _ _),?_,((X.refl _ _).alloc (dj _) _).alloc ss _,rfl⟩;first|have _:=ø;rw[<- aa w (.cells #[.int .i64 one.1,.int .i64 one.2] 112)]|have _:=å;rw[<- aa w (.cells #[.slice one.1.A one.1.n one.1.c,.int .i64 one.2] 143)]|rw[<- aa w (.cells #[.int .i64 one.1.1,.int .i64 one.1.2,.int .i64 one.2] 119)]
  exact Sp _ _
 case round=>
  obtain⟨k,a,hk,rfl,Z,n,q,m,N⟩:=hrel;have c3:=m.size;have b5:=(du.1 n).1;have b6:=(du.1 q).1;by_cases a1:k<L.length
  .obtain⟨x,a3⟩:∃x,L.getD k d=x:=⟨_,rfl⟩;have b':x∈L:=by rw[<- a3];simp[List.getD,fg a1]
   have a0:L.drop k=x::L.drop (k+1):=by
    rw[lL a1,<- a3];simp[List.getD,fg a1]
   obtain⟨i,off,rfl,B,K⟩:=b7.out zz;have K:=K k a1;rw[a3]at K;first|have _:=ø;obtain⟨C,E⟩:=K;have c0:wr.cell? ⟨i,off+k*2,I⟩=Y (.int .i64 x.1):=(m.cell (p:=⟨i,_,I⟩) B).tn C;have c1:wr.cell? ⟨i,off+k*2+1,I⟩=Y (.int .i64 x.2):=(m.cell (p:=⟨i,_,I⟩) B).tn E|have _:=å;obtain⟨C,E⟩:=K;have c0:wr.cell? ⟨i,off+k*2,I⟩=Y (.slice x.1.A x.1.n x.1.c):=(m.cell (p:=⟨i,_,I⟩) B).tn C;have c1:wr.cell? ⟨i,off+k*2+1,I⟩=Y (.int .i64 x.2):=(m.cell (p:=⟨i,_,I⟩) B).tn E|obtain⟨C,E,p2⟩:=K;have c0:wr.cell? ⟨i,off+k*3,I⟩=Y (.int .i64 x.1.1):=(m.cell (p:=⟨i,_,I⟩) B).tn C;have c1:wr.cell? ⟨i,off+k*3+1,I⟩=Y (.int .i64 x.1.2):=(m.cell (p:=⟨i,_,I⟩) B).tn E;have c2:wr.cell? ⟨i,off+k*3+2,I⟩=Y (.int .i64 x.2):=(m.cell (p:=⟨i,_,I⟩) B).tn p2
   have c4:i<wr.heap.size:=zz;first|have _:=æ;clear C E p2|clear C E
   have a2:=b8.out x b';first|have _:=ø;have u:=λf (Q:X w.heap.size w f)=>a4.out x a f Q a2 Z;obtain⟨S,T⟩:=tT n|have _:=å;have u:=λf (Q:X w.heap.size w f)=>a4.out x a f Q a2 Z;obtain⟨S,T⟩:=tW n|have u:=λf (Q:X w.heap.size w f)=>a4.out x a f Q a2 Z;obtain⟨S,T,o2⟩:=tU n
   have c5:∀j,wr.frozen? ⟨w.heap.size,j,I⟩=false:=λj=>by simp[H.frozen?,n]
   have a8:=Hm n;have G:=Hm q;have J:=Hm a0;have l:=Hm m;clear n q a0 m a3;cases o:b x a
   first
   |have _:=ø
    all_goals
     rw[o]at u;have t:=Hm o;clear o;go_wp2_with (go_at_call 58;refine(u _ (aP l.out (dj _) _)).mono ?_;rintro e z ⟨rfl,g⟩;obtain⟨a9,b2⟩:=aU g;have b3:wr.heap.size<z.heap.size:=(by have:=g.size;simp only[aa]at this;omega);have b4:w.heap.size<z.heap.size:=zz)
   |have _:=å
    all_goals
     rw[o]at u;have t:=Hm o;clear o;go_wp2_with (go_at_call 75;refine(u _ (aP l.out (dj _) _)).mono ?_;rintro e z ⟨rfl,g⟩;obtain⟨a9,b2⟩:=aU g;have b3:wr.heap.size<z.heap.size:=(by have:=g.size;simp only[aa]at this;omega);have b4:w.heap.size<z.heap.size:=zz)
   |all_goals
     rw[o]at u;have t:=Hm o;clear o;go_wp2_with (go_at_call 61;refine(u _ (aP l.out (dj _) _)).mono ?_;rintro e z ⟨rfl,g⟩;obtain⟨a9,b2⟩:=aU g;have b3:wr.heap.size<z.heap.size:=(by have:=g.size;simp only[aa]at this;omega);have b4:w.heap.size<z.heap.size:=zz)
   .go_roundw
    case rel=>
     refine⟨k+1,a,zz,by go_num,Z,(g.block _ so).tn ((QR _ _ b5).tn a8.out),(g.block _ so).tn ((QR _ _ b6).tn G.out),(aP l.out (dj _) _).tn (g.mono so),?_⟩;first|have _:=ø;have e:dR b a (L.drop k)=dR b a (L.drop (k+1)):=by rw[J.out];simp[dR,t.out]|have _:=å;have e:dG b a (L.drop k)=dG b a (L.drop (k+1)):=by rw[J.out];simp[dG,t.out]|have e:iR b a (L.drop k)=iR b a (L.drop (k+1)):=by rw[J.out];simp[iR,t.out]
     rw[PQ,<- e];exact N.out
    case measure=>simp[intOf];omega
   .have g1:=(g.block w.heap.size so).tn ((QR _ _ b5).tn a8.out);have g2:=(g.block (w.heap.size+1) so).tn ((QR _ _ b6).tn G.out);first|have _:=ø;obtain⟨r,m2⟩:=Gs (.int .i64 x.1) (.int .i64 x.2) g1;have U:=(aP l.out (dj _) (.cells #[.int .i64 x.1,.int .i64 x.2] 112)).tn (g.mono so)|have _:=å;obtain⟨r,m2⟩:=Gt (.slice x.1.A x.1.n x.1.c) (.int .i64 x.2) g1;have U:=(aP l.out (dj _) (.cells #[.slice x.1.A x.1.n x.1.c,.int .i64 x.2] 143)).tn (g.mono so)|obtain⟨r,m2⟩:=Ol (.int .i64 x.1.1) (.int .i64 x.1.2) (.int .i64 x.2) g1;have U:=(aP l.out (dj _) (.cells #[.int .i64 x.1.1,.int .i64 x.1.2,.int .i64 x.2] 119)).tn (g.mono so)
    go_roundw
    case rel=>
     refine⟨k+1,x,zz,by go_num,a2,r,m2.get zz g2,U.tn (m2.below U.size (λy a7=>zz)),?_⟩;first|have _:=ø;have e:dR b a (L.drop k)=dR b x (L.drop (k+1)):=by rw[J.out];simp[dR,t.out]|have _:=å;have e:dG b a (L.drop k)=dG b x (L.drop (k+1)):=by rw[J.out];simp[dG,t.out]|have e:iR b a (L.drop k)=iR b x (L.drop (k+1)):=by rw[J.out];simp[iR,t.out]
     rw[PQ,<- e];exact N.out
    case measure=>simp[intOf];omega
  .obtain rfl:k=L.length:=zz
   first
   |have _:=ø
    have e1:a=dR b one L:=by
     have:=N.out;rw[lv (dj _)]at this;exact this
    have O:=Hm e1;obtain⟨S,T⟩:=tT n;obtain⟨r0,r1⟩:=tT q
   |have _:=å
    have e1:a=dG b one L:=by
     have:=N.out;rw[lv (dj _)]at this;exact this
    have O:=Hm e1;obtain⟨S,T⟩:=tW n;obtain⟨r0,r1⟩:=tW q
   |have e1:a=iR b one L:=by
     have:=N.out;rw[lv (dj _)]at this;exact this
    have O:=Hm e1;obtain⟨S,T,o2⟩:=tU n;obtain⟨r0,r1,r2⟩:=tU q
   have c6:∀j,wr.frozen? ⟨w.heap.size+1,j,I⟩=false:=λj=>by simp[H.frozen?,q]
   have G:=Hm q;have l:=Hm m;clear e1 n q m N;go_wp2;first|have _:=ø;obtain⟨r,m2⟩:=Gs (.int .i64 a.1) (.int .i64 a.2) G.out;obtain⟨R,n1⟩:=tT r;rw[<- O.out];refine bd (v:=.agg #[.int .i64 a.1,.int .i64 a.2]) ?_ rfl ⟨rfl,l.out.tn (m2.below l.out.size (λy a7=>zz))⟩;simp[results,Tryz.results57,go_sem,R,n1]|have _:=å;obtain⟨r,m2⟩:=Gt (.slice a.1.A a.1.n a.1.c) (.int .i64 a.2) G.out;obtain⟨R,n1⟩:=tW r;rw[<- O.out];refine bd (v:=.agg #[.slice a.1.A a.1.n a.1.c,.int .i64 a.2]) ?_ rfl ⟨rfl,l.out.tn (m2.below l.out.size (λy a7=>zz))⟩;simp[results,Tryz.results74,go_sem,R,n1]|obtain⟨r,m2⟩:=Ol (.int .i64 a.1.1) (.int .i64 a.1.2) (.int .i64 a.2) G.out;obtain⟨R,n1,n2⟩:=tU r;rw[<- O.out];refine bd (v:=.agg #[.int .i64 a.1.1,.int .i64 a.1.2,.int .i64 a.2]) ?_ rfl ⟨rfl,l.out.tn (m2.below l.out.size (λy a7=>zz))⟩;simp[results,Tryz.results60,go_sem,R,n1,n2]):p:=h
def pb{p:Prop}(h:p:=by
 have b6:=Hm a1;have g3:=Hm b7
 first
 |revert ø;intro ø
  have a7:PQ (vH b l step=(lY (oP (λx=>x.2 step.toNat) (aJ b l b.D.toNat)) (aJ b l b.D.toNat).length,0)):=by unfold vH;rw[PQ,dE h]
  obtain⟨E,h2,h3⟩:=Bt h;obtain⟨t1,t2,-⟩:=cS (bP E).1;have i6:=λd (E:aI d b l) (h2:aD d) (sb0x:Nat) (O8:d.cell? ⟨sb0x,0,I⟩=Y (.int .i64 step)) (l0:sb0x<d.heap.size)=>qp b l 50 #[.pointer (Y ⟨sb0x,0,I⟩)] Dw (ax step 0 (b.S-1)) d E h2 (λV=>Ay b zz zz step sb0x d O8 l0) h;have d8:=nL E;have g0:0<(aJ b l b.D.toNat).length:=List.length_pos_iff.2 h3;obtain⟨f1,f2⟩:=cq.1 h2;obtain⟨p,rfl⟩:∃p:Nat,step=(p:Int):=⟨step.toNat,zz⟩;have g9:p<12:=zz;simp only[qNB]at a7;unfold jo at i6;generalize aJ b l b.D.toNat=SS at i6 a7 d8 g0;have E':=λ(s:Sl) (m:Option Nat) (n:Int) w'=>xZ b s m n w';clear a1 b7 h E h2 h3 f1 f2 t1 t2;unfold aC.v uC at i6;unfold uC at E';unfold aC.v;go_enter Tryz.func17,Tryz.ntmps17;go_wp2_with (go_at_call 46;refine(i6 _ (aq (aq b6.out _) _) (ai (ai g3.out _) _) (w.heap.size+1) (by rw[<- aa w (aE b 31)];exact one_cell (Sp _ _)) ss).mono ?_;rintro e d ⟨A,c,r,rfl,u,a9,d4,N⟩);obtain⟨g,rfl⟩:∃g,A=Y ⟨g,0,I⟩:=by
   rcases u.2 with⟨E,h2⟩|⟨g,cap,g5,E,-⟩
   .omega
   .simp only[lA]at E;exact⟨g,E.1⟩
  have b0:Gk (d.alloc (.cells (iG b ⟨Y (g,0),SS.length,c⟩ (Y r)) 101)) d b ⟨Y (g,0),SS.length,c⟩ (Y r):=Sp _ _;have d1:=u.alloc (.cells (iG b ⟨Y ⟨g,0,I⟩,SS.length,c⟩ (Y r)) 101);have B1:X w w (d.alloc (.cells (iG b ⟨Y (g,0),SS.length,c⟩ (Y r)) 101)):=aP (cB N) (dj _) _;have g6:(d.alloc (.cells (iG b ⟨Y (g,0),SS.length,c⟩ (Y r)) 101)).heap[w.heap.size+1]?=Y (.cells #[.int .i64 p] 3 (0,0)):=(QR _ _ (by have:=N.size;simp only[aa]at this;omega)).tn ((N.block _ ss).tn (by rw[<- aa w (aE b 31)];exact Sp _ _));have a3:(w:Nat)+1<d:=by have:=N.size;simp only[aa]at this;omega
  clear u a9 N i6;change Ly.wp _ _ _ _ (d.alloc (.cells (iG b ⟨Y ⟨g,0,I⟩,SS.length,c⟩ (Y r)) 101));have a0:d.heap.size<(d.alloc (.cells (iG b ⟨Y (g,0),SS.length,c⟩ (Y r)) 101)).heap.size:=by simp
  generalize(d.alloc (.cells (iG b ⟨Y ⟨g,0,I⟩,SS.length,c⟩ (Y r)) 101))=R at b0 d1 B1 g6 a0|-;have i1:=Hm b0;have i2:=Hm d1;have a':=Hm B1;have J2:=Hm g6;clear b0 d1 B1 g6;go_loopw [8,23] (λn v wr=>∃i:Nat,i<=SS.length/\n=.int .i64 (oP (λx=>x.2 p) (SS.take i))/\v=.int .i64 i/\X R.heap.size R wr) (λ_ v _=>SS.length-(intOf v).toNat)
  case atStart=>exact⟨0,zz,rfl,rfl,X.refl _ _⟩
 |revert å;intro å
  have a7:PQ (iM b l=(uN (aJ b l b.D.toNat),0)):=by unfold iM;rw[PQ,dE h]
  obtain⟨V, -, h3⟩:=Bt h;have Z:=qp b l 47 #[] lT true (w.alloc (aE b 31)) (aq b6.out _) (ai g3.out _) (λ_=>gW b _) h;have d8:=nL V;have g0:0<(aJ b l b.D.toNat).length:=List.length_pos_iff.2 h3;unfold jo at Z;generalize aJ b l b.D.toNat=SS at Z a7 d8 g0;clear a1 b7 h V h3;unfold aC.v aE uC at Z;unfold aC.v;go_enter Tryz.func15,Tryz.ntmps15;go_wp2_with (go_at_call 46;refine Z.mono ?_;rintro e d ⟨A,c,r,rfl,u,a9,d4,N⟩);obtain⟨g,rfl⟩:∃g,A=Y ⟨g,0,I⟩:=by
   rcases u.2 with⟨E,h2⟩|⟨g,cap,g5,E,-⟩
   .omega
   .simp only[lA]at E;exact⟨g,E.1⟩
  have d1:=u.alloc (.cells (iG b ⟨Y ⟨g,0,I⟩,SS.length,c⟩ (Y r)) 101);have B1:X w.heap.size w (d.alloc (.cells (iG b ⟨Y ⟨g,0,I⟩,SS.length,c⟩ (Y r)) 101)):=aP (di N) (dj _) _;clear u a9 N;change Ly.wp _ _ _ _ (d.alloc (.cells (iG b ⟨Y ⟨g,0,I⟩,SS.length,c⟩ (Y r)) 101));generalize(d.alloc (.cells (iG b ⟨Y ⟨g,0,I⟩,SS.length,c⟩ (Y r)) 101))=R at d1 B1|-;have i2:=Hm d1;have a':=Hm B1;clear d1 B1;obtain⟨i0,hi,m3,m4,m5⟩:=info_parts vD;go_loopw [6,20] (λv1 v wr=>∃(i:Nat) (A1:Option Addr) (Q:Nat),i<=SS.length/\v=.int .i64 i/\v1=.slice A1 i Q/\wr.ownsRow R.heap.size 3 1 v1 i (((SS.take i).map (·.1)).map (M.int .i64))/\X R.heap.size R wr) (λ_ v _=>SS.length-(intOf v).toNat)
  case atStart=>exact⟨0,I,0,zz,rfl,rfl,H.ownsRow_nil _ _ _ _,X.refl _ _⟩
 |revert æ;intro æ
  have a7:PQ (qq b l=(ie (sw (fN b l) b.U.n) b.S.toNat,0)):=by unfold qq;rw[PQ,dE h]
  have hUn:b.U.n<=1000:=by rw[a1.U.1];exact a1.U.2.2.1
  obtain⟨t1,t2,-⟩:=cS (bP (Bt h).1).1;have Z:=qp b l 47 #[] lT true (w.alloc (aE b 31)) (aq b6.out _) (ai g3.out _) (λ_=>gW b _) h;unfold jo at Z;generalize aJ b l b.D.toNat=SS at Z;generalize fN b l=LL at Z a7;clear a1 b7 h;unfold aC.v aE uC at Z;unfold aC.v;go_enter Tryz.func20,Tryz.ntmps20;go_wp2;go_step3;go_wp2_with (fail);try go_step3
  go_wp2_with (go_at_call 46;refine Z.mono ?_;rintro e d ⟨A,c,r,rfl,u,a9,d4,N⟩;obtain⟨f6,f7⟩:=aU N;have G1:w.heap.size<d.heap.size:=(by have:=N.size;simp only[aa]at this;omega));go_step3;go_wp2;have b0:Gk (d.alloc (.cells (iG b ⟨A,SS.length,c⟩ (Y r)) 101)) d b ⟨A,SS.length,c⟩ (Y r):=Sp _ _;have f':jm (d.alloc (.cells (iG b ⟨A,SS.length,c⟩ (Y r)) 101)) r LL:=(QR _ _ (du.1 a9).1).tn a9;have B1:X w w (d.alloc (.cells (iG b ⟨A,SS.length,c⟩ (Y r)) 101)):=aP (di N) (dj _) _;have f5:aK (d.alloc (.cells (iG b ⟨A,SS.length,c⟩ (Y r)) 101)) w 31 b:=(QR _ _ zz).tn ((N.block _ ss).tn (Sp _ _));have V1:r<d.heap.size:=(du.1 a9).1;clear u a9 N f6 f7;change Ly.wp _ _ _ _ (d.alloc (.cells (iG b ⟨A,SS.length,c⟩ (Y r)) 101));have a0:d.heap.size<(d.alloc (.cells (iG b ⟨A,SS.length,c⟩ (Y r)) 101)).heap.size:=by simp
  generalize(d.alloc (.cells (iG b ⟨A,SS.length,c⟩ (Y r)) 101))=R at b0 f' B1 f5 a0|-;have i1:=Hm b0;have n6:=Hm f';have a':=Hm B1;have k9:=Hm f5;clear b0 f' B1 f5;obtain⟨i0,hi,V6,V7,G2⟩:=info_parts vD;go_loopw [6,19] (λv1 v wr=>∃(k:Nat) (A1:Option Addr) (Q:Nat),(k:Int)<=b.S/\v=.int .i64 k/\v1=.slice A1 (ie (sw LL b.U.n) k).length Q/\wr.ownsRow R.heap.size 3 1 v1 (ie (sw LL b.U.n) k).length ((ie (sw LL b.U.n) k).map (M.int .i64))/\X R.heap.size R wr) (λ_ v _=>b.S.toNat-(intOf v).toNat)
  case atStart=>exact⟨0,I,0,zz,rfl,rfl,H.ownsRow_nil _ _ _ _,X.refl _ _⟩
 |revert ë;intro ë
  have a7:PQ (qs b l step=(yc b l step.toNat ((l.U.length:Nat),0) (aJ b l b.D.toNat),0)):=by unfold qs;rw[PQ,dE h]
  have p7:b.U.n<=1000:=by rw[a1.U.1];exact a1.U.2.2.1
  have b9:=Hm a1.U.1;obtain⟨V,h2,h3⟩:=Bt h;have h9:=Hm V;obtain⟨t1,t2,-⟩:=cS (bP V).1;have Q:(((w.alloc (aE b 31)).alloc (.cells #[.int .i64 step] 3)).alloc (.cells #[.int .i64 0,.int .i64 0] 23)).cell? ⟨w.heap.size+1,0,I⟩=Y (.int .i64 step):=one_cell ((QR _ _ ss).tn (by rw[<- aa w (aE b 31)];exact Sp _ _));have Z:=qp b l 55 #[.pointer (Y ⟨w.heap.size+1,0,I⟩)] Dz (ax step 0 (b.S-1)) (((w.alloc (aE b 31)).alloc (.cells #[.int .i64 step] 3)).alloc (.cells #[.int .i64 0,.int .i64 0] 23)) (aq (aq (aq b6.out _) _) _) (ai (ai (ai g3.out _) _) _) (λ_=>xX b zz zz step (w.heap.size+1) _ Q ss) h;have g1:∀x∈aJ b l b.D.toNat,b.lo<=x.1/\x.1<=b.hi:=λx O=>qn (List.mem_filter.1 O).1;have d8:=nL V;have g0:0<(aJ b l b.D.toNat).length:=List.length_pos_iff.2 h3;obtain⟨f1,f2⟩:=cq.1 h2;obtain⟨p,rfl⟩:∃p:Nat,step=(p:Int):=⟨step.toNat,zz⟩;have g9:p<12:=zz;simp only[qNB]at a7;unfold jo at Z;generalize aJ b l b.D.toNat=SS at Z a7 g1 d8 g0;have n0:=Hm g1;clear a1 b7 h V h2 h3 f1 f2 Q g1;unfold aC.v aE uC at Z;unfold aC.v;go_enter Tryz.func21,Tryz.ntmps21;go_wp2_with (go_at_call 46;refine Z.mono ?_;rintro e d ⟨A,c,r,rfl,u,a9,d4,N⟩;obtain⟨f6,f7⟩:=aU N;have G1:w.heap.size+1+1<d.heap.size:=(by have:=N.size;simp only[aa]at this;omega);have G2:w.heap.size<d.heap.size:=zz);obtain⟨g,rfl⟩:∃g,A=Y ⟨g,0,I⟩:=by
   rcases u.2 with⟨E,h2⟩|⟨g,cap,g5,E,-⟩
   .omega
   .simp only[lA]at E;exact⟨g,E.1⟩
  have g7:g<d.heap.size:=(u.lt g rfl).2;have x8:=(u.lt g rfl).1;simp only[aa]at x8;obtain⟨B,O4⟩:∃B,B=w.heap.size+1+1+1:=⟨_,rfl⟩;have e7:tS w d.heap.size (w.heap.size+1) B b l ⟨Y ⟨g,0,I⟩,SS.length,c⟩ r SS p (d.alloc (.cells (iG b ⟨Y ⟨g,0,I⟩,SS.length,c⟩ (Y r)) 101)):=by
   have k1:∀x,x<w.heap.size+3->(d.alloc (.cells (iG b ⟨Y ⟨g,0,I⟩,SS.length,c⟩ (Y r)) 101)).heap[x]?=(((w.alloc (aE b 31)).alloc (.cells #[.int .i64 p] 3)).alloc (.cells #[.int .i64 0,.int .i64 0] 23)).heap[x]?:=λx O=>(QR _ _ zz).tn (N.block x so);refine⟨?_,?_,?_,Sp _ _,?_,aP (jI N) (dj _) _⟩
   .exact(k1 _ zz).tn ((QR _ _ so).tn ((QR _ _ ss).tn (Sp _ _)))
   .exact(k1 _ zz).tn ((QR _ _ ss).tn (by rw[<- aa w (aE b 31)];exact Sp _ _))
   .exact(k1 _ zz).tn (by rw[<- aa w (aE b 31),<- aa (w.alloc (aE b 31)) (.cells #[.int .i64 p] 3)];exact Sp _ _)
   .rw[O4];have:=u.alloc (.cells (iG b ⟨Y ⟨g,0,I⟩,SS.length,c⟩ (Y r)) 101);simp only[aa]at this;exact this
  clear u a9 N f6 f7;change Ly.wp _ _ _ _ ((d.alloc (.cells (iG b ⟨Y ⟨g,0,I⟩,SS.length,c⟩ (Y r)) 101)).alloc (.cells #[.int .i64 b.U.n,.int .i64 0] 23));have a0:(d.alloc (.cells (iG b ⟨Y ⟨g,0,I⟩,SS.length,c⟩ (Y r)) 101)).heap.size=d.heap.size+1:=by simp
  generalize(d.alloc (.cells (iG b ⟨Y ⟨g,0,I⟩,SS.length,c⟩ (Y r)) 101))=R at e7 a0|-;have n2:=e7.below ((X.refl _ _).alloc (dj _) (.cells #[.int .i64 b.U.n,.int .i64 0] 23));have u4:(R.alloc (.cells #[.int .i64 b.U.n,.int .i64 0] 23)).heap[d.heap.size+1]?=Y (.cells #[.int .i64 b.U.n,.int .i64 0] 23 (0,0)):=by rw[<- a0];exact Sp _ _
  generalize(R.alloc (.cells #[.int .i64 b.U.n,.int .i64 0] 23))=wb at n2 u4|-;have k8:=Hm n2;have K8:=Hm u4;clear e7 n2 u4 a0;go_loopw [30] (λv wr=>∃(i:Nat) (z:Int×Int),i<=SS.length/\v=.int .i64 i/\tS w d.heap.size (w.heap.size+1) B b l ⟨Y ⟨g,0,I⟩,SS.length,c⟩ r SS p wr/\wr.heap[d.heap.size+1]?=Y (.cells #[.int .i64 z.1,.int .i64 z.2] 23 (0,0))/\PQ (yc b l p z (SS.drop i)=yc b l p ((l.U.length:Nat),0) SS)) (λv _=>SS.length-(intOf v).toNat)
  case atStart=>exact⟨0,((l.U.length:Nat),0),zz,rfl,k8.out,by rw[<- b9.out];exact K8.out,rfl⟩
 |revert ï;intro ï
  have i3:=Hm hf;have h9:=Hm d4;have l3:PQ (fN b l=lP b l [] (aJ b l b.D.toNat)):=rfl;have V:=λd (E:aI d b l) (h2:aD d)=>cG b l d E h2;have d9:=λd (E:aI d b l)=>sQ b l d4 d E;have u7:=λd (E:X w.heap.size w d)=>i3.out d E;have g1:∀x∈aJ b l b.D.toNat,b.lo<=x.1/\x.1<=b.hi:=λx O=>qn ((List.mem_filter.1 O).1);have d8:(aJ b l b.D.toNat).length<=1296:=by
   obtain⟨t1,t2,t3,t4,t5,t6,t7,t8,t9,k6,-⟩:=cS (bP d4).1;exact ec (ln _ _) (nH t2 k6 zz)
  unfold jo;generalize aJ b l b.D.toNat=SS at d9 g1 d8 h0 l3|-;have n0:=Hm g1;have g0:0<SS.length:=List.length_pos_iff.2 h0;have hne0:((SS.length:Int)==0)=false:=by simp;omega
  simp only[d4]at V;clear d4 h0 a1 b7 hf g1;have U2:=@run_makeMap F;have P0:∀(args:Array M) (w:H),(callFunc gf args).run F w=.ok (.enter gf args) w:=eg;unfold aC.v at V u7 d9|-;go_enter Tryz.func46,Tryz.ntmps46
  go_wp2_with (first
   | (go_at_call 10;refine(V _ (aq (aq b6.out _) _) (ai (ai g3.out _) _)).mono ?_;rintro e d ⟨rfl,N⟩;obtain⟨f6,f7⟩:=aU N;have hz1:w.heap.size+2<=d.heap.size:=(by have:=N.size;simp only[aa]at this;omega);have V3:w.heap.size<d.heap.size:=zz;have V4:w.heap.size+1<d.heap.size:=zz;have B1:X w.heap.size w d:=(((X.refl _ w).alloc (dj _) _).alloc ss _).tn (N.mono so))
   | (go_at_fn gf;refine(u7 _ (by exact bt)).mono ?_;rintro e w2 ⟨rfl,f4⟩;obtain⟨g6,r7⟩:=aU f4;have B2:X w.heap.size w w2:=(((B1.alloc B1.size _).alloc so _)).tn (f4.mono so);have hz4:d.heap.size+2<=w2.heap.size:=(by have:=f4.size;simp only[aa]at this;omega);have V5:d.heap.size+1<w2.heap.size:=zz;have hz8:w.heap.size+1<w2.heap.size:=zz)
   | (go_at_call 45;refine(d9 _ (b6.out.below B2)).mono ?_;rintro e w3 ⟨A,c,rfl,u,i7⟩;obtain⟨O9,Q1⟩:=aU i7;have hz6:=i7.size;have hz7:d.heap.size+1<w3.heap.size:=zz;have hz9:w.heap.size+1<w3.heap.size:=zz;have i4:=Hm u;clear u))
  obtain⟨g,rfl⟩:∃g,A=Y ⟨g,0,I⟩:=by
   rcases i4.out.2 with⟨E,h2⟩|⟨g,cap,g5,E,-⟩
   .omega
   .simp only[lA]at E;exact⟨g,E.1⟩
  have e7:lQ w w.heap.size (d.heap.size+1) d.heap.size w2.heap.size b ⟨Y ⟨g,0,I⟩,SS.length,c⟩ SS (w3.setCell ⟨d.heap.size+1,13,I⟩ (.slice (Y ⟨g,0,I⟩) SS.length c)) []:=by
   have k3:∀x,x<w2.heap.size->w3.heap[x]?=w2.heap[x]?:=λx O=>i7.block x O;have k2:∀x,x<d.heap.size+2->w2.heap[x]?=((d.alloc (.map #[] 0)).alloc (.cells (iG b iy (Y d.heap.size)) 101)).heap[x]?:=λx O=>f4.block x so;have u0:∀x,x≠d.heap.size+1->(w3.setCell ⟨d.heap.size+1,13,I⟩ (.slice (Y ⟨g,0,I⟩) SS.length c)).heap[x]?=w3.heap[x]?:=λx O=>X.heap_setCell _ _ _ _ O;have q0:d.heap[w.heap.size]?=Y (aE b 31):=(N.block _ so).tn ((QR _ _ ss).tn (Sp _ _));have q1:d.heap[w.heap.size+1]?=Y (.cells (iG bI iy I) 101 (0,0)):=(N.block _ ss).tn (by rw[<- aa w (aE b 31)];exact Sp _ _);have q2:((d.alloc (.map #[] 0)).alloc (.cells (iG b iy (Y d.heap.size)) 101)).heap[d.heap.size+1]?=Y (.cells (iG b iy (Y d.heap.size)) 101 (0,0)):=by rw[<- aa d (.map #[] 0)];exact Sp _ _
   have q3:((d.alloc (.map #[] 0)).alloc (.cells (iG b iy (Y d.heap.size)) 101)).heap[d.heap.size]?=Y (.map #[] 0):=(QR _ _ ss).tn (Sp _ _);have q4:=(k3 _ V5).tn ((k2 _ zz).tn q2);have q5:=bJ (i:=13) q4 (.slice (Y ⟨g,0,I⟩) SS.length c);refine⟨?_,?_,q5,?_,?_,?_⟩
   .exact(u0 _ zz).tn ((k3 _ zz).tn ((k2 _ zz).tn ((QR _ _ so).tn ((QR _ _ V3).tn q0))))
   .exact(u0 _ zz).tn ((k3 _ zz).tn ((k2 _ zz).tn ((QR _ _ so).tn ((QR _ _ V4).tn q1))))
   .refine bB i4.out (K:=λx=>x≠d.heap.size+1) ((aS.refl _ _).set (p:=⟨d.heap.size+1,13,I⟩) (λ_ h=>h rfl) _) (λg' r9=>?_);have:=(i4.out.lt g' r9).1;omega
   .exact(u0 _ zz).tn ((k3 _ zz).tn ((k2 _ zz).tn q3))
   .exact(B2.tn (i7.mono B2.size)).setCell so _
  have k8:=Hm e7;have g7:g<w3.heap.size:=(i4.out.lt g rfl).2;have x8:w2.heap.size<=g:=(i4.out.lt g rfl).1;generalize(w3.setCell ⟨d.heap.size+1,13,I⟩ (.slice (Y ⟨g,0,I⟩) SS.length c))=R at e7 k8|-;clear e7 f6 f7 g6 r7 O9 Q1 N f4 i7 U2 P0 V d9 u7;have W3:=Hm (b6.out.below B1);have b9:=Hm b6.out.U.1;have p7:b.U.n<=1000:=by rw[b9.out];exact b6.out.U.2.2.1
  go_loopw [41] (λv wr=>∃(i:Nat) (L:List gM),i<=SS.length/\v=.int .i64 i/\lQ w w.heap.size (d.heap.size+1) d.heap.size w2.heap.size b ⟨Y ⟨g,0,I⟩,SS.length,c⟩ SS wr L/\PQ (lP b l L (SS.drop i)=lP b l [] SS)) (λv _=>SS.length-(intOf v).toNat)
  case atStart=>exact⟨0,[],zz,rfl,k8.out,rfl⟩
 |have a7:PQ (vL b l=((DK b l).1.1,(DK b l).1.2,(DK b l).2,0)):=by unfold vL;rw[PQ,dE h]
  have p7:b.U.n<=1000:=by rw[a1.U.1];exact a1.U.2.2.1
  have b9:=Hm a1.U.1;obtain⟨V, -, h3⟩:=Bt h;obtain⟨t1,t2,-⟩:=cS (bP V).1;have p5:1<=b.U.n/\b.U.n<=4:=by
   have l0:=(bP V).2.2.1;unfold fH at l0;split at l0
   .rename_i f9;have:=cq.1 f9;rw[b9.out];omega
   .omega
  obtain⟨p5,O6⟩:=p5;have l4:∀h k:Nat,h<b.U.n->(k:Int)<b.S->0<=assoc (fN b l) ((h:Int),(k:Int))/\assoc (fN b l) ((h:Int),(k:Int))<=(aJ b l b.D.toNat).length:=λh k f9 hk=>by
   rw[LC V (by rw[<- b9.out];exact p7) h k (by rw[<- b9.out];exact f9) zz];have:oP (λx=>oN b l x h k) (aJ b l b.D.toNat)<=(aJ b l b.D.toNat).length:=ln _ _;omega
  have Z:=qp b l 47 #[] lT true (w.alloc (aE b 31)) (aq b6.out _) (ai g3.out _) (λ_=>gW b _) h;have d8:=nL V;have n3:PQ (DK b l=iR Om ((-1, -1),(aJ b l b.D.toNat).length) (nM (fN b l) (aJ b l b.D.toNat).length b.S.toNat (List.range' 0 b.U.n))):=rfl;unfold jo at Z;generalize aJ b l b.D.toNat=SS at Z d8 l4 n3;generalize fN b l=LL at Z l4 n3;have J3:=Hm l4;clear a1 b7 h V h3 l4;unfold aC.v aE uC at Z;unfold aC.v;go_enter Tryz.func25,Tryz.ntmps25;go_wp2_with (go_at_call 46;refine Z.mono ?_;rintro e d ⟨A,c,r,rfl,u,a9,d4,N⟩;obtain⟨f6,f7⟩:=aU N;have G1:w.heap.size<d.heap.size:=(by have:=N.size;simp only[aa]at this;omega));have b0:Gk (d.alloc (.cells (iG b ⟨A,SS.length,c⟩ (Y r)) 101)) d b ⟨A,SS.length,c⟩ (Y r):=Sp _ _;have f':jm (d.alloc (.cells (iG b ⟨A,SS.length,c⟩ (Y r)) 101)) r LL:=(QR _ _ (du.1 a9).1).tn a9;have B1:X w w (d.alloc (.cells (iG b ⟨A,SS.length,c⟩ (Y r)) 101)):=aP (di N) (dj _) _;have f5:aK (d.alloc (.cells (iG b ⟨A,SS.length,c⟩ (Y r)) 101)) w 31 b:=(QR _ _ zz).tn ((N.block _ ss).tn (Sp _ _));have V1:r<d.heap.size:=(du.1 a9).1;clear u a9 N f6 f7;change Ly.wp _ _ _ _ ((d.alloc (.cells (iG b ⟨A,SS.length,c⟩ (Y r)) 101)).alloc (.cells #[.int .i64 (-1),.int .i64 (-1),.int .i64 SS.length] 119));have a0:(d.alloc (.cells (iG b ⟨A,SS.length,c⟩ (Y r)) 101)).heap.size=d.heap.size+1:=by simp
  generalize(d.alloc (.cells (iG b ⟨A,SS.length,c⟩ (Y r)) 101))=R at b0 f' B1 f5 a0|-;have t':=H.ownsRow_lit (w:=R) (base:=R.heap.size) (e:=119) (size:=3) #[.int .i64 (-1),.int .i64 (-1),.int .i64 SS.length] 1 (dj _) (by unfold maxLen;omega) rfl;rw[a0]at t';have K6:=Hm t';have e0:=Hm a0;have i1:=Hm b0;have n6:=Hm f';have a':=Hm B1;have k9:=Hm f5;obtain⟨f3,b2⟩:∃f3:List Ct,f3=((-1, -1),(SS.length:Int))::nM LL SS.length b.S.toNat (List.range' 0 b.U.n):=⟨_,rfl⟩;have Q':f3.length<=49:=by
   rw[b2,fx,Az,List.length_range'];have:b.U.n*b.S.toNat<=4*12:=Nat.mul_le_mul O6 zz;omega
  have r7:2<=f3.length:=by
   rw[b2,fx,Az,List.length_range'];have:1*1<=b.U.n*b.S.toNat:=Nat.mul_le_mul p5 zz;omega
  have v5:=Hm b2;clear b0 f' B1 f5 t' a0 b2;obtain⟨i0,hi,m3,m4,m5⟩:=info_parts Sw;go_loopw [7,29] (λv7 v wr=>∃(h:Nat) (a5:List Ct) (A1:Option Addr) (Q:Nat),h<=b.U.n/\v=.int .i64 h/\v7=.slice A1 a5.length Q/\wr.ownsRow (d.heap.size+1) 119 3 v7 a5.length (UX a5)/\X R.heap.size R wr/\PQ (a5++nM LL SS.length b.S.toNat (List.range' h (b.U.n-h))=f3)) (λ_ v _=>b.U.n-(intOf v).toNat)
  case atStart=>exact⟨0,[((-1, -1),(SS.length:Int))],_,_,zz,rfl,rfl,K6.out,(X.refl _ _).alloc (dj _) _,v5.out.symm⟩
 case round=>
  first
  |revert ï;intro ï
   obtain⟨i,L,hi,rfl,C,a8⟩:=hrel;obtain⟨t,rfl⟩:∃t:H,t=wr:=⟨_,rfl⟩;by_cases W:i<SS.length
  |revert ë;intro ë
   obtain⟨i,z,hi,rfl,C,a3,a8⟩:=hrel;obtain⟨t,rfl⟩:∃t:H,t=wr:=⟨_,rfl⟩;by_cases W:i<SS.length
  |revert ø;intro ø
   obtain⟨i,hi,rfl,rfl,J⟩:=hrel;have d':=J.size;by_cases W:i<SS.length
  |revert å;intro å
   obtain⟨i,A1,Q,hi2,rfl,rfl,u,J⟩:=hrel;have d':=J.size;by_cases W:i<SS.length
  |revert æ;intro æ
   obtain⟨k,A1,Q,hk,rfl,rfl,u,J⟩:=hrel;obtain⟨t,rfl⟩:∃t:H,t=wr:=⟨_,rfl⟩;have d':=J.size;have hl1:=kO (sw LL b.U.n) k;by_cases W:(k:Int)<b.S
  |obtain⟨h,a5,A1,Q,f9,rfl,rfl,u,J,a8⟩:=hrel
   obtain⟨t,rfl⟩:∃t:H,t=wr:=⟨_,rfl⟩;have d':=J.size;have hzw:(d:Nat)+1<=t:=by rw[<- e0.out];exact d'
   by_cases W:h<b.U.n
  .first
   |revert å;intro å
    obtain⟨x,O⟩:∃x,SS.getD i (0,mI)=x:=⟨_,rfl⟩;have q:∀j,j<13->wr.cell? ⟨g,i*13+j,I⟩=(zC x).toList[j]?:=λj b'=>by
     have E:=wO (bB i2.out (aS.dY (K:=λ_=>True) J (λ_ h _=>h)) (λ_ _=>trivial)) rfl W j b';rw[O]at E;exact E
    have q0:wr.cell? ⟨g,i*13,I⟩=Y (.int .i64 x.1):=q 0 zz;have q1:wr.cell? ⟨g,i*13+1,I⟩=Y (.bool (x.2 0)):=q 1 zz;have q2:wr.cell? ⟨g,i*13+2,I⟩=Y (.bool (x.2 1)):=q 2 zz;have q3:wr.cell? ⟨g,i*13+3,I⟩=Y (.bool (x.2 2)):=q 3 zz;have q4:wr.cell? ⟨g,i*13+4,I⟩=Y (.bool (x.2 3)):=q 4 zz;have q5:wr.cell? ⟨g,i*13+5,I⟩=Y (.bool (x.2 4)):=q 5 zz;have q6:wr.cell? ⟨g,i*13+6,I⟩=Y (.bool (x.2 5)):=q 6 zz;have q7:wr.cell? ⟨g,i*13+7,I⟩=Y (.bool (x.2 6)):=q 7 zz;have q8:wr.cell? ⟨g,i*13+8,I⟩=Y (.bool (x.2 7)):=q 8 zz;have q9:wr.cell? ⟨g,i*13+9,I⟩=Y (.bool (x.2 8)):=q 9 zz;have j':wr.cell? ⟨g,i*13+10,I⟩=Y (.bool (x.2 9)):=q 10 zz;have k4:wr.cell? ⟨g,i*13+11,I⟩=Y (.bool (x.2 10)):=q 11 zz;have k5:wr.cell? ⟨g,i*13+12,I⟩=Y (.bool (x.2 11)):=q 12 zz;have E1:((SS.take (i+1)).map (·.1)).map (M.int .i64)=((SS.take i).map (·.1)).map (M.int .i64)++[.int .i64 x.1]:=by
     rw[q5A W,nc,nc,<- O];simp only[zM,List.getD,fg W,zQ]
    have l3:=Hm E1;have a2:=Hm J;have b8:=Hm u;clear q O E1 J;go_wp2_with (at_builtin;refine wpList_append_own _ rfl _ _ 24 rfl R.heap.size 3 i0 (.int .i64 0) 1 8 Tryz.underlying24 hi m3 m4 m5 rfl dd _ _ _ rfl ((u.alloc _).alloc _) ⟨wr.heap.size+1,0,I⟩ 1 1 [.int .i64 x.1] rfl rfl (by rw[<- aa wr (.cells (zC x) 78)];exact cell_one_new _ _ _) (λy b4=>by simp at b4;subst b4;rfl) (by unfold maxLen;omega) zz so ?_;intro v' w3 c1 f8 A3);go_roundw
    case rel=>
     obtain⟨g',i5,rfl⟩:=ownsRow_succ c1;refine⟨i+1,Y ⟨g',0,I⟩,i5,zz,by go_num,rfl,?_,((a2.out.alloc d' _).alloc so _).grown f8 so (λq b3=>(b8.out.lt q b3).1)⟩;rw[l3.out];exact c1
    case measure=>simp[intOf];omega
   |revert ø;intro ø
    obtain⟨x,O⟩:∃x,SS.getD i (0,mI)=x:=⟨_,rfl⟩;have P2:=Gn (λx=>x.2 p) SS i;have b4:=Sq (f:=λx=>x.2 p) W;have f0:=WC (f:=λx=>x.2 p) W;have q:∀j,j<13->wr (g,i*13+j)=(zC x).toList[j]?:=λj b'=>by
     have E:=wO (bB i2.out (aS.dY (K:=λ_=>True) J (λ_ h _=>h)) (λ_ _=>trivial)) rfl W j b';rw[O]at E;exact E
    have q0:wr (g,i*13)=Y (.int .i64 x.1):=q 0 zz;have q1:wr (g,i*13+1)=Y (.bool (x.2 0)):=q 1 zz;have q2:wr (g,i*13+2)=Y (.bool (x.2 1)):=q 2 zz;have q3:wr (g,i*13+3)=Y (.bool (x.2 2)):=q 3 zz;have q4:wr (g,i*13+4)=Y (.bool (x.2 3)):=q 4 zz;have q5:wr (g,i*13+5)=Y (.bool (x.2 4)):=q 5 zz;have q6:wr (g,i*13+6)=Y (.bool (x.2 5)):=q 6 zz;have q7:wr (g,i*13+7)=Y (.bool (x.2 6)):=q 7 zz;have q8:wr (g,i*13+8)=Y (.bool (x.2 7)):=q 8 zz;have q9:wr (g,i*13+9)=Y (.bool (x.2 8)):=q 9 zz;have j':wr (g,i*13+10)=Y (.bool (x.2 9)):=q 10 zz;have k4:wr (g,i*13+11)=Y (.bool (x.2 10)):=q 11 zz;have k5:wr (g,i*13+12)=Y (.bool (x.2 11)):=q 12 zz;have d9:wr (w.heap.size+1,0)=Y (.int .i64 p):=one_cell ((J.block _ zz).tn J2.out);have x5:(#[.int .i64 x.1,.bool (x.2 0),.bool (x.2 1),.bool (x.2 2),.bool (x.2 3),.bool (x.2 4),.bool (x.2 5),.bool (x.2 6),.bool (x.2 7),.bool (x.2 8),.bool (x.2 9),.bool (x.2 10),.bool (x.2 11)]:Array M)[1+p]?=Y (.bool (x.2 p)):=by
     rcases(show p=0\/p=1\/p=2\/p=3\/p=4\/p=5\/p=6\/p=7\/p=8\/p=9\/p=10\/p=11 from zz)with rfl|rfl|rfl|rfl|rfl|rfl|rfl|rfl|rfl|rfl|rfl|rfl<;>rfl
    have hls:(w:Nat)+1<wr:=zz;rw[O]at b4 f0;have e':=Hm b4;have U:=Hm f0;generalize oP (λx=>x.2 p) (SS.take i)=n at P2 e' U;generalize j2:oP (λx=>x.2 p) (SS.take (i+1))=n' at e' U;have k':=Hm j2;clear q O b4 f0 j2;cases m2:x.2 p
    .rw[m2]at x5;go_wp2;go_roundw
     case rel=>exact⟨i+1,zz,by rw[k'.out,U.out m2],by go_num,aP J (dj _) _⟩
     case measure=>simp[intOf];omega
    .rw[m2]at x5;go_wp2;go_roundw
     case rel=>exact⟨i+1,zz,by rw[k'.out,e'.out m2];go_num,by go_num,aP J (dj _) _⟩
     case measure=>simp[intOf];omega
   |revert æ;intro æ
    have e6:=(gH ((J.block _ a0).tn i1.out)).2.2.2.2.2.2.2.2.2.2.2.2.2.2;have d5:aK t w 31 b:=(J.block _ zz).tn k9.out;have k7:=(aM d5).2.2.2.2.2.2.2.2.2.2.1;have y0:=(aM d5).1;have w9:jm t r LL:=(J.block _ zz).tn n6.out;have K7:=Hm w9;have a2:=Hm J;have b8:=Hm u;clear w9 J u d5;go_wp2;go_loop [25] (λv=>∃h:Nat,h<=b.U.n/\v=.int .i64 h/\PQ (Og LL k (List.range' h (b.U.n-h))=sw LL b.U.n k)) (λv=>b.U.n-(intOf v).toNat)
    case atStart=>exact⟨0,zz,rfl,rfl⟩
    case round=>
     obtain⟨h,f9,rfl,a8⟩:=hrel;by_cases g8:h<b.U.n
     .have t0:(Instr.lookup 99 (.map (Y r)) (.agg #[.int .i64 h,.int .i64 k]) false).run F t=.ok (.int .i64 (assoc LL (h,k))) t:=gd (L:=LL) K7.out (h,k);have j3:List.range' h (b.U.n-h)=h::List.range' (h+1) (b.U.n-(h+1)):=by
       rw[show b.U.n-h=(b.U.n-(h+1))+1 by omega,List.range'_succ]
      have r':=a8.out;rw[j3]at r';have E2:sw LL b.U.n k=(decide (assoc LL ((h:Int),(k:Int))<=0)&&Og LL k (List.range' (h+1) (b.U.n-(h+1)))):=by rw[<- r'];rfl
      have o4:=Hm E2;clear E2 r' j3;generalize assoc LL ((h:Int),(k:Int))=a at t0 o4;by_cases ha:0<a
      .have i8:sw LL b.U.n k=false:=by rw[o4.out];simp;omega
       have h':=Hm (mV i8);clear i8;go_wp2;go_roundw
       case rel=>exact⟨k+1,A1,Q,zz,by go_num,by rw[h'.out],by rw[h'.out];exact b8.out,a2.out⟩
       case measure=>simp[intOf];omega
      .have O7:a<=0:=zz;go_wp2;go_round
       case rel=>exact⟨h+1,zz,by go_num,by rw[PQ,o4.out];simp[O7]⟩
       case measure=>simp[intOf];omega
     .obtain rfl:h=b.U.n:=zz;have i8:sw LL b.U.n k=true:=by rw[<- a8.out,Nat.sub_self];rfl
      have h':=Hm (oG i8);have U0:=b8.out;clear i8 a8;go_wp2_with (at_builtin;refine ff rfl _ _ 24 rfl R.heap.size 3 i0 (.int .i64 0) 1 8 Tryz.underlying24 hi V6 V7 G2 rfl dd _ _ _ rfl (U0.alloc _) ⟨t.heap.size,0,I⟩ 1 1 [.int .i64 k] rfl rfl (cell_one_new _ _ _) (λx O=>by simp at O;subst O;rfl) (by unfold maxLen;omega) zz so ?_;intro v' w3 c1 f8 hnew3);go_roundw
      case rel=>
       obtain⟨A',c',V2⟩:=tK c1;exact⟨k+1,A',c',zz,by go_num,by rw[V2,h'.out];simp,by rw[h'.out];simpa using c1,(a2.out.alloc d' _).grown f8 so (λq b3=>(b8.out.lt q b3).1)⟩
      case measure=>simp[intOf];omega
   |revert ö;intro ö
    have C':=Gv LL SS.length b.S.toNat W;have d5:aK t w 31 b:=(J.block _ (by rw[e0.out];omega)).tn k9.out;have y0:=(aM d5).1;have K0:=Hm C';have a2:=Hm J;have b8:=Hm u;clear C' d5 J u;go_wp2;clear y0;go_loopw [7,34] (λv7 v b5=>∃(k:Nat) (d3:List Ct) (A2:Option Addr) (c2:Nat),(k:Int)<=b.S/\v=.int .i64 k/\v7=.slice A2 d3.length c2/\b5.ownsRow (d.heap.size+1) 119 3 v7 d3.length (UX d3)/\X R.heap.size R b5/\PQ (d3++DJ LL SS.length h (List.range' k (b.S.toNat-k))++nM LL SS.length b.S.toNat (List.range' (h+1) (b.U.n-(h+1)))=f3)) (λ_ v _=>b.S.toNat-(intOf v).toNat)
    case atStart=>exact⟨0,a5,A1,Q,zz,rfl,rfl,b8.out,a2.out,by rw[PQ,nh,Nat.sub_zero,<- K0.out];exact a8.out⟩
    case round=>
     obtain⟨k,d3,A2,c2,hk,rfl,rfl,u,J,d7⟩:=hrel;obtain⟨P,rfl⟩:∃P:H,P=wr:=⟨_,rfl⟩;have u':=J.size;have hzwp:(d:Nat)+1<=P:=by rw[<- e0.out];exact u'
     by_cases g8:(k:Int)<b.S
     .have u6:=LD LL SS.length h (k:=k) (S:=b.S.toNat) zz;have B':d3.length+1<=49:=by
       have:=eh List.length d7.out;rw[u6]at this;simp only[lh,fx]at this;omega
      obtain⟨p1,p2⟩:=J3.out h k W g8;have t0:(Instr.lookup 99 (.map (Y r)) (.agg #[.int .i64 h,.int .i64 k]) false).run F P=.ok (.int .i64 (assoc LL (h,k))) P:=gd (L:=LL) ((J.block _ (by rw[e0.out];omega)).tn n6.out) (h,k);obtain⟨z0,z1,z2,z3,z4,z5,z6,z7,z8,z9,d0,e4,e5,h8,e6⟩:=gH ((J.block _ (by rw[e0.out];omega)).tn i1.out);clear z0 z1 z2 z3 z4 z5 z6 z7 z8 z9 d0 e4 e5;have x2:ye LL SS.length h k=(((h:Int),(k:Int)),max (assoc LL ((h:Int),(k:Int))) ((SS.length:Int)-assoc LL ((h:Int),(k:Int)))):=rfl;have n4:=Hm x2;have e9:=Hm u6;have k0:=Hm J;have l1:=Hm u;generalize assoc LL ((h:Int),(k:Int))=a at p1 p2 t0 n4;clear x2 u6 J;by_cases R0:a<(SS.length:Int)-a
      .have S':=R0;go_wp2_with (at_builtin;refine wpList_append_own _ rfl _ _ 120 rfl (d.heap.size+1) 119 i0 (.agg #[.int .i64 0,.int .i64 0,.int .i64 0]) 3 24 Tryz.underlying120 hi m3 m4 m5 rfl dd _ _ _ rfl (u.alloc _) ⟨P.heap.size,0,I⟩ 1 1 [.int .i64 h,.int .i64 k,.int .i64 ((SS.length:Int)-a)] rfl rfl (nI _ _ _) (Je ((h,k),(SS.length:Int)-a)) (by unfold maxLen;omega) zz so ?_;intro v' w3 c1 f8 A3);go_roundw
       case rel=>
        obtain⟨g',i5,rfl⟩:=ownsRow_succ c1;have p':ye LL SS.length h k=(((h:Int),(k:Int)),(SS.length:Int)-a):=by rw[n4.out];congr 1;rw[Int.max_def];split<;>omega
        refine⟨k+1,d3++[ye LL SS.length h k],Y ⟨g',0,I⟩,i5,zz,by go_num,by simp,?_,(k0.out.alloc u' _).grown f8 so (λq b3=>by rw[e0.out];exact(l1.out.lt q b3).1),?_⟩
        .rw[lh,DL,p'];exact c1
        .have:=d7.out;rw[e9.out]at this;rw[PQ,nh d3,List.singleton_append];exact this
       case measure=>simp[intOf];omega
      .have S':(SS.length:Int)-a<=a:=zz;go_wp2_with (at_builtin;refine wpList_append_own _ rfl _ _ 120 rfl (d.heap.size+1) 119 i0 (.agg #[.int .i64 0,.int .i64 0,.int .i64 0]) 3 24 Tryz.underlying120 hi m3 m4 m5 rfl dd _ _ _ rfl (u.alloc _) ⟨P.heap.size,0,I⟩ 1 1 [.int .i64 h,.int .i64 k,.int .i64 (a)] rfl rfl (nI _ _ _) (Je ((h,k),a)) (by unfold maxLen;omega) zz so ?_;intro v' w3 c1 f8 A3);go_roundw
       case rel=>
        obtain⟨g',i5,rfl⟩:=ownsRow_succ c1;have p':ye LL SS.length h k=(((h:Int),(k:Int)),a):=by rw[n4.out];congr 1;rw[Int.max_def];split<;>omega
        refine⟨k+1,d3++[ye LL SS.length h k],Y ⟨g',0,I⟩,i5,zz,by go_num,by simp,?_,(k0.out.alloc u' _).grown f8 so (λq b3=>by rw[e0.out];exact(l1.out.lt q b3).1),?_⟩
        .rw[lh,DL,p'];exact c1
        .have:=d7.out;rw[e9.out]at this;rw[PQ,nh d3,List.singleton_append];exact this
       case measure=>simp[intOf];omega
     .have i':b.S.toNat-k=0:=zz;have u5:=d7.out;rw[i']at u5;have K9:=Hm u5;have k0:=Hm J;have l1:=Hm u;clear i' u5 d7 J u;go_wp2;go_roundw
      case rel=>
       refine⟨h+1,d3,A2,c2,zz,by go_num,rfl,l1.out,k0.out,?_⟩;have:=K9.out;simp only[List.range'_zero,DJ,zM,List.append_nil]at this;exact this
      case measure=>simp[intOf];omega
   |revert ë;intro ë
    obtain⟨x,O⟩:∃x,SS.getD i (0,mI)=x:=⟨_,rfl⟩;have u2:x∈SS:=by rw[<- O];simp[List.getD,fg W]
    obtain⟨e1,e2⟩:=n0.out x u2;have i9:SS.drop i=x::SS.drop (i+1):=by
     rw[lL W,<- O];simp[List.getD,fg W]
    have q:∀j,j<13->t.cell? ⟨g,i*13+j,I⟩=(zC x).toList[j]?:=λj b'=>by
     have:=wO C.own rfl W j b';rw[O]at this;exact this
    have q0:t.cell? ⟨g,i*13,I⟩=Y (.int .i64 x.1):=q 0 zz;have q1:t.cell? ⟨g,i*13+1,I⟩=Y (.bool (x.2 0)):=q 1 zz;have q2:t.cell? ⟨g,i*13+2,I⟩=Y (.bool (x.2 1)):=q 2 zz;have q3:t.cell? ⟨g,i*13+3,I⟩=Y (.bool (x.2 2)):=q 3 zz;have q4:t.cell? ⟨g,i*13+4,I⟩=Y (.bool (x.2 3)):=q 4 zz;have q5:t.cell? ⟨g,i*13+5,I⟩=Y (.bool (x.2 4)):=q 5 zz;have q6:t.cell? ⟨g,i*13+6,I⟩=Y (.bool (x.2 5)):=q 6 zz;have q7:t.cell? ⟨g,i*13+7,I⟩=Y (.bool (x.2 6)):=q 7 zz;have q8:t.cell? ⟨g,i*13+8,I⟩=Y (.bool (x.2 7)):=q 8 zz;have q9:t.cell? ⟨g,i*13+9,I⟩=Y (.bool (x.2 8)):=q 9 zz;have j':t.cell? ⟨g,i*13+10,I⟩=Y (.bool (x.2 9)):=q 10 zz;have k4:t.cell? ⟨g,i*13+11,I⟩=Y (.bool (x.2 10)):=q 11 zz;have k5:t.cell? ⟨g,i*13+12,I⟩=Y (.bool (x.2 11)):=q 12 zz;have k7:=(aM C.box).2.2.2.2.2.2.2.2.2.2.1;have R':w.heap.size<t.heap.size:=C.box.lt;have R4:d.heap.size+1<t.heap.size:=(du.1 a3).1;have n8:=Hm C;have o6:=Hm i9;have o7:=Hm a3;clear q O i9 C a3;go_wp2;clear q0 q1 q2 q3 q4 q5 q6 q7 q8 q9 j' k4 k5 k7;go_loopw [11,37] (λn v b5=>∃h:Nat,h<=b.U.n/\v=.int .i64 h/\n=.int .i64 (pF b l x p h)/\tS w d.heap.size (w.heap.size+1) B b l ⟨Y ⟨g,0,I⟩,SS.length,c⟩ r SS p b5/\bA b5 t.heap.size 78 x.1 x.2/\b5.heap[d.heap.size+1]?=Y (.cells #[.int .i64 z.1,.int .i64 z.2] 23 (0,0))) (λ_ v _=>b.U.n-(intOf v).toNat)
    case atStart=>exact⟨0,zz,rfl,rfl,n8.out.below ((X.refl _ _).alloc (dj _) _),bA.new t 78 x.1 x.2,(QR _ _ zz).tn o7.out⟩
    (case round=>
      obtain⟨h,f9,rfl,rfl,C,a6,a3⟩:=hrel;obtain⟨P,rfl⟩:∃P:H,P=wr:=⟨_,rfl⟩;by_cases g8:h<b.U.n
      .have j1:h<l.U.length:=by rw[<- b9.out];exact g8
       obtain⟨G4,G9,t3,t4,t5,t6,t7,t8,t9,k6,-⟩:=cS (bP h9.out).1;obtain⟨p1,p2,p3,p4⟩:=kP (bP h9.out).2.2.1 h j1;have d6:=λw' (g9:bp w' b.U l.U)=>qX b G4 G9 t5 t6 x.1 zz zz x.2 h l.U j1 p1 p2 p3 p4 w' g9;have U':=Oj b l x p h;have E0:oN b l x h p=true->pF b l x p (h+1)=pF b l x p h+1:=λe=>by unfold pF;rw[oG (show Tz b l x p h=true from e)];simp
       have A4:oN b l x h p=false->pF b l x p (h+1)=pF b l x p h:=λe=>by unfold pF;rw[mV (show Tz b l x p h=false from e)]
       have e':=Hm E0;have n7:=Hm A4;change ∀w',bp w' b.U l.U->PH F 34 #[b.v,gN x.1 x.2,.int .i64 h] w' λe v3=>e=.returned (tJ (oN b l x h))/\X w'.heap.size w' v3 at d6;have x0:=λw=>Dl (oN b l x h) p g9 w;generalize oN b l x h=T at d6 e' n7 x0;generalize j2:pF b l x p h=n at U' e' n7|-;have W':=Hm j2;have b1:d.heap.size<P.heap.size:=(du.1 C.kn).1;have a4:=a6.lt;have V8:w.heap.size+1<P.heap.size:=(du.1 C.st).1;obtain⟨z0,z1,z2,z3,z4,z5,z6,z7,z8,z9,d0,e4,e5,h8,e6⟩:=gH C.kn;obtain⟨s0,s1,s2,s3,s4,s5,s6,s7,s8,s9,m7,m',m0⟩:=a6.all;have d9:=one_cell C.st;have e8:=Hm C;have e9:=Hm a6;have g4:=Hm a3;have i3:PQ (∀w',X P.heap.size P w'->w'.cell? ⟨d.heap.size,0,I⟩=Y (.int .i64 b.S)/\w'.cell? ⟨d.heap.size,1,I⟩=Y (.int .i64 b.D)/\w'.cell? ⟨d.heap.size,2,I⟩=Y (.int .i64 b.L)/\w'.cell? ⟨d.heap.size,3,I⟩=Y (.int .i64 b.lo)/\w'.cell? ⟨d.heap.size,4,I⟩=Y (.int .i64 b.hi)/\w'.cell? ⟨d.heap.size,5,I⟩=Y (.slice b.C.A b.C.n b.C.c)/\w'.cell? ⟨d.heap.size,6,I⟩=Y (.int .i64 b.rf)/\w'.cell? ⟨d.heap.size,7,I⟩=Y (.int .i64 b.rh)/\w'.cell? ⟨d.heap.size,8,I⟩=Y (.int .i64 b.cf)/\w'.cell? ⟨d.heap.size,9,I⟩=Y (.int .i64 b.ch)/\w'.cell? ⟨d.heap.size,10,I⟩=Y (.slice b.U.A b.U.n b.U.c)/\w'.cell? ⟨d.heap.size,11,I⟩=Y (.slice b.E.A b.E.n b.E.c)/\w'.cell? ⟨d.heap.size,12,I⟩=Y (.slice b.W.A b.W.n b.W.c)/\w'.cell? ⟨t.heap.size,0,I⟩=Y (.int .i64 x.1)/\w'.cell? ⟨t.heap.size,1,I⟩=Y (.bool (x.2 0))/\w'.cell? ⟨t.heap.size,2,I⟩=Y (.bool (x.2 1))/\w'.cell? ⟨t.heap.size,3,I⟩=Y (.bool (x.2 2))/\w'.cell? ⟨t.heap.size,4,I⟩=Y (.bool (x.2 3))/\w'.cell? ⟨t.heap.size,5,I⟩=Y (.bool (x.2 4))/\w'.cell? ⟨t.heap.size,6,I⟩=Y (.bool (x.2 5))/\w'.cell? ⟨t.heap.size,7,I⟩=Y (.bool (x.2 6))/\w'.cell? ⟨t.heap.size,8,I⟩=Y (.bool (x.2 7))/\w'.cell? ⟨t.heap.size,9,I⟩=Y (.bool (x.2 8))/\w'.cell? ⟨t.heap.size,10,I⟩=Y (.bool (x.2 9))/\w'.cell? ⟨t.heap.size,11,I⟩=Y (.bool (x.2 10))/\w'.cell? ⟨t.heap.size,12,I⟩=Y (.bool (x.2 11))/\w'.cell? ⟨w.heap.size+1,0,I⟩=Y (.int .i64 p)/\d.heap.size<w'.heap.size/\t.heap.size<w'.heap.size/\w.heap.size+1<w'.heap.size/\X P.heap.size P w'):=λw' G=>⟨(G.cell (p:=⟨_,_,I⟩) b1).tn z0,(G.cell (p:=⟨_,_,I⟩) b1).tn z1,(G.cell (p:=⟨_,_,I⟩) b1).tn z2,(G.cell (p:=⟨_,_,I⟩) b1).tn z3,(G.cell (p:=⟨_,_,I⟩) b1).tn z4,(G.cell (p:=⟨_,_,I⟩) b1).tn z5,(G.cell (p:=⟨_,_,I⟩) b1).tn z6,(G.cell (p:=⟨_,_,I⟩) b1).tn z7,(G.cell (p:=⟨_,_,I⟩) b1).tn z8,(G.cell (p:=⟨_,_,I⟩) b1).tn z9,(G.cell (p:=⟨_,_,I⟩) b1).tn d0,(G.cell (p:=⟨_,_,I⟩) b1).tn e4,(G.cell (p:=⟨_,_,I⟩) b1).tn e5,(G.cell (p:=⟨_,_,I⟩) a4).tn s0,(G.cell (p:=⟨_,_,I⟩) a4).tn s1,(G.cell (p:=⟨_,_,I⟩) a4).tn s2,(G.cell (p:=⟨_,_,I⟩) a4).tn s3,(G.cell (p:=⟨_,_,I⟩) a4).tn s4,(G.cell (p:=⟨_,_,I⟩) a4).tn s5,(G.cell (p:=⟨_,_,I⟩) a4).tn s6,(G.cell (p:=⟨_,_,I⟩) a4).tn s7,(G.cell (p:=⟨_,_,I⟩) a4).tn s8,(G.cell (p:=⟨_,_,I⟩) a4).tn s9,(G.cell (p:=⟨_,_,I⟩) a4).tn m7,(G.cell (p:=⟨_,_,I⟩) a4).tn m',(G.cell (p:=⟨_,_,I⟩) a4).tn m0,(G.cell (p:=⟨_,_,I⟩) V8).tn d9,by have:=G.size;omega,by have:=G.size;omega,by have:=G.size;omega,G⟩;clear z0 z1 z2 z3 z4 z5 z6 z7 z8 z9 d0 e4 e5 h8 e6 s0 s1 s2 s3 s4 s5 s6 s7 s8 s9 m7 m' m0 d9 C a6 a3 E0 A4 j2 G4 G9 t3 t4 t5 t6 t7 t8 t9 k6 p1 p2 p3 p4;unfold aC.v gN at d6;cases o':T p
       all_goals
        rw[o']at x0;have v4:=Hm o';clear o';go_wp2;go_region_held3 (λw'=>w'.cell? ⟨d.heap.size,0,I⟩=Y (.int .i64 b.S)/\w'.cell? ⟨d.heap.size,1,I⟩=Y (.int .i64 b.D)/\w'.cell? ⟨d.heap.size,2,I⟩=Y (.int .i64 b.L)/\w'.cell? ⟨d.heap.size,3,I⟩=Y (.int .i64 b.lo)/\w'.cell? ⟨d.heap.size,4,I⟩=Y (.int .i64 b.hi)/\w'.cell? ⟨d.heap.size,5,I⟩=Y (.slice b.C.A b.C.n b.C.c)/\w'.cell? ⟨d.heap.size,6,I⟩=Y (.int .i64 b.rf)/\w'.cell? ⟨d.heap.size,7,I⟩=Y (.int .i64 b.rh)/\w'.cell? ⟨d.heap.size,8,I⟩=Y (.int .i64 b.cf)/\w'.cell? ⟨d.heap.size,9,I⟩=Y (.int .i64 b.ch)/\w'.cell? ⟨d.heap.size,10,I⟩=Y (.slice b.U.A b.U.n b.U.c)/\w'.cell? ⟨d.heap.size,11,I⟩=Y (.slice b.E.A b.E.n b.E.c)/\w'.cell? ⟨d.heap.size,12,I⟩=Y (.slice b.W.A b.W.n b.W.c)/\w'.cell? ⟨t.heap.size,0,I⟩=Y (.int .i64 x.1)/\w'.cell? ⟨t.heap.size,1,I⟩=Y (.bool (x.2 0))/\w'.cell? ⟨t.heap.size,2,I⟩=Y (.bool (x.2 1))/\w'.cell? ⟨t.heap.size,3,I⟩=Y (.bool (x.2 2))/\w'.cell? ⟨t.heap.size,4,I⟩=Y (.bool (x.2 3))/\w'.cell? ⟨t.heap.size,5,I⟩=Y (.bool (x.2 4))/\w'.cell? ⟨t.heap.size,6,I⟩=Y (.bool (x.2 5))/\w'.cell? ⟨t.heap.size,7,I⟩=Y (.bool (x.2 6))/\w'.cell? ⟨t.heap.size,8,I⟩=Y (.bool (x.2 7))/\w'.cell? ⟨t.heap.size,9,I⟩=Y (.bool (x.2 8))/\w'.cell? ⟨t.heap.size,10,I⟩=Y (.bool (x.2 9))/\w'.cell? ⟨t.heap.size,11,I⟩=Y (.bool (x.2 10))/\w'.cell? ⟨t.heap.size,12,I⟩=Y (.bool (x.2 11))/\w'.cell? ⟨w.heap.size+1,0,I⟩=Y (.int .i64 p)/\d.heap.size<w'.heap.size/\t.heap.size<w'.heap.size/\w.heap.size+1<w'.heap.size/\X P.heap.size P w')
         (exact i3.out _ bf)
         (first|(go_at_call 34;(with_reducible refine(d6 _ (b6.out.U.below (e8.out.low.tn (X.mono (by first|with_reducible assumption|exact bt:X P.heap.size P _) e8.out.low.size)))).mono ?_);rintro e v1 ⟨rfl,d2⟩;have k2:X P.heap.size P v1:=X.tn bf (d2.mono (by first|(simp only[H.size_drew];omega)|exact(by with_reducible assumption:X P.heap.size P _).size))))
        go_wp2
       .go_roundw
        case rel=>exact⟨h+1,zz,by go_num,by rw[n7.out v4.out],e8.out.below k2,e9.out.below k2 a4,(k2.block _ (du.1 g4.out).1).tn g4.out⟩
        case measure=>simp[intOf];omega
       .go_roundw
        case rel=>exact⟨h+1,zz,by go_num,by rw[e'.out v4.out];go_num,e8.out.below k2,e9.out.below k2 a4,(k2.block _ (du.1 g4.out).1).tn g4.out⟩
        case measure=>simp[intOf];omega
      .obtain rfl:h=b.U.n:=zz;have U:=Hm C;have g4:=Hm a3;obtain⟨o0,o1⟩:=kV a3;have of:∀j,P.frozen? ⟨d.heap.size+1,j,I⟩=false:=λj=>by simp[H.frozen?,a3]
       have ol:d.heap.size+1<P.heap.size:=(du.1 a3).1;obtain⟨n,f0⟩:∃n,pF b l x p b.U.n=n:=⟨_,rfl⟩;rw[f0];have k':=Hm f0;clear C a6 a3 f0;go_wp2;go_roundw
       case rel=>
        have U1:(if(n:Int)<z.1 then(n:Int)else z.1)=min z.1 n:=by rw[Int.min_def];split<;>split<;>omega
        have T':(if z.2<(n:Int)then(n:Int)else z.2)=max z.2 n:=by rw[Int.max_def];split<;>split<;>omega
        rw[U1,T'];obtain⟨k1,k2⟩:=tR (.int .i64 (min z.1 n)) (.int .i64 (max z.2 n)) g4.out;refine⟨i+1,(min z.1 n,max z.2 n),zz,by go_num,U.out.keep k2 (λy b4=>zz) zz zz zz (λy b4=>by simp[M.ownBlock]at b4;omega),k1,?_⟩;have e:yc b l p z (SS.drop i)=yc b l p (min z.1 n,max z.2 n) (SS.drop (i+1)):=by
         rw[o6.out,<- k'.out,b9.out];rfl
        rw[PQ,<- e];exact a8.out
       case measure=>simp[intOf];omega)
   |obtain⟨x,O⟩:∃x,SS.getD i (0,mI)=x:=⟨_,rfl⟩
    have u2:x∈SS:=by rw[<- O];simp[List.getD,fg W]
    obtain⟨e1,e2⟩:=n0.out x u2;have i9:SS.drop i=x::SS.drop (i+1):=by
     rw[lL W,<- O];simp[List.getD,fg W]
    have q:∀j,j<13->t.cell? ⟨g,i*13+j,I⟩=(zC x).toList[j]?:=λj b'=>by
     have:=wO C.own rfl W j b';rw[O]at this;exact this
    have q0:t.cell? ⟨g,i*13,I⟩=Y (.int .i64 x.1):=q 0 zz;have q1:t.cell? ⟨g,i*13+1,I⟩=Y (.bool (x.2 0)):=q 1 zz;have q2:t.cell? ⟨g,i*13+2,I⟩=Y (.bool (x.2 1)):=q 2 zz;have q3:t.cell? ⟨g,i*13+3,I⟩=Y (.bool (x.2 2)):=q 3 zz;have q4:t.cell? ⟨g,i*13+4,I⟩=Y (.bool (x.2 3)):=q 4 zz;have q5:t.cell? ⟨g,i*13+5,I⟩=Y (.bool (x.2 4)):=q 5 zz;have q6:t.cell? ⟨g,i*13+6,I⟩=Y (.bool (x.2 5)):=q 6 zz;have q7:t.cell? ⟨g,i*13+7,I⟩=Y (.bool (x.2 6)):=q 7 zz;have q8:t.cell? ⟨g,i*13+8,I⟩=Y (.bool (x.2 7)):=q 8 zz;have q9:t.cell? ⟨g,i*13+9,I⟩=Y (.bool (x.2 8)):=q 9 zz;have j':t.cell? ⟨g,i*13+10,I⟩=Y (.bool (x.2 9)):=q 10 zz;have k4:t.cell? ⟨g,i*13+11,I⟩=Y (.bool (x.2 10)):=q 11 zz;have k5:t.cell? ⟨g,i*13+12,I⟩=Y (.bool (x.2 11)):=q 12 zz;have k7:=(aM C.box).2.2.2.2.2.2.2.2.2.2.1;have R':w.heap.size<t.heap.size:=C.box.lt;have R4:d.heap.size+1<t.heap.size:=(du.1 C.kn).1;have n8:=Hm C;have o6:=Hm i9;clear q O i9 C;go_wp2;clear q0 q1 q2 q3 q4 q5 q6 q7 q8 q9 j' k4 k5 k7;go_loopw [48] (λv b5=>∃(h:Nat) (L2:List gM),h<=b.U.n/\v=.int .i64 h/\lQ w w.heap.size (d.heap.size+1) d.heap.size w2.heap.size b ⟨Y ⟨g,0,I⟩,SS.length,c⟩ SS b5 L2/\bA b5 t.heap.size 78 x.1 x.2/\PQ (ku b l x L2 (List.range' h (b.U.n-h))=ku b l x L (List.range' 0 l.U.length))) (λv _=>b.U.n-(intOf v).toNat)
    case atStart=>
     refine⟨0,L,zz,rfl,n8.out.below ((X.refl _ _).alloc (dj _) _),?_,by rw[PQ,b9.out];rfl⟩;have:=bA.new t 78 x.1 x.2;exact this
    case round=>
     obtain⟨h,L2,f9,rfl,C,a6,d7⟩:=hrel;obtain⟨P,rfl⟩:∃P:H,P=wr:=⟨_,rfl⟩;by_cases g8:h<b.U.n
     .have j1:h<l.U.length:=by rw[<- b9.out];exact g8
      obtain⟨t1,t2,t3,t4,t5,t6,t7,t8,t9,k6,-⟩:=cS (bP h9.out).1;obtain⟨p1,p2,p3,p4⟩:=kP (bP h9.out).2.2.1 h j1;have d6:=λw' (g9:bp w' b.U l.U)=>qX b t1 t2 t5 t6 x.1 zz zz x.2 h l.U j1 p1 p2 p3 p4 w' g9;have y':=λw'=>xQ (oN b l x h) w';have j3:List.range' h (b.U.n-h)=h::List.range' (h+1) (b.U.n-(h+1)):=by
       rw[show b.U.n-h=(b.U.n-(h+1))+1 by omega,List.range'_succ]
      have HR:=Hm j3;obtain⟨z0,z1,z2,z3,z4,z5,z6,z7,z8,z9,d0,e4,e5,h8,e6⟩:=gH C.kn;obtain⟨s0,s1,s2,s3,s4,s5,s6,s7,s8,s9,m7,m',m0⟩:=a6.all;have b1:d.heap.size+1<P.heap.size:=(du.1 C.kn).1;have a4:=a6.lt;have e8:=Hm C;have e9:=Hm a6;have hlw2:=C.low.size;change ∀w',bp w' b.U l.U->PH F 34 #[b.v,gN x.1 x.2,.int .i64 h] w' λe v3=>e=.returned (tJ (oN b l x h))/\X w'.heap.size w' v3 at d6;generalize w7:oN b l x h=T at d6 y';have J':=Hm w7;clear w7 t1 t2 t3 t4 t5 t6 t7 t8 t9 k6 p1 p2 p3 p4 j3 h8 e6 C a6;unfold aC.v gN at d6
      go_wp2_with (first
       | (go_at_call 34;refine(d6 _ (b6.out.U.below e8.out.low)).mono ?_;rintro e v1 ⟨rfl,d2⟩;obtain⟨x4,x7⟩:=aU d2)
       | (go_at_call 35;refine(y' _).mono ?_;rintro e v2 ⟨A2,c2,rfl,d1,j5⟩;obtain⟨P',Q0⟩:=aU j5))
      have hz20:=d2.size;have hns:(ie T 12).length<=12:=kO T 12;have w8:aN v2 ⟨A2,(ie T 12).length,c2⟩ (ie T 12):=Lm (by simpa using d1) rfl zz;have w5:∀y,I4 ⟨A2,(ie T 12).length,c2⟩ (ie T 12) y->d.heap.size<y:=λy b4=>by
       obtain⟨-, o,A6⟩:=b4;simp only at A6;subst A6;have:=(d1.lt y rfl).1;omega
      have w6:=(e8.out.below d2).below j5;have x1:=(e9.out.below d2 a4).below j5 zz;have hlv2:P.heap.size<=v2.heap.size:=by have:=j5.size;omega
      have K3:=Hm w8;have G':=Hm w5;have J1:=Hm w6;have L7:=Hm x1;clear w8 w5 w6 x1 d1 x4 x7 P' Q0 d2 j5 z0 z1 z2 z3 z4 z5 z6 z7 z8 z9 d0 e4 e5 s0 s1 s2 s3 s4 s5 s6 s7 s8 s9 m7 m' m0;go_loopw [58] (λv b5=>∃(k:Nat) (L3:List gM),k<=(ie T 12).length/\v=.int .i64 k/\lQ w w.heap.size (d.heap.size+1) d.heap.size w2.heap.size b ⟨Y ⟨g,0,I⟩,SS.length,c⟩ SS b5 L3/\bA b5 t.heap.size 78 x.1 x.2/\aN b5 ⟨A2,(ie T 12).length,c2⟩ (ie T 12)/\PQ (ko h L3 ((ie T 12).drop k)=ko h L2 (ie T 12))) (λv _=>(ie T 12).length-(intOf v).toNat)
      case atStart=>exact⟨0,L2,zz,rfl,J1.out,L7.out,K3.out,rfl⟩
      case round=>
       obtain⟨k,L3,hk,rfl,C,a6,l',s'⟩:=hrel;obtain⟨h7,rfl⟩:∃h7:H,h7=wr:=⟨_,rfl⟩;by_cases u1:k<(ie T 12).length
       .obtain⟨W0,off2,w4,hbb2,V⟩:=l'.2.2.2 zz;simp only at w4;subst w4;have P1:=V k u1;obtain⟨h6,u3⟩:∃h6,(ie T 12).getD k 0=h6:=⟨_,rfl⟩;have x6:(ie T 12).drop k=h6::(ie T 12).drop (k+1):=by
         rw[lL u1,<- u3];simp[List.getD,fg u1]
        rw[u3]at P1;have e6:=(gH C.kn).2.2.2.2.2.2.2.2.2.2.2.2.2.2;obtain⟨W1,W2,iE,r1,r2,r3,r4,r5,r6⟩:=Gm (w:=h7.drew) (r:=d.heap.size) (L:=L3) C.map (h,h6);have z':=lQ.kQ (wr':=W2) C zz zz zz zz ((aS.refl _ h7).drew.tn r6) r5;have C2:=abj a6 ((aS.refl _ h7).drew.tn r6) zz;have x':=l'.keep ((aS.refl _ h7).drew.tn r6) (λy b4=>by have:=G'.out y b4;omega);have U:=Hm z';have n9:=Hm C2;have K4:=Hm x';have J4:=Hm x6;generalize O0:assoc L3 (h,h6)=Z' at r1 r2 r3 r4;unfold gG at r1 r2 r3;simp only at r1 r2 r3;clear V u3 x6 z' C2 x' C a6 l' r5 r6 O0;go_wp2;go_region
        all_goals
         go_wp2;go_roundw
         case rel=>
          refine⟨k+1,_,zz,by go_num,U.out,n9.out,K4.out,?_⟩;have e:ko h L3 ((ie T 12).drop k)=ko h (wD L3 (h,h6)) ((ie T 12).drop (k+1)):=by rw[J4.out];rfl
          rw[PQ,<- e];exact s'.out
         case measure=>simp[intOf];omega
       .obtain rfl:k=(ie T 12).length:=zz;have e3:L3=ko h L2 (ie T 12):=by
         have:=s'.out;rw[lv (dj _)]at this;exact this
        have K2:=Hm e3;have U:=Hm C;have n9:=Hm a6;clear e3 C a6 l' s';go_wp2;go_roundw
        case rel=>
         refine⟨h+1,L3,zz,by go_num,U.out,n9.out,?_⟩;have e:ku b l x L2 (List.range' h (b.U.n-h))=ku b l x L3 (List.range' (h+1) (b.U.n-(h+1))):=by
          rw[HR.out,K2.out,<- J'.out];rfl
         rw[PQ,<- e];exact d7.out
        case measure=>simp[intOf];omega
     .obtain rfl:h=b.U.n:=zz;have v0:L2=ku b l x L (List.range' 0 l.U.length):=by
       have:=d7.out;rw[Nat.sub_self]at this;exact this
      have K1:=Hm v0;have U:=Hm C;clear v0 C a6 d7;go_wp2;go_roundw
      case rel=>
       refine⟨i+1,L2,zz,by go_num,U.out,?_⟩;have e:lP b l L (SS.drop i)=lP b l L2 (SS.drop (i+1)):=by rw[o6.out,K1.out];rfl
       rw[PQ,<- e];exact a8.out
      case measure=>simp[intOf];omega
  .first
   |revert ø;intro ø
    obtain rfl:i=SS.length:=zz;rw[List.take_of_length_le (dj _)]at*;obtain⟨z0,z1,z2,z3,z4,z5,z6,z7,z8,z9,d0,e4,e5,h8,e6⟩:=gH ((J.block _ a0).tn i1.out);have a2:=Hm J;clear J;go_wp2_with (go_at_call 52;refine(E' ⟨Y ⟨g,0,I⟩,SS.length,c⟩ _ _ _).mono ?_;rintro e w2 ⟨rfl,f4⟩);go_ret2;exact⟨by rw[a7.out];rfl,a'.out.tn ((a2.out.tn (f4.mono d')).mono a'.out.size)⟩
   |revert æ;intro æ
    have i':k=b.S.toNat:=zz;have K5:=Hm i';have i2:=Hm u;have a2:=Hm J;clear i' J u;have d5:aK t w 31 b:=(a2.out.block _ zz).tn k9.out;have y0:=(aM d5).1;clear d5;go_wp2;go_ret2;rw[a7.out,<- K5.out];exact⟨_,_,rfl,dy a'.out.size i2.out,a'.out.tn (a2.out.mono a'.out.size)⟩
   |revert ë;intro ë
    obtain rfl:i=SS.length:=zz;have e1:z=yc b l p ((l.U.length:Nat),0) SS:=by
     have:=a8.out;rw[lv (dj _)]at this;exact this
    have n5:=Hm e1;obtain⟨o0,o1⟩:=kV a3;obtain⟨y0,y1⟩:=kV C.res;have of:∀j,t.frozen? ⟨w.heap.size+1+1,j,I⟩=false:=λj=>by simp[H.frozen?,C.res]
    have V9:w.heap.size+1+1<t.heap.size:=(du.1 C.res).1;have U:=Hm C;clear e1 C a3 a8;go_wp2;obtain⟨f1,f2⟩:=tR (.int .i64 z.1) (.int .i64 z.2) U.out.res;obtain⟨c0,Q⟩:=kV f1;rw[a7.out,<- n5.out];refine bd (v:=.tuple #[.agg #[.int .i64 z.1,.int .i64 z.2],.int .i64 0]) ?_ rfl ⟨rfl,U.out.low.tn (f2.below U.out.low.size (λx O=>zz))⟩;simp[results,Tryz.results21,go_sem,c0,Q]
   |revert ï;intro ï
    obtain rfl:i=SS.length:=zz;have e1:L=fN b l:=by
     have:=a8.out;rw[lv (dj _)]at this;exact this.tn l3.out.symm
    have n5:=Hm e1;obtain⟨z0,z1,z2,z3,z4,z5,z6,z7,z8,z9,d0,e4,e5,h8,e6⟩:=gH C.kn;obtain⟨y0,y1,y2,y3,y4,y5,y6,y7,y8,y9,k7,y11,y12,y13,y14⟩:=gH C.res;have yf:∀j,t.frozen? ⟨w.heap.size+1,j,I⟩=false:=λj=>by simp[H.frozen?,C.res]
    have V9:w.heap.size+1<t.heap.size:=(du.1 C.res).1;have U:=Hm C;clear e1 C a8;go_wp2;obtain⟨f1,f2⟩:=Bs (.int .i64 b.S) (.int .i64 b.D) (.int .i64 b.L) (.int .i64 b.lo) (.int .i64 b.hi) (.slice b.C.A b.C.n b.C.c) (.int .i64 b.rf) (.int .i64 b.rh) (.int .i64 b.cf) (.int .i64 b.ch) (.slice b.U.A b.U.n b.U.c) (.slice b.E.A b.E.n b.E.c) (.slice b.W.A b.W.n b.W.c) (.slice (Y ⟨g,0,I⟩) SS.length c) (.map (Y d.heap.size)) U.out.res;obtain⟨c0,Q,c2,c3,c4,c5,c6,c7,c8,c9,L',N',N0,O1,O2⟩:=gH f1;refine bd (v:=.tuple #[uC b ⟨Y ⟨g,0,I⟩,SS.length,c⟩ (Y d.heap.size),.int .i64 0]) ?_ rfl ⟨_,c,d.heap.size,rfl,?_,?_,zz,U.out.low.tn (f2.below U.out.low.size (λx O=>zz))⟩
    .simp[results,Tryz.results46,go_sem,uC,c0,Q,c2,c3,c4,c5,c6,c7,c8,c9,L',N',N0,O1,O2]
    .exact dy (B:=w2.heap.size) zz (bB U.out.own f2 (λg' r9=>by
      have:=(U.out.own.lt g' r9).1;omega))
    .rw[<- n5.out];exact f2.get zz U.out.map
   |revert å;intro å
    obtain rfl:i=SS.length:=zz;rw[List.take_of_length_le (dj _)]at u;obtain⟨g2,rfl⟩:∃g2,A1=Y ⟨g2,0,I⟩:=by
     rcases u.2 with⟨E,h2⟩|⟨g,cap,g5,E,-⟩
     .omega
     .simp only[lA]at E;exact⟨g,E.1⟩
    obtain⟨zs,m6⟩:∃zs,zs=SS.map (·.1):=⟨_,rfl⟩;rw[<- m6]at u;have h1:zs.length=SS.length:=by rw[m6];simp
    have m1:=Tryz.slices_Sort_int g2 0 Q zs wr (qZ u h1.symm) (u.lt g2 rfl).2 (by rw[h1];omega);rw[h1]at m1;have j4:(zs.mergeSort λx y=>decide (x<=y)).length=SS.length:=by rw[List.length_mergeSort,h1]
    obtain⟨n1,u8⟩:∃n1,(zs.mergeSort λx y=>decide (x<=y))=n1:=⟨_,rfl⟩;rw[u8]at m1 j4;have p0:=λw' O5=>Tryz.slices_Compact_int g2 0 Q n1 w' O5 (by rw[j4];omega);rw[j4]at p0;have w0:uN SS=Lib.compact n1:=by rw[uN,<- m6,u8]
    have K':=Hm w0;have O':SS.length<=Q:=by
     rcases u.2 with⟨E,h2⟩|⟨g,cap,g5,E,_,_,h4,-⟩
     .cases E
     .cases E;exact h4
    have a2:=Hm J;have b8:=Hm u;have v9:=Hm h1;have l2:=Hm j4;clear u J m6 h1 j4 u8 w0
    go_wp2_with (first
     | (go_at_call 48;refine m1.mono ?_;clear m1;rintro e w2 ⟨rfl,q2,os,E3⟩;obtain⟨o2,w1⟩:=oR b8.out v9.out.symm (l2.out.tn v9.out.symm) E3;have v8:=Hm o2;have v6:=Hm w1;clear E3 o2 w1)
     | (go_at_call 49;refine(p0 w2 (qZ v8.out l2.out.symm) O').mono ?_;clear p0;rintro e w3 ⟨rfl,q3,u9⟩;rw[<- l2.out]at u9))
    go_ret2;obtain⟨o3,O3⟩:=DO v8.out l2.out.symm u9;rw[a7.out,K'.out];subst u9;exact⟨_,_,rfl,dy a'.out.size o3,a'.out.tn (((a2.out.grown v6.out d' (by have:=(b8.out.lt g2 rfl).1;simpa using this)).grown O3 (by have:=v6.out.size;have:=a2.out.size;omega) (by have:=(b8.out.lt g2 rfl).1;simpa using this)).mono a'.out.size)⟩
   |have x9:h=b.U.n:=zz
    have B4:a5=f3:=by
     have:=a8.out;rw[x9,Nat.sub_self]at this;simpa[nM]using this
    have b2:=v5.out;rw[<- B4]at b2 r7 Q';obtain⟨g,rfl,hgc⟩:∃g,A1=Y ⟨g,0,I⟩/\a5.length<=Q:=by
     rcases u.2 with⟨E,h2⟩|⟨g,cap,g5,E,h2,h3,h4,-⟩
     .omega
     .simp only[lA]at E;exact⟨g,E.1,zz⟩
    have b3:∀(i j:Nat),i<a5.length->j<3->t (g,i*3+j)=(Sv (a5.getD i ((0,0),0)))[j]?:=λi j hi b'=>by
     rw[u.cellAt (i*3+j) zz,Jd a5 ((0,0),0) i j hi b']
    have q0:t (g,0)=Y (.int .i64 (-1)):=by have:=b3 0 0 zz zz;rw[b2]at this;exact this
    have q1:t (g,1)=Y (.int .i64 (-1)):=by have:=b3 0 1 zz zz;rw[b2]at this;exact this
    have q2:t (g,2)=Y (.int .i64 SS.length):=by have:=b3 0 2 zz zz;rw[b2]at this;exact this
    have g7:g<t.heap.size:=(u.lt g rfl).2;obtain⟨cs,q'⟩:∃cs:List Ct,cs=nM LL SS.length b.S.toNat (List.range' 0 b.U.n):=⟨_,rfl⟩;rw[<- q']at b2;have B':a5.length=cs.length+1:=by rw[b2];rfl
    have x3:∀w',X t t w'->Y5 w' ⟨Y (g,3),a5.length-1,Q-1⟩ cs ((0,0),0):=λw' G=>by
     refine⟨by show a5.length-1=cs.length;omega,by show cs.length<=Q-1;omega,?_,λ_=>⟨g,3,rfl,by have:=G.size;omega,λk hk=>?_⟩⟩
     .show cs.length<=1000;omega
     .have e:∀j,j<3->w' (g,3+k*3+j)=(Sv (cs.getD k ((0,0),0)))[j]?:=λj b'=>by
       rw[G.cell (p:=⟨g,_,I⟩) g7];have:=b3 (k+1) j zz b';rw[b2,List.getD_cons_succ,show(k+1)*3+j=3+k*3+j by omega]at this;exact this
      exact⟨e 0 zz,e 1 zz,e 2 zz⟩
    have p8:=λw' (G:X t.heap.size t w')=>Ss Om (λ_=>True) ((-1, -1),(SS.length:Int)) ((0,0),0) ⟨Y ⟨g,3,I⟩,a5.length-1,Q-1⟩ cs w' (x3 w' G) db (λ_ _=>trivial) (λx y d _ _ _=>Oo x y d);obtain⟨z,a3⟩:∃z,iR Om ((-1, -1),(SS.length:Int)) cs=z:=⟨_,rfl⟩;rw[a3]at p8;have o7:PQ (DK b l=z):=by rw[PQ,n3.out,<- q'];exact a3
    simp only at p8;have a2:=Hm J;have i3:PQ (∀w',X t t w'->w' (g,0)=Y (.int .i64 (-1))/\w' (g,1)=Y (.int .i64 (-1))/\w' (g,2)=Y (.int .i64 SS.length)/\g<w'.heap.size/\X t t w'):=λw' G=>⟨(G.cell (p:=⟨_,_,I⟩) g7).tn q0,(G.cell (p:=⟨_,_,I⟩) g7).tn q1,(G.cell (p:=⟨_,_,I⟩) g7).tn q2,by have:=G.size;omega,G⟩;have g6:2<=Q:=zz;have h3:(1:Int)<=(a5.length:Int):=zz;have h4:¬(Q=1):=zz;have h5:0<a5.length:=zz;have hlt':¬(h<b.U.n):=W;clear b3 q0 q1 q2 x3 a3 q' b2 J u a8 B4 B' x9;go_wp2;obtain⟨r0,r1,r2,r3,-⟩:=i3.out t (X.refl _ _);go_region_with (go_at_call 60;(with_reducible refine(p8 _ bf).mono ?_);rintro e v1 ⟨rfl,d2⟩;obtain⟨x4,x7⟩:=aU d2;have V':=d2.size;have k2:X t.heap.size t v1:=X.tn bf (d2.mono ss);(first|(have zl:t.heap.size<v1.heap.size:=(by simp only[aa,H.size_drew]at V';omega))|skip))
    all_goals
     go_wp2;go_quiet ((fail));go_wp2;rw[a7.out,o7.out];refine bd (v:=.tuple #[.int .i64 z.1.1,.int .i64 z.1.2,.int .i64 z.2,.int .i64 0]) (by simp[results,Tryz.results25,go_sem]) rfl ⟨rfl,?_⟩;have hw0:(w:Nat)<=t:=by have:=a'.out.size;have:=a2.out.size;omega
     have B3:X w w v1:=a'.out.tn ((a2.out.tn (k2.mono a2.out.size)).mono a'.out.size);exact bt):p:=h
def pr{p:Prop}(h:p:=by
 have Z:=Hm b6
 first
 |have _:=ø
  have V:=Hm hc;have G:=λa=>uK b b.D a;clear b6 hc;refine(callsIn_wide (n:=9)).1 ?_;refine callsIn_of_wp_marks Tryz.func68 rfl db ?_ rfl;unfold aC.v at G|-;unfold mJ aE at G;simp only[Tryz.ntmps68,List.size_toArray,fx,ky,Nat.reduceAdd,Nat.reduceSub,zR];gi_wp2_with (refine⟨db,?_⟩;gi_at_call 59;refine(callsIn_wide.2 (G _)).mono ?_;rintro e J ⟨rfl,rfl⟩);have d':((((w.alloc (aE b 74)).alloc (.cells #[.bool false] 4)).alloc (aE b 74)).alloc (.cells #[.int .i64 b.D] 3)).heap.size=w.heap.size+4:=by simp only[aa]
  have P:=((((aS.refl (λ_=>True) w).alloc (aE b 74)).alloc (.cells #[.bool false] 4)).alloc (aE b 74)).alloc (.cells #[.int .i64 b.D] 3);have a6:((((w.alloc (aE b 74)).alloc (.cells #[.bool false] 4)).alloc (aE b 74)).alloc (.cells #[.int .i64 b.D] 3)).heap[w.heap.size]?=Y (aE b 74):=
   (QR _ _ (by simp only[aa];omega)).tn ((QR _ _ (by simp only[aa];omega)).tn ((QR _ _ (by simp only[aa];omega)).tn (Sp _ _)))
  have a8:((((w.alloc (aE b 74)).alloc (.cells #[.bool false] 4)).alloc (aE b 74)).alloc (.cells #[.int .i64 b.D] 3)).heap[w.heap.size+1]?=Y (.cells #[.bool false] 4 (0,0)):=
   (QR _ _ (by simp only[aa];omega)).tn ((QR _ _ (by simp only[aa];omega)).tn (by rw[<- aa w (aE b 74)];exact Sp _ _))
  have a7:((((w.alloc (aE b 74)).alloc (.cells #[.bool false] 4)).alloc (aE b 74)).alloc (.cells #[.int .i64 b.D] 3)).heap[w.heap.size+1+1]?=Y (aE b 74):=
   (QR _ _ (by simp only[aa];omega)).tn (by rw[<- aa w (aE b 74),<- aa (w.alloc (aE b 74)) (.cells #[.bool false] 4)];exact Sp _ _)
  have T:((((w.alloc (aE b 74)).alloc (.cells #[.bool false] 4)).alloc (aE b 74)).alloc (.cells #[.int .i64 b.D] 3)).heap[w.heap.size+1+1+1]?=Y (.cells #[.int .i64 b.D] 3 (0,0)):=by
   rw[<- aa w (aE b 74),<- aa (w.alloc (aE b 74)) (.cells #[.bool false] 4),<- aa ((w.alloc (aE b 74)).alloc (.cells #[.bool false] 4)) (aE b 74)];exact Sp _ _
  change Ly.wpIn _ _ _ _ _ _ ((((w.alloc (aE b 74)).alloc (.cells #[.bool false] 4)).alloc (aE b 74)).alloc (.cells #[.int .i64 b.D] 3));generalize((((w.alloc (aE b 74)).alloc (.cells #[.bool false] 4)).alloc (aE b 74)).alloc (.cells #[.int .i64 b.D] 3))=C at d' P a6 a8 a7 T|-;obtain⟨t1,t2,t3,t4,t5,t6,t7,t8,t9,-⟩:=cS (bP V.out).1;have d3:b.D=((b.D.toNat:Nat):Int):=zz;rw[d3]at T;clear d3;have E:X w w C:=P.below (dj _) (λ_ _=>trivial);refine qg (R:=Le b l.C (w.heap.size+1+1) (w.heap.size+1+1+1)) (xs:=gT b l.C b.D.toNat) (encs:=su) rfl (enters_of Tryz.func88 kr rfl)
   (sP b t7 t9 t8 zz t2 l.C (w.heap.size+1+1) (w.heap.size+1+1+1) b.D.toNat zz C a7 (Z.out.C.below E) T) (λ_=>rfl)
   (λx=>x=w.heap.size+1) ?rk ?rl (λx j=>zz)
   (λK o W=>K=(λx=>x=w.heap.size+1)/\X C.heap.size C W/\PQ (o.any (fM b l)=false))
   (λK o W=>K=(λx=>x=w.heap.size+1)/\X w.heap.size w W/\W.heap[w.heap.size+1]?=Y (.cells #[.bool true] 4 (0,0))/\PQ (o.any (fM b l)=true))
   ?li ?lx ⟨rfl,X.refl _ _,rfl⟩ 78 zC
   (λx Q=> {tmps:= #[b.v,.pointer (Y ⟨w.heap.size,0,I⟩),.pointer (Y ⟨w.heap.size+1,0,I⟩),.pointer (Y ⟨Q,0,I⟩),b.v,.pointer (Y ⟨w.heap.size,0,I⟩),.pointer (Y ⟨w.heap.size,1,I⟩),.int .i64 b.D,mJ (w.heap.size+1+1) (w.heap.size+1+1+1),gN x.1 x.2,Hc,Hc,Hc],defers:=[]})
   ?assign ?body ?done ?stop
 |have _:=å
  have V:=Hm hc;have G:=λa=>uK b b.D a;clear b6 hc;refine(callsIn_wide (n:=9)).1 ?_;refine callsIn_of_wp_marks Tryz.func45 rfl db ?_ rfl;unfold aC.v at G|-;unfold mJ aE at G;simp only[Tryz.ntmps45,List.size_toArray,fx,ky,Nat.reduceAdd,Nat.reduceSub,zR];gi_wp2_with (refine⟨db,?_⟩;gi_at_call 59;refine(callsIn_wide.2 (G _)).mono ?_;rintro e J ⟨rfl,rfl⟩);have d':((((w.alloc (aE b 74)).alloc (.cells #[.slice I 0 0] 97)).alloc (aE b 74)).alloc (.cells #[.int .i64 b.D] 3)).heap.size=w.heap.size+4:=by simp only[aa]
  have P:=((((aS.refl (λ_=>True) w).alloc (aE b 74)).alloc (.cells #[.slice I 0 0] 97)).alloc (aE b 74)).alloc (.cells #[.int .i64 b.D] 3);have a6:((((w.alloc (aE b 74)).alloc (.cells #[.slice I 0 0] 97)).alloc (aE b 74)).alloc (.cells #[.int .i64 b.D] 3)).heap[w.heap.size]?=Y (aE b 74):=
   (QR _ _ (by simp only[aa];omega)).tn ((QR _ _ (by simp only[aa];omega)).tn ((QR _ _ (by simp only[aa];omega)).tn (Sp _ _)))
  have a8:((((w.alloc (aE b 74)).alloc (.cells #[.slice I 0 0] 97)).alloc (aE b 74)).alloc (.cells #[.int .i64 b.D] 3)).heap[w.heap.size+1]?=Y (.cells #[.slice I 0 0] 97 (0,0)):=
   (QR _ _ (by simp only[aa];omega)).tn ((QR _ _ (by simp only[aa];omega)).tn (by rw[<- aa w (aE b 74)];exact Sp _ _))
  have a7:((((w.alloc (aE b 74)).alloc (.cells #[.slice I 0 0] 97)).alloc (aE b 74)).alloc (.cells #[.int .i64 b.D] 3)).heap[w.heap.size+1+1]?=Y (aE b 74):=
   (QR _ _ (by simp only[aa];omega)).tn (by rw[<- aa w (aE b 74),<- aa (w.alloc (aE b 74)) (.cells #[.slice I 0 0] 97)];exact Sp _ _)
  have T:((((w.alloc (aE b 74)).alloc (.cells #[.slice I 0 0] 97)).alloc (aE b 74)).alloc (.cells #[.int .i64 b.D] 3)).heap[w.heap.size+1+1+1]?=Y (.cells #[.int .i64 b.D] 3 (0,0)):=by
   rw[<- aa w (aE b 74),<- aa (w.alloc (aE b 74)) (.cells #[.slice I 0 0] 97),<- aa ((w.alloc (aE b 74)).alloc (.cells #[.slice I 0 0] 97)) (aE b 74)];exact Sp _ _
  change Ly.wpIn _ _ _ _ _ _ ((((w.alloc (aE b 74)).alloc (.cells #[.slice I 0 0] 97)).alloc (aE b 74)).alloc (.cells #[.int .i64 b.D] 3));generalize((((w.alloc (aE b 74)).alloc (.cells #[.slice I 0 0] 97)).alloc (aE b 74)).alloc (.cells #[.int .i64 b.D] 3))=C at d' P a6 a8 a7 T|-;obtain⟨t1,t2,t3,t4,t5,t6,t7,t8,t9,i2,-⟩:=cS (bP V.out).1;have d3:b.D=((b.D.toNat:Nat):Int):=zz;rw[d3]at T;clear d3;have E:X w.heap.size w C:=P.below (dj _) (λ_ _=>trivial);have h8:(gT b l.C b.D.toNat).length<=1296:=nH t2 i2 zz;refine qg (R:=Le b l.C (w.heap.size+1+1) (w.heap.size+1+1+1)) (xs:=gT b l.C b.D.toNat) (encs:=su) rfl (enters_of Tryz.func88 kr rfl)
   (sP b t7 t9 t8 zz t2 l.C (w.heap.size+1+1) (w.heap.size+1+1+1) b.D.toNat zz C a7 (Z.out.C.below E) T) (λ_=>rfl)
   (λx=>x=w.heap.size+1) ?rk ?rl (λx j=>zz)
   (As C (List.filter (fM b l)) (w.heap.size+1) w.heap.size) (λ_ _ _=>False)
   (As.Y2 _ _ _ _) (λ_ _ _ _ h _ _=>h) ?start 78 zC
   (λx Q=> {tmps:= #[b.v,.pointer (Y ⟨w.heap.size,0,I⟩),.slice I 0 0,.pointer (Y ⟨w.heap.size+1,0,I⟩),.pointer (Y ⟨Q,0,I⟩),b.v,.pointer (Y ⟨w.heap.size,0,I⟩),.pointer (Y ⟨w.heap.size,1,I⟩),.int .i64 b.D,mJ (w.heap.size+1+1) (w.heap.size+1+1+1),gN x.1 x.2,Hc,Hc,Hc,Hc,Hc,Hc,Hc,Hc],defers:=[]})
   ?assign ?body ?done (λ_ _ _ _ _ _ _ h _=>h.elim)
 |have i7:=Hm hG
  have V:=Hm q;have e6:=λa (i:aI a b l) (h2:aD a)=>cG b l a i h2;have G:=λm a=>uK b m a;have g9:=Hm b6.C.1;obtain⟨t1,t2,t3,t4,t5,t6,t7,t8,t9,i2,k9⟩:=cS (bP q).1;have j3:(l.C.length:Int)<=b.S:=uO k9 zz;have l2:(b.C.n:Int)<=b.S:=by rw[g9.out];exact j3
  have h9:(b.S-(b.C.n:Int))=((b.S.toNat-l.C.length:Nat):Int):=by rw[g9.out];omega
  have i8:=Hm h9;simp only[q]at e6;clear b6 hG q h9;refine(callsIn_wide (n:=9)).1 ?_;refine callsIn_of_wp_marks Tryz.func24 rfl db ?_ rfl;unfold aC.v at e6 G|-;unfold mJ aE at G;simp only[Tryz.ntmps24,List.size_toArray,fx,ky,Nat.reduceAdd,Nat.reduceSub,zR]
  gi_wp2_with (first
   | (refine⟨db,?_⟩;gi_at_call 10;refine(callsIn_wide.2 (e6 _ (aq (aq (aq (aq Z.out _) _) _) _) (ai (ai (ai (ai i7.out _) _) _) _))).mono ?_;rintro e a ⟨rfl,d⟩;obtain⟨b0,c1⟩:=aU d;have c7:w.heap.size+4<=a.heap.size:=(by have:=d.size;simp only[aa]at this;omega);have m2:w.heap.size<a.heap.size:=zz)
   | (refine⟨db,?_⟩;gi_at_call 59;refine(callsIn_wide.2 (G _ _)).mono ?_;rintro e J ⟨rfl,rfl⟩))
  have c4:a.heap[w.heap.size+1]?=Y (.cells #[.int .i64 0] 3 (0,0)):=(d.block _ ss).tn ((QR _ _ ss).tn ((QR _ _ ss).tn (by rw[<- aa w (aE b 31)];exact Sp _ _)));have c5:a.heap[w.heap.size+1+1]?=Y (.cells #[.bool false] 4 (0,0)):=(d.block _ ss).tn ((QR _ _ ss).tn (by rw[<- aa w (aE b 31),<- aa (w.alloc (aE b 31)) (.cells #[.int .i64 0] 3)];exact Sp _ _));have c6:a.heap[w.heap.size+1+1+1]?=Y (.cells #[.int .i64 0] 36 (0,0)):=(d.block _ ss).tn (by rw[<- aa w (aE b 31),<- aa (w.alloc (aE b 31)) (.cells #[.int .i64 0] 3),<- aa ((w.alloc (aE b 31)).alloc (.cells #[.int .i64 0] 3)) (.cells #[.bool false] 4)];exact Sp _ _);have B1:X w w a:=(((((X.refl _ w).alloc (dj _) _).alloc ss _).alloc so _).alloc so _).tn (d.mono so);clear b0 c1 d e6 G;rw[i8.out];have d':(((a.alloc (aE b 74)).alloc (aE b 74)).alloc (.cells #[.int .i64 ((b.S.toNat-l.C.length:Nat):Int)] 3)).heap.size=a.heap.size+3:=by simp only[aa]
  have P:=(((aS.refl (λ_=>True) a).alloc (aE b 74)).alloc (aE b 74)).alloc (.cells #[.int .i64 ((b.S.toNat-l.C.length:Nat):Int)] 3);have a6:(((a.alloc (aE b 74)).alloc (aE b 74)).alloc (.cells #[.int .i64 ((b.S.toNat-l.C.length:Nat):Int)] 3)).heap[a.heap.size]?=Y (aE b 74):=
   (QR _ _ (by simp only[aa];omega)).tn ((QR _ _ (by simp only[aa];omega)).tn (Sp _ _))
  have a7:(((a.alloc (aE b 74)).alloc (aE b 74)).alloc (.cells #[.int .i64 ((b.S.toNat-l.C.length:Nat):Int)] 3)).heap[a.heap.size+1]?=Y (aE b 74):=
   (QR _ _ (by simp only[aa];omega)).tn (by rw[<- aa a (aE b 74)];exact Sp _ _)
  have T:(((a.alloc (aE b 74)).alloc (aE b 74)).alloc (.cells #[.int .i64 ((b.S.toNat-l.C.length:Nat):Int)] 3)).heap[a.heap.size+1+1]?=Y (.cells #[.int .i64 ((b.S.toNat-l.C.length:Nat):Int)] 3 (0,0)):=by
   rw[<- aa a (aE b 74),<- aa (a.alloc (aE b 74)) (aE b 74)];exact Sp _ _
  change Ly.wpIn _ _ _ _ _ _ (((a.alloc (aE b 74)).alloc (aE b 74)).alloc (.cells #[.int .i64 ((b.S.toNat-l.C.length:Nat):Int)] 3));generalize(((a.alloc (aE b 74)).alloc (aE b 74)).alloc (.cells #[.int .i64 ((b.S.toNat-l.C.length:Nat):Int)] 3))=C at d' P a6 a7 T|-;replace c4:=P.get db c4;replace c5:=P.get db c5;replace c6:=P.get db c6;have E:X w w C:=B1.tn (P.below B1.size (λ_ _=>trivial));obtain⟨b9,h6⟩:∃b9:Nat->Prop,b9=λx=>x=w.heap.size+1\/x=w.heap.size+1+1\/x=w.heap.size+1+1+1:=⟨_,rfl⟩;have b4:∀x,b9 x↔(x=w.heap.size+1\/x=w.heap.size+1+1\/x=w.heap.size+1+1+1):=λx=>by rw[h6]
  clear h6;refine qg (R:=Le b l.C (a.heap.size+1) (a.heap.size+1+1)) (xs:=gT b l.C (b.S.toNat-l.C.length)) (encs:=su) rfl (enters_of Tryz.func88 kr rfl)
   (sP b t7 t9 t8 zz t2 l.C (a.heap.size+1) (a.heap.size+1+1) (b.S.toNat-l.C.length) zz C a7 (Z.out.C.below E) T) (λ_=>rfl)
   b9 ?rk ?rl (λx j=>by rw[b4]at j;omega)
   (λK o W=>K=b9/\X C.heap.size C W/\PQ (o.find? (fM b l)=I))
   (λK o W=>K=b9/\X w.heap.size w W/\∃x,PQ (WE b l=Y x)/\W.heap[w.heap.size+1]?=Y (.cells #[.int .i64 ((ie x.2 12).length:Nat)] 3 (0,0))/\W.heap[w.heap.size+1+1]?=Y (.cells #[.bool true] 4 (0,0))/\W.heap[w.heap.size+1+1+1]?=Y (.cells #[.int .i64 0] 36 (0,0)))
   ?li ?lx ⟨rfl,X.refl _ _,rfl⟩ 78 zC
   (λx Q=> {tmps:= #[b.v,.pointer (Y ⟨w.heap.size,0,I⟩),.pointer (Y ⟨w.heap.size+1,0,I⟩),.pointer (Y ⟨w.heap.size+1+1,0,I⟩),.pointer (Y ⟨w.heap.size+1+1+1,0,I⟩),.int .i64 0,.pointer (Y ⟨a.heap.size,0,I⟩),.pointer (Y ⟨Q,0,I⟩),b.v,.int .i64 0,.int .i64 0,.bool false,Hc,b.v,b.v,b.v,.pointer (Y ⟨w.heap.size,0,I⟩),.int .i64 b.S,.pointer (Y ⟨w.heap.size,5,I⟩),.slice b.C.A b.C.n b.C.c,.int .i64 b.C.n,.int .i64 ((b.S.toNat-l.C.length:Nat):Int),mJ (a.heap.size+1) (a.heap.size+1+1),gN x.1 x.2,Hc,Hc,Hc,Hc,Hc,Hc,Hc],defers:=[]})
   ?assign ?body ?done ?stop
 case rk=>
  rintro x (rfl|rfl|j) h
  first
  |have _:=æ
   .rw[b4]at h;omega
   .rw[b4]at h;omega
  |·omega
   .omega
  .have:=I4.lt Z.out.C j;first|have _:=æ;rw[b4]at h|skip
   omega
 case rl=>
  rintro x (rfl|rfl|j)
  .omega
  .omega
  .have:=I4.lt Z.out.C j;omega
 first
 |have _:=å
  case start=>
   exact⟨_,a8,⟨I,0,rfl⟩,H.ownsRow_nil _ _ _ _,λg c2=>by simp[M.ownBlock]at c2,rfl,λx j=>.inl j,aS.refl _ _⟩
 |have _:=ø
  case li=>
   rintro K o A B ⟨rfl,i,h2⟩ d9 hk;exact⟨rfl,i.tn (hk.below d9 (λx j=>.inr j)),h2⟩
  case lx=>
   rintro K o A B ⟨rfl,i,h2,h3⟩ d9 hk;exact⟨rfl,i.tn (hk.below zz (λx j=>.inr zz)),hk.get (.inl rfl) h2,h3⟩
 |case li=>
   rintro K o A B ⟨rfl,i,h2⟩ d9 hk;exact⟨rfl,i.tn (hk.below d9 (λx j=>.inr j)),h2⟩
  case lx=>
   rintro K o A B ⟨rfl,i,x,h2,h3,h4,h5⟩ d9 hk;exact⟨rfl,i.tn (hk.below zz (λx j=>.inr zz)),x,h2,hk.get (.inr zz) h3,hk.get (.inr zz) h4,hk.get (.inr zz) h5⟩
 case assign=>
  intro a5 x W k0 u;unfold aC.v mJ gN zC at u;unfold su gN;gi_wp2;exact u
 case body=>
  first
  |have _:=ø
   rintro a5 K o x W Q ⟨rfl,f,s⟩ U h1 S b';have g6:x∈gT b l.C b.D.toNat:=by
    obtain⟨t,a4⟩:=U;rw[<- a4];simp
  |have _:=æ
   rintro a5 K o x W Q ⟨rfl,f,s⟩ U h1 S b';have g6:x∈gT b l.C (b.S.toNat-l.C.length):=by
    obtain⟨t,a4⟩:=U;rw[<- a4];simp
  |rintro a5 K o x W Q ⟨v,b7,⟨f4,f5,rfl⟩,c3,d6,d4,d5,a9⟩ U h1 S b'
   have g6:x∈gT b l.C b.D.toNat:=by
    obtain⟨t,a4⟩:=U;rw[<- a4];simp
   have l3:(o.filter (fM b l)).length+1<=1296:=by
    obtain⟨t,a4⟩:=U;have i:=ln (fM b l) o;rw[<- a4]at h8;simp at h8;omega
  obtain⟨e1,e2⟩:=qn g6
  first
  |have _:=ø
   obtain⟨y0,y1,y2,y3,y4,y5,y6,y7,y8,y9,i3,i4,i5⟩:=aM ((f.block _ zz).tn a6);obtain⟨s0,s1,s2,s3,s4,s5,s6,s7,s8,s9,h',h0,i1⟩:=(Gd S).all;have d8:=one_cell ((f.block _ zz).tn a8);have k3:W.frozen? (w.heap.size+1,0)=false:=by simp[H.frozen?,(f.block (w.heap.size+1) zz).tn a8]
   have O:X w w W:=E.tn (f.mono zz);have e0:=f.size;have e':(w:Nat)+1<W:=zz;cases q:fM b l x
   all_goals
    have z:=Ge V.out e1 e2 q W (Z.out.below O);have HR:=Hm q;have L:=Hm f;have c8:=Hm O;have i6:=Hm S;clear q f O S;unfold aC.v gN at z;unfold aC.v mJ gN;gi_wp2_with (refine⟨db,?_⟩;gi_at_call 40;refine CallsIn.mono (CallsIn.inRound a5 (callsIn_wide.2 z)) ?_;clear z;rintro e J ⟨rfl,d⟩;obtain⟨b0,c1⟩:=aU d)
   .have c7:=d.size;exact⟨_,λy k=>⟨zz,.inl k⟩,aS.dY d (λ_ h _=>h),rfl,L.out.tn (d.mono e0),by
     rw[PQ,List.any_append,s.out];simp[HR.out]⟩
   .have c7:=d.size;refine⟨_,λy k=>⟨by simp[H.setCell];omega,.inl k⟩,(aS.dY d (λ_ h _=>h)).set (p:=⟨w.heap.size+1,0,I⟩) (λ_ h=>h rfl) _,rfl,(c8.out.tn (d.mono zz)).setCell ss _,?_,by
     rw[PQ,List.any_append];simp[HR.out]⟩
    have k2:=(d.block _ e').tn ((L.out.block _ zz).tn a8);simp[H.setCell,ml,k2]
  |have _:=æ
   obtain⟨y0,y1,y2,y3,y4,y5,y6,y7,y8,y9,i3,i4,i5⟩:=aM ((f.block _ zz).tn a6);have a':=Gd S;have j1:=a'.lt;obtain⟨s0,s1,s2,s3,s4,s5,s6,s7,s8,s9,h',h0,i1⟩:=a'.all;have O:X w w W:=E.tn (f.mono E.size);have e0:=f.size;cases q:fM b l x
   all_goals
    have z:=Ge V.out e1 e2 q W (Z.out.below O);have HR:=Hm q;have L:=Hm f;have c8:=Hm O;have i6:=Hm S;have f6:=Hm b';clear q f O S b' a';unfold aC.v gN at z;unfold aC.v mJ gN
   .gi_wp2_with (refine⟨db,?_⟩;gi_at_call 40;refine CallsIn.mono (CallsIn.inRound a5 (callsIn_wide.2 z)) ?_;clear z;rintro e J ⟨rfl,d⟩;obtain⟨b0,c1⟩:=aU d);have c7:=d.size;exact⟨_,λy k=>⟨by rw[b4]at k;omega,.inl k⟩,aS.dY d (λ_ h _=>h),rfl,L.out.tn (d.mono e0),by
     rw[PQ,qQB,s.out];simp[HR.out]⟩
   (·have g5:=λa=>xQ x.2 a;have g1:=(L.out.block _ zz).tn c4;have g2:=(L.out.block _ zz).tn c5;have g3:=(L.out.block _ zz).tn c6;have c9:=Hm g1;have c':=Hm g2;have d1:=Hm g3;clear g1 g2 g3 c4 c5 c6;unfold tJ at g5
     gi_wp2_with (first
      | (refine⟨db,?_⟩;gi_at_call 40;refine CallsIn.mono (CallsIn.inRound a5 (callsIn_wide.2 z)) ?_;clear z;rintro e J ⟨rfl,d⟩;obtain⟨b0,c1⟩:=aU d;have c7:=d.size;have j2:Q<J.heap.size:=zz)
      | (refine⟨db,?_⟩;gi_at_call 35;refine CallsIn.mono (CallsIn.inRound a5 (callsIn_wide.2 (g5 _))) ?_;clear g5;rintro e v2 ⟨A,c,rfl, -, N⟩;have m3:=N.size;have a1:=one_cell ((N.block (w.heap.size+1) zz).tn ((d.block _ zz).tn c9.out));have a2:=one_cell ((N.block (w.heap.size+1+1) zz).tn ((d.block _ zz).tn c'.out));have a3:=one_cell ((N.block (w.heap.size+1+1+1) zz).tn ((d.block _ zz).tn d1.out));have f1:v2.frozen? ⟨w.heap.size+1,0,I⟩=false:=(by simp[H.frozen?,(N.block (w.heap.size+1) zz).tn ((d.block _ zz).tn c9.out)]);have f2:v2.frozen? ⟨w.heap.size+1+1,0,I⟩=false:=(by simp[H.frozen?,(N.block (w.heap.size+1+1) zz).tn ((d.block _ zz).tn c'.out)]);have f3:v2.frozen? ⟨w.heap.size+1+1+1,0,I⟩=false:=(by simp[H.frozen?,(N.block (w.heap.size+1+1+1) zz).tn ((d.block _ zz).tn d1.out)]);have l1:w.heap.size+1+1+1<v2.heap.size:=zz))
     have G1:=(N.block (w.heap.size+1) zz).tn ((d.block _ zz).tn c9.out);have G2:=(N.block (w.heap.size+1+1) zz).tn ((d.block _ zz).tn c'.out);have G3:=(N.block (w.heap.size+1+1+1) zz).tn ((d.block _ zz).tn d1.out);obtain⟨q1,q2,q3,q4,q5⟩:=AA (.int .i64 ((ie x.2 12).length:Nat)) (.bool true) (.int .i64 0) G1 G2 G3;have h7:aS (λ_=>True) W v2:=(aS.dY d (λ_ h _=>h)).tn (aS.dY N (λ_ h _=>h));refine⟨_,λy k=>⟨by rw[q4];rw[b4]at k;omega,.inl k⟩,(h7.mono (K':=λy=>¬K y) (λ_ _ _=>trivial)).tn' q5 (λy _ k=>by rw[b4]at k;omega),rfl,?_,x,SD U s.out HR.out,q1,q2,q3⟩
     .exact c8.out.tn (((h7.below (n:=w.heap.size) c8.out.size (λ_ _=>trivial))).tn (q5.below zz (λy k=>zz))))
  |obtain⟨y0,y1,y2,y3,y4,y5,y6,y7,y8,y9,i3,i4,i5⟩:=aM (a9.get zz a6)
   have d8:=one_cell b7;have O:X w.heap.size w W:=E.tn (a9.below zz (λx j=>zz));have e0:=a9.size;have e':w.heap.size+1<W.heap.size:=zz;have a':=Gd S;have j1:=a'.lt;obtain⟨s0,s1,s2,s3,s4,s5,s6,s7,s8,s9,h',h0,i1⟩:=a'.all;cases q:fM b l x
   all_goals
    have z:=Ge V.out e1 e2 q W (Z.out.below O);have HR:=Hm q;have c8:=Hm O;have k':=Hm a';have f7:=Hm b7;have b8:=Hm d6;have d0:=Hm d4;have d2:=Hm d5;have e3:=Hm a9;have f6:=Hm b';clear q O S a' b7 d6 d4 d5 a9 b';unfold aC.v gN at z;unfold aC.v mJ gN
   .have f8:=Hm c3;clear c3;gi_wp2_with (refine⟨db,?_⟩;gi_at_call 40;refine CallsIn.mono (CallsIn.inRound a5 (callsIn_wide.2 z)) ?_;clear z;rintro e J ⟨rfl,d⟩;obtain⟨b0,c1⟩:=aU d);have c7:=d.size;have f9:(o++[x]).filter (fM b l)=o.filter (fM b l):=by simp[np,HR.out]
    have b5:=aS.dY (K:=λ_=>True) d (λ_ h _=>h);refine⟨K,λy k=>⟨by have:=(f6.out y k).1;omega,.inl k⟩,b5.mono (λ_ _ _=>trivial),?_⟩;unfold As;rw[f9];exact⟨_,b5.get db f7.out,⟨f4,f5,rfl⟩,bB f8.out b5 (λ_ _=>trivial),b8.out,d0.out,d2.out,e3.out.tn' b5 (λ_ _ _=>trivial)⟩
   .obtain⟨i0,hi,k6,k7,k8⟩:=info_parts Wz
    gi_wp2_with (first
     | (refine⟨db,?_⟩;gi_at_call 40;refine CallsIn.mono (CallsIn.inRound a5 (callsIn_wide.2 z)) ?_;clear z;rintro e J ⟨rfl,d⟩;obtain⟨b0,c1⟩:=aU d;have c7:=d.size;have k4:w.heap.size+1<J.heap.size:=zz;have j2:Q<J.heap.size:=zz;have k1:=bB c3 (aS.dY (K:=λ_=>True) d (λ_ h _=>h)) (λ_ _=>trivial))
     | (gi_at_builtin;refine rN _ rfl _ _ 97 rfl w.heap.size 78 i0 (gN 0 mI) 13 24 Tryz.underlying97 hi k6 k7 k8 rfl dd _ _ _ rfl (k1.alloc _) ⟨J.heap.size,0,I⟩ 1 1 (zC x).toList rfl rfl (nI _ _ _) (Sk x) (by unfold maxLen;omega) zz so ?_;intro v' a g7 e7 j';obtain⟨g',g0,rfl⟩:=ownsRow_succ g7;have d7:a.heap[w.heap.size+1]?=Y (.cells #[.slice f4 (List.filter (fM b l) o).length f5] 97 (0,0)):=((e7.block _ (by rw[aa];omega) (λe=>(b8.out _ e.symm).2 rfl)).tn ((QR _ _ k4).tn ((d.block _ e').tn f7.out)));have l':=one_cell d7;have l0:a.frozen? ⟨w.heap.size+1,0,I⟩=false:=(by simp[H.frozen?,d7]);have m1:w.heap.size+1<a.heap.size:=(du.1 d7).1;have i9:=Hm d7;clear d7))
    have j4:=g7.lt g' rfl;have f0:(K g'/\g'≠w.heap.size+1/\C.heap.size<=g')\/g'=J.heap.size+1:=by
     rcases j' with h|h
     .left;have i:=b8.out g' h.symm;exact⟨i.1,i.2,(d2.out g' i.1).resolve_left i.2⟩
     .right;simp[M.ownBlock]at h;exact h
    have e8:g'≠w.heap.size+1:=by rcases f0 with h|h;exact h.2.1;omega
    have f9:(o++[x]).filter (fM b l)=o.filter (fM b l)++[x]:=by simp[np,HR.out]
    have b5:=aS.dY (K:=λ_=>True) d (λ_ h _=>h);have k5:(a.setCell ⟨w.heap.size+1,0,I⟩ (.slice (Y ⟨g',0,I⟩) ((List.filter (fM b l) o).length+1) g0)).heap.size=a.heap.size:=by simp[H.setCell]
    refine⟨λy=>K y\/y=g',λy k=>?_,?_,?_⟩
    .rw[k5];rcases k with k|rfl
     .have i:=(f6.out y k).1;have h2:=e7.size;rw[aa]at h2;exact⟨zz,.inl k⟩
     .refine⟨j4.2,?_⟩;rcases f0 with h|h
      .exact .inl h.1
      .right;omega
    .exact(((b5.mono (K':=λy=>¬K y) (λ_ _ _=>trivial)).alloc _).grown e7 (λr q _ h=>h (b8.out r q).1)).set (p:=⟨w.heap.size+1,0,I⟩) (λ_ h=>h d0.out) _
    .unfold As;rw[f9,lh,N6];have j5:aS (λy=>y≠w.heap.size+1) a (a.setCell ⟨w.heap.size+1,0,I⟩ (.slice (Y ⟨g',0,I⟩) ((List.filter (fM b l) o).length+1) g0)):=(aS.refl _ _).set (p:=⟨w.heap.size+1,0,I⟩) (λ_ h=>h rfl) _;refine⟨_,Boxed.set _ i9.out,⟨_,_,rfl⟩,bB g7 j5 (λg c2=>?_),λg c2=>?_,.inl d0.out,λy k=>?_,?_⟩
     .simp[M.ownBlock]at c2;omega
     .simp[M.ownBlock]at c2;exact⟨.inr c2.symm,zz⟩
     .rcases k with k|rfl
      .exact d2.out y k
      .rcases f0 with h|h
       .exact .inr h.2.2
       .right;omega
     .refine(((e3.out.tn' b5 (λ_ _ _=>trivial)).alloc _).grown e7 (λr q l4 _=>?_)).set (p:=⟨w.heap.size+1,0,I⟩) (λ_ h=>h rfl) _;have i:=b8.out r q;rcases d2.out r i.1 with h2|h2
      .exact i.2 h2
      .omega
 case done=>
  first
  |have _:=å
   rintro D K W e4 e5 ⟨v,b7,⟨f4,f5,rfl⟩,c3,d6,d4,d5,a9⟩ u;have d8:=one_cell b7;have HK:=Hm u;have f7:=Hm b7;have b8:=Hm d6;have d0:=Hm d4;have d2:=Hm d5;have e3:=Hm a9;have f8:=Hm c3;clear u b7 d6 d4 d5 a9 c3;gi_wp2;refine⟨by simp,.inl ⟨_,_,rfl,run_takeDeferred HK.out,?_⟩⟩;refine⟨_,results_tmp rfl _ _ _,f4,f5,rfl,ownsRow_putObj f8.out _ HK.out rfl,?_⟩;have i:X w.heap.size w W:=E.tn (e3.out.below zz (λx j=>zz));exact i.tn (((aS.refl (λx=>x≠D) _).put (λ_ h=>h rfl) _).below (n:=w.heap.size) i.size (λx j=>zz))
  |have _:=ø
   rintro D K W e4 e5 ⟨rfl,f,s⟩ u;have e9:=(f.block _ zz).tn a8;have d8:=one_cell e9;have k3:W.frozen? (w.heap.size+1,0)=false:=by simp[H.frozen?,e9]
   have e':(w:Nat)+1<W:=zz;have L:=Hm f;have HK:=Hm u;have i':=Hm e9;clear f u e9;have s:=s.out;have a0:PQ (lK b l b.D.toNat=false):=s;clear s;gi_wp2;have e8:w.heap.size+1≠D:=zz;have g8:((W.setCell (w.heap.size+1,0) (.bool false)).putObj D (.deferred I)).cell? (w.heap.size+1,0)=Y (.bool false):=one_cell (t:=4) ((H.putObj_heap_other e8).tn (by simp[H.setCell,ml,i'.out]));have f':(W.setCell (w.heap.size+1,0) (.bool false)).heap[D]?=Y (.deferred (Y [])):=(X.heap_setCell _ _ _ _ (by show D≠w.heap.size+1;omega)).tn HK.out;refine⟨by simp,.inl ⟨_,_,rfl,run_takeDeferred f',?_⟩⟩;refine⟨.bool false,by simp[results,Tryz.results68,go_sem,g8],by rw[a0.out],?_⟩;have m4:(W.setCell (w.heap.size+1,0) (.bool false)).heap.size=W.heap.size:=by simp[H.setCell]
   have i:X w w (W.setCell (w.heap.size+1,0) (.bool false)):=(E.tn (L.out.mono zz)).setCell ss _;exact i.tn (((aS.refl (λx=>x≠D) _).put (λ_ h=>h rfl) _).below (n:=w.heap.size) i.size (λx j=>zz))
  |rintro D K W e4 e5 ⟨rfl,f,s⟩ u
   have g1:=(f.block _ zz).tn c4;have g2:=(f.block _ zz).tn c5;have g3:=(f.block _ zz).tn c6;have a1:=one_cell g1;have a2:=one_cell g2;have a3:=one_cell g3;have f1:W.frozen? (w.heap.size+1,0)=false:=by simp[H.frozen?,g1]
   have f2:W.frozen? (w.heap.size+1+1,0)=false:=by simp[H.frozen?,g2]
   have f3:W.frozen? (w.heap.size+1+1+1,0)=false:=by simp[H.frozen?,g3]
   have l1:(w:Nat)+1+1+1<W:=zz;have c9:=Hm g1;have c':=Hm g2;have d1:=Hm g3;have L:=Hm f;have HK:=Hm u;have a0:PQ (zV b l=(0,false,0)):=by
    have:WE b l=I:=s.out;unfold zV;rw[PQ,cd (by simp[V.out]),this]
   clear g1 g2 g3 f u s c4 c5 c6;gi_wp2;obtain⟨q1,q2,q3,q4,q5⟩:=AA (.int .i64 0) (.bool false) (.int .i64 0) c9.out c'.out d1.out;have g4:∀x,x≠D->(((((W.setCell (w.heap.size+1,0) (.int .i64 0)).setCell (w.heap.size+1+1,0) (.bool false)).setCell (w.heap.size+1+1+1,0) (.int .i64 0)).putObj D (.deferred I)).heap[x]?=(((W.setCell (w.heap.size+1,0) (.int .i64 0)).setCell (w.heap.size+1+1,0) (.bool false)).setCell (w.heap.size+1+1+1,0) (.int .i64 0)).heap[x]?):=λx j=>H.putObj_heap_other j;have b1:=one_cell ((g4 _ zz).tn q1);have b2:=one_cell ((g4 _ zz).tn q2);have b3:=one_cell ((g4 _ zz).tn q3);have f':=q5.get (b:=D) ⟨zz,zz,zz⟩ HK.out;refine⟨by simp,.inl ⟨_,_,rfl,run_takeDeferred f',?_⟩⟩;refine⟨.tuple #[.int .i64 0,.bool false,.int .i64 0],by simp[results,Tryz.results24,go_sem,b1,b2,b3],by rw[a0.out],?_⟩;have i:X w w _:=(E.tn (L.out.mono E.size)).tn (q5.below (n:=w.heap.size) zz (λy k=>zz));exact i.tn (((aS.refl (λx=>x≠D) _).put (λ_ h=>h rfl) _).below (n:=w.heap.size) i.size (λx j=>zz))
 first
 |done
 |have _:=æ
  case stop=>
   rintro D K o W e4 e5 U ⟨rfl,f,x,j,g1,g2,g3⟩ u;have a0:PQ (zV b l=((((ie x.2 12).length:Nat):Int),true,0)):=by
    unfold zV;rw[PQ,cd (by simp[V.out]),j.out]
   clear j;gi_wp2;have b1:=one_cell (w:=W.putObj D (.deferred I)) ((H.putObj_heap_other zz).tn g1);have b2:=one_cell (w:=W.putObj D (.deferred I)) ((H.putObj_heap_other zz).tn g2);have b3:=one_cell (w:=W.putObj D (.deferred I)) ((H.putObj_heap_other zz).tn g3);refine⟨by simp,.inl ⟨_,_,rfl,run_takeDeferred u,?_⟩⟩;refine⟨.tuple #[.int .i64 ((ie x.2 12).length:Nat),.bool true,.int .i64 0],by simp[results,Tryz.results24,go_sem,b1,b2,b3],by rw[a0.out],?_⟩;exact f.tn (((aS.refl (λx=>x≠D) _).put (λ_ h=>h rfl) _).below (n:=w.heap.size) f.size (λx j=>zz))
 |case stop=>
   rintro D K o W e4 e5 U ⟨rfl,f,d8,s⟩ u;have s:=s.out;have a0:PQ (lK b l b.D.toNat=true):=by
    obtain⟨t,a4⟩:=U;unfold lK;rw[PQ,<- a4,List.any_append,s,Bool.true_or]
   clear s;gi_wp2;have e8:w.heap.size+1≠D:=zz;have g8:(W.putObj D (.deferred I)).cell? (w.heap.size+1,0)=Y (.bool true):=one_cell (t:=4) ((H.putObj_heap_other e8).tn d8);refine⟨by simp,.inl ⟨_,_,rfl,run_takeDeferred u,?_⟩⟩;refine⟨.bool true,by simp[results,Tryz.results68,go_sem,g8],by rw[a0.out],?_⟩;exact f.tn (((aS.refl (λx=>x≠D) _).put (λ_ h=>h rfl) _).below (n:=w.heap.size) f.size (λx j=>zz))):p:=h
def py{p:Prop}(h:p:=by
 first
 |have _:=ø
  have G:=λd (h1:aI d b l) (h2:aD d)=>qp b l 47 #[] lT true d h1 h2 (λ_=>gW b d) h;have o:=G (W.alloc (aE b 31)) (aq u (aE b 31)) (ai E (aE b 31));clear G u E h;unfold jo at o;generalize aJ b l b.D.toNat=f at o|-;generalize fN b l=LL at o|-;unfold aE uC aC.v at o;unfold Bz Tryz.f22;dsimp only;unfold aC.v;refine Go.Co.mG ?_;go_wp2;refine Go.Co.mG ?_;go_wp2_with (go_at_call 46;refine o.mono ?_;clear o;rintro e d ⟨A,c,r,rfl,a5,z,b0,j⟩);refine Go.Co.mG ?_;go_wp2;have e6:=j.size;simp only[aa]at e6 b0;have c8:r<d.heap.size:=(du.1 z).1;refine Go.Co.Dc ⟨rfl,rfl,A,c,r,d.heap.size,rfl,rfl,?_,Sp _ _,zz,zz,?_,?_,?_,λi hi=>?_⟩
  .exact(QR _ _ zz).tn ((j.block _ ss).tn (Sp _ _))
  .exact dy (by rw[aa];omega) (H.ownsRow.alloc a5 _)
  .exact(QR _ _ c8).tn z
  .exact aP (aY j) (dj _) _
  (·have:i=2\/i=3\/i=4\/i=9\/i=38\/i=39\/i=40\/i=41\/i=42\/i=43\/i=44\/i=45\/i=46\/i=47:=zz
    rcases this with rfl|rfl|rfl|rfl|rfl|rfl|rfl|rfl|rfl|rfl|rfl|rfl|rfl|rfl<;>rfl)
 |have _:=å
  have b2:=Hm u;have b1:=Hm E;have B:PQ (oQ b l hour step=(lY (assoc (fN b l) (hour,step)) (aJ b l b.D.toNat).length,0)):=by unfold oQ;rw[PQ,dE h]
  have a2:b.U.n<=1000:=by rw[u.U.1];exact u.U.2.2.1
  have G:=λd (h1:aI d b l) (h2:aD d) (a8 a0:Nat) (d7:d.cell? ⟨a8,0,I⟩=Y (.int .i64 hour)) (c1:a8<d.heap.size) (d8:d.cell? ⟨a0,0,I⟩=Y (.int .i64 step)) (e4:a0<d.heap.size)=>qp b l 53 #[.pointer (Y ⟨a8,0,I⟩),.pointer (Y ⟨a0,0,I⟩)] Dx (mW b hour step) d h1 h2 (λd'=>by
   obtain⟨t1,t2,-⟩:=cS (bP d').1;exact xY b a2 zz zz hour step a8 a0 d d7 c1 d8 e4) h
  unfold jo at G;generalize aJ b l b.D.toNat=f at G B;generalize fN b l=LL at G B;have V:=λ(s:Sl) (m:Option Nat) (n:Int) w'=>xZ b s m n w';clear u E h a2;have O:(((w.alloc (aE b 31)).alloc (.cells #[.int .i64 hour] 3)).alloc (.cells #[.int .i64 step] 3)).cell? (w.heap.size+1,0)=Y (.int .i64 hour):=one_cell ((QR _ _ ss).tn (by rw[<- aa w (aE b 31)];exact Sp _ _));have c2:(((w.alloc (aE b 31)).alloc (.cells #[.int .i64 hour] 3)).alloc (.cells #[.int .i64 step] 3)).cell? (w.heap.size+1+1,0)=Y (.int .i64 step):=one_cell (by rw[<- aa w (aE b 31),<- aa (w.alloc (aE b 31)) (.cells #[.int .i64 hour] 3)];exact Sp _ _);have o:=G (((w.alloc (aE b 31)).alloc (.cells #[.int .i64 hour] 3)).alloc (.cells #[.int .i64 step] 3)) (aq (aq (aq b2.out _) _) _) (ai (ai (ai b1.out _) _) _) (w.heap.size+1) (w.heap.size+1+1) O ss c2 ss;clear G O c2;unfold aC.v aE uC at o;unfold uC at V;unfold aC.v;go_enter Tryz.func18,Tryz.ntmps18;go_wp2_with (go_at_call 46;refine o.mono ?_;clear o;rintro e d ⟨A,c,r,rfl,a5,z,b0,j⟩);have Q:Gk (d.alloc (.cells (iG b ⟨A,f.length,c⟩ (Y r)) 101)) d b ⟨A,f.length,c⟩ (Y r):=Sp _ _;have J:jm (d.alloc (.cells (iG b ⟨A,f.length,c⟩ (Y r)) 101)) r LL:=(QR _ _ (du.1 z).1).tn z;have c4:=j.size;simp only[aa]at c4;have N:X w w (d.alloc (.cells (iG b ⟨A,f.length,c⟩ (Y r)) 101)):=aP (jI j) (dj _) _;have a3:(d.alloc (.cells (iG b ⟨A,f.length,c⟩ (Y r)) 101)).cell? (w.heap.size+1,0)=Y (.int .i64 hour):=one_cell ((QR _ _ zz).tn ((j.block _ ss).tn ((QR _ _ ss).tn (by rw[<- aa w (aE b 31)];exact Sp _ _))));have d0:(d.alloc (.cells (iG b ⟨A,f.length,c⟩ (Y r)) 101)).cell? (w.heap.size+1+1,0)=Y (.int .i64 step):=one_cell ((QR _ _ zz).tn ((j.block _ ss).tn (by rw[<- aa w (aE b 31),<- aa (w.alloc (aE b 31)) (.cells #[.int .i64 hour] 3)];exact Sp _ _)));clear a5 z j;change Ly.wp _ _ _ _ (d.alloc (.cells (iG b ⟨A,f.length,c⟩ (Y r)) 101));have a':d.heap.size<(d.alloc (.cells (iG b ⟨A,f.length,c⟩ (Y r)) 101)).heap.size:=by simp
  generalize(d.alloc (.cells (iG b ⟨A,f.length,c⟩ (Y r)) 101))=t at Q J N a3 d0 a'|-;obtain⟨z0,z1,z2,z3,z4,z5,z6,z7,z8,z9,e7,e8,e9,e',f1⟩:=gH Q;have b6:∀n,(Instr.lookup 99 (.map (Y r)) (.agg #[.int .i64 hour,.int .i64 step]) false).run F (t.drewN n)=.ok (.int .i64 (assoc LL (hour,step))) (t.drewN n):=λn=>gd (w:=t.drewN n) (L:=LL) J (hour,step);have b7:(Instr.lookup 99 (.map (Y r)) (.agg #[.int .i64 hour,.int .i64 step]) false).run F t.drew=.ok (.int .i64 (assoc LL (hour,step))) t.drew:=gd (w:=t.drew) (L:=LL) J (hour,step);generalize assoc LL (hour,step)=a at b6 b7 B;have R:=Hm N;clear Q J N;go_wp2_with (first|(go_at_call 52;refine(V ⟨A,f.length,c⟩ _ _ _).mono ?_;rintro e w2 ⟨rfl,P⟩)|go_still_tail 7,kr);go_ret2;exact⟨by rw[B.out];rfl,R.out.tn (((lH (X.refl _ t)).tn (P.mono (dj _))).mono R.out.size)⟩
 |have b2:=Hm u
  have b1:=Hm E;have B:PQ (DF b l hour=(ie (sU (fN b l) (aJ b l b.D.toNat).length hour 1) b.S.toNat,ie (sU (fN b l) (aJ b l b.D.toNat).length hour 0) b.S.toNat,0)):=by unfold DF;rw[PQ,dE h]
  have a2:b.U.n<=1000:=by rw[u.U.1];exact u.U.2.2.1
  obtain⟨t1,t2,-⟩:=cS (bP (Bt h).1).1;have O:((w.alloc (aE b 31)).alloc (.cells #[.int .i64 hour] 3)).cell? (w.heap.size+1,0)=Y (.int .i64 hour):=one_cell (by rw[<- aa w (aE b 31)];exact Sp _ _);have o:=qp b l 54 #[.pointer (Y ⟨w.heap.size+1,0,I⟩)] Dy (ax hour 0 (b.U.n-1)) ((w.alloc (aE b 31)).alloc (.cells #[.int .i64 hour] 3)) (aq (aq b2.out _) _) (ai (ai b1.out _) _) (λ_=>DC b a2 hour (w.heap.size+1) _ O ss) h;unfold jo at o;generalize aJ b l b.D.toNat=f at o B;generalize fN b l=LL at o B;have V:=λ(s:Sl) (m:Option Nat) (n v:Int) (e5:lY n s.n=v) w'=>Y3 b s m n v e5 w';clear u E h a2 O;unfold aC.v aE uC at o;unfold uC at V;unfold aC.v;go_enter Tryz.func19,Tryz.ntmps19;go_wp2_with (go_at_call 46;refine o.mono ?_;rintro e d ⟨A,c,r,rfl,a5,z,b0,j⟩;obtain⟨d9,e2⟩:=aU j;have c6:w.heap.size<d.heap.size:=(by have:=j.size;simp only[aa]at this;omega));have c4:=j.size;simp only[aa]at c4;have Q:Gk (d.alloc (.cells (iG b ⟨A,f.length,c⟩ (Y r)) 101)) d b ⟨A,f.length,c⟩ (Y r):=Sp _ _;have J:jm (d.alloc (.cells (iG b ⟨A,f.length,c⟩ (Y r)) 101)) r LL:=(QR _ _ (du.1 z).1).tn z;have N:X w w (d.alloc (.cells (iG b ⟨A,f.length,c⟩ (Y r)) 101)):=aP (cB j) (dj _) _;have a3:(d.alloc (.cells (iG b ⟨A,f.length,c⟩ (Y r)) 101)).heap[w.heap.size+1]?=Y (.cells #[.int .i64 hour] 3 (0,0)):=(QR _ _ zz).tn ((j.block _ ss).tn (by rw[<- aa w (aE b 31)];exact Sp _ _));have b4:(d.alloc (.cells (iG b ⟨A,f.length,c⟩ (Y r)) 101)).heap[w.heap.size]?=Y (aE b 31):=(QR _ _ zz).tn ((j.block _ so).tn ((QR _ _ ss).tn (Sp _ _)));have f8:r<d.heap.size:=(du.1 z).1;clear a5 z j d9 e2;change Ly.wp _ _ _ _ (d.alloc (.cells (iG b ⟨A,f.length,c⟩ (Y r)) 101));have a':d.heap.size<(d.alloc (.cells (iG b ⟨A,f.length,c⟩ (Y r)) 101)).heap.size:=by simp
  generalize(d.alloc (.cells (iG b ⟨A,f.length,c⟩ (Y r)) 101))=t at Q J N a3 b4 a'|-;have d3:=Hm Q;have d5:=Hm J;have R:=Hm N;have d2:=Hm a3;have f2:=Hm b4;clear Q J N a3 b4;obtain⟨i0,hi,c',c6,d1⟩:=info_parts vD;go_loopw [4,5,20] (λv1 v2 v wr=>∃k:Nat,(k:Int)<=b.S/\v=.int .i64 k/\kH t.heap.size v1 v2 (ie (sU LL f.length hour 1) k) (ie (sU LL f.length hour 0) k) wr/\X t.heap.size t wr) (λ_ _ v _=>b.S.toNat-(intOf v).toNat)
  case atStart=>exact⟨0,zz,rfl,⟨⟨I,0,rfl⟩,⟨I,0,rfl⟩,H.ownsRow_nil _ _ _ _,H.ownsRow_nil _ _ _ _,λg e3=>by simp[M.ownBlock]at e3⟩,X.refl _ _⟩
  case round=>
   obtain⟨k,hk,rfl,a9,K⟩:=hrel;have c5:=K.size;have f7:=kO (sU LL f.length hour 1) k;have f6:=kO (sU LL f.length hour 0) k;by_cases c8:(k:Int)<b.S
   .obtain⟨z0,z1,z2,z3,z4,z5,z6,z7,z8,z9,e7,e8,e9,e',f1⟩:=gH ((K.block _ a').tn d3.out);have f5:=one_cell ((K.block _ zz).tn d2.out);have b3:jm wr r LL:=(K.block _ zz).tn d5.out;have b6:∀n,(Instr.lookup 99 (.map (Y r)) (.agg #[.int .i64 hour,.int .i64 k]) false).run F (wr.drewN n)=.ok (.int .i64 (assoc LL (hour,k))) (wr.drewN n):=λn=>gd (w:=wr.drewN n) (L:=LL) b3 (hour,k);have b7:(Instr.lookup 99 (.map (Y r)) (.agg #[.int .i64 hour,.int .i64 k]) false).run F wr.drew=.ok (.int .i64 (assoc LL (hour,k))) wr.drew:=gd (w:=wr.drew) (L:=LL) b3 (hour,k);have b5:∀v,sU LL f.length hour v k=decide (lY (assoc LL (hour,k)) f.length=v):=λv=>rfl;generalize assoc LL (hour,k)=a at b6 b7 b5;rcases Od a f.length with a6|a6|a6
    all_goals
     have c3:=λ(s:Sl) (m:Option Nat) (c1:s.n=f.length) w'=>V s m a _ ((eh (λq:Nat=>lY a (q:Int)) c1).tn a6) w';have T:=Hm a6;have S:=Hm b5;have HR:=Hm a9;have a1:=Hm K;obtain⟨⟨A1,O,rfl⟩,⟨A2,c2,rfl⟩,o1,o2,o3⟩:=a9;have f3:=Hm o1;have f4:=Hm o2;clear a6 b5 o1 o2 o3 b3 K V
    .have e1:sU LL f.length hour 1 k=true:=by rw[S.out,T.out];rfl
     have e0:sU LL f.length hour 0 k=false:=by rw[S.out,T.out];rfl
     have E1:=Hm (oG e1);have Z:=Hm (mV e0);clear e1 e0
     go_wp2_with (first
      | (go_at_call 52;refine(c3 ⟨A,f.length,c⟩ _ rfl _).mono ?_;rintro e w2 ⟨rfl,P⟩;have y:=(lH (X.refl wr.heap.size wr)).tn (P.mono (dj _));have c9:=y.size;have C:=Hm (HR.out.below y);have U:=C.out.2.2.1)
      | go_still_tail 7,kr
      | (at_builtin;refine ff rfl _ _ 24 rfl t.heap.size 3 i0 (.int .i64 0) 1 8 Tryz.underlying24 hi c' c6 d1 rfl dd _ _ _ rfl (U.alloc _) ⟨w2.heap.size,0,I⟩ 1 1 [.int .i64 k] rfl rfl (cell_one_new _ _ _) (λx a7=>by simp at a7;subst a7;rfl) (by unfold maxLen;omega) zz so ?_;intro v' w3 b9 a4 b8))
     go_roundw
     case rel=>
      refine⟨k+1,zz,by go_num,?_,(aP (a1.out.tn (y.mono c5)) (dj _) _).grown a4 so (λq b'=>(U.lt q b').1)⟩;rw[Z.out];exact kH.fst (C.out.below (aP (X.refl _ _) (dj _) _)) (k:Int) E1.out b9 a4 b8
     case measure=>simp[intOf];omega
    .have e1:sU LL f.length hour 1 k=false:=by rw[S.out,T.out];rfl
     have e0:sU LL f.length hour 0 k=false:=by rw[S.out,T.out];rfl
     have E1:=Hm (mV e1);have Z:=Hm (mV e0);clear e1 e0
     go_wp2_with (first
      | (go_at_call 52;refine(c3 ⟨A,f.length,c⟩ _ rfl _).mono ?_;rintro e w2 ⟨rfl,P⟩;have y:=(lH (X.refl wr.heap.size wr)).tn (P.mono (dj _));have c9:=y.size;have C:=Hm (HR.out.below y);have U:=C.out.2.2.2.1)
      | go_still_tail 7,kr)
     go_roundw
     case rel=>
      refine⟨k+1,zz,by go_num,?_,a1.out.tn (y.mono c5)⟩;rw[Z.out,E1.out];exact C.out
     case measure=>simp[intOf];omega
    .have e1:sU LL f.length hour 1 k=false:=by rw[S.out,T.out];rfl
     have e0:sU LL f.length hour 0 k=true:=by rw[S.out,T.out];rfl
     have E1:=Hm (mV e1);have Z:=Hm (oG e0);clear e1 e0
     go_wp2_with (first
      | (go_at_call 52;refine(c3 ⟨A,f.length,c⟩ _ rfl _).mono ?_;rintro e w2 ⟨rfl,P⟩;have y:=(lH (X.refl wr.heap.size wr)).tn (P.mono (dj _));have c9:=y.size;have C:=Hm (HR.out.below y);have U:=C.out.2.2.2.1)
      | go_still_tail 7,kr
      | (at_builtin;refine ff rfl _ _ 24 rfl t.heap.size 3 i0 (.int .i64 0) 1 8 Tryz.underlying24 hi c' c6 d1 rfl dd _ _ _ rfl (U.alloc _) ⟨w2.heap.size,0,I⟩ 1 1 [.int .i64 k] rfl rfl (cell_one_new _ _ _) (λx a7=>by simp at a7;subst a7;rfl) (by unfold maxLen;omega) zz so ?_;intro v' w3 b9 a4 b8))
     go_roundw
     case rel=>
      refine⟨k+1,zz,by go_num,?_,(aP (a1.out.tn (y.mono c5)) (dj _) _).grown a4 so (λq b'=>(U.lt q b').1)⟩;rw[E1.out];exact(kH.fst (C.out.below (aP (X.refl _ _) (dj _) _)).swap (k:Int) Z.out b9 a4 b8).swap
     case measure=>simp[intOf];omega
   .have d6:(k:Int)=b.S:=zz;have c7:k=b.S.toNat:=zz;have d4:=Hm c7;have HR:=Hm a9;have a1:=Hm K;obtain⟨⟨A1,O,rfl⟩,⟨A2,c2,rfl⟩,o1,o2,o3⟩:=a9;clear o1 o2 o3 c7 K d6;go_wp2;refine bd (results_tmp3 rfl _ _ _) rfl ?_;rw[B.out,<- d4.out];exact⟨_,_,rfl,HR.out.base R.out.size,R.out.tn (a1.out.mono R.out.size)⟩):p:=h
def sa{p:Prop}(h:p:=by
 obtain⟨A,c5,c⟩:=s;obtain⟨rfl,a4,c1,r⟩:=K
 first
 |have _:=ø
  have u:PQ (0<l.length->∃b off,A=Y ⟨b,off,I⟩/\b<w.heap.size/\∀k,k<l.length->w (b,off+k)=Y (.int .i64 (l.getD k 0))):=r;clear r;simp only at|-;go_enter Tryz.func83,Tryz.ntmps83;go_wp2;go_loopw [5] (λi wr=>∃k:Nat,k<=l.length/\i=.int .i64 k/\wr=w/\PQ (n∉l.take k)) (λi _=>l.length-(intOf i).toNat)
  case atStart=>exact⟨0,fi _,rfl,rfl,by simp[PQ]⟩
  case round=>
   obtain⟨k,hk,rfl,rfl,a⟩:=hrel;by_cases f:k<l.length
   .obtain⟨o,off,rfl,B,d⟩:=u.out zz;have v:=d k f;have T:PQ (l.getD k 0=l[k]):=by show _=_;simp[List.getD,fg f]
    have C:PQ (l.take (k+1)=l.take k++[l.getD k 0]):=by show _=_;rw[T.out];simp
    have a2:PQ (l.getD k 0∈l):=by show _∈_;rw[T.out];exact List.getElem_mem f
    clear d T;generalize l.getD k 0=x at v C a2;go_wp2
    .go_ret;exact⟨bR (by have:=a2.out;simp_all),rfl⟩
    .go_roundw
     case rel=>exact⟨k+1,zz,by go_num,by trivial,by show _∉_;rw[C.out];have:=a.out;simp_all;omega⟩
     case measure=>simp[intOf];omega
   .obtain rfl:k=l.length:=zz;go_wp2;go_ret;exact⟨bR (by have:=a.out;simp_all),rfl⟩
 |have _:=å
  have u:=Hm r;clear r;simp only at a4|-;go_enter Tryz.func90,Tryz.ntmps90;go_wp2;go_loop [8] (λi=>∃k:Nat,k<=l.length/\i=.int .i64 k/\PQ (zO x l 0=zO x (l.drop k) k)) (λi=>l.length-(intOf i).toNat)
  case atStart=>exact⟨0,fi _,rfl,rfl⟩
  case round=>
   obtain⟨k,hk,rfl,a⟩:=hrel;by_cases f:k<l.length
   .have j:=KZ x l k f;obtain⟨o,off,rfl,B,d⟩:=u.out zz;have v:=d k f;clear d;generalize l.getD k 0=y at j v;have q:=Hm j;clear j;by_cases N:x=y
    .have a9:(x==y)=true:=by simpa using N
     have a7:=Hm N;clear N;go_wp2;go_ret;exact⟨aW (by rw[a.out,q.out,dE a7.out]),rfl⟩
    .have a9:(x==y)=false:=by simpa using N
     go_wp2;go_round
     case rel=>exact⟨k+1,zz,by go_num,a.out.tn (q.out.tn (cd N))⟩
     case measure=>simp[intOf];omega
   .obtain rfl:k=l.length:=zz;go_wp2;go_ret;exact⟨aW (by rw[a.out];simp[zO]),rfl⟩
 |have _:=æ
  have u:PQ (0<l.length->∃b off,A=Y ⟨b,off,I⟩/\b<w.heap.size/\∀k,k<l.length->w (b,off+k)=Y (.int .i64 (l.getD k 0))):=r;clear r;simp only at|-;go_enter Tryz.func79,Tryz.ntmps79;go_wp2;go_loopw [5] (λi wr=>∃k:Nat,k<=l.length/\i=.int .i64 k/\X w.heap.size w wr/\PQ (bS S I l=bS S (qh l k) (l.drop k))) (λi _=>l.length-(intOf i).toNat)
  case atStart=>exact⟨0,fi _,rfl,X.refl _ _,by simp[qh,PQ]⟩
  (case round=>
    obtain⟨k,hk,rfl,g,a⟩:=hrel;have b6:(w:Nat)<=wr:=g.size;by_cases f:k<l.length
    .have j:=vE S l k f;obtain⟨o,off,rfl,B,d⟩:=u.out zz;have a':o<wr.heap.size:=zz;have v:wr (o,off+k)=Y (.int .i64 (l.getD k 0)):=(g.cell (p:=⟨o,off+k,I⟩) B).tn (d k f);have P:0<k->wr (o,off+(k-1))=Y (.int .i64 (l.getD (k-1) 0)):=λh0=>(g.cell (p:=⟨o,off+(k-1),I⟩) B).tn (d (k-1) zz);clear d;generalize l.getD k 0=x at j v;generalize l.getD (k-1) 0=y at j P;have q:=Hm j;clear j;by_cases V:ax x 0 (S-1)=false
     .go_wp2_with ((go_at_call 43;refine(bz _ _ _ _).mono ?_;rintro e w1 ⟨rfl,rfl⟩;rw[V]));go_ret;exact⟨aW (by rw[a.out,q.out,dE V]),g⟩
     .have E:ax x 0 (S-1)=true:=by simpa using V
      by_cases Z:0<k
      .have b1:decide ((0:Int)<k)=true:=by simpa using Z
       have b9:=P Z;have e1:((k:Int)-1).toNat=k-1:=zz;go_wp2_with (first|(go_at_call 43;refine(bz _ _ _ _).mono ?_;rintro e w1 ⟨rfl,rfl⟩;rw[E])|go_quiet (fail))
       .go_ret;exact⟨aW (by rw[a.out,q.out,cd (by simp[E]),dE (by simp[*])]),below_drewN g nq⟩
       .refine⟨⟨k+1,zz,by go_num,below_drewN g nq,a.out.tn (q.out.tn (by rw[cd (by simp[E]),cd so]))⟩,?_⟩;simp[intOf];omega
      .have b1:decide ((0:Int)<k)=false:=by simpa using Z
       go_wp2_with (first|(go_at_call 43;refine(bz _ _ _ _).mono ?_;rintro e w1 ⟨rfl,rfl⟩;rw[E])|go_quiet (fail))
       .refine⟨⟨k+1,zz,by go_num,below_drewN g nq,a.out.tn (q.out.tn (by rw[cd (by simp[E]),cd so]))⟩,?_⟩;simp[intOf];omega
    .obtain rfl:k=l.length:=zz;go_wp2;go_ret;exact⟨aW (by rw[a.out,xR]),g⟩)
 |have _:=ë
  have u:PQ (0<l.length->∃b off,A=Y ⟨b,off,I⟩/\b<w.heap.size/\∀k,k<l.length->w (b,off+k)=Y (.int .i64 (l.getD k 0))):=r;clear r;obtain⟨A2,b7,c2⟩:=t;obtain⟨rfl,a5,b2,G⟩:=hm;have R:PQ (0<m.length->∃b off,A2=Y ⟨b,off,I⟩/\b<w.heap.size/\∀k,k<m.length->w (b,off+k)=Y (.int .i64 (m.getD k 0))):=G;clear G;simp only at|-;by_cases b4:(l.length:Int)=m.length
  .have b5:l.length=m.length:=zz;go_enter Tryz.func12,Tryz.ntmps12;go_wp2;go_loopw [5] (λi wr=>∃k:Nat,k<=l.length/\i=.int .i64 k/\X w.heap.size w wr/\PQ (l.take k=m.take k)) (λi _=>l.length-(intOf i).toNat)
   case atStart=>exact⟨0,fi _,rfl,X.refl _ _,by simp[PQ]⟩
   case round=>
    obtain⟨k,hk,rfl,g,a⟩:=hrel;have b6:(w:Nat)<=wr:=g.size;by_cases f:k<l.length
    .have L:k<m.length:=zz;obtain⟨o,off,rfl,B,d⟩:=u.out zz;obtain⟨O,a1,rfl,a3,J⟩:=R.out zz;have a':o<wr.heap.size:=zz;have b8:O<wr.heap.size:=zz;have v:wr (o,off+k)=Y (.int .i64 (l.getD k 0)):=(g.cell (p:=⟨o,off+k,I⟩) B).tn (d k f);have P:wr (O,a1+k)=Y (.int .i64 (m.getD k 0)):=(g.cell (p:=⟨O,a1+k,I⟩) a3).tn (J k L);clear d J;have C:PQ (l.getD k 0=m.getD k 0->l.take (k+1)=m.take (k+1)):=λe=>MC a.out e f L;have U:PQ (l.getD k 0≠m.getD k 0->l≠m):=λe e2=>e (by rw[e2]);generalize l.getD k 0=x at v C U;generalize m.getD k 0=y at P C U;go_wp2_with (go_quiet (fail))
     .go_ret;exact⟨bR (by have:=U.out;simp_all),below_drewN g nq⟩
     .refine⟨⟨k+1,zz,by go_num,below_drewN g nq,C.out (by first|assumption|simp_all|omega)⟩,?_⟩;simp[intOf];omega
    .obtain rfl:k=l.length:=zz;go_wp2;go_ret;exact⟨bR (by have:=a.out;rw[List.take_length,b5,List.take_length]at this;simp[this]),g⟩
  .go_enter Tryz.func12,Tryz.ntmps12;go_wp2;go_ret;exact⟨bR (by have:l≠m:=λe=>b4 (by rw[e]);simp[this]),X.refl _ _⟩
 |obtain⟨A2,b7,c2⟩:=t
  obtain⟨rfl,a5,b2,G⟩:=hm;have u:=Hm r;have R:=Hm G;clear r G;simp only at a4 a5|-;go_enter Tryz.func76,Tryz.ntmps76;go_wp2;go_loop [11] (λi=>∃k:Nat,k<=l.length/\k<=m.length/\i=.int .i64 k/\PQ (abn l m=abn (l.drop k) (m.drop k))) (λi=>l.length-(intOf i).toNat)
  case atStart=>exact⟨0,fi _,fi _,rfl,rfl⟩
  case round=>
   obtain⟨k,hk,b0,rfl,a⟩:=hrel;by_cases f:k<l.length
   .obtain⟨o,off,rfl,B,d⟩:=u.out zz;have v:=d k f;clear d;by_cases L:k<m.length
    .have j:=Lz l m k f L;obtain⟨O,a1,rfl,a3,J⟩:=R.out zz;have a0:=J k L;clear J;generalize l.getD k 0=x at j v;generalize m.getD k 0=y at j a0;have W:=λw=>Su x y w;generalize Gu x y=z at j W;have q:=Hm j;clear j;by_cases Q:z=0
     .subst Q;go_wp2_with (go_at_call 113;refine(W _).mono ?_;rintro e w' ⟨rfl,rfl⟩);go_round
      case rel=>exact⟨k+1,zz,zz,by go_num,by rw[PQ,a.out,q.out];simp⟩
      case measure=>simp[intOf];omega
     .have c4:(z != 0)=true:=by simpa using Q
      have a8:=Hm Q;clear Q;go_wp2_with (go_at_call 113;refine(W _).mono ?_;rintro e w' ⟨rfl,rfl⟩);go_ret;exact⟨aW (by rw[a.out,q.out,cd a8.out]),rfl⟩
    .have a6:k=m.length:=zz;have HR:PQ (abn l m=1):=by
      rw[PQ,a.out,a6,lv (dj _),lL zz];rfl
     have b':(m.length:Int)<=(k:Int):=zz;clear a6 a;go_wp2;go_ret;exact⟨aW HR.out.symm,rfl⟩
   .obtain rfl:k=l.length:=zz;by_cases b3:l.length<m.length
    .have HR:PQ (abn l m= -1):=by
      rw[PQ,a.out,lv (dj _),lL b3];rfl
     clear a;go_wp2;go_ret;exact⟨aW HR.out.symm,rfl⟩
    .have HR:PQ (abn l m=0):=by
      rw[PQ,a.out,lv (dj _),lv zz];rfl
     have c3:m.length<=l.length:=zz;clear a;go_wp2;go_ret;exact⟨aW HR.out.symm,rfl⟩):p:=h
def tk{p:Prop}(h:p:=by
 intro j d;have l:j (a,0)=Y (.int .i64 step):=(d.cell (p:=⟨a,0,I⟩) c).tn f;have m:a<j.heap.size:=iv c d.size;first|have _:=ø;have g:=λw=>fB b step i h2 w;clear f c d;simp only[zR];unfold aC.v at g|-;go_enter Tryz.func50,Tryz.ntmps50|have g:=λw=>fB b step i h2 w;clear f c d;simp only[zR];unfold aC.v at g|-;go_enter Tryz.func55,Tryz.ntmps55
 go_wp2_with (go_at_call 51;refine(g _).mono ?_;rintro e w' ⟨rfl,k⟩);go_ret;exact⟨rfl,aY k⟩):p:=h
def vy{p:Prop}(h:p:=by
 have d:=bJ (i:=0) h a;simp only[zS]at d;have c:=bJ (i:=1) d b;simp only[zS]at c;first|have _:=ø;exact⟨c,((aS.refl _ _).set (p:=⟨g,0,I⟩) (λ_ h=>h rfl) _).set (p:=⟨g,1,I⟩) (λ_ h=>h rfl) _⟩|have _:=å;have h2:=bJ (i:=2) c u2;simp only[zS]at h2;exact⟨h2,((((aS.refl _ _).set (p:=⟨g,0,I⟩) (λ_ h=>h rfl) _).set (p:=⟨g,1,I⟩) (λ_ h=>h rfl) _).set (p:=⟨g,2,I⟩) (λ_ h=>h rfl) _)⟩|have _:=æ;have h2:=bJ (i:=2) c u2;simp only[zS]at h2;exact⟨h2,(((aS.refl _ _).set (p:=⟨g,0,I⟩) (λ_ h=>h rfl) _).set (p:=⟨g,1,I⟩) (λ_ h=>h rfl) _).set (p:=⟨g,2,I⟩) (λ_ h=>h rfl) _⟩|exact⟨c,(((aS.refl _ _).set (p:=⟨g,0,I⟩) (λ_ h=>h rfl) _).set (p:=⟨g,1,I⟩) (λ_ h=>h rfl) _)⟩):p:=h
def xbc{p:Prop}(h:p:=by
 have e:L.getD i (0,mI)=L[i]:=by simp[List.getD,fg h]
 rw[e]at a;rw[oP,oP,q5A h,np,lh];first|have _:=ø;simp only[List.filter_cons,a,if_true,List.filter_nil,fx,ky]|simp only[List.filter_cons,a,kx,if_false,List.filter_nil,ky,Nat.add_zero]):p:=h
def xbu{p:Prop}(h:p:=by
 rw[lL hk];have e:l.getD k 0=l[k]:=by simp[List.getD,fg hk]
 rw[e];rfl):p:=h
end Go
namespace Go.Proofs.YtimmnfbjckbneaaGreatDoor
open Go.RowKit Go.Shelf
variable{n l:Nat}{P:Ps}{assign body:Ly}{w A B C:H}{K K':Nat->Prop}
structure aS(K:Nat->Prop)(A B:H):Prop where
 os:B.os=A.os
 tape:B.tape=A.tape
 output:B.output=A.output
 size:A.heap.size<=B.heap.size
 block:∀b,b<A.heap.size->K b->B.heap[b]?=A.heap[b]?
def aS.refl(K:Nat->Prop)(A:H):aS K A A:=⟨rfl,rfl,rfl,dj _,λ_ _ _=>rfl⟩
theorem aS.tn(h:aS K A B)(k:aS K B C):aS K A C:=
 ⟨k.os.tn h.os,k.tape.tn h.tape,k.output.tn h.output,ec h.size k.size,λb c a=>(k.block b (iv c h.size) a).tn (h.block b c a)⟩
theorem aS.tn'(h:aS K A B)(k:aS K' B C)(c:∀b,b<A.heap.size->K b->K' b):aS K A C:=
 ⟨k.os.tn h.os,k.tape.tn h.tape,k.output.tn h.output,ec h.size k.size,λb a hk=>(k.block b (iv a h.size) (c b a hk)).tn (h.block b a hk)⟩
def aS.mono(h:aS K A B)(c:∀b,b<A.heap.size->K' b->K b):aS K' A B:=⟨h.os,h.tape,h.output,h.size,λb a hk=>h.block b a (c b a hk)⟩
def aS.dY(h:X n A B)(a:∀b,b<A.heap.size->K b->b<n):aS K A B:=⟨h.os,h.tape,h.output,h.size,λb c hk=>h.block b (a b c hk)⟩
def aS.below(h:aS K A B)(d:n<=A.heap.size)(a:∀b,b<n->K b):X n A B:=⟨h.os,h.tape,h.output,h.size,λb c=>h.block b zz (a b c)⟩
theorem aS.alloc(h:aS K A B)(o:Obj):aS K A (B.alloc o):=
 h.tn ⟨rfl,rfl,rfl,by simp,λb a _=>X.heap_alloc _ _ _ a⟩
theorem aS.set(h:aS K A B){p:Addr}(c:p.block<A.heap.size->¬K p.block)(v:M):aS K A (B.setCell p v):=
 h.tn' ⟨rfl,rfl,rfl,by simp[H.setCell],λb a hk=>X.heap_setCell _ _ _ _ hk⟩ λb a hk e=>by subst e;exact c a hk
theorem aS.put(h:aS K A B)(c:l<A.heap.size->¬K l)(o:Obj):aS K A (B.putObj l o):=
 h.tn' (K':=λb=>b≠l) ⟨rfl,rfl,rfl,by simp,λb a hk=>H.putObj_heap_other hk⟩ λb a hk e=>by subst e;exact c a hk
def aS.drew(h:aS K A B):aS K A B.drew:=⟨h.os,h.tape,h.output,h.size,h.block⟩
theorem aS.grown{row:Option Nat}(h:aS K A B)(a:B.grownBy C row)(d:∀r,row=Y r->r<A.heap.size->¬K r):aS K A C:=
 h.tn' (K':=λb=>row≠Y b) ⟨a.os,a.tape,a.output,a.size,λb c hk=>a.block b c (λe=>hk e.symm)⟩ λb c hk e=>d b e c hk
theorem aS.get(h:aS K A B){b:Nat}{o:Obj}(c:K b)(a:A.heap[b]?=Y o):B.heap[b]?=Y o:=(h.block b (du.1 a).1 c).tn a
def Bm(K:Nat->Prop)(A B:H)(X:(Nat->Prop)->Prop):Prop:=
 ∃K':Nat->Prop,(∀b,K' b->b<B.heap.size/\(K b\/A.heap.size<=b))/\aS (λb=>¬K b) A B/\X K'
def Bm.mono{K:Nat->Prop}{A B:H}{X Y:(Nat->Prop)->Prop}(h:Bm K A B X)(d:∀K',X K'->Y K'):Bm K A B Y:=let⟨K',a,b,c⟩:=h;⟨K',a,b,d _ c⟩
def xP{α:Type}(s:Nat)(J:(Nat->Prop)->List α->H->Prop):Prop:=
 ∀K a A B,J K a A->s<=A.heap.size->aS (λb=>K b\/b<s) A B->J K a B
def Yields{α:Type}(P:Ps)(l:Nat)(encs:α->Array M)(xs:List α)(s:Nat)(J c:(Nat->Prop)->List α->H->Prop):Prop:=
 ∀K a x A m,J K a A->a++[x] <+: xs->s<=A.heap.size->(∀b,K b->b<A.heap.size)->YieldAt Fence.wide m P l (encs x) A λe B=>
  Bm K A B λK'=>(e=.returned (.bool true)/\J K' (a++[x]) B)\/(e=.returned (.bool false)/\c K' (a++[x]) B)
def Y1{α:Type}(P:Ps)(g:Nat)(f:Array M)(encs:α->Array M)(R:Nat->Prop)(xs:List α)(w:H):Prop:=
 ∀(l:Nat) (J a:(Nat->Prop)->List α->H->Prop) (c:Nat->Prop) (W:H),aS R w W->(∀b,R b->¬c b)->(∀b,c b->b<W.heap.size)->
  xP W.heap.size J->xP W.heap.size a->Yields P l encs xs W.heap.size J a->J c [] W->
  PH P g (#[.func (.yield l) #[] #[]]++f) W λe B=>(∃v,e=.returned v)/\W.heap.size<=B.heap.size/\∃K',(J K' xs B)\/(∃d,d <+: xs/\a K' d B)
def uI{m m':Nat}{f:ba}{tmps:Array M}{R:Ending->H->Prop}
  (h:RoundIn Fence.wide m P l f tmps assign body w R):RoundIn Fence.wide m' P l f tmps assign body w R:=⟨h.1,λc cs _=>h.2 c cs (room_wide _)⟩
def Se{α:Type}(b c:(Nat->Prop)->List α->H->Prop)(K:Nat->Prop)(xs:List α)(W:H):Exit->Act->H->Prop
 | .normal,_,a=>Bm K W a λK'=>b K' xs a
 | .ret,_,a=>Bm K W a λK'=>c K' xs a
 | _,_,_=>False
theorem qg{α:Type}{g:ae}{ps:Array Tmp}{Q:Exit->Act->H->Prop}{a:Act}
  {gf:Nat}{lb:Array M}(d6:a.eval g=.func (.func gf) #[] lb)(b':Enters P gf)
  {encs:α->Array M}{R:Nat->Prop}{xs:List α}(d0:Y1 P gf lb encs R xs w)(d9:∀x,(encs x).size=ps.size)
  (N:Nat->Prop)(c':∀b,R b->¬N b)(d1:∀b,R b->b<w.heap.size)(b1:∀b,N b->b<w.heap.size)
  (z Z:(Nat->Prop)->List α->H->Prop)(S:xP w z)(a4:xP w Z)(h0:z N [] w)
  (T:Lk)(cs:α->Array M)(a1:α->Nat->Act)
  (d2:∀(l:Nat) (x:α) (W:H) (a':Act->H->Prop),a' (a1 x W) (W.alloc (.cells (cs x) T))->
   assign.wpIn (Fence.wide.inRound l) n P (Exit.then a' (λ_ _ _=>False)) {tmps:=(ps.zip (encs x)).foldl (λt (p,v)=>t.setIfInBounds p v) a.tmps,defers:=[]} W)
  (d3:∀(l:Nat) (K:Nat->Prop) (f:List α) (x:α) (W:H) (V:Nat),z K f W->f++[x] <+: xs->w.heap.size<=V->W.heap[V]?=Y (.cells (cs x) T (0,0))->(∀b,K b->b<W.heap.size/\b≠V)->
   body.wpIn (Fence.wide.inRound l) n P (Se z Z K (f++[x]) W) (a1 x V) W)
  (d4:∀(D:Nat) (K:Nat->Prop) (W:H),w.heap.size<=D->(w:Nat)<=W->z K xs W->W.heap[D]?=Y (.deferred (Y []))->Q .normal {a with defers:= {target:=.collected D,args:= #[]}::a.defers} W)
  (e1:∀(D:Nat) (K:Nat->Prop) (f:List α) (W:H),w.heap.size<=D->(w:Nat)<=W->f <+: xs->Z K f W->W.heap[D]?=Y (.deferred (Y []))->Ly.ret.wpIn Fence.wide n P Q {a with defers:= {target:=.collected D,args:= #[]}::a.defers} W):
  (Ly.rangeFunc g ps assign body).wpIn Fence.wide n P Q a w:=by
 refine wpIn_rangeFunc ?_;intro fn d5;obtain⟨d,r⟩:∃d:LoopState->Option Ly->Loop,d=λst e2=> {state:=st,pending:=e2,fn,tmps:=a.tmps,params:=ps,assign,body,defers:=w.heap.size}:=⟨_,rfl⟩;obtain⟨s,U⟩:∃s,(w.alloc (.deferred (Y []))).alloc (.loop (d .ready I))=s:=⟨_,rfl⟩;have b2:s.heap[w.heap.size+1]?=Y (.loop (d .ready I)):=by
  rw[<- U];have:=H.alloc_heap_new (w.alloc (.deferred (Y []))) (.loop (d .ready I));rwa[H.size_alloc]at this
 have c4:s.heap[w.heap.size]?=Y (.deferred (Y [])):=by
  rw[<- U];exact(X.heap_alloc _ _ _ ss).tn (H.alloc_heap_new w _)
 have b4:∀K,aS K w s:=λK=>by rw[<- U];exact((aS.refl K w).alloc _).alloc _
 have e4:s.heap.size=w.heap.size+1+1:=by rw[<- U];simp
 obtain⟨l,b6⟩:∃l,w.heap.size+1=l:=⟨_,rfl⟩;rw[b6]at b2;refine⟨w.heap.size+1,[{target:=.collected w.heap.size,args:= #[]}],s, {target:=.fn (.func gf) lb,args:= #[.func (.yield (w.heap.size+1)) #[] #[]]},s,gf,
  #[.func (.yield (w.heap.size+1)) #[] #[]]++lb,s,?_,?_,?_,?_,λh=>by simp[Fence.wide]at h,?_⟩
 .rw[<- U,r];exact run_enterLoop_outer _ _ _ _ _
 .simp only[ab,d6];simp[go_sem]
 .intro f' _;trivial
 .simp[invoke,go_sem];exact b' _ _
 rw[b6];refine(callsIn_wide.2 (d0 l
  (λK' f W=>∃K,K'=(λb=>K b\/b=l)/\z K f W/\(∀b,K b->b<w.heap.size\/l<b)/\W.heap[l]?=Y (.loop (d .ready I))/\W.heap[w.heap.size]?=Y (.deferred (Y [])))
  (λK' f W=>∃K,K'=(λb=>K b\/b=l)/\Z K f W/\(∀b,K b->b<w.heap.size\/l<b)/\W.heap[l]?=Y (.loop (d .done (Y .ret)))/\W.heap[w.heap.size]?=Y (.deferred (Y [])))
  (λb=>N b\/b=l) s (b4 R) ?_ ?_ ?_ ?_ ?_ ⟨N,rfl,S _ _ _ _ h0 (dj _) (b4 _),λb o=>.inl (b1 b o),b2,c4⟩)).mono ?_
 .rintro b o (h|rfl)
  .exact c' b o h
  .have:=d1 _ o;omega
 .rintro b (h|rfl)
  .have:=b1 b h;omega
  .omega
 .rintro K' f A B ⟨K,rfl,hi,o,k,u⟩ a9 hk;exact⟨K,rfl,S _ _ _ _ hi zz (hk.mono λb _ h=>h.elim (λh=>.inl (.inl h)) (λh=>.inr zz)),o,hk.get (.inl (.inr rfl)) k,hk.get (.inr zz) u⟩
 .rintro K' f A B ⟨K,rfl,hi,o,k,u⟩ a9 hk;exact⟨K,rfl,a4 _ _ _ _ hi zz (hk.mono λb _ h=>h.elim (λh=>.inl (.inl h)) (λh=>.inr zz)),o,hk.get (.inl (.inr rfl)) k,hk.get (.inr zz) u⟩
 ·
  rintro K' f x W m ⟨K,rfl,hi,C,k,u⟩ a7 a9 b7;have e3:l<W.heap.size:=(du.1 k).1;have b9:=run_yield (P:=P) (args:=encs x) k (by rw[r];exact d9 x);rw[r]at b9;refine⟨fn,_,assign,body,b9,uI (m:=n) (roundIn_of_wpIn d5 (d2 l x W _ ?_))⟩;obtain⟨E,a2⟩:∃E,W.alloc (.cells (cs x) T)=E:=⟨_,rfl⟩;have a6:∀K,aS K W E:=λK=>by rw[<- a2];exact(aS.refl K W).alloc _
  have c3:E.heap[W.heap.size]?=Y (.cells (cs x) T (0,0)):=by rw[<- a2];exact H.alloc_heap_new W _
  have d':E.heap.size=W.heap.size+1:=by rw[<- a2];simp
  rw[a2];have b0:=(a6 (λ_=>True)).get db k;have c5:=(a6 (λ_=>True)).get db u;refine⟨_,run_beginRound b0 (by rw[r]),?_⟩;obtain⟨q,J⟩:∃q,E.putObj l (.loop {d .ready I with state:=.busy})=q:=⟨_,rfl⟩;have e6:q.heap.size=W.heap.size+1:=by rw[<- J];simp[d']
  have b5:∀K:Nat->Prop,¬K l->aS K W q:=λK c8=>by rw[<- J];exact(a6 K).put (λ_=>c8) _
  have c1:q.heap[l]?=Y (.loop {d .ready I with state:=.busy}):=by rw[<- J];exact H.putObj_heap_same zz
  have c6:q.heap[w.heap.size]?=Y (.deferred (Y [])):=by rw[<- J];exact(H.putObj_heap_other zz).tn c5
  have c2:q.heap[W.heap.size]?=Y (.cells (cs x) T (0,0)):=by rw[<- J];exact(H.putObj_heap_other zz).tn c3
  rw[J];have b8:¬(K l\/l<w.heap.size):=by
   rintro(h|h); · have:=C l h;omega
   .omega
  have d7:z K f q:=S _ _ _ _ hi zz (b5 _ b8);refine wpIn_mono (d3 l K f x q W.heap.size d7 a7 zz c2 (λb o=>by have:=b7 b (.inl o);omega)) ?_;have a0:∀(c:Option Ly) (i:H) (j:Nat->Prop),(∀b,j b->b<i.heap.size/\(K b\/q.heap.size<=b))->aS (λb=>¬K b) q i->
    (Instr.endRound l c).run P i=.ok (.bool c.isNone) (i.putObj l (.loop (d (if c.isNone then .ready else .done) c)))/\
    (i.putObj l (.loop (d (if c.isNone then .ready else .done) c))).heap[l]?=Y (.loop (d (if c.isNone then .ready else .done) c))/\
    (i.putObj l (.loop (d (if c.isNone then .ready else .done) c))).heap[w.heap.size]?=Y (.deferred (Y []))/\
    (∀b,(j b\/b=l)->b<(i.putObj l (.loop (d (if c.isNone then .ready else .done) c))).heap.size/\((K b\/b=l)\/W.heap.size<=b))/\
    aS (λb=>¬(K b\/b=l)) W (i.putObj l (.loop (d (if c.isNone then .ready else .done) c)))/\
    (∀b,j b->b<w.heap.size\/l<b)/\w.heap.size<=i.heap.size/\(∀K2:Nat->Prop,¬K2 l->aS K2 i (i.putObj l (.loop (d (if c.isNone then .ready else .done) c)))):=λc i j G y=>by
   have c9:¬K l:=λh=>b8 (.inl h);have d8:=y.get c9 c1;have c7:=y.get (b:=w.heap.size) (by intro h;have:=C _ h;omega) c6;have e5:=y.size;have:=run_endRound (P:=P) c d8;rw[r]at this|-;refine⟨this,H.putObj_heap_same zz,(H.putObj_heap_other zz).tn c7,?_,?_,?_,zz,λK2 h2=>(aS.refl _ _).put (λ_=>h2) _⟩
   .rintro b (h|rfl)
    .have:=G b h;exact⟨by simp;omega,this.2.elim (λh=>.inl (.inl h)) (λh=>.inr zz)⟩
    .exact⟨by simp;omega,.inl (.inr rfl)⟩
   .exact((b5 _ (λh=>h (.inr rfl))).tn' y (λb _ h=>λh'=>h (.inl h'))).put (λ_ h=>h (.inr rfl)) _
   .intro b o;rcases(G b o).2 with h|h
    .exact C b h
    .right;omega
  rintro e a3 i L
  cases e with
  | normal=>
   obtain⟨j,G,y,a5⟩:=L;obtain⟨a8,f1,f2,f3,f4,O,f6,f7⟩:=a0 I i j G y;refine⟨_,_,a8,λb=>j b\/b=l,f3,f4,.inl ⟨rfl,j,rfl,S _ _ _ _ a5 f6 (f7 _ ?_),O,f1,f2⟩⟩;rintro(h|h)
   .have:=O l h;omega
   .omega
  | ret=>
   obtain⟨j,G,y,a5⟩:=L;obtain⟨a8,f1,f2,f3,f4,O,f6,f7⟩:=a0 (Y .ret) i j G y;refine⟨_,_,a8,λb=>j b\/b=l,f3,f4,.inr ⟨rfl,j,rfl,a4 _ _ _ _ a5 f6 (f7 _ ?_),O,f1,f2⟩⟩;rintro(h|h)
   .have:=O l h;omega
   .omega
  | exit id=>exact L.elim
  | goto t=>exact L.elim
  | panic ch=>exact L.elim
  | outgrown=>exact L.elim
 ·
  rintro e W2 ⟨⟨v,rfl⟩,a9,K',(⟨K,rfl,hi,C,k,u⟩|⟨f,a7,K,rfl,hi,C,k,u⟩)⟩
  all_goals
   have b7:=(du.1 k).1;have hk:aS (λb=>K b\/b<w.heap.size) W2 (W2.putObj l (.loop {d .ready I with state:=.exhausted})):=(aS.refl _ _).put (λ_=>by
    rintro(h|h)
    .have:=C l h;omega
    .omega) _
   rw[r]at hk
  .refine⟨I,_,by have:=run_endLoop (P:=P) k (by rw[r];simp);rw[r]at this;exact this,?_⟩;exact d4 w.heap.size K _ (dj _) so (S _ _ _ _ hi zz hk) ((H.putObj_heap_other zz).tn u)
  .have b3:aS (λb=>K b\/b<w.heap.size) W2 (W2.putObj l (.loop { (d .done (Y .ret))with state:=.exhausted})):=(aS.refl _ _).put (λ_=>by
    rintro(h|h)
    .have:=C l h;omega
    .omega) _
   rw[r]at b3;refine⟨Y .ret,_,by have:=run_endLoop (P:=P) k (by rw[r];simp);rw[r]at this;exact this,?_⟩;exact e1 w.heap.size K f _ (dj _) so a7 (a4 _ _ _ _ hi zz b3) ((H.putObj_heap_other zz).tn u)
def zO(x:Int):List Int->Nat->Int
 | [],_=> -1
 | y::r,k=>if x=y then k else zO x r (k+1)
def KZ(x:Int)(l:List Int)(k:Nat)(hk:k<l.length):zO x (l.drop k) k=if x=l.getD k 0 then(k:Int)else zO x (l.drop (k+1)) (k+1):=xbu
def Dk(x:Int):∀(l:List Int) (k:Nat),decide (0<=zO x l k)=decide (x∈l)
 | [],_=>rfl
 | y::r,k=>by
  simp only[zO,fc];by_cases h:x=y
  .simp[h]
  .have a:=Dk x r (k+1);simp[h,a]
theorem FV(s:Sl)(l:List Int)(x:Int)(w:H)(K:aN w s l):
  PH F 90 #[.slice s.A s.n s.c,.int .i64 x] w λe w'=>e=.returned (.int .i64 (zO x l 0))/\w=w':=by
 have å:=0;exact sa
theorem jO(s:Sl)(l:List Int)(x:Int)(w:H)(b:aN w s l):
  PH F 62 #[.slice s.A s.n s.c,.int .i64 x] w λe w'=>e=.returned (.bool (decide (x∈l)))/\w=w':=by
 have hi:=FV s l x w b;have a:=Hm (Dk x l 0);clear b;generalize zO x l 0=r at hi a;go_enter Tryz.func62,Tryz.ntmps62;go_wp2_with (go_at_call 90;refine hi.mono ?_;rintro e c ⟨rfl,rfl⟩);go_ret;exact⟨bR a.out,rfl⟩
section
attribute [local go_sem] Oper.semAt_some
variable{K:Nat->Prop}{w w':H}{s:Sl}{l C:List Int}{b:aC}{bb yb nb g x:Nat}{t:Lk}{sh:Int}{f:Nat->Bool}
def Bp(d:Nat->Bool)(n:Nat):Nat->Bool:=λi=>if i=n then true else d i
def gF(lo hi:Int):List Int:=(List.range (hi-lo+1).toNat).map λ(i:Nat)=>lo+i
def jW(S:Nat)(lo hi:Int)(C:List Int):Nat->(Nat->Bool)->Nat->List (Int×(Nat->Bool))
 | 0,d,_=>(gF lo hi).map λs=>(s,d)
 | k+1,d,step=>(List.range' step (S-step)).flatMap λ(n:Nat)=>if((n:Nat):Int)∈C then[]else jW S lo hi C k (Bp d n) (n+1)
def su(x:Int×(Nat->Bool)):Array M:= #[gN x.1 x.2]
def I4(s:Sl)(l:List Int)(x:Nat):Prop:=0<l.length/\∃off,s.A=Y ⟨x,off,I⟩
theorem aN.keep(h:aN w s l)(hk:aS K w w')(e:∀x,I4 s l x->K x):aN w' s l:=
 ⟨h.1,h.2.1,h.2.2.1,λa=>by
  obtain⟨b,off,c,h2,d⟩:=h.2.2.2 a;exact⟨b,off,c,iv h2 hk.size,λk f=>(H.cell?_of_block (w:=w) (hk.block b h2 (e b ⟨a,off,c⟩))).tn (d k f)⟩⟩
def Ap(bb yb nb:Nat):M:=.func (.func 89) #[] #[.pointer (Y (bb,0)),.pointer (Y (yb,0)),.pointer (Y (nb,0))]
structure ql(w:H)(b:aC)(C:List Int)(l bb yb nb:Nat):Prop where
 box:aK w bb 74 b
 ints:aN w b.C C
 yv:w.heap[yb]?=Y (.cells #[.func (.yield l) #[] #[]] 88 (0,0))
 nv:w.heap[nb]?=Y (.cells #[Ap bb yb nb] 157 (0,0))
def oJ(b:aC)(C:List Int)(bb yb nb:Nat)(x:Nat):Prop:=x=bb\/x=yb\/x=nb\/I4 b.C C x
def ql.keep{l bb yb nb:Nat}(h:ql w b C l bb yb nb)(hk:aS K w w')(a:∀x,oJ b C bb yb nb x->K x):ql w' b C l bb yb nb:=
 ⟨hk.get (a _ (.inl rfl)) h.box,h.ints.keep hk λx c=>a x (.inr (.inr (.inr c))),hk.get (a _ (.inr (.inl rfl))) h.yv,hk.get (a _ (.inr (.inr (.inl rfl)))) h.nv⟩
def one_cell{v:M}(h:w.heap[g]?=Y (.cells #[v] t (0,0))):w (g,0)=Y v:=by
 rw[H.cell?,h];rfl
def I4.lt(h:aN w s l)(e:I4 s l x):x<w.heap.size:=by
 obtain⟨c,o,a⟩:=e;obtain⟨b,off,d,h2,-⟩:=h.2.2.2 c;rw[d]at a;cases a;exact h2
def ql.lt{l bb yb nb:Nat}(h:ql w b C l bb yb nb)(a:oJ b C bb yb nb x):x<w.heap.size:=by
 rcases a with rfl|rfl|rfl|a
 .exact h.box.lt
 .exact(du.1 h.yv).1
 .exact(du.1 h.nv).1
 .exact I4.lt h.ints a
def abj(h:bA w g t sh f)(hk:aS K w w')(b:K g):bA w' g t sh f:=by
 obtain⟨cs,e1,a⟩:=h;exact⟨cs,hk.get b e1,a⟩
def Dm{sh ik:Int}(h:bA w g t sh f):bA (w.setCell (g,0) (.int .i64 ik)) g t ik f:=by
 obtain⟨cs,e1,a,e0,b⟩:=h;refine⟨cs.setIfInBounds 0 (.int .i64 ik),by simp[H.setCell,ml,e1],by simpa using a,?_,λj c=>?_⟩
 .simp[a]
 .rw[lO zz,b j c]
def Dp(xs:List (Int×(Nat->Bool)))(J a:(Nat->Prop)->List (Int×(Nat->Bool))->H->Prop)(K:Nat->Prop)(b:List (Int×(Nat->Bool)))(A:H)(e:Ending)(B:H):Prop:=
 Bm K A B λK'=>(e=.returned (.bool true)/\J K' b B)\/(e=.returned (.bool false)/\∃q,q <+: xs/\a K' q B)
def xT(lo hi:Int):(gF lo hi).length=(hi-lo+1).toNat:=by simp[gF]
def vF{lo hi:Int}{i:Nat}(h:lo+(i:Int)<=hi):(gF lo hi).take (i+1)=(gF lo hi).take i++[lo+(i:Int)]:=by
 rw[q5A (by rw[xT];omega)];simp[gF]
theorem Lb(b:aC)(g1: -3<=b.lo)(g2:b.hi<=3)(g3:b.lo<=b.hi)(C:List Int)(l bb yb nb E:Nat)(xs:List (Int×(Nat->Bool)))(J R:(Nat->Prop)->List (Int×(Nat->Bool))->H->Prop)
  (T:xP E J)(Z:Yields F l su xs E J R)(sh:Int)(d:Nat->Bool)(step:Nat)(k:List (Int×(Nat->Bool)))(K:Nat->Prop)(A:H)
  (o:ql A b C l bb yb nb)(b4:E<=A.heap.size)(U:∀x,K x->x<A.heap.size/\¬oJ b C bb yb nb x)(a8:J K k A)(a2:k++(gF b.lo b.hi).map (λs=>(s,d)) <+: xs):
  PH F 89 #[gN sh d,.int .i64 step,.int .i64 0,.pointer (Y (bb,0)),.pointer (Y (yb,0)),.pointer (Y (nb,0))] A (Dp xs J R K (k++(gF b.lo b.hi).map (λs=>(s,d))) A):=by
 have c3:=o.box.lt;have c4:=(du.1 o.yv).1;refine(callsIn_wide (n:=9)).1 ?_;refine callsIn_of_wp Tryz.func89 rfl db ?_ rfl;have O:=Hm o;have HK:=Hm U;have N:=Hm T;have a5:=Hm Z;have a3:=Hm a2;have a7:=aM o.box;clear o U T Z a2;obtain⟨x0,x1,x2,x3,x4,x5,x6,x7,x8,x9,b7,b8,b9⟩:=a7;unfold gN;simp only[Tryz.ntmps89,List.size_toArray,fx,ky,Nat.reduceAdd,Nat.reduceSub,zR];gi_wp2;gi_loopw [] (λwr=>∃(i:Nat) (g:Nat->Prop),b.lo+(i:Int)<=b.hi+1/\bA wr A.heap.size 78 (b.lo+i) d/\aS (λx=>¬K x) A wr/\(∀x,g x->x<wr.heap.size/\(K x\/A.heap.size<x))/\J g (k++((gF b.lo b.hi).take i).map (λs=>(s,d))) wr)
  (λwr=>(b.hi+1-intOf ((wr.cell? ⟨A.heap.size,0,I⟩).getD D)).toNat)
 case atStart=>
  have b3:=bA.new A 78 b.lo d;refine⟨0,K,?_,by simpa using b3,(aS.refl _ A).alloc _,λx c=>?_,?_⟩
  .simp;omega
  .have:=(HK.out x c).1;exact⟨by rw[aa];omega,.inl c⟩
  .simpa using N.out K k A _ a8 b4 ((aS.refl _ A).alloc _)
 case round=>
  obtain⟨i,g,hi,z,hk,j,r⟩:=hrel;have y:∀x,oJ b C bb yb nb x->¬K x:=λx h c=>(HK.out x c).2 h;have q:=O.out.keep hk y;have b1:¬K A.heap.size:=λh=>by have:=(HK.out _ h).1;omega
  have c1:(A:Nat)<wr:=z.lt;have c2:=one_cell q.yv;obtain⟨x0,x1,x2,x3,x4,x5,x6,x7,x8,x9,b7,b8,b9⟩:=aM q.box;obtain⟨s0,s1,s2,s3,s4,s5,s6,s7,s8,s9,c5,c6,c7⟩:=z.all;by_cases hle:b.lo+(i:Int)<=b.hi
  .have L:(k++((gF b.lo b.hi).take i).map (λs=>(s,d)))++[(b.lo+(i:Int),d)] <+: xs:=by
    refine List.IsPrefix.tn ?_ a3.out;have:=vF hle;rw[nh,show[(b.lo+(i:Int),d)]=[b.lo+(i:Int)].map (λs=>(s,d))from rfl,<- nc,<- this];exact(List.prefix_append_right_inj _).2 ((List.take_prefix _ _).map _)
   obtain⟨fn,tmps,assign,body,b6,W⟩:=a5.out g _ (b.lo+(i:Int),d) wr (9-1) r L zz (λx c=>(j x c).1);have a4:=Hm L;have V:∀x,oJ b C bb yb nb x->¬g x:=λx h c=>by
    rcases(j x c).2 with a|a
    .exact y x h a
    .have:=O.out.lt h;omega
   have a1:¬g A.heap.size:=λh=>by
    rcases(j _ h).2 with a|a
    .exact b1 a
    .omega
   have b0:=Hm q;have P:=Hm z;have f:=Hm j;have b':=Hm V;have u:=Hm hk;have Q:=Hm hle;clear q z j V y L r hk;dsimp only[su,gN]at b6;gi_wp2_with (refine W.mono ?_;clear W;rintro e B ⟨m,v,w,(⟨rfl,a9⟩|⟨rfl,b5⟩)⟩<;>(have t:=Hm (abj P.out w a1);have z0:=t.out.cell0;have c8:=t.out.free 0))
   .go_roundw
    case rel=>
     have a':aS (λx=>¬K x) A B:=u.out.tn' w (λx c h G=>by
      rcases(f.out x G).2 with a|a
      .exact h a
      .omega)
     have b2:¬m A.heap.size:=λh=>by
      rcases(v _ h).2 with a|a
      .exact a1 a
      .omega
     refine⟨i+1,m,zz,?_,a'.set (p:=⟨A.heap.size,0,I⟩) (λh=>by simp at h) _,?_,?_⟩
     .have:=Dm (ik:=b.lo+((i+1:Nat):Int)) t.out;simpa[Int.add_assoc]using this
     .intro x c;have a:=v x c;refine⟨by simpa[H.setCell]using a.1,?_⟩;rcases a.2 with h2|h2
      .exact(f.out x h2).2
      .right;omega
     .have a0:aS (λb=>m b\/b<E) B (B.setCell (A.heap.size,0) (.int .i64 (b.lo+(i:Int)+1))):=(aS.refl _ B).set (p:=⟨A.heap.size,0,I⟩) (λ_ h=>by
       rcases h with h|h
       .exact b2 h
       .simp at h;omega) _
      have:=N.out m _ B _ a9 (by have:=w.size;omega) a0;rw[vF Q.out];simpa[nh]using this
    case measure=>
     have a:=(Dm (ik:=b.lo+(i:Int)+1) t.out).cell0;have h0:=P.out.cell0;rw[a,h0];have:=Q.out;simp only[zQ,intOf];omega
   .go_ret;refine⟨m,λx c=>⟨(v x c).1,?_⟩,u.out.tn' w (λx c h G=>?_),.inr ⟨rfl,_,a4.out,b5⟩⟩
    .rcases(v x c).2 with a|a
     .rcases(f.out x a).2 with h2|h2
      .exact .inl h2
      .right;omega
     .right;omega
    .rcases(f.out x G).2 with a|a
     .exact h a
     .omega
  .have e:b.lo+(i:Int)=b.hi+1:=zz;have S:(gF b.lo b.hi).take i=gF b.lo b.hi:=List.take_of_length_le (by rw[xT];omega);rw[S]at r;have a6:=Hm r;have f:=Hm j;have u:=Hm hk;clear r j hk S y q;gi_wp2;go_ret;exact⟨g,λx c=>⟨(f.out x c).1,(f.out x c).2.elim .inl λh=>.inr zz⟩,u.out,.inl ⟨rfl,a6.out⟩⟩
end
section
attribute [local go_sem] Oper.semAt_some
def qm(S:Nat)(lo hi:Int)(C:List Int)(k:Nat)(d:Nat->Bool)(n:Nat):List (Int×(Nat->Bool)):=(List.range' n (S-n)).flatMap λ(n:Nat)=>if((n:Nat):Int)∈C then[]else jW S lo hi C k (Bp d n) (n+1)
def FY(S:Nat)(lo hi:Int)(C:List Int)(k:Nat)(d:Nat->Bool)(n:Nat):jW S lo hi C (k+1) d n=qm S lo hi C k d n:=rfl
def FZ{S:Nat}(lo hi:Int)(C:List Int)(k:Nat)(d:Nat->Bool){n:Nat}(h:n<S):qm S lo hi C k d n=(if(n:Int)∈C then[]else jW S lo hi C k (Bp d n) (n+1))++qm S lo hi C k d (n+1):=by
 unfold qm;rw[show S-n=(S-(n+1))+1 by omega,List.range'_succ,la]
def Lc(S:Nat)(lo hi:Int)(C:List Int)(k:Nat)(d:Nat->Bool):qm S lo hi C k d S=[]:=by simp[qm]
def N4{w:H}{g n:Nat}{t:Lk}{sh:Int}{d:Nat->Bool}(h:bA w g t sh d)(b:n<12):bA (w.setCell (g,1+n) (.bool true)) g t sh (Bp d n):=
 h.set b (by simp[Bp]) (λj _ a=>by simp[Bp,a])
def Aq{s:Sl}{l:List Int}{x:Int}{v:Bool}(b:decide (x∈l)=v)(w:H)(a:aN w s l):
  PH F 62 #[.slice s.A s.n s.c,.int .i64 x] w λe w'=>e=.returned (.bool v)/\w=w':=b▸jO s l x w a
theorem Sj(b:aC)(g1: -3<=b.lo)(g2:b.hi<=3)(g3:b.lo<=b.hi)(g4:0<=b.S)(g5:b.S<=12)(C:List Int)(l m y u W:Nat)(xs:List (Int×(Nat->Bool)))(J a2:(Nat->Prop)->List (Int×(Nat->Bool))->H->Prop)
  (a4:xP W J)(a7:Yields F l su xs W J a2)(sh:Int):∀(left:Nat) (j:Int) (G:j=left) (d':left<=100) (d:Nat->Bool) (step:Nat) (st:Int) (O:st=step) (c2:step<=b.S.toNat) (g:List (Int×(Nat->Bool))) (K:Nat->Prop) (A:H)
  (i:ql A b C l m y u) (U:W<=A.heap.size) (z:∀x,K x->x<A.heap.size/\¬oJ b C m y u x) (R:J K g A) (L:g++jW b.S.toNat b.lo b.hi C left d step <+: xs),
  PH F 89 #[gN sh d,.int .i64 st,.int .i64 j,.pointer (Y (m,0)),.pointer (Y (y,0)),.pointer (Y (u,0))] A (Dp xs J a2 K (g++jW b.S.toNat b.lo b.hi C left d step) A):=by
 intro left
 induction left with
 | zero=>
  intro j G _ d step st O _ g K A i U z R L;subst G O;exact Lb b g1 g2 g3 C l m y u W xs J a2 a4 a7 sh d step g K A i U z R L
 | succ left c3=>
  intro j G d' d step st O c2 g K A i U z R L;have f0:=i.box.lt;have g6:=(du.1 i.yv).1;have f':(j==0)=false:=by simp;omega
  have f3:1<=j:=zz;have f4:j<=101:=zz;have f7:0<=st:=zz;have f8:st<=12:=zz;refine(callsIn_wide (n:=9)).1 ?_;refine callsIn_of_wp Tryz.func89 rfl db ?_ rfl;have b6:=Hm i;have HK:=Hm z;have b5:=Hm a4;have f2:=Hm a7;have c6:=Hm L;have c4:=Hm c3;have d1:=Hm G;have d3:=Hm O;have d8:=aM i.box;clear i z a4 a7 L c3 G O;obtain⟨x0,x1,x2,x3,x4,x5,x6,x7,x8,x9,e8,e9,e'⟩:=d8;unfold gN;simp only[Tryz.ntmps89,List.size_toArray,fx,ky,Nat.reduceAdd,Nat.reduceSub,zR];gi_wp2;gi_loopw [10] (λv wr=>∃(n:Nat) (f:Nat->Prop) (w:List (Int×(Nat->Bool))),n<=b.S.toNat/\v=.int .i64 n/\bA wr A.heap.size 78 sh d/\aS (λx=>¬K x) A wr/\(∀x,f x->x<wr.heap.size/\(K x\/A.heap.size<x))/\PQ (w++qm b.S.toNat b.lo b.hi C left d n=g++jW b.S.toNat b.lo b.hi C (left+1) d step)/\J f w wr)
   (λv wr=>b.S.toNat-(intOf v).toNat)
  case atStart=>
   have e2:=bA.new A 78 sh d;refine⟨step,K,g,c2,by rw[d3.out],by simpa using e2,(aS.refl _ A).alloc _,λx a=>?_,by rw[PQ,FY],?_⟩
   .have:=(HK.out x a).1;exact⟨by rw[aa];omega,.inl a⟩
   .simpa using b5.out K g A _ R U ((aS.refl _ A).alloc _)
  case round=>
   obtain⟨n,f,w,f6,rfl,V,hk,P,N,T⟩:=hrel;have b1:∀x,oJ b C m y u x->¬K x:=λx h a=>(HK.out x a).2 h;have a5:=b6.out.keep hk b1;have d0:¬K A.heap.size:=λh=>by have:=(HK.out _ h).1;omega
   have f9:(A:Nat)<wr:=V.lt;have b9:∀x,oJ b C m y u x->¬f x:=λx h a=>by
    rcases(P x a).2 with c|c
    .exact b1 x h c
    .have:=b6.out.lt h;omega
   have e1:¬f A.heap.size:=λh=>by
    rcases(P _ h).2 with c|c
    .exact d0 c
    .omega
   obtain⟨x0,x1,x2,x3,x4,x5,x6,x7,x8,x9,e8,e9,e'⟩:=aM a5.box;obtain⟨s0,s1,s2,s3,s4,s5,s6,s7,s8,s9,e5,e6,e7⟩:=V.all;have Z:=Hm a5;have b7:=Hm V;have k:=Hm P;have c5:=Hm b9;have a1:=Hm hk;clear a5 V P b9 b1 hk;by_cases f5:(n:Int)<b.S
   .have t:=FZ (S:=b.S.toNat) b.lo b.hi C left d (n:=n) zz;cases o:decide ((n:Int)∈C)
    .have a':=λw1 c=>Aq (s:=b.C) o w1 c;have HR:PQ (qm b.S.toNat b.lo b.hi C left d n=jW b.S.toNat b.lo b.hi C left (Bp d n) (n+1)++qm b.S.toNat b.lo b.hi C left d (n+1)):=by
      rw[cd (by simpa using o)]at t;exact t
     clear t o;gi_upto_region 13 with(refine⟨db,?_⟩;gi_at_call 62;refine(callsIn_wide.2 (a' _ Z.out.ints)).mono ?_;rintro e v1 ⟨rfl,rfl⟩)
     have E:=bA.new wr 78 sh d;have a0:=(aS.refl (λ_=>True) wr).alloc (.cells #[.int .i64 sh,.bool (d 0),.bool (d 1),.bool (d 2),.bool (d 3),.bool (d 4),.bool (d 5),.bool (d 6),.bool (d 7),.bool (d 8),.bool (d 9),.bool (d 10),.bool (d 11)] 78);have b4:=aa wr (.cells #[.int .i64 sh,.bool (d 0),.bool (d 1),.bool (d 2),.bool (d 3),.bool (d 4),.bool (d 5),.bool (d 6),.bool (d 7),.bool (d 8),.bool (d 9),.bool (d 10),.bool (d 11)] 78);generalize wr.alloc (.cells #[.int .i64 sh,.bool (d 0),.bool (d 1),.bool (d 2),.bool (d 3),.bool (d 4),.bool (d 5),.bool (d 6),.bool (d 7),.bool (d 8),.bool (d 9),.bool (d 10),.bool (d 11)] 78)=a3 at E a0 b4|-;clear s0 s1 s2 s3 s4 s5 s6 s7 s8 s9 e5 e6 e7;have d6:=E.cell n zz;have cf:=E.free (1+n);have c8:=Hm E;have c':=Hm a0;have d5:=Hm b4;clear E a0 b4;gi_upto_region 14 with(fail)
     have Q:=N4 c8.out (n:=n) zz;have r:=c'.out.tn' (K':=λx=>x≠wr.heap.size) ((aS.refl (λx=>x≠wr.heap.size) a3).set (p:=⟨wr.heap.size,1+n,I⟩) (λ_ h=>h rfl) (.bool true)) (λx a _ e=>zz);have b3:(a3.setCell (wr.heap.size,1+n) (.bool true)).heap.size=wr.heap.size+1:=by rw[<- d5.out];simp[H.setCell]
     generalize a3.setCell ⟨wr.heap.size,1+n,I⟩ (.bool true)=b8 at Q r b3|-;have a6:=Z.out.keep r (λ_ _=>trivial);have b':=b5.out f w wr b8 T zz (r.mono λ_ _ _=>trivial);have a9:=c4.out (j-1) (by rw[d1.out];omega) zz (Bp d n) (n+1) ((n:Int)+1) zz zz w f b8 a6 zz (λx a=>by
      have:=(k.out x a).1;exact⟨zz,λh=>c5.out x h a⟩) b' (by
       refine List.IsPrefix.tn ?_ c6.out;rw[<- N.out,HR.out,<- nh];exact List.prefix_append _ _)
     obtain⟨z0,z1,z2,z3,z4,z5,z6,z7,z8,z9,g7,g8,g9⟩:=Q.all;have e0:=one_cell a6.nv;unfold Ap at e0;have f1:=Hm Q;have c9:=Hm r;have d4:=Hm b3;have d2:=Hm (abj b7.out r db);clear Q r b3 a6 b' d6 cf T;unfold gN at a9;gi_wp2_with (refine⟨db,?_⟩;gi_at_call 89;refine(callsIn_wide.2 a9).mono ?_;clear a9;rintro e B ⟨K2,d7,b0,(⟨rfl,d9⟩|⟨rfl,q,e3,e4⟩)⟩)
     all_goals
      have c1:aS (λx=>¬K x) A B:=(a1.out.tn (c9.out.mono λ_ _ _=>trivial)).tn' b0 (λx a h h'=>by
       rcases(k.out x h').2 with c|c
       .exact h c
       .omega)
      have a8:∀x,K2 x->x<B.heap.size/\(K x\/A.heap.size<x):=λx a=>by
       have c:=d7 x a;refine⟨c.1,?_⟩;rcases c.2 with h2|h2
       .exact(k.out x h2).2
       .have:=d4.out;right;omega
     .go_roundw
      case rel=>
       exact⟨n+1,K2,_,zz,by go_num,abj d2.out b0 e1,c1,a8,by rw[PQ,nh,<- HR.out];exact N.out,d9⟩
      case measure=>simp[intOf];omega
     .go_ret;exact⟨K2,λx a=>⟨(a8 x a).1,(a8 x a).2.elim .inl λh=>.inr zz⟩,c1,.inr ⟨rfl,q,e3,e4⟩⟩
    .have a':=λw1 c=>Aq (s:=b.C) o w1 c;have HR:PQ (qm b.S.toNat b.lo b.hi C left d n=qm b.S.toNat b.lo b.hi C left d (n+1)):=by
      rw[dE (by simpa using o)]at t;exact t
     clear t o;gi_wp2_with (refine⟨db,?_⟩;gi_at_call 62;refine(callsIn_wide.2 (a' _ Z.out.ints)).mono ?_;rintro e v1 ⟨rfl,rfl⟩);go_roundw
     case rel=>
      exact⟨n+1,f,w,zz,by go_num,b7.out,a1.out,k.out,by rw[PQ,<- HR.out];exact N.out,T⟩
     case measure=>simp[intOf];omega
   .have e:n=b.S.toNat:=zz;have b2:=N.out;rw[e,Lc,List.append_nil]at b2;have c7:=Hm b2;clear b2 e N;gi_wp2;go_ret;exact⟨f,λx a=>⟨(k.out x a).1,(k.out x a).2.elim .inl λh=>.inr zz⟩,a1.out,.inl ⟨rfl,c7.out▸T⟩⟩
end
section
attribute [local go_sem] Oper.semAt_some
def tP(S:Nat)(lo hi:Int)(C:List Int)(most m:Nat):List (Int×(Nat->Bool)):=(List.range' m (most+1-m)).flatMap λk=>jW S lo hi C k mI 0
def gT(b:aC)(C:List Int)(most:Nat):List (Int×(Nat->Bool)):=tP b.S.toNat b.lo b.hi C most 0
def Ga(S:Nat)(lo hi:Int)(C:List Int){most m:Nat}(h:m<most+1):tP S lo hi C most m=jW S lo hi C m mI 0++tP S lo hi C most (m+1):=by
 unfold tP;rw[show most+1-m=(most+1-(m+1))+1 by omega,List.range'_succ,la]
def Ld(S:Nat)(lo hi:Int)(C:List Int)(most:Nat):tP S lo hi C most (most+1)=[]:=by simp[tP]
def mJ(a b:Nat):M:=.func (.func 88) #[] #[.pointer (Y (a,0)),.pointer (Y (b,0))]
theorem uK(b:aC)(most:Int)(w:H):
  PH F 59 #[b.v,.int .i64 most] w λe w'=>e=.returned (mJ w (w.heap.size+1))/\w'=(w.alloc (aE b 74)).alloc (.cells #[.int .i64 most] 3):=by
 unfold aC.v aE mJ;go_enter Tryz.func59,Tryz.ntmps59;go_wp2;go_ret;exact⟨rfl,rfl⟩
def Le(b:aC)(C:List Int)(a c:Nat)(x:Nat):Prop:=x=a\/x=c\/I4 b.C C x
theorem sP(b:aC)(g1: -3<=b.lo)(g2:b.hi<=3)(g3:b.lo<=b.hi)(g4:0<=b.S)(g5:b.S<=12)(C:List Int)(d p most:Nat)(d1:most<=100)(w:H)
  (hB:aK w d 74 b)(U:aN w b.C C)(a3:w.heap[p]?=Y (.cells #[.int .i64 most] 3 (0,0))):
  Y1 F 88 #[.pointer (Y (d,0)),.pointer (Y (p,0))] su (Le b C d p) (gT b C most) w:=by
 intro l J b7 i W y a5 a1 V Z a6 h0;have j:=y.get (.inl rfl) hB;have g:=y.get (.inr (.inl rfl)) a3;have o:=U.keep y (λx c=>.inr (.inr c));have c7:=(du.1 j).1;have c8:=(du.1 g).1;have d2:=one_cell g;have a':=Hm j;have b2:=Hm g;have R:=Hm o;have b4:=Hm a5;have s:=Hm a1;have S:=Hm V;have c9:=Hm Z;have b6:=Hm a6;clear hB a3 U y j g o a5 a1 V Z a6;refine(callsIn_wide (n:=9)).1 ?_;refine callsIn_of_wp Tryz.func88 rfl db ?_ rfl;simp only[Tryz.ntmps88,List.size_toArray,fx,ky,Nat.reduceAdd,Nat.reduceSub,zR];gi_wp2;gi_loopw [9] (λv wr=>∃(m:Nat) (f:Nat->Prop) (r:List (Int×(Nat->Bool))),m<=most+1/\v=.int .i64 m/\wr.heap[W.heap.size]?=Y (.cells #[.func (.yield l) #[] #[]] 88 (0,0))/\wr.heap[W.heap.size+1]?=Y (.cells #[Ap d W.heap.size (W.heap.size+1)] 157 (0,0))/\aS (λx=>¬i x) W wr/\(∀x,f x->x<wr.heap.size/\(i x\/W.heap.size+1<x))/\PQ (r++tP b.S.toNat b.lo b.hi C most m=gT b C most)/\J f r wr)
  (λv wr=>most+1-(intOf v).toNat)
 case atStart=>
  have hk:∀K,aS K W ((W.alloc (.cells #[.func (.yield l) #[] #[]] 88)).alloc (.cells #[Ap d W (W.heap.size+1)] 157)):=λK=>((aS.refl K W).alloc _).alloc _;refine⟨0,i,[],zz,rfl,?_,?_,hk _,λx c=>?_,rfl,S.out _ _ _ _ h0 (dj _) (hk _)⟩
  .exact(QR _ _ (by rw[aa];omega)).tn (Sp _ _)
  .have:=Sp (W.alloc (.cells #[.func (.yield l) #[] #[]] 88)) (.cells #[Ap d W.heap.size (W.heap.size+1)] 157);rw[aa]at this;exact this
  .have:=s.out x c;exact⟨by simp only[aa];omega,.inl c⟩
 case round=>
  obtain⟨m,f,r,d4,rfl,a9,z,hk,t,A,N⟩:=hrel;have d5:=hk.size;have c':=(du.1 z).1;have k:∀x,Le b C d p x->¬i x:=b4.out;have j:=hk.get (k _ (.inl rfl)) a'.out;have g:=hk.get (k _ (.inr (.inl rfl))) b2.out;have o:=R.out.keep hk (λx c=>k x (.inr (.inr c)));have d3:=one_cell g;have c4:=one_cell z;unfold Ap at c4;have a4:ql wr b C l d W (W.heap.size+1):=⟨j,o,a9,z⟩;have a8:∀x,Le b C d p x->x<W.heap.size:=λx c=>by
   rcases c with rfl|rfl|c
   .exact c7
   .exact c8
   .exact I4.lt R.out c
  have a2:∀x,f x->x<wr.heap.size/\¬oJ b C d W (W.heap.size+1) x:=λx c=>by
   refine⟨(t x c).1,?_⟩;rcases(t x c).2 with a|a
   .have h2:=s.out x a;rintro(rfl|rfl|rfl|h)
    .exact k _ (.inl rfl) a
    .omega
    .omega
    .exact k _ (.inr (.inr h)) a
   .rintro(rfl|rfl|rfl|h)
    .omega
    .omega
    .omega
    .have:=a8 x (.inr (.inr h));omega
  have T:=Hm hk;have a0:=Hm t;have E:=Hm a4;have b1:=Hm a2;clear hk t a4 a2 j g o a9 z k a8;by_cases b0:m<most+1
  .have Q:=Ga b.S.toNat b.lo b.hi C b0;have L:=Sj b g1 g2 g3 g4 g5 C l d W.heap.size (W.heap.size+1) W.heap.size (gT b C most) J b7 S.out b6.out 0 m m rfl zz mI 0 0 rfl zz r f wr E.out zz b1.out N (by
    rw[<- A.out,Q,<- nh];exact List.prefix_append _ _)
   have b5:=Hm Q;clear Q N;unfold gN mI at L;have c1:(m:Int)<(most:Int)+1:=zz;gi_wp2_with (refine⟨db,?_⟩;gi_at_call 89;refine(callsIn_wide.2 L).mono ?_;clear L;rintro e B ⟨G,b8,O,(⟨rfl,b'⟩|⟨rfl,q,c5,c6⟩)⟩)
   all_goals
    have u:=a0.out;have c2:¬f W.heap.size:=λh=>by
     rcases(u _ h).2 with a|a
     .have:=s.out _ a;omega
     .omega
    have c3:¬f (W.heap.size+1):=λh=>by
     rcases(u _ h).2 with a|a
     .have:=s.out _ a;omega
     .omega
    have a7:aS (λx=>¬i x) W B:=T.out.tn' O (λx c h h'=>by
     rcases(u x h').2 with a|a
     .exact h a
     .omega)
    have b9:∀x,G x->x<B.heap.size/\(i x\/W.heap.size+1<x):=λx c=>by
     have a:=b8 x c;refine⟨a.1,?_⟩;rcases a.2 with h2|h2
     .exact(u x h2).2
     .right;omega
   .go_roundw
    case rel=>
     exact⟨m+1,G,_,zz,by go_num,O.get c2 E.out.yv,O.get c3 E.out.nv,a7,b9,by rw[PQ,nh];exact(eh (r ++ ·) b5.out.symm).tn A.out,b'⟩
    case measure=>simp[intOf];omega
   .refine bd (results_none rfl _ _ _) rfl ?_;exact⟨⟨_,rfl⟩,a7.size,G,.inr ⟨q,c5,c6⟩⟩
  .have e:m=most+1:=zz;have P:=A.out;rw[e,Ld,List.append_nil]at P;have b3:=Hm P;have c1:¬(m:Int)<(most:Int)+1:=zz;clear P e A;gi_wp2;go_end0;exact⟨⟨_,rfl⟩,T.out.size,f,.inl (b3.out▸N)⟩
end
section
attribute [local go_sem] Oper.semAt_some
variable{x:Int×(Nat->Bool)}{b:aC}
def fM(b:aC)(l:bN)(x:Int×(Nat->Bool)):Bool:=oI b.S b.L x.1 x.2 l.U l.W
def lK(b:aC)(l:bN)(most:Nat):Bool:=(gT b l.C most).any (fM b l)
def zC(x:Int×(Nat->Bool)):Array M:= #[.int .i64 x.1,.bool (x.2 0),.bool (x.2 1),.bool (x.2 2),.bool (x.2 3),.bool (x.2 4),.bool (x.2 5),.bool (x.2 6),.bool (x.2 7),.bool (x.2 8),.bool (x.2 9),.bool (x.2 10),.bool (x.2 11)]
def Gd{w:H}{g:Nat}{t:Lk}(h:w.heap[g]?=Y (.cells (zC x) t (0,0))):bA w g t x.1 x.2:=
 ⟨_,h,rfl,rfl,λi hi=>by
  rcases(show i=0\/i=1\/i=2\/i=3\/i=4\/i=5\/i=6\/i=7\/i=8\/i=9\/i=10\/i=11 from zz)with rfl|rfl|rfl|rfl|rfl|rfl|rfl|rfl|rfl|rfl|rfl|rfl<;>rfl⟩
def Ds(S:Nat)(lo hi:Int)(C:List Int):∀(k:Nat) (d:Nat->Bool) (n:Nat),∀x∈jW S lo hi C k d n,lo<=x.1/\x.1<=hi
 | 0,d,n,x,a=>by
  simp only[jW,gF,List.map_map,List.mem_map,List.mem_range]at a;obtain⟨i,hi,rfl⟩:=a;simp only[Function.comp];omega
 | k+1,d,n,x,a=>by
  simp only[jW,List.mem_flatMap]at a;obtain⟨m, -, b⟩:=a;split at b
  .simp at b
  .exact Ds S lo hi C k _ _ x b
def qn{C:List Int}{most:Nat}(a:x∈gT b C most):b.lo<=x.1/\x.1<=b.hi:=by
 simp only[gT,tP,List.mem_flatMap]at a;obtain⟨m, -, c⟩:=a;exact Ds _ _ _ _ _ _ _ _ c
def Ge{l:bN}(a:ay b l=0)(j:b.lo<=x.1)(h2:x.1<=b.hi){v:Bool}(d:fM b l x=v)(w:H)(c:aI w b l):
  PH F 40 #[b.v,gN x.1 x.2] w λe w'=>e=.returned (.bool v)/\X w w w':=by
 obtain⟨f,g,m,n,h,i,o,p,q,-⟩:=cS (bP a).1;have:=Ao b f g h i x.1 zz zz x.2 l.U (λk hk=>kP (bP a).2.2.1 k hk) l.W (λk hk=>Gb (bP a).2.2.2.2 k hk) w c.U c.W;rw[<- d];exact this
theorem xU(b:aC)(l:bN)(hc:ay b l=0)(w:H)(b6:aI w b l):
  PH F 68 #[b.v] w λe w'=>e=.returned (.bool (lK b l b.D.toNat))/\X w w w':=by
 have ø:=0;exact pr
end
section
attribute [local go_sem] Oper.semAt_some
def gU(w:H)(base:Nat)(t ty e:Lk)(i:TypeInfo)(z:M)(size bytes:Nat)(k:P.underlying t=Y (.slice e))(hi:P.info? e=Y i)(p:i.zero=Y z)
  (A:i.size=size)(x:i.bytes=bytes)(R:z.cells.size=size)(Q:0<size)
  (v:M)(n:Nat)(xs:List M)(h:w.ownsRow base e size v n xs)
  (a:Addr)(m c:Nat)(news:List M)(d:news.length=m*size)(f:∀j u,news[j]?=Y u->w.cell? (a.add j)=Y u)(r:∀u∈news,u.oneCell'=true)
  (C:n+m<=maxLen)(o:(n+m)*bytes<=140737488355328)(G:base<=w.heap.size):
  ∃v' w',(Builtin.append_ #[t,t] ty #[v,.slice (Y a) m c]).run P w=.ok v' w'/\w'.ownsRow base e size v' (n+m) (xs++news)/\w.grownBy w' v.ownBlock/\
   (v'=.slice I 0 0↔v=.slice I 0 0/\m=0)/\(v'.ownBlock=v.ownBlock\/v'.ownBlock=Y w):=by
 obtain⟨v',w',b,h2,B,s⟩:=run_append_own (P:=P) w base t ty e i z size bytes k hi p A x R Q v n xs h a m c news d f r C o G;refine⟨v',w',b,h2,B,s,?_⟩;subst A x;have U:maxLen=9223372036854775807:=rfl;rcases h.2 with⟨rfl,rfl⟩|⟨g,l,q,rfl,S,L,V,T,J,W⟩
 .by_cases N:m=0
  .rw[s.2 ⟨rfl,N⟩];exact .inl rfl
  .have E:=o;rw[kl]at E;rw[run_append_nil (P:=P) w t ty e i z k hi p a m c news d f zz zz zz]at b;cases b;exact .inr rfl
 .by_cases y:n+m<=l
  .have K:n*i.size+news.length<=q.size:=by rw[d,J,<- Nat.add_mul];exact Nat.mul_le_mul_right _ y
   rw[run_append_room (P:=P) w t ty e i k hi g n l q L a m c news d f r y K]at b;cases b;exact .inl rfl
  .have O:∀j u,xs[j]?=Y u->w.cell? (((g,0):Addr).add j)=Y u:=h.cells (g:=g) rfl;rw[run_append_grow (P:=P) w t ty e i z k hi p ⟨g,0,I⟩ n l xs h.1 O a m c news d f zz zz (growslice_fits zz o)]at b;cases b;exact .inr rfl
def rN{F:Fence}{n:Nat}(w:H){ops:Array Kp}{rest:List Kp}{o:Kp}{a:Act}{Q:Exit->Act->H->Prop}
  (J:o.guard=I)(s x:ae)(t:Lk)(b:o.op=Op.call {callee:=Callee.builtin Builtin.append,args:= #[s,x],argTypes:= #[t,t]})
  (base:Nat)(e:Lk)(i:TypeInfo)(z:M)(size bytes:Nat)(h:P.underlying t=Y (.slice e))(h2:P.info? e=Y i)(p:i.zero=Y z)(q:i.size=size)(r:i.bytes=bytes)(y:z.cells.size=size)(A:0<size)
  (v:M)(k:Nat)(xs:List M)(R:a.eval s=v)(N:w.ownsRow base e size v k xs)(ad:Addr)(m c:Nat)(news:List M)(S:a.eval x=.slice (Y ad) m c)(L:news.length=m*size)
  (E:∀j u,news[j]?=Y u->w.cell? (ad.add j)=Y u)(l:∀u∈news,u.oneCell'=true)(d:k+m<=maxLen)(f:(k+m)*bytes<=140737488355328)(g:base<=w.heap.size)
  (B:∀v' w',w'.ownsRow base e size v' (k+m) (xs++news)->w.grownBy w' v.ownBlock->(v'.ownBlock=v.ownBlock\/v'.ownBlock=Y w.heap.size)->wpListIn F n P ops Q rest (a.put o.dst v') w'):
  wpListIn F n P ops Q (o::rest) a w:=by
 refine wpListIn_plain J λK C=>?_;obtain⟨v',w',O,T,U, -, r4⟩:=gU (P:=P) w base t o.type e i z size bytes h h2 p q r y A v k xs N ad m c news L E l d f g;unfold Kp.wpIn;refine⟨?_,?_⟩
 .simp[Kp.about,b,ab,Target.leads,Sem.run_pure]
 .rw[Kp.semAt_plain F _ _ (by rw[b];intro c G;cases G)];simp[Hn,b,ab,invoke,builtin,R,S,O,Result.andThen];exact C _ _ (B v' w' T U r4)
def xV{α β:Type}(f:α->List β)(c:Nat):∀l:List α,(∀a∈l,(f a).length<=c)->(l.flatMap f).length<=l.length*c
 | [],_=>by simp
 | a::r,h=>by
  have d:=h a ss;have h2:=xV f c r (λx b=>h x (by simp[b]));rw[la,lh,fx,Nat.succ_mul];omega
def Ar{S:Nat}{lo hi:Int}(C:List Int)(c:S<=12)(h:hi-lo<3):∀(k:Nat) (d:Nat->Bool) (n:Nat),(jW S lo hi C k d n).length<=3*12^k
 | 0,d,n=>by simp[jW,gF];omega
 | k+1,d,n=>by
  have b:=xV (λ(n:Nat)=>if((n:Nat):Int)∈C then[]else jW S lo hi C k (Bp d n) (n+1)) (3*12^k) (List.range' n (S-n)) (λa _=>by
   split
   .simp
   .exact Ar C c h k _ _)
  rw[List.length_range']at b;refine ec b ?_;rw[Nat.pow_succ,show 3*(12^k*12)=12*(3*12^k) by omega];exact Nat.mul_le_mul_right _ zz
def nH{b:aC}{C:List Int}{most:Nat}(f:b.S<=12)(c:b.hi-b.lo<3)(g:most<=2):(gT b C most).length<=1296:=by
 unfold gT tP;have d:=xV (λk=>jW b.S.toNat b.lo b.hi C k mI 0) 432 (List.range' 0 (most+1-0)) (λa e=>by
  have h2:=Ar C (show b.S.toNat<=12 by omega) c a mI 0;simp at e;rcases(show a=0\/a=1\/a=2 by omega)with rfl|rfl|rfl<;>omega)
 rw[List.length_range']at d;have:(most+1-0)*432<=3*432:=Nat.mul_le_mul_right _ zz;omega
def Gf(L:List (Int×(Nat->Bool))):List M:=L.flatMap λx=>(zC x).toList
def N6(L:List (Int×(Nat->Bool)))(x:Int×(Nat->Bool)):Gf (L++[x])=Gf L++(zC x).toList:=by simp[Gf]
def Sk(x:Int×(Nat->Bool)):∀u∈(zC x).toList,u.oneCell'=true:=by
 intro u a;simp only[zC,fc,hZ,or_false]at a;rcases a with rfl|rfl|rfl|rfl|rfl|rfl|rfl|rfl|rfl|rfl|rfl|rfl|rfl<;>rfl
def nI(w:H)(cs:Array M)(t:Lk):∀j u,cs.toList[j]?=Y u->(w.alloc (.cells cs t)).cell? (((w.heap.size,0):Addr).add j)=Y u:=by
 intro j u a;have h:=Sp w (.cells cs t);have e:(((w.heap.size,0):Addr).add j)=⟨w.heap.size,j,I⟩:=by
  unfold Addr.add;split
  .rename_i b;simp_all
  .simp
 rw[e,H.cell?,h];simpa using a
def Wz:(F.info? 78).map (λi=>(i.zero,i.size,i.bytes))=Y (Y (gN 0 mI),13,24):=by kernel_rfl
def bB{K:Nat->Prop}{w w':H}{base n size:Nat}{e:Lk}{v:M}{xs:List M}(h:w.ownsRow base e size v n xs)(hk:aS K w w')(i:∀g,v.ownBlock=Y g->K g):w'.ownsRow base e size v n xs:=by
 refine⟨h.1,?_⟩;rcases h.2 with c|⟨g,a,b,rfl,h2,d,f⟩
 .exact .inl c
 .exact .inr ⟨g,a,b,rfl,h2,hk.get (i g rfl) d,f⟩
def aJ(b:aC)(l:bN)(most:Nat):List (Int×(Nat->Bool)):=(gT b l.C most).filter (fM b l)
def As(w0:H)(f:List (Int×(Nat->Bool))->List (Int×(Nat->Bool)))(a B:Nat)(K:Nat->Prop)(b:List (Int×(Nat->Bool)))(W:H):Prop:=
 ∃v:M,W.heap[a]?=Y (.cells #[v] 97 (0,0))/\(∃A c,v=.slice A (f b).length c)/\W.ownsRow B 78 13 v (f b).length (Gf (f b))/\(∀g,v.ownBlock=Y g->K g/\g≠a)/\K a/\(∀x,K x->x=a\/w0.heap.size<=x)/\aS (λx=>x≠a) w0 W
theorem As.Y2(w0:H)(f:List (Int×(Nat->Bool))->List (Int×(Nat->Bool)))(k B:Nat):xP w0 (As w0 f k B):=by
 rintro K n X l ⟨v,c,h2,d,a,b,e,h⟩ m hk;exact⟨v,hk.get (.inl b) c,h2,bB d hk (λg i=>.inl (a g i).1),a,b,e,h.tn' hk (λx j _=>.inr j)⟩
def Gg(L:List (Int×(Nat->Bool)))(w:H)(e:Ending)(w':H):Prop:=∃A c,e=.returned (.slice A L.length c)/\w'.ownsRow w.heap.size 78 13 (.slice A L.length c) L.length (Gf L)/\X w w w'
theorem sQ(b:aC)(l:bN)(hc:ay b l=0)(w:H)(b6:aI w b l):
  PH F 45 #[b.v] w (Gg (aJ b l b.D.toNat) w):=by
 have å:=0;exact pr
end
def oK(b:aC)(l:bN):Int×Int:=if ay b l≠0 then(0,ay b l)else((((aJ b l b.D.toNat).length:Nat):Int),0)
def oL(p:Int×Int)(w:H)(e:Ending)(w':H):Prop:=e=.returned (.tuple #[.int .i64 p.1,.int .i64 p.2])/\X w w w'
theorem vG(b:aC)(l:bN)(w:H)(a3:aI w b l)(b0:aD w)(t:ay b l=0:=by kernel_rfl):
  PH F 14 #[b.v] w (oL (oK b l) w):=by
 have å:=0;exact ta
variable{r:Nat}{k:Int×Int}
def gG(p:Int×Int):M:=.agg #[.int .i64 p.1,.int .i64 p.2]
def I7:F.underlying 99=Y (.map 109 3):=by kernel_rfl
def Av(n:Nat)(a c:Int)(w:H):(Op.equalIn (n+1) 3 (.int .i64 a) (.int .i64 c)).run F w=.ok (a==c) w:=by kernel_rfl
theorem Gi(a b c d:Int)(w:H):(Op.equal 109 (.agg #[.int .i64 a,.int .i64 b]) (.agg #[.int .i64 c,.int .i64 d])).run F w=.ok (a==c&&b==d) w:=by
 have f:=Av 9998 a c w;have h2:=Av 9998 b d w;show(Op.equalIn (9999+1) 109 (.agg #[.int .i64 a,.int .i64 b]) (.agg #[.int .i64 c,.int .i64 d])).run F w=_;unfold Op.equalIn;go_simp;by_cases e1:a=c<;>by_cases e:b=d<;>simp[e1,e]
def xW(p:Int×Int)(a:Bool)(w:H):(Instr.checkKey a 10000 109 (gG p)).run F w=.ok () w:=by
 kernel_rfl
def Gj(p:Int×Int)(w:H):(Instr.keyThatStays (gG p) (gG p)).run F w=.ok (gG p) w:=by
 simp[Instr.keyThatStays,gG,Instr.sameBits]
abbrev gM:Type:=(Int×Int)×Int
def qo(x:gM)(i:Nat):MapEntry:= {key:=gG x.1,val:=.int .i64 x.2,born:=i}
def jl(L:List gM):List MapEntry:=L.mapIdx λi x=>qo x i
def jm(w:H)(r:Nat)(L:List gM):Prop:=w.heap[r]?=Y (.map (jl L).toArray L.length)
def dP(k:Int×Int):List gM->Nat->Option (Nat×Int)
 | [],_=>I
 | x::r,i=>if k=x.1 then Y (i,x.2)else dP k r (i+1)
def assoc(L:List gM)(k:Int×Int):Int:=match dP k L 0 with|some p=>p.2|none=>0
def Du(k:Int×Int)(w:H):∀(L:List gM) (i j:Nat),(Instr.findAsking 109 (gG k) (L.mapIdx λn x=>qo x (n+j)) i).run F w=.ok ((dP k L i).map λp=>(p.1,.int .i64 p.2)) w
 | [],i,j=>by simp[Instr.findAsking,dP]
 | x::r,i,j=>by
  have c:=Du k w r (i+1) (j+1);have b:=Gi k.1 k.2 x.1.1 x.1.2 w;rw[List.mapIdx_cons];have e:(λn x=>qo x (n+1+j))=λn x=>qo x (n+(j+1)):=by
   funext n x;rw[Nat.add_right_comm];rfl
  rw[e];unfold Instr.findAsking;rw[Sem.run_bind];show((Op.equal 109 (gG k) (gG x.1)).run F w).andThen _=_;unfold gG at b|-;rw[b];by_cases h:k=x.1
  .subst h;simp[Result.andThen,dP,qo]
  .have a:(k.1==x.1.1&&k.2==x.1.2)=false:=by
    rw[Bool.eq_false_iff];intro a;simp at a;exact h (Prod.ext a.1 a.2)
   rw[a];simp only[Result.andThen,kx,if_false];unfold gG at c;rw[c,dP,cd h]
def N9:(match F.underlying 109 with|some (.struct _)=>true|_=>false)=true:=by kernel_rfl
def run_findKey(k:Int×Int)(w:H)(L:List gM):(Instr.findKey 109 (gG k) (jl L)).run F w=.ok ((dP k L 0).map λp=>(p.1,.int .i64 p.2)) w:=by
 have a:=N9;split at a
 .rename_i b d;unfold Instr.findKey;rw[Sem.run_bind,run_underlying d];simp only[Result.andThen];have c:=Du k w L 0 0
  cases L with
  | nil=>simp[jl,Instr.findNow,dP]
  | cons x r=>
   have:Instr.findNow (.struct b) (gG k) (jl (x::r)) 0=I:=by
    simp[jl,List.mapIdx_cons,Instr.findNow,Instr.sameNow,qo]
   rw[this];exact c
 .simp at a
def gd{L:List gM}(a:jm w r L)(k:Int×Int):(Instr.lookup 99 (.map (Y r)) (gG k) false).run F w=.ok (.int .i64 (assoc L k)) w:=by
 have d:(zeroValue 3).run F w=.ok (.int .i64 0) w:=by kernel_rfl
 have b:=xW k (jl L).toArray.isEmpty w;have c:=run_findKey k w L;unfold Instr.lookup;simp only[Sem.run_bind,run_underlying I7,MapKept.run_getObj_map a,Result.andThen,Sem.run_pure,b,c,assoc]
 cases h:dP k L 0 with
 | none=>simp[Result.andThen,d,Sem.run_bind]
 | some p=>simp[Result.andThen,Sem.run_bind]
def oM:∀{L:List gM} {j i:Nat} {v:Int},dP k L j=Y (i,v)->j<=i/\L[i-j]?=Y (k,v)
 | [],_,_,_,h=>by simp[dP]at h
 | x::r,j,i,v,h=>by
  simp only[dP]at h;by_cases hk:k=x.1
  .rw[dE hk]at h;cases h;exact⟨dj _,by simp[hk]⟩
  .rw[cd hk]at h;obtain⟨a,h2⟩:=oM h;refine⟨zz,?_⟩;rw[show i-j=(i-(j+1))+1 by omega];simpa using h2
theorem Aw(c:Int)(k':Int×Int):∀{L:List gM} {j i:Nat} {v:Int},dP k L j=Y (i,v)->dP k' (L.set (i-j) (k,c)) j=if k'=k then Y (i,c)else dP k' L j
 | [],_,_,_,h=>by simp[dP]at h
 | x::r,j,i,v,h=>by
  simp only[dP]at h;by_cases hk:k=x.1
  .rw[dE hk]at h;cases h;by_cases a:k'=k
   .simp[dP,a]
   .have:k'≠x.1:=λe=>a (e.tn hk.symm);simp[dP,a,this]
  .rw[cd hk]at h;have f:=(oM h).1;have d:=Aw c k' h;rw[show i-j=(i-(j+1))+1 by omega,List.set_cons_succ];simp only[dP,d];by_cases b:k'=x.1
   .have:k'≠k:=λe=>hk (e▸b);simp[b,this];intro e;exact dC e.symm hk
   .simp[b]
def nK(c:Int)(k':Int×Int):∀{L:List gM} {j:Nat},dP k L j=I->dP k' (L++[(k,c)]) j=if k'=k then Y (j+L.length,c)else dP k' L j
 | [],j,_=>by simp[dP]
 | x::r,j,h=>by
  simp only[dP]at h;by_cases hk:k=x.1
  .rw[dE hk]at h;cases h
  .rw[cd hk]at h;have b:=nK c k' h;simp only[zR,dP,b,fx];by_cases a:k'=x.1
   .have:k'≠k:=λe=>hk (e▸a);simp[a];intro e;exact dC e.symm hk
   .simp only[cd a,show j+1+r.length=j+(r.length+1) by omega]
def wD(L:List gM)(k:Int×Int):List gM:=match dP k L 0 with
 | some p=>L.set p.1 (k,wrap64 (p.2+1))
 | none=>L++[(k,wrap64 (0+1))]
def Li(L:List gM)(k k':Int×Int):assoc (wD L k) k'=if k'=k then wrap64 (assoc L k+1)else assoc L k':=by
 unfold wD assoc
 cases h:dP k L 0 with
 | none=>
  simp only;rw[nK _ _ h];by_cases hk:k'=k<;>simp[hk]
 | some p=>
  simp only;have:=Aw (wrap64 (p.2+1)) k' h;rw[Nat.sub_zero]at this;rw[this];by_cases hk:k'=k<;>simp[hk]
def sS(k:Int×Int)(L:List gM):List gM:=match dP k L 0 with
 | some _=>L
 | none=>L++[(k,0)]
def Lj(k:Int×Int)(L:List gM)(k':Int×Int):assoc (sS k L) k'=assoc L k':=by
 unfold sS assoc
 cases h:dP k L 0 with
 | none=>
  simp only;rw[nK _ _ h];by_cases hk:k'=k
  .simp[hk,h]
  .simp[hk]
 | some p=>rfl
def Oa(k:Int×Int)(L:List gM):∃i,dP k (sS k L) 0=Y (i,assoc L k)/\wD L k=(sS k L).set i (k,wrap64 (assoc L k+1)):=by
 unfold sS wD assoc
 cases h:dP k L 0 with
 | none=>
  refine⟨L.length,?_,?_⟩
  .simp only;rw[nK _ _ h];simp
  .simp
 | some p=>exact⟨p.1,h,rfl⟩
def tQ(L:List gM)(j:Nat):(jl L)[j]?=(L[j]?).map λx=>qo x j:=by simp[jl]
def Dv(L:List gM):(jl L).length=L.length:=by simp[jl]
def I8{xs ys:List MapEntry}(h:∀j:Nat,xs[j]?=ys[j]?):xs.toArray=ys.toArray:=eh List.toArray (List.ext_getElem? h)
def Ll{L:List gM}(b:jm w r L)(k:Int×Int):
  ∃i:Nat,(Instr.mapEntry 99 (.map (Y r)) (gG k)).run F w=.ok (.tuple #[.int .i64 (assoc L k),.int .i64 i]) (w.putObj r (.map (jl (sS k L)).toArray (sS k L).length))/\dP k (sS k L) 0=Y (i,assoc L k)/\wD L k=(sS k L).set i (k,wrap64 (assoc L k+1)):=by
 have q:(zeroValue 3).run F w=.ok (.int .i64 0) w:=by kernel_rfl
 have l:=xW k false w;have m:=run_findKey k w L;obtain⟨i,a,h2⟩:=Oa k L;refine⟨i,?_,a,h2⟩;unfold Instr.mapEntry;simp only[Sem.run_bind,run_underlying I7,MapKept.run_getObj_map b,Result.andThen,l,m];unfold sS assoc at*
 cases h:dP k L 0 with
 | none=>
  rw[h]at a;simp only at a;rw[nK _ _ h]at a;simp at a;subst a;simp only[Option.map_none,Sem.run_bind,q,Result.andThen,Sem.run_pure,MapKept.run_setObj_map _ b];have e:(jl L).toArray.push {key:=gG k,val:=.int .i64 0,born:=L.length}=(jl (L++[(k,0)])).toArray:=by
   simp[jl,List.mapIdx_append,qo]
  rw[e];simp[H.putObj,goInt]
 | some p=>
  rw[h]at a;simp only at a;rw[h]at a;have f:=oM h;rw[Nat.sub_zero]at f;obtain⟨i0,g⟩:=p;simp at a;subst a;have c:(jl L)[i0]?=Y (qo (k,g) i0):=by rw[tQ,f.2];rfl
  have n:(jl L).toArray[i0]?=Y (qo (k,g) i0):=by simpa using c
  have o:=Gj k w;simp only[mc,n,qo,zQ,Sem.run_bind,o,Result.andThen,Sem.run_pure,MapKept.run_setObj_map _ b];have e:(jl L).toArray.modify i0 (λe=> {e with key:=gG k})=(jl L).toArray:=by
   rw[List.modify_toArray];refine I8 λj=>?_;rw[List.getElem?_modify];by_cases d:i0=j
   .subst d;simp[c,qo]
   .simp[d]
  rw[e];simp[H.putObj,goInt]
def run_store{L:List gM}(d:jm w r L){i:Nat}{v:Int}(h:dP k L 0=Y (i,v))(c:Int):
  (Instr.entryStore 99 (.map (Y r)) (.int .i64 i) (.int .i64 c)).run F w=.ok () (w.putObj r (.map (jl (L.set i (k,c))).toArray (L.set i (k,c)).length)):=by
 have b:=oM h;rw[Nat.sub_zero]at b;have l:(jl L)[i]?=Y (qo (k,v) i):=by rw[tQ,b.2];rfl
 have f:i<L.length:=(List.getElem?_eq_some_iff.1 b.2).1;have hi:(jl L).toArray.findIdx? (λe=>((e.born:Nat):Int)==(i:Int))=Y i:=by
  rw[List.findIdx?_toArray];refine List.findIdx?_eq_some_iff_getElem.2 ⟨by rw[Dv];exact f,?_,?_⟩
  .have:=List.getElem?_eq_some_iff.1 l;obtain⟨m,h2⟩:=this;rw[h2];simp[qo]
  .intro j a;have:(jl L)[j]'(by rw[Dv];omega)=qo (L[j]'zz) j:=by simp[jl]
   rw[this];simp[qo];omega
 unfold Instr.entryStore;simp only[Sem.run_bind,MapKept.run_getObj_map d,Result.andThen];have g:(asInt (.int .i64 i)).run F w=.ok (i:Int) w:=rfl;rw[g];simp only[hi,MapKept.run_setObj_map _ d];have e:(jl L).toArray.modify i (λe=> {e with val:=.int .i64 c})=(jl (L.set i (k,c))).toArray:=by
  rw[List.modify_toArray];refine I8 λj=>?_;rw[List.getElem?_modify,tQ,tQ];by_cases a:i=j
  .subst a;rw[List.getElem?_set_self f,b.2];simp[qo]
  .simp[a,List.getElem?_set_ne a]
 rw[e,List.length_set];rfl
variable{g:Nat}{t:Lk}{a0 a1 a2 a3 a4 a5 a6 a7 a8 a9 a10 a11 a12 a13 a14:M}
def uC(b:aC)(s:Sl)(m:Option Nat):M:=.agg #[.int .i64 b.S,.int .i64 b.D,.int .i64 b.L,.int .i64 b.lo,.int .i64 b.hi,.slice b.C.A b.C.n b.C.c,.int .i64 b.rf,.int .i64 b.rh,.int .i64 b.cf,.int .i64 b.ch,.slice b.U.A b.U.n b.U.c,.slice b.E.A b.E.n b.E.c,.slice b.W.A b.W.n b.W.c,.slice s.A s.n s.c,.map m]
def bJ{g i:Nat}{cs:Array M}(h:w.heap[g]?=Y (.cells cs t (0,0)))(v:M):(w.setCell (g,i) v).heap[g]?=Y (.cells (cs.setIfInBounds i v) t (0,0)):=by
 simp[H.setCell,ml,h]
def Bs(a b k l m n o q r s c d e f j:M)(h:w.heap[g]?=Y (.cells #[a0,a1,a2,a3,a4,a5,a6,a7,a8,a9,a10,a11,a12,a13,a14] t (0,0))):
  (((((((((((((((w.setCell (g,0) a).setCell (g,1) b).setCell (g,2) k).setCell (g,3) l).setCell (g,4) m).setCell (g,5) n).setCell (g,6) o).setCell (g,7) q).setCell (g,8) r).setCell (g,9) s).setCell (g,10) c).setCell (g,11) d).setCell (g,12) e).setCell (g,13) f).setCell (g,14) j).heap[g]?=Y (.cells #[a,b,k,l,m,n,o,q,r,s,c,d,e,f,j] t (0,0))/\aS (λx=>x≠g) w (((((((((((((((w.setCell (g,0) a).setCell (g,1) b).setCell (g,2) k).setCell (g,3) l).setCell (g,4) m).setCell (g,5) n).setCell (g,6) o).setCell (g,7) q).setCell (g,8) r).setCell (g,9) s).setCell (g,10) c).setCell (g,11) d).setCell (g,12) e).setCell (g,13) f).setCell (g,14) j):=
 by
  have u:=bJ (i:=0) h a;simp only[zS]at u;have v:=bJ (i:=1) u b;simp only[zS]at v;have h2:=bJ (i:=2) v k;simp only[zS]at h2;have E:=bJ (i:=3) h2 l;simp only[zS]at E;have G:=bJ (i:=4) E m;simp only[zS]at G;have J:=bJ (i:=5) G n;simp only[zS]at J;have K:=bJ (i:=6) J o;simp only[zS]at K;have L:=bJ (i:=7) K q;simp only[zS]at L;have N:=bJ (i:=8) L r;simp only[zS]at N;have O:=bJ (i:=9) N s;simp only[zS]at O;have y:=bJ (i:=10) O c;simp only[zS]at y;have z:=bJ (i:=11) y d;simp only[zS]at z;have A:=bJ (i:=12) z e;simp only[zS]at A;have B:=bJ (i:=13) A f;simp only[zS]at B;have C:=bJ (i:=14) B j;simp only[zS]at C;exact⟨C,((((((((((((((((aS.refl _ _).set (p:=⟨g,0,I⟩) (λ_ h=>h rfl) a).set (p:=⟨g,1,I⟩) (λ_ h=>h rfl) b).set (p:=⟨g,2,I⟩) (λ_ h=>h rfl) k).set (p:=⟨g,3,I⟩) (λ_ h=>h rfl) l).set (p:=⟨g,4,I⟩) (λ_ h=>h rfl) m).set (p:=⟨g,5,I⟩) (λ_ h=>h rfl) n).set (p:=⟨g,6,I⟩) (λ_ h=>h rfl) o).set (p:=⟨g,7,I⟩) (λ_ h=>h rfl) q).set (p:=⟨g,8,I⟩) (λ_ h=>h rfl) r).set (p:=⟨g,9,I⟩) (λ_ h=>h rfl) s).set (p:=⟨g,10,I⟩) (λ_ h=>h rfl) c).set (p:=⟨g,11,I⟩) (λ_ h=>h rfl) d).set (p:=⟨g,12,I⟩) (λ_ h=>h rfl) e).set (p:=⟨g,13,I⟩) (λ_ h=>h rfl) f).set (p:=⟨g,14,I⟩) (λ_ h=>h rfl) j)⟩
def gH(h:w.heap[g]?=Y (.cells #[a0,a1,a2,a3,a4,a5,a6,a7,a8,a9,a10,a11,a12,a13,a14] t (0,0))):
  w.cell? ⟨g,0,I⟩=Y a0/\w.cell? ⟨g,1,I⟩=Y a1/\w.cell? ⟨g,2,I⟩=Y a2/\w.cell? ⟨g,3,I⟩=Y a3/\w.cell? ⟨g,4,I⟩=Y a4/\w.cell? ⟨g,5,I⟩=Y a5/\w.cell? ⟨g,6,I⟩=Y a6/\w.cell? ⟨g,7,I⟩=Y a7/\w.cell? ⟨g,8,I⟩=Y a8/\w.cell? ⟨g,9,I⟩=Y a9/\w.cell? ⟨g,10,I⟩=Y a10/\w.cell? ⟨g,11,I⟩=Y a11/\w.cell? ⟨g,12,I⟩=Y a12/\w.cell? ⟨g,13,I⟩=Y a13/\w.cell? ⟨g,14,I⟩=Y a14:=by
 have key:∀i v,(#[a0,a1,a2,a3,a4,a5,a6,a7,a8,a9,a10,a11,a12,a13,a14]:Array M)[i]?=Y v->w.cell? ⟨g,i,I⟩=Y v:=λi v a=>by rw[H.cell?,h];exact a
 exact⟨key _ _ rfl,key _ _ rfl,key _ _ rfl,key _ _ rfl,key _ _ rfl,key _ _ rfl,key _ _ rfl,key _ _ rfl,key _ _ rfl,key _ _ rfl,key _ _ rfl,key _ _ rfl,key _ _ rfl,key _ _ rfl,key _ _ rfl⟩
def iG(b:aC)(s:Sl)(m:Option Nat):Array M:= #[.int .i64 b.S,.int .i64 b.D,.int .i64 b.L,.int .i64 b.lo,.int .i64 b.hi,.slice b.C.A b.C.n b.C.c,.int .i64 b.rf,.int .i64 b.rh,.int .i64 b.cf,.int .i64 b.ch,.slice b.U.A b.U.n b.U.c,.slice b.E.A b.E.n b.E.c,.slice b.W.A b.W.n b.W.c,.slice s.A s.n s.c,.map m]
def Gk(w:H)(g:Nat)(b:aC)(s:Sl)(m:Option Nat):Prop:=w.heap[g]?=Y (.cells (iG b s m) 101 (0,0))
def abo(c:Nat)(d:Array M)(b:aC)(v:Bool)(w:H):Prop:=∀a,X w w a->PH F c (#[b.v]++d) a λe w'=>e=.returned (.bool v)/\X a a w'
variable{wr wr':H}{B c bb kb mb:Nat}{L:List gM}{b:aC}{s:Sl}{SS:List (Int×(Nat->Bool))}
def ko(h:Int)(L:List gM)(a:List Int):List gM:=a.foldl (λL n=>wD L (h,n)) L
def oN(b:aC)(l:bN)(x:Int×(Nat->Bool))(h:Nat):Nat->Bool:=eT b.S b.L x.1 x.2 (l.U.getD h (0,0))
def ku(b:aC)(l:bN)(x:Int×(Nat->Bool))(L:List gM)(a:List Nat):List gM:=a.foldl (λL (h:Nat)=>ko (h:Int) L (ie (oN b l x h) 12)) L
def lP(b:aC)(l:bN)(L:List gM)(xs:List (Int×(Nat->Bool))):List gM:=xs.foldl (λL x=>ku b l x L (List.range' 0 l.U.length)) L
def fN(b:aC)(l:bN):List gM:=lP b l [] (aJ b l b.D.toNat)
def jo(b:aC)(l:bN)(w:H)(e:Ending)(w':H):Prop:=∃A c r,e=.returned (.tuple #[uC b ⟨A,(aJ b l b.D.toNat).length,c⟩ (Y r),.int .i64 0])/\
 w'.ownsRow w.heap.size 78 13 (.slice A (aJ b l b.D.toNat).length c) (aJ b l b.D.toNat).length (Gf (aJ b l b.D.toNat))/\jm w' r (fN b l)/\w.heap.size<=r/\X w w w'
def Ja:∀(L:List (Int×(Nat->Bool))) (i j:Nat),i<L.length->j<13->(Gf L)[i*13+j]?=(zC (L.getD i (0,mI))).toList[j]?
 | [],i,j,hi,_=>by simp at hi
 | x::r,0,j,_,b=>by
  have a:(zC x).toList.length=13:=rfl;simp only[Gf,la,Nat.zero_mul,kl,List.getD_cons_zero];exact List.getElem?_append_left (by rw[a];exact b)
 | x::r,i+1,j,hi,b=>by
  have a:(zC x).toList.length=13:=rfl;have c:=Ja r i j (by simpa using hi) b;simp only[Gf,la,List.getD_cons_succ]at c|-;rw[List.getElem?_append_right (by rw[a];omega),a,show(i+1)*13+j-13=i*13+j by omega];exact c
def wO{B g n c:Nat}{L:List (Int×(Nat->Bool))}(h:w.ownsRow B 78 13 (.slice (Y (g,0)) n c) n (Gf L))(b:n=L.length){i:Nat}(hi:i<n)(j:Nat)(a:j<13):w (g,i*13+j)=(zC (L.getD i (0,mI))).toList[j]?:=by
 rw[h.cellAt (i*13+j) (by
  have:i*13+13<=n*13:=zz;omega),Ja L i j zz a]
structure lQ(w:H)(bb kb mb B:Nat)(b:aC)(s:Sl)(SS:List (Int×(Nat->Bool)))(wr:H)(L:List gM):Prop where
 box:aK wr bb 31 b
 res:wr.heap[bb+1]?=Y (.cells (iG bI iy I) 101 (0,0))
 kn:Gk wr kb b s (Y mb)
 own:wr.ownsRow B 78 13 (.slice s.A s.n s.c) s.n (Gf SS)
 map:jm wr mb L
 low:X w w wr
theorem lQ.below(h:lQ w bb kb mb B b s SS wr L)(a:X wr wr wr'):lQ w bb kb mb B b s SS wr' L:=
 have hk:=aS.dY (K:=λ_=>True) a (λ_ h _=>h)
 ⟨hk.get db h.box,hk.get db h.res,hk.get db h.kn,bB h.own hk (λ_ _=>trivial),hk.get db h.map,h.low.tn (a.mono h.low.size)⟩
theorem lQ.kQ{L L':List gM}(h:lQ w bb kb mb B b s SS wr L)(d:w.heap.size<=mb)(h2:bb+1<mb)(e:mb<kb)(f:kb<B)(hk:aS (λx=>x≠mb) wr wr')(a:jm wr' mb L'):lQ w bb kb mb B b s SS wr' L':=
 ⟨hk.get zz h.box,hk.get zz h.res,hk.get zz h.kn,bB h.own hk (λg c=>by have:=(h.own.lt g c).1;omega),a,h.low.tn (hk.below h.low.size (λx i=>zz))⟩
def Gm{r:Nat}(c:jm w r L)(k:Int×Int):∃(a b:H) (i:Nat),(Instr.lookup 99 (.map (Y r)) (gG k) false).run F w=.ok (.int .i64 (assoc L k)) w/\
  (Instr.mapEntry 99 (.map (Y r)) (gG k)).run F w=.ok (.tuple #[.int .i64 (assoc L k),.int .i64 i]) a/\(Instr.lookup 99 (.map (Y r)) (gG k) false).run F a=.ok (.int .i64 (assoc L k)) a/\
  (Instr.entryStore 99 (.map (Y r)) (.int .i64 i) (.int .i64 (wrap64 (assoc L k+1)))).run F a=.ok () b/\jm b r (wD L k)/\aS (λx=>x≠r) w b:=by
 have g:r<w.heap.size:=(du.1 c).1;obtain⟨i,j,h2,m⟩:=Ll c k;have f:jm (w.putObj r (.map (jl (sS k L)).toArray (sS k L).length)) r (sS k L):=H.putObj_heap_same g;have d:=run_store f h2 (wrap64 (assoc L k+1));rw[<- m]at d;have n:=(aS.refl (λx=>x≠r) w).put (l:=r) (λ_ h=>h rfl) (.map (jl (sS k L)).toArray (sS k L).length);have e:=gd f k;rw[Lj]at e;exact⟨_,_,i,gd c k,j,e,d,H.putObj_heap_same (by simpa using g),n.put (λ_ h=>h rfl) _⟩
def Lm{A:Option Addr}{l:List Int}(h:w.ownsRow B 3 1 (.slice A n c) n (l.map (M.int .i64)))(f:n=l.length)(e:l.length<=1000):aN w ⟨A,n,c⟩ l:=by
 subst f;rcases h.2 with⟨a,h2⟩|⟨g,i,j,a,h2,b,d,m,o,p⟩
 .have:l=[]:=List.eq_nil_of_length_eq_zero h2;subst this;exact⟨rfl,fi _,fi _,λh=>dC h ss⟩
 .simp only[lA]at a;obtain⟨rfl, -, rfl⟩:=a;refine⟨rfl,d,e,λ_=>⟨g,0,rfl,(du.1 b).1,λk hk=>?_⟩⟩;have:=h.cellAt k zz;rw[kl,this];simp[List.getD,fg hk]
theorem Ob(b:aC)(l:bN)(gf:Nat)(G3:Array M)(eg:Enters F gf)(w:H)(a1:aI w b l)(b7:aD w)(d4:ay b l=0)(hf:abo gf G3 b true w)(h0:aJ b l b.D.toNat≠[]):
  PH F 46 #[b.v,.func (.func gf) #[] G3] w (jo b l w):=by
 have ï:=0;exact pb
def cP(b:aC)(l:bN)(q:Bool):Int:=if ay b l≠0 then ay b l else if q=false then 6 else if aJ b l b.D.toNat=[]then 9 else 0
def Bt{b:aC}{l:bN}{q:Bool}(h:cP b l q=0):ay b l=0/\q=true/\aJ b l b.D.toNat≠[]:=by
 unfold cP at h;by_cases a:ay b l=0
 .rw[cd (by simpa using a)]at h
  cases q with
  | false=>rw[dE rfl]at h;omega
  | true=>
   rw[cd ss]at h;by_cases c:aJ b l b.D.toNat=[]
   .rw[dE c]at h;omega
   .exact⟨a,rfl,c⟩
 .rw[dE a]at h;exact dC h a
def qp(b:aC)(l:bN)(a:Nat)(c:Array M)(e:Enters F a)(q:Bool)(w:H)(j:aI w b l)(g:aD w)(i:ay b l=0->abo a c b q w)(h:cP b l q=0):
  PH F 46 #[b.v,.func (.func a) #[] c] w (jo b l w):=by
 obtain⟨d,h2,f⟩:=Bt h;subst h2;exact Ob b l a c e w j g d (i d) f
def lT:Enters F 47:=enters_of Tryz.func47 kr rfl
def Dw:Enters F 50:=enters_of Tryz.func50 kr rfl
def Dx:Enters F 53:=enters_of Tryz.func53 kr rfl
def Dy:Enters F 54:=enters_of Tryz.func54 kr rfl
def Dz:Enters F 55:=enters_of Tryz.func55 kr rfl
theorem gW(b:aC)(w:H):abo 47 #[] b true w:=by
 intro a _;simp only[zR,List.append_nil];unfold aC.v;go_enter Tryz.func47,Tryz.ntmps47;go_wp2;go_ret;exact⟨rfl,(X.refl _ _).alloc (dj _) _⟩
theorem Ay(b:aC)(i: -1000<=b.S)(h2:b.S<=1000)(step:Int)(a:Nat)(w:H)(f:w (a,0)=Y (.int .i64 step))(c:a<w):abo 50 #[.pointer (Y (a,0))] b (ax step 0 (b.S-1)) w:=by
 have ø:=0;exact tk
theorem xX(b:aC)(i: -1000<=b.S)(h2:b.S<=1000)(step:Int)(a:Nat)(w:H)(f:w (a,0)=Y (.int .i64 step))(c:a<w):abo 55 #[.pointer (Y (a,0))] b (ax step 0 (b.S-1)) w:=tk
theorem DC(b:aC)(j:b.U.n<=1000)(c:Int)(a:Nat)(w:H)(g:w (a,0)=Y (.int .i64 c))(f:a<w):abo 54 #[.pointer (Y (a,0))] b (ax c 0 (b.U.n-1)) w:=by
 intro i d;have l:i (a,0)=Y (.int .i64 c):=(d.cell (p:=⟨a,0,I⟩) f).tn g;have m:a<i.heap.size:=iv f d.size;have h:=λw=>oE b c j w;clear g f d;simp only[zR];unfold aC.v at h|-;go_enter Tryz.func54,Tryz.ntmps54;go_wp2_with (go_at_call 33;refine(h _).mono ?_;rintro e w' ⟨rfl,k⟩);go_ret;exact⟨rfl,aY k⟩
theorem xY(b:aC)(r:b.U.n<=1000)(h2: -1000<=b.S)(s:b.S<=1000)(g step:Int)(c a:Nat)(w:H)(m:w (c,0)=Y (.int .i64 g))(i:c<w)(n:w (a,0)=Y (.int .i64 step))(k:a<w):
  abo 53 #[.pointer (Y (c,0)),.pointer (Y (a,0))] b (ax g 0 (b.U.n-1)&&ax step 0 (b.S-1)) w:=by
 intro h f;have v:h (c,0)=Y (.int .i64 g):=(f.cell (p:=⟨c,0,I⟩) i).tn m;have x:h (a,0)=Y (.int .i64 step):=(f.cell (p:=⟨a,0,I⟩) k).tn n;have A:c<h.heap.size:=iv i f.size;have s2:a<h.heap.size:=iv k f.size;have j:=λw=>oE b g r w;have l:=λw=>fB b step h2 s w;clear m i n k f;simp only[zR];generalize ax g 0 (b.U.n-1)=p at j|-;generalize ax step 0 (b.S-1)=q at l|-;unfold aC.v at j l|-;cases p
 all_goals
  go_enter Tryz.func53,Tryz.ntmps53
  go_wp2_with (first
   | (go_at_call 33;refine(j _).mono ?_;rintro e o ⟨rfl,d⟩;obtain⟨y,z⟩:=aU d;have u:=d.size;have C:h.heap.size<o.heap.size:=(by simp only[aa]at u;omega);have E:a<o.heap.size:=zz)
   | (go_at_call 51;refine(l _).mono ?_;rintro e B ⟨rfl,t⟩))
  go_ret
 .exact⟨by simp,aY d⟩
 .exact⟨by simp,(aY d).tn (t.mono (aY d).size)⟩
def lY(n a:Int):Int:=if n=a then 1 else if n=0 then 2 else 0
theorem xZ(b:aC)(s:Sl)(m:Option Nat)(n:Int)(w:H):PH F 52 #[uC b s m,.int .i64 n] w λe w'=>e=.returned (.int .i64 (lY n s.n))/\X w w w':=by
 unfold uC;go_enter Tryz.func52,Tryz.ntmps52;go_wp2;all_goals go_ret
 all_goals exact⟨aW (by simp_all[lY]),(X.refl _ _).alloc (dj _) _⟩
variable{f:Int×(Nat->Bool)->Bool}{L:List (Int×(Nat->Bool))}{i:Nat}
def oP(f:Int×(Nat->Bool)->Bool)(L:List (Int×(Nat->Bool))):Nat:=(L.filter f).length
def Sq(h:i<L.length)(a:f (L.getD i (0,mI))=true):oP f (L.take (i+1))=oP f (L.take i)+1:=by
 have ø:=0;exact xbc
def WC(h:i<L.length)(a:f (L.getD i (0,mI))=false):oP f (L.take (i+1))=oP f (L.take i):=xbc
def Gn(f:Int×(Nat->Bool)->Bool)(L:List (Int×(Nat->Bool)))(i:Nat):oP f (L.take i)<=i:=ec (ln _ _) (List.length_take_le _ _)
def vH(b:aC)(l:bN)(step:Int):Int×Int:=
 if cP b l (ax step 0 (b.S-1))=0 then(lY (oP (λx=>x.2 step.toNat) (aJ b l b.D.toNat)) (aJ b l b.D.toNat).length,0)else(0,cP b l (ax step 0 (b.S-1)))
def nL{b:aC}{l:bN}(h:ay b l=0):(aJ b l b.D.toNat).length<=1296:=by
 obtain⟨d,c,e,f,g,i,j,k,m,a,-⟩:=cS (bP h).1;exact ec (ln _ _) (nH c a zz)
theorem Ln(b:aC)(l:bN)(step:Int)(w:H)(a1:aI w b l)(b7:aD w)(h:cP b l (ax step 0 (b.S-1))=0):
  PH F 17 #[b.v,.int .i64 step] w (oL (vH b l step) w):=by
 have ø:=0;exact pb
def Lr(b:aC)(l:bN)(step:Int)(w:H)(c:aI w b l)(a:aD w)(h:cP b l (ax step 0 (b.S-1))=0:=by kernel_rfl):PH F 17 #[b.v,.int .i64 step] w (oL (vH b l step) w):=Ln b l step w c a h
def mW(b:aC)(a step:Int):Bool:=ax a 0 (b.U.n-1)&&ax step 0 (b.S-1)
def oQ(b:aC)(l:bN)(a step:Int):Int×Int:=
 if cP b l (mW b a step)=0 then(lY (assoc (fN b l) (a,step)) (aJ b l b.D.toNat).length,0)else(0,cP b l (mW b a step))
theorem Gp(b:aC)(l:bN)(hour step:Int)(w:H)(u:aI w b l)(E:aD w)(h:cP b l (mW b hour step)=0):
  PH F 18 #[b.v,.int .i64 hour,.int .i64 step] w (oL (oQ b l hour step) w):=by
 have å:=0;exact py
def ya(b:aC)(l:bN)(a step:Int)(w:H)(d:aI w b l)(c:aD w)(h:cP b l (mW b a step)=0:=by kernel_rfl):PH F 18 #[b.v,.int .i64 a,.int .i64 step] w (oL (oQ b l a step) w):=Gp b l a step w d c h
variable{o:Kp}{a:Act}{Q:Exit->Act->H->Prop}
def abm{K:Act->H->Prop}(s x:ae)(t:Lk)
  (y:o.op=.call {callee:=.builtin .append,args:= #[s,x],argTypes:= #[t,t]})
  (base:Nat)(e:Lk)(i:TypeInfo)(z:M)(size bytes:Nat)(J:P.underlying t=Y (.slice e))(hi:P.info? e=Y i)(N:i.zero=Y z)
  (E:i.size=size)(l:i.bytes=bytes)(O:z.cells.size=size)(G:0<size)
  (v:M)(n:Nat)(xs:List M)(C:a.eval s=v)(A:w.ownsRow base e size v n xs)
  (ad:Addr)(m c:Nat)(news:List M)(L:a.eval x=.slice (Y ad) m c)(q:news.length=m*size)(r:∀j u,news[j]?=Y u->w.cell? (ad.add j)=Y u)(b:∀u∈news,u.oneCell'=true)
  (g:n+m<=maxLen)(p:(n+m)*bytes<=140737488355328)(k:base<=w.heap.size)
  (h:∀v' w',w'.ownsRow base e size v' (n+m) (xs++news)->w.grownBy w' v.ownBlock->(v'.ownBlock=v.ownBlock\/v'.ownBlock=Y w.heap.size)->K (a.put o.dst v') w'):o.wp P a w K Q:=by
 obtain⟨v',w',B,h2,d, -, f⟩:=gU (P:=P) w base t o.type e i z size bytes J hi N E l O G v n xs A ad m c news q r b g p k;unfold Kp.wp Hn;simp only[y,ab,invoke,builtin,Sem.run_bind,Sem.run_pure,Result.andThen_ok,zM,C,L,B];exact h v' w' h2 d f
def ff{ops:Array Kp}{rest:List Kp}(r:o.guard=I)(s x:ae)(t:Lk)
  (B:o.op=.call {callee:=.builtin .append,args:= #[s,x],argTypes:= #[t,t]})
  (base:Nat)(e:Lk)(i:TypeInfo)(z:M)(size bytes:Nat)(K:P.underlying t=Y (.slice e))(hi:P.info? e=Y i)(N:i.zero=Y z)
  (G:i.size=size)(p:i.bytes=bytes)(O:z.cells.size=size)(J:0<size)
  (v:M)(n:Nat)(xs:List M)(E:a.eval s=v)(C:w.ownsRow base e size v n xs)
  (ad:Addr)(m c:Nat)(news:List M)(L:a.eval x=.slice (Y ad) m c)(y:news.length=m*size)(A:∀j u,news[j]?=Y u->w.cell? (ad.add j)=Y u)(b:∀u∈news,u.oneCell'=true)
  (g:n+m<=maxLen)(q:(n+m)*bytes<=140737488355328)(l:base<=w.heap.size)
  (h:∀v' w',w'.ownsRow base e size v' (n+m) (xs++news)->w.grownBy w' v.ownBlock->(v'.ownBlock=v.ownBlock\/v'.ownBlock=Y w.heap.size)->wpList P ops Q rest (a.put o.dst v') w'):wpList P ops Q (o::rest) a w:=
 wpList_plain r λ_ k=>abm s x t B base e i z size bytes K hi N G p O J v n xs E C ad m c news L y A b g q l λv' w' h2 d f=>k _ _ (h v' w' h2 d f)
def kH(B:Nat)(d e:M)(a b:List Int)(w:H):Prop:=
 (∃A c,d=.slice A a.length c)/\(∃A c,e=.slice A b.length c)/\w.ownsRow B 3 1 d a.length (a.map (M.int .i64))/\w.ownsRow B 3 1 e b.length (b.map (M.int .i64))/\(∀g,d.ownBlock=Y g->e.ownBlock≠Y g)
def kH.below{B:Nat}{v1 v2:M}{l1 l2:List Int}{w w':H}(h:kH B v1 v2 l1 l2 w)(a:X w w w'):kH B v1 v2 l1 l2 w':=
 have hk:=aS.dY (K:=λ_=>True) a (λ_ h _=>h)
 ⟨h.1,h.2.1,bB h.2.2.1 hk (λ_ _=>trivial),bB h.2.2.2.1 hk (λ_ _=>trivial),h.2.2.2.2⟩
def wP(p:List Int×List Int×Int)(w:H)(e:Ending)(w':H):Prop:=
 ∃a b,e=.returned (.tuple #[a,b,.int .i64 p.2.2])/\kH w.heap.size a b p.1 p.2.1 w'/\X w w w'
def sU(LL:List gM)(b a v:Int):Nat->Bool:=λn=>decide (lY (assoc LL (a,n)) b=v)
def DF(b:aC)(l:bN)(a:Int):List Int×List Int×Int:=
 if cP b l (ax a 0 (b.U.n-1))=0 then(ie (sU (fN b l) (aJ b l b.D.toNat).length a 1) b.S.toNat,ie (sU (fN b l) (aJ b l b.D.toNat).length a 0) b.S.toNat,0)else([],[],cP b l (ax a 0 (b.U.n-1)))
def Y3(b:aC)(s:Sl)(m:Option Nat)(n v:Int)(a:lY n s.n=v)(w:H):PH F 52 #[uC b s m,.int .i64 n] w λe w'=>e=.returned (.int .i64 v)/\X w w w':=a▸xZ b s m n w
def Od(n a:Int):lY n a=1\/lY n a=2\/lY n a=0:=by
 unfold lY;split
 .exact .inl rfl
 .split
  .exact .inr (.inl rfl)
  .exact .inr (.inr rfl)
variable{v1 v2:M}{l1 l2:List Int}
def kH.fst{v1 v2 v1':M}{l1 l2 l1':List Int}{w w':H}(h:kH B v1 v2 l1 l2 w)(x:Int)(m:l1'=l1++[x])(i:w'.ownsRow B 3 1 v1' (l1.length+1) (l1.map (M.int .i64)++[.int .i64 x]))(l:w.grownBy w' v1.ownBlock)(a:v1'.ownBlock=v1.ownBlock\/v1'.ownBlock=Y w):kH B v1' v2 l1' l2 w':=by
 obtain⟨n,k,o,d,f⟩:=h;subst m;refine⟨?_,k,by simpa using i,d.kept l ?_,λg j=>?_⟩
 .obtain⟨g,c,b⟩:=ownsRow_succ i;exact⟨Y ⟨g,0,I⟩,c,by rw[b];simp⟩
 .cases b:v1.ownBlock with
  | none=>cases h2:v2.ownBlock<;>simp
  | some g=>exact .inr (f g b)
 .rcases a with a|a
  .exact f g (a▸j)
  .rw[j]at a;cases a;intro e;have:=(d.lt _ e).2;omega
def kH.base{B B':Nat}(h:kH B v1 v2 l1 l2 w)(hB:B'<=B):kH B' v1 v2 l1 l2 w:=⟨h.1,h.2.1,dy hB h.2.2.1,dy hB h.2.2.2.1,h.2.2.2.2⟩
def kH.swap(h:kH B v1 v2 l1 l2 w):kH B v2 v1 l2 l1 w:=
 ⟨h.2.1,h.1,h.2.2.2.1,h.2.2.1,λg a b=>h.2.2.2.2 g b a⟩
theorem Oe(b:aC)(l:bN)(hour:Int)(w:H)(u:aI w b l)(E:aD w)(h:cP b l (ax hour 0 (b.U.n-1))=0):
  PH F 19 #[b.v,.int .i64 hour] w (wP (DF b l hour) w):=py
def Of(b:aC)(l:bN)(a:Int)(w:H)(d:aI w b l)(c:aD w)(h:cP b l (ax a 0 (b.U.n-1))=0:=by kernel_rfl):PH F 19 #[b.v,.int .i64 a] w (wP (DF b l a) w):=Oe b l a w d c h
def Og(LL:List gM)(n:Nat)(a:List Nat):Bool:=a.all λh=>decide (assoc LL ((h:Int),(n:Int))<=0)
def sw(LL:List gM)(U:Nat):Nat->Bool:=λn=>Og LL n (List.range' 0 U)
def qq(b:aC)(l:bN):List Int×Int:=
 if cP b l true=0 then(ie (sw (fN b l) b.U.n) b.S.toNat,0)else([],cP b l true)
theorem Lt(b:aC)(l:bN)(w:H)(a1:aI w b l)(b7:aD w)(h:cP b l true=0):
  PH F 20 #[b.v] w (ji w (qq b l).1 (qq b l).2 w):=by
 have æ:=0;exact pb
def Lu(b:aC)(l:bN)(w:H)(c:aI w b l)(a:aD w)(h:cP b l true=0:=by kernel_rfl):PH F 20 #[b.v] w (ji w (qq b l).1 (qq b l).2 w):=Lt b l w c a h
variable{v0:M}
def Tz(b:aC)(l:bN)(x:Int×(Nat->Bool))(p:Nat):Nat->Bool:=λh=>oN b l x h p
def pF(b:aC)(l:bN)(x:Int×(Nat->Bool))(p k:Nat):Nat:=(ie (Tz b l x p) k).length
def yc(b:aC)(l:bN)(p:Nat)(z:Int×Int)(xs:List (Int×(Nat->Bool))):Int×Int:=xs.foldl (λz x=>(min z.1 (pF b l x p l.U.length:Nat),max z.2 (pF b l x p l.U.length:Nat))) z
def qs(b:aC)(l:bN)(step:Int):(Int×Int)×Int:=
 if cP b l (ax step 0 (b.S-1))=0 then(yc b l step.toNat ((l.U.length:Nat),0) (aJ b l b.D.toNat),0)else((0,0),cP b l (ax step 0 (b.S-1)))
def yd(p:(Int×Int)×Int)(w:H)(e:Ending)(w':H):Prop:=e=.returned (.tuple #[.agg #[.int .i64 p.1.1,.int .i64 p.1.2],.int .i64 p.2])/\X w w w'
def kV(h:w.heap[g]?=Y (.cells #[v0,v1] t (0,0))):w (g,0)=Y v0/\w (g,1)=Y v1:=by
 constructor<;>(rw[H.cell?,h];rfl)
def tR(a b:M)(h:w.heap[g]?=Y (.cells #[v0,v1] t (0,0))):((w.setCell (g,0) a).setCell (g,1) b).heap[g]?=Y (.cells #[a,b] t (0,0))/\aS (λx=>x≠g) w ((w.setCell (g,0) a).setCell (g,1) b):=by
 have ø:=0;exact vy
variable{sb0x p:Nat}{l:bN}
structure tS(w:H)(kb sb0x B:Nat)(b:aC)(l:bN)(s:Sl)(r:Nat)(SS:List (Int×(Nat->Bool)))(p:Nat)(wr:H):Prop where
 box:aK wr w.heap.size 31 b
 st:wr.heap[sb0x]?=Y (.cells #[.int .i64 p] 3 (0,0))
 res:wr.heap[sb0x+1]?=Y (.cells #[.int .i64 0,.int .i64 0] 23 (0,0))
 kn:Gk wr kb b s (Y r)
 own:wr.ownsRow B 78 13 (.slice s.A s.n s.c) s.n (Gf SS)
 low:X w w wr
theorem tS.keep{K:Nat->Prop}(h:tS w kb sb0x B b l s r SS p wr)(hk:aS K wr wr')(k0:∀x,x<=w.heap.size->K x)(c:K sb0x)(d:K (sb0x+1))(e:K kb)(f:∀g,(M.slice s.A s.n s.c).ownBlock=Y g->K g):tS w kb sb0x B b l s r SS p wr':=
 ⟨hk.get (k0 _ (dj _)) h.box,hk.get c h.st,hk.get d h.res,hk.get e h.kn,bB h.own hk f,h.low.tn (hk.below h.low.size (λx a=>k0 x (q9A a)))⟩
def tS.below(h:tS w kb sb0x B b l s r SS p wr)(a:X wr wr wr'):tS w kb sb0x B b l s r SS p wr':=
 h.keep (aS.dY (K:=λ_=>True) a (λ_ h _=>h)) (λ_ _=>trivial) db db db (λ_ _=>trivial)
def Oj(b:aC)(l:bN)(x:Int×(Nat->Bool))(p k:Nat):pF b l x p k<=k:=kO _ _
theorem Gq(b:aC)(l:bN)(step:Int)(w:H)(a1:aI w b l)(b7:aD w)(h:cP b l (ax step 0 (b.S-1))=0):
  PH F 21 #[b.v,.int .i64 step] w (yd (qs b l step) w):=by
 have ë:=0;exact pb
def Gr(b:aC)(l:bN)(step:Int)(w:H)(c:aI w b l)(a:aD w)(h:cP b l (ax step 0 (b.S-1))=0:=by kernel_rfl):PH F 21 #[b.v,.int .i64 step] w (yd (qs b l step) w):=Gq b l step w c a h
def Y4(w:H)(s:Sl)(L:List (Int×Int))(d:Int×Int):Prop:=s.n=L.length/\L.length<=s.c/\L.length<=1000/\(0<L.length->∃b off,s.A=Y ⟨b,off,I⟩/\b<w.heap.size/\∀k,k<L.length->w (b,off+k*2)=Y (.int .i64 (L.getD k d).1)/\w (b,off+k*2+1)=Y (.int .i64 (L.getD k d).2))
def Gs(a b:M)(h:w.heap[g]?=Y (.cells #[a0,a1] t (0,0))):((w.setCell (g,0) a).setCell (g,1) b).heap[g]?=Y (.cells #[a,b] t (0,0))/\aS (λx=>x≠g) w ((w.setCell (g,0) a).setCell (g,1) b):=vy
def tT(h:w.heap[g]?=Y (.cells #[a0,a1] t (0,0))):w (g,0)=Y a0/\w (g,1)=Y a1:=by
 refine⟨?_,?_⟩<;>(rw[H.cell?,h];rfl)
def dR(a:Int×Int->Int×Int->Bool)(one:Int×Int)(L:List (Int×Int)):Int×Int:=L.foldl (λone x=>if a x one then x else one) one
theorem Jb(b:Int×Int->Int×Int->Bool)(P:Int×Int->Prop)(one d:Int×Int)(s:Sl)(L:List (Int×Int))(w:H)(a5:Y4 w s L d)(a6:P one)(V:∀x∈L,P x)
  (W:∀x y f,X w.heap.size w f->P x->P y->PH F 58 #[.agg #[.int .i64 x.1,.int .i64 x.2],.agg #[.int .i64 y.1,.int .i64 y.2]] f λe w'=>e=.returned (.bool (b x y))/\X f.heap.size f w'):
  PH F 57 #[.func (.func 58) #[] #[],.agg #[.int .i64 one.1,.int .i64 one.2],.slice s.A s.n s.c] w λe w'=>e=.returned (.agg #[.int .i64 (dR b one L).1,.int .i64 (dR b one L).2])/\X w.heap.size w w':=by
 have ø:=0;exact pa
def Y5(w:H)(s:Sl)(L:List ((Int×Int)×Int))(d:(Int×Int)×Int):Prop:=s.n=L.length/\L.length<=s.c/\L.length<=1000/\(0<L.length->∃b off,s.A=Y ⟨b,off,I⟩/\b<w.heap.size/\∀k,k<L.length->w (b,off+k*3)=Y (.int .i64 (L.getD k d).1.1)/\w (b,off+k*3+1)=Y (.int .i64 (L.getD k d).1.2)/\w (b,off+k*3+2)=Y (.int .i64 (L.getD k d).2))
def Ol(a b u2:M)(h:w.heap[g]?=Y (.cells #[a0,a1,a2] t (0,0))):(((w.setCell (g,0) a).setCell (g,1) b).setCell (g,2) u2).heap[g]?=Y (.cells #[a,b,u2] t (0,0))/\aS (λx=>x≠g) w (((w.setCell (g,0) a).setCell (g,1) b).setCell (g,2) u2):=by
 have å:=0;exact vy
def tU(h:w.heap[g]?=Y (.cells #[a0,a1,a2] t (0,0))):w (g,0)=Y a0/\w (g,1)=Y a1/\w (g,2)=Y a2:=by
 refine⟨?_,?_,?_⟩<;>(rw[H.cell?,h];rfl)
def iR(a:(Int×Int)×Int->(Int×Int)×Int->Bool)(one:(Int×Int)×Int)(L:List ((Int×Int)×Int)):(Int×Int)×Int:=L.foldl (λone x=>if a x one then x else one) one
theorem Ss(b:(Int×Int)×Int->(Int×Int)×Int->Bool)(P:(Int×Int)×Int->Prop)(one d:(Int×Int)×Int)(s:Sl)(L:List ((Int×Int)×Int))(w:H)(a5:Y5 w s L d)(a6:P one)(V:∀x∈L,P x)
  (W:∀x y f,X w.heap.size w f->P x->P y->PH F 61 #[.agg #[.int .i64 x.1.1,.int .i64 x.1.2,.int .i64 x.2],.agg #[.int .i64 y.1.1,.int .i64 y.1.2,.int .i64 y.2]] f λe w'=>e=.returned (.bool (b x y))/\X f.heap.size f w'):
  PH F 60 #[.func (.func 61) #[] #[],.agg #[.int .i64 one.1.1,.int .i64 one.1.2,.int .i64 one.2],.slice s.A s.n s.c] w λe w'=>e=.returned (.agg #[.int .i64 (iR b one L).1.1,.int .i64 (iR b one L).1.2,.int .i64 (iR b one L).2])/\X w.heap.size w w':=by
 have æ:=0;exact pa
def Y6(w:H)(s:Sl)(L:List (Sl×Int))(d:Sl×Int):Prop:=s.n=L.length/\L.length<=s.c/\L.length<=1000/\(0<L.length->∃b off,s.A=Y ⟨b,off,I⟩/\b<w.heap.size/\∀k,k<L.length->w (b,off+k*2)=Y (.slice (L.getD k d).1.A (L.getD k d).1.n (L.getD k d).1.c)/\w (b,off+k*2+1)=Y (.int .i64 (L.getD k d).2))
def Gt(a b:M)(h:w.heap[g]?=Y (.cells #[a0,a1] t (0,0))):((w.setCell (g,0) a).setCell (g,1) b).heap[g]?=Y (.cells #[a,b] t (0,0))/\aS (λx=>x≠g) w ((w.setCell (g,0) a).setCell (g,1) b):=vy
def tW(h:w.heap[g]?=Y (.cells #[a0,a1] t (0,0))):w (g,0)=Y a0/\w (g,1)=Y a1:=by
 refine⟨?_,?_⟩<;>(rw[H.cell?,h];rfl)
def dG(a:Sl×Int->Sl×Int->Bool)(one:Sl×Int)(L:List (Sl×Int)):Sl×Int:=L.foldl (λone x=>if a x one then x else one) one
theorem Jc(b:Sl×Int->Sl×Int->Bool)(P:Sl×Int->Prop)(one d:Sl×Int)(s:Sl)(L:List (Sl×Int))(w:H)(a5:Y6 w s L d)(a6:P one)(V:∀x∈L,P x)
  (W:∀x y f,X w.heap.size w f->P x->P y->PH F 75 #[.agg #[.slice x.1.A x.1.n x.1.c,.int .i64 x.2],.agg #[.slice y.1.A y.1.n y.1.c,.int .i64 y.2]] f λe w'=>e=.returned (.bool (b x y))/\X f.heap.size f w'):
  PH F 74 #[.func (.func 75) #[] #[],.agg #[.slice one.1.A one.1.n one.1.c,.int .i64 one.2],.slice s.A s.n s.c] w λe w'=>e=.returned (.agg #[.slice (dG b one L).1.A (dG b one L).1.n (dG b one L).1.c,.int .i64 (dG b one L).2])/\X w.heap.size w w':=by
 have å:=0;exact pa
def jB(x y:Int×Int):Bool:=decide (y.2<x.2)||(decide (x.2=y.2)&&decide (x.1<y.1))
def Om(x y:(Int×Int)×Int):Bool:=decide (x.2<y.2)
theorem Oo(x y:(Int×Int)×Int)(w:H):PH F 61 #[.agg #[.int .i64 x.1.1,.int .i64 x.1.2,.int .i64 x.2],.agg #[.int .i64 y.1.1,.int .i64 y.1.2,.int .i64 y.2]] w λe w'=>e=.returned (.bool (Om x y))/\X w w w':=by
 go_enter Tryz.func61,Tryz.ntmps61;go_wp2;go_ret;exact⟨rfl,((X.refl _ _).alloc (dj _) _).alloc ss _⟩
theorem DG(x y:Int×Int)(w:H):PH F 58 #[.agg #[.int .i64 x.1,.int .i64 x.2],.agg #[.int .i64 y.1,.int .i64 y.2]] w λe w'=>e=.returned (.bool (jB x y))/\X w w w':=by
 obtain⟨g,a⟩:=x;obtain⟨h,b⟩:=y;simp only;by_cases c:b<a
 .go_enter Tryz.func58,Tryz.ntmps58;go_wp2;go_ret;exact⟨bR (by simp[jB,c]),((X.refl _ _).alloc (dj _) _).alloc ss _⟩
 .have d:a<=b:=zz;by_cases h2:a=b
  .subst h2;go_enter Tryz.func58,Tryz.ntmps58;go_wp2;go_ret;exact⟨bR (by simp[jB]),((X.refl _ _).alloc (dj _) _).alloc ss _⟩
  .have f:(a==b)=false:=by simpa using h2
   go_enter Tryz.func58,Tryz.ntmps58;go_wp2;go_ret;exact⟨bR (by simp[jB,c,h2]),((X.refl _ _).alloc (dj _) _).alloc ss _⟩
def Gu(a b:Int):Int:=if a<b then -1 else if b<a then 1 else 0
theorem Lx(a:Int)(w:H):PH F 132 #[.int .i64 a] w λe w'=>e=.returned (.bool false)/\w=w':=by
 go_enter Tryz.func132,Tryz.ntmps132;go_wp2;go_ret;exact⟨rfl,rfl⟩
theorem Su(a b:Int)(w:H):PH F 113 #[.int .i64 a,.int .i64 b] w λe w'=>e=.returned (.int .i64 (Gu a b))/\w=w':=by
 go_enter Tryz.func113,Tryz.ntmps113;go_wp2_with (go_at_call 132;refine(Lx _ _).mono ?_;rintro e w' ⟨rfl,rfl⟩);all_goals go_ret
 all_goals exact⟨aW (by unfold Gu;split<;>first|rfl|omega|(split<;>first|rfl|omega)),rfl⟩
def abn:List Int->List Int->Int
 | [],[]=>0
 | [],_::_=> -1
 | _::_,[]=>1
 | x::r,y::s=>if Gu x y=0 then abn r s else Gu x y
def Lz(l m:List Int)(k:Nat)(a:k<l.length)(h2:k<m.length):abn (l.drop k) (m.drop k)=if Gu (l.getD k 0) (m.getD k 0)=0 then abn (l.drop (k+1)) (m.drop (k+1))else Gu (l.getD k 0) (m.getD k 0):=by
 rw[lL a,lL h2];have e1:l.getD k 0=l[k]:=by simp[List.getD,fg a]
 have b:m.getD k 0=m[k]:=by simp[List.getD,fg h2]
 rw[e1,b];rfl
theorem DI(s t:Sl)(l m:List Int)(w:H)(K:aN w s l)(hm:aN w t m):
  PH F 76 #[.slice s.A s.n s.c,.slice t.A t.n t.c] w λe w'=>e=.returned (.int .i64 (abn l m))/\w=w':=sa
def Oq(x y:(Sl×List Int)×Int):Bool:=decide (x.2<y.2)||(decide (x.2=y.2)&&decide (abn x.1.2 y.1.2<0))
theorem Ot(a b:Sl)(lx f:List Int)(nx c:Int)(w:H)(h:aN w a lx)(i:aN w b f):PH F 75 #[.agg #[.slice a.A a.n a.c,.int .i64 nx],.agg #[.slice b.A b.n b.c,.int .i64 c]] w λe w'=>e=.returned (.bool (Oq ((a,lx),nx) ((b,f),c)))/\X w w w':=by
 have j:=Hm h;have k:=Hm i;have l:=λg (d:aN g a lx) (h2:aN g b f)=>DI a b lx f g d h2;clear h i;by_cases d:nx<c
 .go_enter Tryz.func75,Tryz.ntmps75;go_wp2;go_ret;exact⟨bR (by simp[Oq,d]),((X.refl _ _).alloc (dj _) _).alloc ss _⟩
 .have m:c<=nx:=zz;by_cases h2:nx=c
  .subst h2;go_enter Tryz.func75,Tryz.ntmps75;go_wp2_with (go_at_call 76;refine(l _ (aZ (aZ j.out _) _) (aZ (aZ k.out _) _)).mono ?_;rintro e w' ⟨rfl,rfl⟩);go_ret;exact⟨bR (by simp[Oq]),((X.refl _ _).alloc (dj _) _).alloc ss _⟩
  .have n:(nx==c)=false:=by simpa using h2
   go_enter Tryz.func75,Tryz.ntmps75;go_wp2;go_ret;exact⟨bR (by simp[Oq,d,h2]),((X.refl _ _).alloc (dj _) _).alloc ss _⟩
section
variable{L:List gM}{M:Int}
def wrap_small{n:Int}(a:0<=n)(h2:n<=4611686018427387904):wrap64 n=n:=by unfold wrap64;omega
def Small(L:List gM)(M:Int):Prop:=∀k,0<=assoc L k/\assoc L k<=M
def Small.nil:Small [] 0:=λk=>by simp[assoc,dP]
def Small.mono{M M':Int}(h:Small L M)(a:M<=M'):Small L M':=λk=>⟨(h k).1,Int.le_trans (h k).2 a⟩
def LA(h:Small L M)(a:M<=4611686018427387903)(k0:Int×Int):Small (wD L k0) (M+1)/\∀k,assoc (wD L k0) k=assoc L k+if k=k0 then 1 else 0:=by
 have e:∀k,assoc (wD L k0) k=assoc L k+if k=k0 then 1 else 0:=λk=>by
  rw[Li];by_cases hk:k=k0
  .subst hk;rw[dE rfl,dE rfl,wrap_small (by have:=h k;omega) (by have:=h k;omega)]
  .rw[cd hk,cd hk,Int.add_zero]
 refine⟨λk=>?_,e⟩;rw[e];have:=h k;split<;>omega
def uw(b:Int):∀(c:List Int) {L:List gM} {M:Int},Small L M->M+c.length<=4611686018427387903->Small (ko b L c) (M+c.length)/\∀h n,assoc (ko b L c) (h,n)=assoc L (h,n)+if h=b then(c.count n:Int)else 0
 | [],L,M,d,_=>by
  simp only[ko,List.foldl_nil,ky,Int.natCast_zero,Int.add_zero];exact⟨d,λh n=>by simp⟩
 | a::r,L,M,d,l=>by
  simp only[fx,Int.natCast_add,Int.natCast_one]at l;obtain⟨i,h2⟩:=LA d zz (b,a);obtain⟨j,k⟩:=uw b r i zz;have e:ko b L (a::r)=ko b (wD L (b,a)) r:=rfl;rw[e];refine⟨j.mono (by simp only[fx];omega),λh n=>?_⟩;rw[k,h2,List.count_cons];by_cases g:h=b
  .subst g;by_cases f:n=a
   .subst f;simp;omega
   .have m:¬(a=n):=λe=>f e.symm;simp[f,m]
  .simp[g]
def LB(d:Nat->Bool)(k n:Nat):(ie d k).count (n:Int)=if n<k/\d n=true then 1 else 0:=by
 induction k with
 | zero=>simp[ie]
 | succ k c=>
  cases a:d k
  .rw[mV a,c];by_cases b:n=k
   .subst b;simp[a]
   .congr 1;simp;omega
  .rw[oG a,List.count_append,c,List.count_cons,List.count_nil];by_cases b:n=k
   .subst b;simp[a]
   .have e:¬((k:Int)=(n:Int)):=zz;simp[e];congr 1;simp;omega
def vJ(b:aC)(l:bN)(x:Int×(Nat->Bool)):∀(c:List Nat) {L:List gM} {M:Int},Small L M->M+12*c.length<=4611686018427387903->Small (ku b l x L c) (M+12*c.length)/\∀(h n:Nat),n<12->assoc (ku b l x L c) ((h:Int),(n:Int))=assoc L ((h:Int),(n:Int))+(c.count h:Int)*(if oN b l x h n=true then 1 else 0)
 | [],L,M,d,_=>by
  simp only[ku,List.foldl_nil,ky,Int.natCast_zero,Int.mul_zero,Int.add_zero];exact⟨d,λh n _=>by simp⟩
 | a::r,L,M,d,m=>by
  simp only[fx,Int.natCast_add,Int.natCast_one]at m;have s:(ie (oN b l x a) 12).length<=12:=kO _ _;obtain⟨i,h2⟩:=uw (a:Int) (ie (oN b l x a) 12) d zz;obtain⟨j,k⟩:=vJ b l x r (i.mono (M':=M+12) zz) zz;have e:ku b l x L (a::r)=ku b l x (ko (a:Int) L (ie (oN b l x a) 12)) r:=rfl;rw[e];refine⟨j.mono (by simp only[fx];omega),λh n g=>?_⟩;rw[k h n g,h2,LB,List.count_cons];by_cases f:h=a
  .subst f;cases q:oN b l x h n<;>simp[g];omega
  .have o:¬(a=h):=λe=>f e.symm;have p:¬((h:Int)=(a:Int)):=zz;simp[o,p]
def vK(b:aC)(l:bN):∀(xs:List (Int×(Nat->Bool))) {L:List gM} {M:Int},Small L M->M+12*l.U.length*xs.length<=4611686018427387903->Small (lP b l L xs) (M+12*l.U.length*xs.length)/\∀(h n:Nat),h<l.U.length->n<12->assoc (lP b l L xs) ((h:Int),(n:Int))=assoc L ((h:Int),(n:Int))+(oP (λx=>oN b l x h n) xs:Int)
 | [],L,M,a,_=>by
  simp only[lP,List.foldl_nil,ky,Int.natCast_zero,Int.mul_zero,Int.add_zero];exact⟨a,λh n _ _=>by simp[oP]⟩
 | x::r,L,M,a,m=>by
  have i:(12:Int)*l.U.length*(x::r).length=12*l.U.length+12*l.U.length*r.length:=by
   rw[fx,Int.natCast_add,Int.natCast_one,Int.mul_add,Int.mul_one,Int.add_comm]
  have q:(0:Int)<=12*l.U.length*r.length:=Int.mul_nonneg zz zz;rw[i]at m|-;have f:(List.range' 0 l.U.length).length=l.U.length:=List.length_range';obtain⟨c,h2⟩:=vJ b l x (List.range' 0 l.U.length) a (by rw[f];omega);rw[f]at c;obtain⟨j,k⟩:=vK b l r c zz;have e:lP b l L (x::r)=lP b l (ku b l x L (List.range' 0 l.U.length)) r:=rfl;rw[e];refine⟨j.mono zz,λh n d g=>?_⟩;rw[k h n d g,h2 h n g];have o:(List.range' 0 l.U.length).count h=1:=by
   rw[List.Nodup.count (List.nodup_range' (step:=1))];simp[List.mem_range'_1,d]
  rw[o];cases p:oN b l x h n<;>simp[oP,List.filter_cons,p];omega
def LC{b:aC}{l:bN}(d:ay b l=0)(c:l.U.length<=1000)(h n:Nat)(f:h<l.U.length)(g:n<12):assoc (fN b l) ((h:Int),(n:Int))=(oP (λx=>oN b l x h n) (aJ b l b.D.toNat):Int):=by
 have i:=nL d;have a:(0:Int)+12*l.U.length*(aJ b l b.D.toNat).length<=4611686018427387903:=by
  have:12*l.U.length*(aJ b l b.D.toNat).length<=12*1000*1296:=Nat.mul_le_mul (Nat.mul_le_mul_left _ c) i;have e:(0:Int)+12*l.U.length*(aJ b l b.D.toNat).length=((12*l.U.length*(aJ b l b.D.toNat).length:Nat):Int):=by simp
  rw[e];exact Int.ofNat_le.2 (ec this dd)
 have:=(vK b l (aJ b l b.D.toNat) Small.nil a).2 h n f g;rw[fN,this];simp[assoc,dP]
end
abbrev Ct:Type:=(Int×Int)×Int
def ye(LL:List gM)(n:Int)(h k:Nat):Ct:=(((h:Int),(k:Int)),max (assoc LL ((h:Int),(k:Int))) (n-assoc LL ((h:Int),(k:Int))))
def DJ(LL:List gM)(n:Int)(h:Nat)(a:List Nat):List Ct:=a.map (ye LL n h)
def nM(LL:List gM)(n:Int)(S:Nat)(a:List Nat):List Ct:=a.flatMap λh=>DJ LL n h (List.range' 0 S)
def DK(b:aC)(l:bN):Ct:=iR Om ((-1, -1),(aJ b l b.D.toNat).length) (nM (fN b l) (aJ b l b.D.toNat).length b.S.toNat (List.range' 0 b.U.n))
def vL(b:aC)(l:bN):Int×Int×Int×Int:=
 if cP b l true=0 then((DK b l).1.1,(DK b l).1.2,(DK b l).2,0)else(0,0,0,cP b l true)
def yg(p:Int×Int×Int×Int)(w:H)(e:Ending)(w':H):Prop:=e=.returned (.tuple #[.int .i64 p.1,.int .i64 p.2.1,.int .i64 p.2.2.1,.int .i64 p.2.2.2])/\X w w w'
def Sv(x:Ct):List M:=[.int .i64 x.1.1,.int .i64 x.1.2,.int .i64 x.2]
def UX(L:List Ct):List M:=L.flatMap Sv
def DL(L:List Ct)(x:Ct):UX (L++[x])=UX L++Sv x:=by simp[UX]
def Jd:∀(L:List Ct) (d:Ct) (i j:Nat),i<L.length->j<3->(UX L)[i*3+j]?=(Sv (L.getD i d))[j]?
 | [],_,i,j,hi,_=>by simp at hi
 | x::r,d,0,j,_,b=>by
  have a:(Sv x).length=3:=rfl;simp only[UX,la,Nat.zero_mul,kl,List.getD_cons_zero];exact List.getElem?_append_left (by rw[a];exact b)
 | x::r,d,i+1,j,hi,b=>by
  have a:(Sv x).length=3:=rfl;have c:=Jd r d i j (by simpa using hi) b;simp only[UX,la,List.getD_cons_succ]at c|-;rw[List.getElem?_append_right (by rw[a];omega),a,show(i+1)*3+j-3=i*3+j by omega];exact c
def Sw:(F.info? 119).map (λi=>(i.zero,i.size,i.bytes))=Y (Y (.agg #[.int .i64 0,.int .i64 0,.int .i64 0]),3,24):=by kernel_rfl
def Je(x:Ct):∀u∈Sv x,u.oneCell'=true:=by
 intro u a;simp only[Sv,fc,hZ,or_false]at a;rcases a with rfl|rfl|rfl<;>rfl
def LD(LL:List gM)(n:Int)(h:Nat){k S:Nat}(hk:k<S):DJ LL n h (List.range' k (S-k))=ye LL n h k::DJ LL n h (List.range' (k+1) (S-(k+1))):=by
 rw[show S-k=(S-(k+1))+1 by omega,List.range'_succ];rfl
def Gv(LL:List gM)(n:Int)(S:Nat){h U:Nat}(a:h<U):nM LL n S (List.range' h (U-h))=DJ LL n h (List.range' 0 S)++nM LL n S (List.range' (h+1) (U-(h+1))):=by
 rw[show U-h=(U-(h+1))+1 by omega,List.range'_succ];rfl
def Az(LL:List gM)(n:Int)(S:Nat)(b:List Nat):(nM LL n S b).length=b.length*S:=by
 induction b with
 | nil=>simp[nM]
 | cons a r c=>
  have:nM LL n S (a::r)=DJ LL n a (List.range' 0 S)++nM LL n S r:=rfl;rw[this,lh,c,fx,Nat.succ_mul];simp[DJ,Nat.add_comm]
theorem LF(b:aC)(l:bN)(w:H)(a1:aI w b l)(b7:aD w)(h:cP b l true=0):
  PH F 25 #[b.v] w (yg (vL b l) w):=by
 have ö:=0;exact pb
def LG(b:aC)(l:bN)(w:H)(c:aI w b l)(a:aD w)(h:cP b l true=0:=by kernel_rfl):PH F 25 #[b.v] w (yg (vL b l) w):=LF b l w c a h
section
attribute [local go_sem] Oper.semAt_some
def WE(b:aC)(l:bN):Option (Int×(Nat->Bool)):=(gT b l.C (b.S.toNat-l.C.length)).find? (fM b l)
def zV(b:aC)(l:bN):Int×Bool×Int:=
 if ay b l≠0 then(0,false,ay b l)else match WE b l with
  | some x=>((((ie x.2 12).length:Nat):Int),true,0)
  | none=>(0,false,0)
def Bv(p:Int×Bool×Int)(w:H)(e:Ending)(w':H):Prop:=e=.returned (.tuple #[.int .i64 p.1,.bool p.2.1,.int .i64 p.2.2])/\X w w w'
def yj(S:Int):∀(l:List Int) (p:Int),bS S (Y p) l=0-> -1<=p->p<S->(l.length:Int)<=S-1-p
 | [],p,_,_,_=>by simp;omega
 | n::r,p,h,c,h2=>by
  simp only[bS]at h;by_cases a:ax n 0 (S-1)=false
  .rw[dE a]at h;omega
  .rw[cd a]at h;by_cases b:decide (n<=p)=true
   .rw[dE b]at h;omega
   .rw[cd b]at h;have e:=cq.1 (by simpa using a);have:=yj S r n h zz zz;simp at b;simp only[fx];omega
def uO{S:Int}{l:List Int}(h:bS S I l=0)(b:0<=S):(l.length:Int)<=S:=by
 cases l with
 | nil=>simpa using b
 | cons n r=>
  simp only[bS]at h;by_cases a:ax n 0 (S-1)=false
  .rw[dE a]at h;omega
  .rw[cd a,cd ss]at h;have e:=cq.1 (by simpa using a);have:=yj S r n h zz zz;simp only[fx];omega
theorem AA{w:H}{g:Nat}{t1 t2 t3:Lk}{v1 v2 v3:M}(a b c:M)(d:w.heap[g]?=Y (.cells #[v1] t1 (0,0)))(h2:w.heap[g+1]?=Y (.cells #[v2] t2 (0,0)))(e:w.heap[g+1+1]?=Y (.cells #[v3] t3 (0,0))):
  (((w.setCell (g,0) a).setCell (g+1,0) b).setCell (g+1+1,0) c).heap[g]?=Y (.cells #[a] t1 (0,0))/\
  (((w.setCell (g,0) a).setCell (g+1,0) b).setCell (g+1+1,0) c).heap[g+1]?=Y (.cells #[b] t2 (0,0))/\
  (((w.setCell (g,0) a).setCell (g+1,0) b).setCell (g+1+1,0) c).heap[g+1+1]?=Y (.cells #[c] t3 (0,0))/\
  (((w.setCell (g,0) a).setCell (g+1,0) b).setCell (g+1+1,0) c).heap.size=w.heap.size/\
  aS (λx=>x≠g/\x≠g+1/\x≠g+1+1) w (((w.setCell (g,0) a).setCell (g+1,0) b).setCell (g+1+1,0) c):=by
 refine⟨?_,?_,?_,by simp[H.setCell],(((aS.refl _ _).set (λ_ h=>h.1 rfl) _).set (λ_ h=>h.2.1 rfl) _).set (λ_ h=>h.2.2 rfl) _⟩
 .exact(X.heap_setCell _ _ _ _ (by show g≠g+1+1;omega)).tn ((X.heap_setCell _ _ _ _ (by show g≠g+1;omega)).tn (Boxed.set _ d))
 .exact(X.heap_setCell _ _ _ _ (by show g+1≠g+1+1;omega)).tn (Boxed.set _ ((X.heap_setCell _ _ _ _ (by show g+1≠g;omega)).tn h2))
 .exact Boxed.set _ ((X.heap_setCell _ _ _ _ (by show g+1+1≠g+1;omega)).tn ((X.heap_setCell _ _ _ _ (by show g+1+1≠g;omega)).tn e))
def SD{α:Type}{f:α->Bool}{pre xs:List α}{x:α}(b:pre++[x] <+: xs)(a:pre.find? f=I)(c:f x=true):xs.find? f=Y x:=by
 obtain⟨t,rfl⟩:=b;rw[nh,qQB,a];simp[c]
theorem DY(b:aC)(l:bN)(w:H)(b6:aI w b l)(hG:aD w)(q:ay b l=0):
  PH F 24 #[b.v] w (Bv (zV b l) w):=by
 have æ:=0;exact pr
def DZ(b:aC)(l:bN)(w:H)(c:aI w b l)(a:aD w)(h:ay b l=0:=by kernel_rfl):
  PH F 24 #[b.v] w (Bv (zV b l) w):=DY b l w c a h
end
end Go.Proofs.YtimmnfbjckbneaaGreatDoor
