import Derived.RegionTactic
import Derived.BigRegion
import Derived.StillTailTactics
import Derived.BigQuiet
import Derived.WalkMore
import Derived.Deep.RegionHeld3
import Derived.Test.YtfcgpihkimpkcaaGreatDoorZk
set_option maxRecDepth 100000
set_option maxHeartbeats 4000000
set_option linter.all false
noncomputable section
open Go.Proofs.Tryz renaming prog->F
open Go renaming World->H,undef->Hc,execOp->Hn,Oper->Kp,TypeId->Lk,Code->Ly,Value->M,Calls->PH,Program->Ps,heap_alloc_old->QR,heap_alloc_new->Sp,resolve->ab,Operand->ae,bodyPost_ret->bd
open Go.Lib renaming hid->Hm
open Option renaming none->I,some->Y
open Go.RowKit renaming Hid->PQ,Below->X
namespace Go
def pa{p:Prop}(h:p:=by
 have a4:=Hm W;have b8:=Hm V;obtain⟨A,c7,c⟩:=s;obtain⟨rfl,b9,b0,a'⟩:=a5;have b7:=Hm a';first|have _:=ø;have b1:∀(args:Array M) (w:H),(callFunc 73 args).run F w=.ok (.enter 73 args) w:=enters_of Tryz.func73 kr rfl|have _:=å;have b1:∀(args:Array M) (w:H),(callFunc 87 args).run F w=.ok (.enter 87 args) w:=enters_of Tryz.func87 kr rfl|have b1:∀(args:Array M) (w:H),(callFunc 76 args).run F w=.ok (.enter 76 args) w:=enters_of Tryz.func76 kr rfl
 clear a' W V;simp only at b9|-;first|have _:=ø;go_enter Tryz.func72,Tryz.ntmps72;go_wp2;go_loopw [11] (λv wr=>∃(k:Nat) (a:Int×Int),k<=L.length/\v=.int .i64 k/\P a/\wr.heap[w.heap.size]?=Y (.cells #[.int .i64 a.1,.int .i64 a.2] 120 (0,0))/\wr.heap[w.heap.size+1]?=Y (.cells #[.int .i64 0,.int .i64 0] 120 (0,0))/\X w.heap.size w wr/\PQ (dR b a (L.drop k)=dR b one L)) (λv _=>L.length-(intOf v).toNat)|have _:=å;go_enter Tryz.func86,Tryz.ntmps86;go_wp2;go_loopw [11] (λv wr=>∃(k:Nat) (a:Sl×Int),k<=L.length/\v=.int .i64 k/\P a/\wr.heap[w.heap.size]?=Y (.cells #[.slice a.1.A a.1.n a.1.c,.int .i64 a.2] 147 (0,0))/\wr.heap[w.heap.size+1]?=Y (.cells #[.slice I 0 0,.int .i64 0] 147 (0,0))/\X w.heap.size w wr/\PQ (dG b a (L.drop k)=dG b one L)) (λv _=>L.length-(intOf v).toNat)|go_enter Tryz.func75,Tryz.ntmps75;go_wp2;go_loopw [11] (λv wr=>∃(k:Nat) (a:(Int×Int)×Int),k<=L.length/\v=.int .i64 k/\P a/\wr.heap[w.heap.size]?=Y (.cells #[.int .i64 a.1.1,.int .i64 a.1.2,.int .i64 a.2] 127 (0,0))/\wr.heap[w.heap.size+1]?=Y (.cells #[.int .i64 0,.int .i64 0,.int .i64 0] 127 (0,0))/\X w.heap.size w wr/\PQ (iR b a (L.drop k)=iR b one L)) (λv _=>L.length-(intOf v).toNat)
 case atStart=>
  refine⟨0,one,fi _,rfl,a6,(QR _ _ ss).tn (Sp _ _),?_,((X.refl _ _).alloc (dj _) _).alloc ss _,rfl⟩;first|have _:=ø;rw[<- aa w (.cells #[.int .i64 one.1,.int .i64 one.2] 120)]|have _:=å;rw[<- aa w (.cells #[.slice one.1.A one.1.n one.1.c,.int .i64 one.2] 147)]|rw[<- aa w (.cells #[.int .i64 one.1.1,.int .i64 one.1.2,.int .i64 one.2] 127)]
  exact Sp _ _
 case round=>
  obtain⟨k,a,hk,rfl,Z,n,q,m,N⟩:=hrel;have c3:=m.size;have b5:=(du.1 n).1;have b6:=(du.1 q).1;by_cases a1:k<L.length
  .obtain⟨x,a3⟩:∃x,L.getD k d=x:=⟨_,rfl⟩;have b':x∈L:=by rw[<- a3];simp[List.getD,fg a1]
   have a0:L.drop k=x::L.drop (k+1):=by
    rw[lL a1,<- a3];simp[List.getD,fg a1]
   obtain⟨i,off,rfl,B,K⟩:=b7.out zz;have K:=K k a1;rw[a3]at K;first|have _:=ø;obtain⟨C,E⟩:=K;have c0:wr.cell? ⟨i,off+k*2,I⟩=Y (.int .i64 x.1):=(m.cell (p:=⟨i,_,I⟩) B).tn C;have c1:wr.cell? ⟨i,off+k*2+1,I⟩=Y (.int .i64 x.2):=(m.cell (p:=⟨i,_,I⟩) B).tn E|have _:=å;obtain⟨C,E⟩:=K;have c0:wr.cell? ⟨i,off+k*2,I⟩=Y (.slice x.1.A x.1.n x.1.c):=(m.cell (p:=⟨i,_,I⟩) B).tn C;have c1:wr.cell? ⟨i,off+k*2+1,I⟩=Y (.int .i64 x.2):=(m.cell (p:=⟨i,_,I⟩) B).tn E|obtain⟨C,E,p2⟩:=K;have c0:wr.cell? ⟨i,off+k*3,I⟩=Y (.int .i64 x.1.1):=(m.cell (p:=⟨i,_,I⟩) B).tn C;have c1:wr.cell? ⟨i,off+k*3+1,I⟩=Y (.int .i64 x.1.2):=(m.cell (p:=⟨i,_,I⟩) B).tn E;have c2:wr.cell? ⟨i,off+k*3+2,I⟩=Y (.int .i64 x.2):=(m.cell (p:=⟨i,_,I⟩) B).tn p2
   have c4:i<wr.heap.size:=zz;first|have _:=æ;clear C E p2|clear C E
   have a2:=b8.out x b';first|have _:=ø;have u:=λf (Q:X w.heap.size w f)=>a4.out x a f Q a2 Z;obtain⟨S,T⟩:=tT n|have _:=å;have u:=λf (Q:X w.heap.size w f)=>a4.out x a f Q a2 Z;obtain⟨S,T⟩:=tW n|have u:=λf (Q:X w.heap.size w f)=>a4.out x a f Q a2 Z;obtain⟨S,T,o2⟩:=tU n
   have c5:∀j,wr.frozen? ⟨w.heap.size,j,I⟩=false:=λj=>by simp[H.frozen?,n]
   have a8:=Hm n;have G:=Hm q;have J:=Hm a0;have l:=Hm m;clear n q a0 m a3;cases o:b x a
   first
   |have _:=ø
    all_goals
     rw[o]at u;have t:=Hm o;clear o;go_wp2_with (go_at_call 73;refine(u _ (aP l.out (dj _) _)).mono ?_;rintro e z ⟨rfl,g⟩;obtain⟨a9,b2⟩:=aU g;have b3:wr.heap.size<z.heap.size:=(by have:=g.size;simp only[aa]at this;omega);have b4:w.heap.size<z.heap.size:=zz)
   |have _:=å
    all_goals
     rw[o]at u;have t:=Hm o;clear o;go_wp2_with (go_at_call 87;refine(u _ (aP l.out (dj _) _)).mono ?_;rintro e z ⟨rfl,g⟩;obtain⟨a9,b2⟩:=aU g;have b3:wr.heap.size<z.heap.size:=(by have:=g.size;simp only[aa]at this;omega);have b4:w.heap.size<z.heap.size:=zz)
   |all_goals
     rw[o]at u;have t:=Hm o;clear o;go_wp2_with (go_at_call 76;refine(u _ (aP l.out (dj _) _)).mono ?_;rintro e z ⟨rfl,g⟩;obtain⟨a9,b2⟩:=aU g;have b3:wr.heap.size<z.heap.size:=(by have:=g.size;simp only[aa]at this;omega);have b4:w.heap.size<z.heap.size:=zz)
   .go_roundw
    case rel=>
     refine⟨k+1,a,zz,by go_num,Z,(g.block _ so).tn ((QR _ _ b5).tn a8.out),(g.block _ so).tn ((QR _ _ b6).tn G.out),(aP l.out (dj _) _).tn (g.mono so),?_⟩;first|have _:=ø;have e:dR b a (L.drop k)=dR b a (L.drop (k+1)):=by rw[J.out];simp[dR,t.out]|have _:=å;have e:dG b a (L.drop k)=dG b a (L.drop (k+1)):=by rw[J.out];simp[dG,t.out]|have e:iR b a (L.drop k)=iR b a (L.drop (k+1)):=by rw[J.out];simp[iR,t.out]
     rw[PQ,<- e];exact N.out
    case measure=>simp[intOf];omega
   .have g1:=(g.block w.heap.size so).tn ((QR _ _ b5).tn a8.out);have g2:=(g.block (w.heap.size+1) so).tn ((QR _ _ b6).tn G.out);first|have _:=ø;obtain⟨r,m2⟩:=Gs (.int .i64 x.1) (.int .i64 x.2) g1;have U:=(aP l.out (dj _) (.cells #[.int .i64 x.1,.int .i64 x.2] 120)).tn (g.mono so)|have _:=å;obtain⟨r,m2⟩:=Gt (.slice x.1.A x.1.n x.1.c) (.int .i64 x.2) g1;have U:=(aP l.out (dj _) (.cells #[.slice x.1.A x.1.n x.1.c,.int .i64 x.2] 147)).tn (g.mono so)|obtain⟨r,m2⟩:=Ol (.int .i64 x.1.1) (.int .i64 x.1.2) (.int .i64 x.2) g1;have U:=(aP l.out (dj _) (.cells #[.int .i64 x.1.1,.int .i64 x.1.2,.int .i64 x.2] 127)).tn (g.mono so)
    go_roundw
    case rel=>
     refine⟨k+1,x,zz,by go_num,a2,r,m2.get zz g2,U.tn (m2.below U.size (λy a7=>zz)),?_⟩;first|have _:=ø;have e:dR b a (L.drop k)=dR b x (L.drop (k+1)):=by rw[J.out];simp[dR,t.out]|have _:=å;have e:dG b a (L.drop k)=dG b x (L.drop (k+1)):=by rw[J.out];simp[dG,t.out]|have e:iR b a (L.drop k)=iR b x (L.drop (k+1)):=by rw[J.out];simp[iR,t.out]
     rw[PQ,<- e];exact N.out
    case measure=>simp[intOf];omega
  .obtain rfl:k=L.length:=zz
   first
   |have _:=ø
    have e1:a=dR b one L:=by
     have:=N.out;rw[lv (dj _)]at this;exact this
    have O:=Hm e1;obtain⟨S,T⟩:=tT n;obtain⟨r0,r1⟩:=tT q
   |have _:=å
    have e1:a=dG b one L:=by
     have:=N.out;rw[lv (dj _)]at this;exact this
    have O:=Hm e1;obtain⟨S,T⟩:=tW n;obtain⟨r0,r1⟩:=tW q
   |have e1:a=iR b one L:=by
     have:=N.out;rw[lv (dj _)]at this;exact this
    have O:=Hm e1;obtain⟨S,T,o2⟩:=tU n;obtain⟨r0,r1,r2⟩:=tU q
   have c6:∀j,wr.frozen? ⟨w.heap.size+1,j,I⟩=false:=λj=>by simp[H.frozen?,q]
   have G:=Hm q;have l:=Hm m;clear e1 n q m N;go_wp2;first|have _:=ø;obtain⟨r,m2⟩:=Gs (.int .i64 a.1) (.int .i64 a.2) G.out;obtain⟨R,n1⟩:=tT r;rw[<- O.out];refine bd (v:=.agg #[.int .i64 a.1,.int .i64 a.2]) ?_ rfl ⟨rfl,l.out.tn (m2.below l.out.size (λy a7=>zz))⟩;simp[results,Tryz.results72,go_sem,R,n1]|have _:=å;obtain⟨r,m2⟩:=Gt (.slice a.1.A a.1.n a.1.c) (.int .i64 a.2) G.out;obtain⟨R,n1⟩:=tW r;rw[<- O.out];refine bd (v:=.agg #[.slice a.1.A a.1.n a.1.c,.int .i64 a.2]) ?_ rfl ⟨rfl,l.out.tn (m2.below l.out.size (λy a7=>zz))⟩;simp[results,Tryz.results86,go_sem,R,n1]|obtain⟨r,m2⟩:=Ol (.int .i64 a.1.1) (.int .i64 a.1.2) (.int .i64 a.2) G.out;obtain⟨R,n1,n2⟩:=tU r;rw[<- O.out];refine bd (v:=.agg #[.int .i64 a.1.1,.int .i64 a.1.2,.int .i64 a.2]) ?_ rfl ⟨rfl,l.out.tn (m2.below l.out.size (λy a7=>zz))⟩;simp[results,Tryz.results75,go_sem,R,n1,n2]):p:=h
def pb{p:Prop}(h:p:=by
 have b6:=Hm a1;have g3:=Hm b7
 first
 |revert ø;intro ø
  have a7:PQ (vH b l step=(lY (oP (λx=>x.2 step.toNat) (aJ b l b.D.toNat)) (aJ b l b.D.toNat).length,0)):=by unfold vH;rw[PQ,dE h]
  obtain⟨E,h2,h3⟩:=Bt h;obtain⟨t1,t2,-⟩:=cS (bP E).1;have i6:=λd (E:aI d b l) (h2:aD d) (sb0x:Nat) (O9:d.cell? ⟨sb0x,0,I⟩=Y (.int .i64 step)) (l0:sb0x<d.heap.size)=>qp b l 65 #[.pointer (Y ⟨sb0x,0,I⟩)] Dw (ax step 0 (b.S-1)) d E h2 (λV=>Ay b zz zz step sb0x d O9 l0) h;have d8:=nL E;have g0:0<(aJ b l b.D.toNat).length:=List.length_pos_iff.2 h3;obtain⟨f1,f2⟩:=cq.1 h2;obtain⟨p,rfl⟩:∃p:Nat,step=(p:Int):=⟨step.toNat,zz⟩;have g9:p<12:=zz;simp only[qNB]at a7;unfold jo at i6;generalize aJ b l b.D.toNat=SS at i6 a7 d8 g0;have E0:=λ(s:Sl) (m:Option Nat) (n:Int) w'=>xZ b s m n w';clear a1 b7 h E h2 h3 f1 f2 t1 t2;unfold aC.v uC at i6;unfold uC at E0;unfold aC.v;go_enter Tryz.func31,Tryz.ntmps31;go_wp2_with (go_at_call 61;refine(i6 _ (aq (aq b6.out _) _) (ai (ai g3.out _) _) (w.heap.size+1) (by rw[<- aa w (aE b 31)];exact one_cell (Sp _ _)) ss).mono ?_;rintro e d ⟨A,c,r,rfl,u,a9,d4,N⟩);obtain⟨g,rfl⟩:∃g,A=Y ⟨g,0,I⟩:=by
   rcases u.2 with⟨E,h2⟩|⟨g,cap,g5,E,-⟩
   .omega
   .simp only[lA]at E;exact⟨g,E.1⟩
  have b0:Gk (d.alloc (.cells (iG b ⟨Y (g,0),SS.length,c⟩ (Y r)) 109)) d b ⟨Y (g,0),SS.length,c⟩ (Y r):=Sp _ _;have d1:=u.alloc (.cells (iG b ⟨Y ⟨g,0,I⟩,SS.length,c⟩ (Y r)) 109);have B1:X w w (d.alloc (.cells (iG b ⟨Y (g,0),SS.length,c⟩ (Y r)) 109)):=aP (cB N) (dj _) _;have g6:(d.alloc (.cells (iG b ⟨Y (g,0),SS.length,c⟩ (Y r)) 109)).heap[w.heap.size+1]?=Y (.cells #[.int .i64 p] 3 (0,0)):=(QR _ _ (by have:=N.size;simp only[aa]at this;omega)).tn ((N.block _ ss).tn (by rw[<- aa w (aE b 31)];exact Sp _ _));have a3:(w:Nat)+1<d:=by have:=N.size;simp only[aa]at this;omega
  clear u a9 N i6;change Ly.wp _ _ _ _ (d.alloc (.cells (iG b ⟨Y ⟨g,0,I⟩,SS.length,c⟩ (Y r)) 109));have a0:d.heap.size<(d.alloc (.cells (iG b ⟨Y (g,0),SS.length,c⟩ (Y r)) 109)).heap.size:=by simp
  generalize(d.alloc (.cells (iG b ⟨Y ⟨g,0,I⟩,SS.length,c⟩ (Y r)) 109))=R at b0 d1 B1 g6 a0|-;have i1:=Hm b0;have i2:=Hm d1;have a':=Hm B1;have J3:=Hm g6;clear b0 d1 B1 g6;go_loopw [8,23] (λn v wr=>∃i:Nat,i<=SS.length/\n=.int .i64 (oP (λx=>x.2 p) (SS.take i))/\v=.int .i64 i/\X R.heap.size R wr) (λ_ v _=>SS.length-(intOf v).toNat)
  case atStart=>exact⟨0,zz,rfl,rfl,X.refl _ _⟩
 |revert å;intro å
  have a7:PQ (iM b l=(uN (aJ b l b.D.toNat),0)):=by unfold iM;rw[PQ,dE h]
  obtain⟨V, -, h3⟩:=Bt h;have Z:=qp b l 62 #[] lT true (w.alloc (aE b 31)) (aq b6.out _) (ai g3.out _) (λ_=>gW b _) h;have d8:=nL V;have g0:0<(aJ b l b.D.toNat).length:=List.length_pos_iff.2 h3;unfold jo at Z;generalize aJ b l b.D.toNat=SS at Z a7 d8 g0;clear a1 b7 h V h3;unfold aC.v aE uC at Z;unfold aC.v;go_enter Tryz.func29,Tryz.ntmps29;go_wp2_with (go_at_call 61;refine Z.mono ?_;rintro e d ⟨A,c,r,rfl,u,a9,d4,N⟩);obtain⟨g,rfl⟩:∃g,A=Y ⟨g,0,I⟩:=by
   rcases u.2 with⟨E,h2⟩|⟨g,cap,g5,E,-⟩
   .omega
   .simp only[lA]at E;exact⟨g,E.1⟩
  have d1:=u.alloc (.cells (iG b ⟨Y ⟨g,0,I⟩,SS.length,c⟩ (Y r)) 109);have B1:X w.heap.size w (d.alloc (.cells (iG b ⟨Y ⟨g,0,I⟩,SS.length,c⟩ (Y r)) 109)):=aP (di N) (dj _) _;clear u a9 N;change Ly.wp _ _ _ _ (d.alloc (.cells (iG b ⟨Y ⟨g,0,I⟩,SS.length,c⟩ (Y r)) 109));generalize(d.alloc (.cells (iG b ⟨Y ⟨g,0,I⟩,SS.length,c⟩ (Y r)) 109))=R at d1 B1|-;have i2:=Hm d1;have a':=Hm B1;clear d1 B1;obtain⟨i0,hi,m3,m4,m5⟩:=info_parts vD;go_loopw [6,20] (λv1 v wr=>∃(i:Nat) (A1:Option Addr) (Q:Nat),i<=SS.length/\v=.int .i64 i/\v1=.slice A1 i Q/\wr.ownsRow R.heap.size 3 1 v1 i (((SS.take i).map (·.1)).map (M.int .i64))/\X R.heap.size R wr) (λ_ v _=>SS.length-(intOf v).toNat)
  case atStart=>exact⟨0,I,0,zz,rfl,rfl,H.ownsRow_nil _ _ _ _,X.refl _ _⟩
 |revert æ;intro æ
  have a7:PQ (qq b l=(ie (sw (fN b l) b.U.n) b.S.toNat,0)):=by unfold qq;rw[PQ,dE h]
  have Z3:b.U.n<=1000:=by rw[a1.U.1];exact a1.U.2.2.1
  obtain⟨t1,t2,-⟩:=cS (bP (Bt h).1).1;have Z:=qp b l 62 #[] lT true (w.alloc (aE b 31)) (aq b6.out _) (ai g3.out _) (λ_=>gW b _) h;unfold jo at Z;generalize aJ b l b.D.toNat=SS at Z;generalize fN b l=LL at Z a7;clear a1 b7 h;unfold aC.v aE uC at Z;unfold aC.v;go_enter Tryz.func34,Tryz.ntmps34;go_wp2;go_step3;go_wp2_with (fail);try go_step3
  go_wp2_with (go_at_call 61;refine Z.mono ?_;rintro e d ⟨A,c,r,rfl,u,a9,d4,N⟩;obtain⟨f6,f7⟩:=aU N;have G2:w.heap.size<d.heap.size:=(by have:=N.size;simp only[aa]at this;omega));go_step3;go_wp2;have b0:Gk (d.alloc (.cells (iG b ⟨A,SS.length,c⟩ (Y r)) 109)) d b ⟨A,SS.length,c⟩ (Y r):=Sp _ _;have f':jm (d.alloc (.cells (iG b ⟨A,SS.length,c⟩ (Y r)) 109)) r LL:=(QR _ _ (du.1 a9).1).tn a9;have B1:X w w (d.alloc (.cells (iG b ⟨A,SS.length,c⟩ (Y r)) 109)):=aP (di N) (dj _) _;have f5:aK (d.alloc (.cells (iG b ⟨A,SS.length,c⟩ (Y r)) 109)) w 31 b:=(QR _ _ zz).tn ((N.block _ ss).tn (Sp _ _));have V2:r<d.heap.size:=(du.1 a9).1;clear u a9 N f6 f7;change Ly.wp _ _ _ _ (d.alloc (.cells (iG b ⟨A,SS.length,c⟩ (Y r)) 109));have a0:d.heap.size<(d.alloc (.cells (iG b ⟨A,SS.length,c⟩ (Y r)) 109)).heap.size:=by simp
  generalize(d.alloc (.cells (iG b ⟨A,SS.length,c⟩ (Y r)) 109))=R at b0 f' B1 f5 a0|-;have i1:=Hm b0;have n6:=Hm f';have a':=Hm B1;have k9:=Hm f5;clear b0 f' B1 f5;obtain⟨i0,hi,V7,V8,G3⟩:=info_parts vD;go_loopw [6,19] (λv1 v wr=>∃(k:Nat) (A1:Option Addr) (Q:Nat),(k:Int)<=b.S/\v=.int .i64 k/\v1=.slice A1 (ie (sw LL b.U.n) k).length Q/\wr.ownsRow R.heap.size 3 1 v1 (ie (sw LL b.U.n) k).length ((ie (sw LL b.U.n) k).map (M.int .i64))/\X R.heap.size R wr) (λ_ v _=>b.S.toNat-(intOf v).toNat)
  case atStart=>exact⟨0,I,0,zz,rfl,rfl,H.ownsRow_nil _ _ _ _,X.refl _ _⟩
 |revert ë;intro ë
  have a7:PQ (qs b l step=(yc b l step.toNat ((l.U.length:Nat),0) (aJ b l b.D.toNat),0)):=by unfold qs;rw[PQ,dE h]
  have p7:b.U.n<=1000:=by rw[a1.U.1];exact a1.U.2.2.1
  have b9:=Hm a1.U.1;obtain⟨V,h2,h3⟩:=Bt h;have h9:=Hm V;obtain⟨t1,t2,-⟩:=cS (bP V).1;have Q:(((w.alloc (aE b 31)).alloc (.cells #[.int .i64 step] 3)).alloc (.cells #[.int .i64 0,.int .i64 0] 23)).cell? ⟨w.heap.size+1,0,I⟩=Y (.int .i64 step):=one_cell ((QR _ _ ss).tn (by rw[<- aa w (aE b 31)];exact Sp _ _));have Z:=qp b l 70 #[.pointer (Y ⟨w.heap.size+1,0,I⟩)] Dz (ax step 0 (b.S-1)) (((w.alloc (aE b 31)).alloc (.cells #[.int .i64 step] 3)).alloc (.cells #[.int .i64 0,.int .i64 0] 23)) (aq (aq (aq b6.out _) _) _) (ai (ai (ai g3.out _) _) _) (λ_=>xX b zz zz step (w.heap.size+1) _ Q ss) h;have g1:∀x∈aJ b l b.D.toNat,b.lo<=x.1/\x.1<=b.hi:=λx O=>qn (List.mem_filter.1 O).1;have d8:=nL V;have g0:0<(aJ b l b.D.toNat).length:=List.length_pos_iff.2 h3;obtain⟨f1,f2⟩:=cq.1 h2;obtain⟨p,rfl⟩:∃p:Nat,step=(p:Int):=⟨step.toNat,zz⟩;have g9:p<12:=zz;simp only[qNB]at a7;unfold jo at Z;generalize aJ b l b.D.toNat=SS at Z a7 g1 d8 g0;have n0:=Hm g1;clear a1 b7 h V h2 h3 f1 f2 Q g1;unfold aC.v aE uC at Z;unfold aC.v;go_enter Tryz.func35,Tryz.ntmps35;go_wp2_with (go_at_call 61;refine Z.mono ?_;rintro e d ⟨A,c,r,rfl,u,a9,d4,N⟩;obtain⟨f6,f7⟩:=aU N;have G2:w.heap.size+1+1<d.heap.size:=(by have:=N.size;simp only[aa]at this;omega);have G3:w.heap.size<d.heap.size:=zz);obtain⟨g,rfl⟩:∃g,A=Y ⟨g,0,I⟩:=by
   rcases u.2 with⟨E,h2⟩|⟨g,cap,g5,E,-⟩
   .omega
   .simp only[lA]at E;exact⟨g,E.1⟩
  have g7:g<d.heap.size:=(u.lt g rfl).2;have x9:=(u.lt g rfl).1;simp only[aa]at x9;obtain⟨B,O5⟩:∃B,B=w.heap.size+1+1+1:=⟨_,rfl⟩;have e7:tS w d.heap.size (w.heap.size+1) B b l ⟨Y ⟨g,0,I⟩,SS.length,c⟩ r SS p (d.alloc (.cells (iG b ⟨Y ⟨g,0,I⟩,SS.length,c⟩ (Y r)) 109)):=by
   have k1:∀x,x<w.heap.size+3->(d.alloc (.cells (iG b ⟨Y ⟨g,0,I⟩,SS.length,c⟩ (Y r)) 109)).heap[x]?=(((w.alloc (aE b 31)).alloc (.cells #[.int .i64 p] 3)).alloc (.cells #[.int .i64 0,.int .i64 0] 23)).heap[x]?:=λx O=>(QR _ _ zz).tn (N.block x so);refine⟨?_,?_,?_,Sp _ _,?_,aP (jI N) (dj _) _⟩
   .exact(k1 _ zz).tn ((QR _ _ so).tn ((QR _ _ ss).tn (Sp _ _)))
   .exact(k1 _ zz).tn ((QR _ _ ss).tn (by rw[<- aa w (aE b 31)];exact Sp _ _))
   .exact(k1 _ zz).tn (by rw[<- aa w (aE b 31),<- aa (w.alloc (aE b 31)) (.cells #[.int .i64 p] 3)];exact Sp _ _)
   .rw[O5];have:=u.alloc (.cells (iG b ⟨Y ⟨g,0,I⟩,SS.length,c⟩ (Y r)) 109);simp only[aa]at this;exact this
  clear u a9 N f6 f7;change Ly.wp _ _ _ _ ((d.alloc (.cells (iG b ⟨Y ⟨g,0,I⟩,SS.length,c⟩ (Y r)) 109)).alloc (.cells #[.int .i64 b.U.n,.int .i64 0] 23));have a0:(d.alloc (.cells (iG b ⟨Y ⟨g,0,I⟩,SS.length,c⟩ (Y r)) 109)).heap.size=d.heap.size+1:=by simp
  generalize(d.alloc (.cells (iG b ⟨Y ⟨g,0,I⟩,SS.length,c⟩ (Y r)) 109))=R at e7 a0|-;have n2:=e7.below ((X.refl _ _).alloc (dj _) (.cells #[.int .i64 b.U.n,.int .i64 0] 23));have u5:(R.alloc (.cells #[.int .i64 b.U.n,.int .i64 0] 23)).heap[d.heap.size+1]?=Y (.cells #[.int .i64 b.U.n,.int .i64 0] 23 (0,0)):=by rw[<- a0];exact Sp _ _
  generalize(R.alloc (.cells #[.int .i64 b.U.n,.int .i64 0] 23))=wb at n2 u5|-;have k8:=Hm n2;have K9:=Hm u5;clear e7 n2 u5 a0;go_loopw [30] (λv wr=>∃(i:Nat) (z:Int×Int),i<=SS.length/\v=.int .i64 i/\tS w d.heap.size (w.heap.size+1) B b l ⟨Y ⟨g,0,I⟩,SS.length,c⟩ r SS p wr/\wr.heap[d.heap.size+1]?=Y (.cells #[.int .i64 z.1,.int .i64 z.2] 23 (0,0))/\PQ (yc b l p z (SS.drop i)=yc b l p ((l.U.length:Nat),0) SS)) (λv _=>SS.length-(intOf v).toNat)
  case atStart=>exact⟨0,((l.U.length:Nat),0),zz,rfl,k8.out,by rw[<- b9.out];exact K9.out,rfl⟩
 |revert ï;intro ï
  have i3:=Hm hf;have h9:=Hm d4;have l3:PQ (fN b l=lP b l [] (aJ b l b.D.toNat)):=rfl;have V:=λd (E:aI d b l) (h2:aD d)=>cG b l d E h2;have d9:=λd (E:aI d b l)=>sQ b l d4 d E;have u8:=λd (E:X w.heap.size w d)=>i3.out d E;have g1:∀x∈aJ b l b.D.toNat,b.lo<=x.1/\x.1<=b.hi:=λx O=>qn ((List.mem_filter.1 O).1);have d8:(aJ b l b.D.toNat).length<=1296:=by
   obtain⟨t1,t2,t3,t4,t5,t6,t7,t8,t9,k6,-⟩:=cS (bP d4).1;exact ec (ln _ _) (nH t2 k6 zz)
  unfold jo;generalize aJ b l b.D.toNat=SS at d9 g1 d8 h0 l3|-;have n0:=Hm g1;have g0:0<SS.length:=List.length_pos_iff.2 h0;have hne0:((SS.length:Int)==0)=false:=by simp;omega
  simp only[d4]at V;clear d4 h0 a1 b7 hf g1;have U':=@run_makeMap F;have Q1:∀(args:Array M) (w:H),(callFunc gf args).run F w=.ok (.enter gf args) w:=eg;unfold aC.v at V u8 d9|-;go_enter Tryz.func61,Tryz.ntmps61
  go_wp2_with (first
   | (go_at_call 13;refine(V _ (aq (aq b6.out _) _) (ai (ai g3.out _) _)).mono ?_;rintro e d ⟨rfl,N⟩;obtain⟨f6,f7⟩:=aU N;have hz1:w.heap.size+2<=d.heap.size:=(by have:=N.size;simp only[aa]at this;omega);have V4:w.heap.size<d.heap.size:=zz;have V5:w.heap.size+1<d.heap.size:=zz;have B1:X w.heap.size w d:=(((X.refl _ w).alloc (dj _) _).alloc ss _).tn (N.mono so))
   | (go_at_fn gf;refine(u8 _ (by exact bt)).mono ?_;rintro e w2 ⟨rfl,f4⟩;obtain⟨g6,r9⟩:=aU f4;have B2:X w.heap.size w w2:=(((B1.alloc B1.size _).alloc so _)).tn (f4.mono so);have hz4:d.heap.size+2<=w2.heap.size:=(by have:=f4.size;simp only[aa]at this;omega);have V6:d.heap.size+1<w2.heap.size:=zz;have hz8:w.heap.size+1<w2.heap.size:=zz)
   | (go_at_call 60;refine(d9 _ (b6.out.below B2)).mono ?_;rintro e w3 ⟨A,c,rfl,u,i7⟩;obtain⟨O',Q'⟩:=aU i7;have hz6:=i7.size;have hz7:d.heap.size+1<w3.heap.size:=zz;have hz9:w.heap.size+1<w3.heap.size:=zz;have i4:=Hm u;clear u))
  obtain⟨g,rfl⟩:∃g,A=Y ⟨g,0,I⟩:=by
   rcases i4.out.2 with⟨E,h2⟩|⟨g,cap,g5,E,-⟩
   .omega
   .simp only[lA]at E;exact⟨g,E.1⟩
  have e7:lQ w w.heap.size (d.heap.size+1) d.heap.size w2.heap.size b ⟨Y ⟨g,0,I⟩,SS.length,c⟩ SS (w3.setCell ⟨d.heap.size+1,13,I⟩ (.slice (Y ⟨g,0,I⟩) SS.length c)) []:=by
   have k3:∀x,x<w2.heap.size->w3.heap[x]?=w2.heap[x]?:=λx O=>i7.block x O;have k2:∀x,x<d.heap.size+2->w2.heap[x]?=((d.alloc (.map #[] 0)).alloc (.cells (iG b iy (Y d.heap.size)) 109)).heap[x]?:=λx O=>f4.block x so;have v3:∀x,x≠d.heap.size+1->(w3.setCell ⟨d.heap.size+1,13,I⟩ (.slice (Y ⟨g,0,I⟩) SS.length c)).heap[x]?=w3.heap[x]?:=λx O=>X.heap_setCell _ _ _ _ O;have q0:d.heap[w.heap.size]?=Y (aE b 31):=(N.block _ so).tn ((QR _ _ ss).tn (Sp _ _));have q1:d.heap[w.heap.size+1]?=Y (.cells (iG bI iy I) 109 (0,0)):=(N.block _ ss).tn (by rw[<- aa w (aE b 31)];exact Sp _ _);have q2:((d.alloc (.map #[] 0)).alloc (.cells (iG b iy (Y d.heap.size)) 109)).heap[d.heap.size+1]?=Y (.cells (iG b iy (Y d.heap.size)) 109 (0,0)):=by rw[<- aa d (.map #[] 0)];exact Sp _ _
   have q3:((d.alloc (.map #[] 0)).alloc (.cells (iG b iy (Y d.heap.size)) 109)).heap[d.heap.size]?=Y (.map #[] 0):=(QR _ _ ss).tn (Sp _ _);have q4:=(k3 _ V6).tn ((k2 _ zz).tn q2);have q5:=bJ (i:=13) q4 (.slice (Y ⟨g,0,I⟩) SS.length c);refine⟨?_,?_,q5,?_,?_,?_⟩
   .exact(v3 _ zz).tn ((k3 _ zz).tn ((k2 _ zz).tn ((QR _ _ so).tn ((QR _ _ V4).tn q0))))
   .exact(v3 _ zz).tn ((k3 _ zz).tn ((k2 _ zz).tn ((QR _ _ so).tn ((QR _ _ V5).tn q1))))
   .refine bB i4.out (K:=λx=>x≠d.heap.size+1) ((aS.refl _ _).set (p:=⟨d.heap.size+1,13,I⟩) (λ_ h=>h rfl) _) (λg' r'=>?_);have:=(i4.out.lt g' r').1;omega
   .exact(v3 _ zz).tn ((k3 _ zz).tn ((k2 _ zz).tn q3))
   .exact(B2.tn (i7.mono B2.size)).setCell so _
  have k8:=Hm e7;have g7:g<w3.heap.size:=(i4.out.lt g rfl).2;have x9:w2.heap.size<=g:=(i4.out.lt g rfl).1;generalize(w3.setCell ⟨d.heap.size+1,13,I⟩ (.slice (Y ⟨g,0,I⟩) SS.length c))=R at e7 k8|-;clear e7 f6 f7 g6 r9 O' Q' N f4 i7 U' Q1 V d9 u8;have W':=Hm (b6.out.below B1);have b9:=Hm b6.out.U.1;have p7:b.U.n<=1000:=by rw[b9.out];exact b6.out.U.2.2.1
  go_loopw [41] (λv wr=>∃(i:Nat) (L:List gM),i<=SS.length/\v=.int .i64 i/\lQ w w.heap.size (d.heap.size+1) d.heap.size w2.heap.size b ⟨Y ⟨g,0,I⟩,SS.length,c⟩ SS wr L/\PQ (lP b l L (SS.drop i)=lP b l [] SS)) (λv _=>SS.length-(intOf v).toNat)
  case atStart=>exact⟨0,[],zz,rfl,k8.out,rfl⟩
 |have a7:PQ (vL b l=((DK b l).1.1,(DK b l).1.2,(DK b l).2,0)):=by unfold vL;rw[PQ,dE h]
  have p7:b.U.n<=1000:=by rw[a1.U.1];exact a1.U.2.2.1
  have b9:=Hm a1.U.1;obtain⟨V, -, h3⟩:=Bt h;obtain⟨t1,t2,-⟩:=cS (bP V).1;have p5:1<=b.U.n/\b.U.n<=4:=by
   have l0:=(bP V).2.2.1;unfold fH at l0;split at l0
   .rename_i f9;have:=cq.1 f9;rw[b9.out];omega
   .omega
  obtain⟨p5,O7⟩:=p5;have l4:∀h k:Nat,h<b.U.n->(k:Int)<b.S->0<=assoc (fN b l) ((h:Int),(k:Int))/\assoc (fN b l) ((h:Int),(k:Int))<=(aJ b l b.D.toNat).length:=λh k f9 hk=>by
   rw[LC V (by rw[<- b9.out];exact p7) h k (by rw[<- b9.out];exact f9) zz];have:oP (λx=>oN b l x h k) (aJ b l b.D.toNat)<=(aJ b l b.D.toNat).length:=ln _ _;omega
  have Z:=qp b l 62 #[] lT true (w.alloc (aE b 31)) (aq b6.out _) (ai g3.out _) (λ_=>gW b _) h;have d8:=nL V;have n3:PQ (DK b l=iR Om ((-1, -1),(aJ b l b.D.toNat).length) (nM (fN b l) (aJ b l b.D.toNat).length b.S.toNat (List.range' 0 b.U.n))):=rfl;unfold jo at Z;generalize aJ b l b.D.toNat=SS at Z d8 l4 n3;generalize fN b l=LL at Z l4 n3;have J4:=Hm l4;clear a1 b7 h V h3 l4;unfold aC.v aE uC at Z;unfold aC.v;go_enter Tryz.func39,Tryz.ntmps39;go_wp2_with (go_at_call 61;refine Z.mono ?_;rintro e d ⟨A,c,r,rfl,u,a9,d4,N⟩;obtain⟨f6,f7⟩:=aU N;have G2:w.heap.size<d.heap.size:=(by have:=N.size;simp only[aa]at this;omega));have b0:Gk (d.alloc (.cells (iG b ⟨A,SS.length,c⟩ (Y r)) 109)) d b ⟨A,SS.length,c⟩ (Y r):=Sp _ _;have f':jm (d.alloc (.cells (iG b ⟨A,SS.length,c⟩ (Y r)) 109)) r LL:=(QR _ _ (du.1 a9).1).tn a9;have B1:X w w (d.alloc (.cells (iG b ⟨A,SS.length,c⟩ (Y r)) 109)):=aP (di N) (dj _) _;have f5:aK (d.alloc (.cells (iG b ⟨A,SS.length,c⟩ (Y r)) 109)) w 31 b:=(QR _ _ zz).tn ((N.block _ ss).tn (Sp _ _));have V2:r<d.heap.size:=(du.1 a9).1;clear u a9 N f6 f7;change Ly.wp _ _ _ _ ((d.alloc (.cells (iG b ⟨A,SS.length,c⟩ (Y r)) 109)).alloc (.cells #[.int .i64 (-1),.int .i64 (-1),.int .i64 SS.length] 127));have a0:(d.alloc (.cells (iG b ⟨A,SS.length,c⟩ (Y r)) 109)).heap.size=d.heap.size+1:=by simp
  generalize(d.alloc (.cells (iG b ⟨A,SS.length,c⟩ (Y r)) 109))=R at b0 f' B1 f5 a0|-;have t0:=H.ownsRow_lit (w:=R) (base:=R.heap.size) (e:=127) (size:=3) #[.int .i64 (-1),.int .i64 (-1),.int .i64 SS.length] 1 (dj _) (by unfold maxLen;omega) rfl;rw[a0]at t0;have K7:=Hm t0;have e0:=Hm a0;have i1:=Hm b0;have n6:=Hm f';have a':=Hm B1;have k9:=Hm f5;obtain⟨f3,b2⟩:∃f3:List Ct,f3=((-1, -1),(SS.length:Int))::nM LL SS.length b.S.toNat (List.range' 0 b.U.n):=⟨_,rfl⟩;have Q0:f3.length<=49:=by
   rw[b2,fx,Az,List.length_range'];have:b.U.n*b.S.toNat<=4*12:=Nat.mul_le_mul O7 zz;omega
  have r9:2<=f3.length:=by
   rw[b2,fx,Az,List.length_range'];have:1*1<=b.U.n*b.S.toNat:=Nat.mul_le_mul p5 zz;omega
  have v6:=Hm b2;clear b0 f' B1 f5 t0 a0 b2;obtain⟨i0,hi,m3,m4,m5⟩:=info_parts Sw;go_loopw [7,29] (λv7 v wr=>∃(h:Nat) (a5:List Ct) (A1:Option Addr) (Q:Nat),h<=b.U.n/\v=.int .i64 h/\v7=.slice A1 a5.length Q/\wr.ownsRow (d.heap.size+1) 127 3 v7 a5.length (UX a5)/\X R.heap.size R wr/\PQ (a5++nM LL SS.length b.S.toNat (List.range' h (b.U.n-h))=f3)) (λ_ v _=>b.U.n-(intOf v).toNat)
  case atStart=>exact⟨0,[((-1, -1),(SS.length:Int))],_,_,zz,rfl,rfl,K7.out,(X.refl _ _).alloc (dj _) _,v6.out.symm⟩
 case round=>
  first
  |revert ï;intro ï
   obtain⟨i,L,hi,rfl,C,a8⟩:=hrel;obtain⟨t,rfl⟩:∃t:H,t=wr:=⟨_,rfl⟩;by_cases W:i<SS.length
  |revert ë;intro ë
   obtain⟨i,z,hi,rfl,C,a3,a8⟩:=hrel;obtain⟨t,rfl⟩:∃t:H,t=wr:=⟨_,rfl⟩;by_cases W:i<SS.length
  |revert ø;intro ø
   obtain⟨i,hi,rfl,rfl,J⟩:=hrel;have d':=J.size;by_cases W:i<SS.length
  |revert å;intro å
   obtain⟨i,A1,Q,Z',rfl,rfl,u,J⟩:=hrel;have d':=J.size;by_cases W:i<SS.length
  |revert æ;intro æ
   obtain⟨k,A1,Q,hk,rfl,rfl,u,J⟩:=hrel;obtain⟨t,rfl⟩:∃t:H,t=wr:=⟨_,rfl⟩;have d':=J.size;have Z0:=kO (sw LL b.U.n) k;by_cases W:(k:Int)<b.S
  |obtain⟨h,a5,A1,Q,f9,rfl,rfl,u,J,a8⟩:=hrel
   obtain⟨t,rfl⟩:∃t:H,t=wr:=⟨_,rfl⟩;have d':=J.size;have hzw:(d:Nat)+1<=t:=by rw[<- e0.out];exact d'
   by_cases W:h<b.U.n
  .first
   |revert å;intro å
    obtain⟨x,O⟩:∃x,SS.getD i (0,mI)=x:=⟨_,rfl⟩;have q:∀j,j<13->wr.cell? ⟨g,i*13+j,I⟩=(zC x).toList[j]?:=λj b'=>by
     have E:=wO (bB i2.out (aS.dY (K:=λ_=>True) J (λ_ h _=>h)) (λ_ _=>trivial)) rfl W j b';rw[O]at E;exact E
    have q0:wr.cell? ⟨g,i*13,I⟩=Y (.int .i64 x.1):=q 0 zz;have q1:wr.cell? ⟨g,i*13+1,I⟩=Y (.bool (x.2 0)):=q 1 zz;have q2:wr.cell? ⟨g,i*13+2,I⟩=Y (.bool (x.2 1)):=q 2 zz;have q3:wr.cell? ⟨g,i*13+3,I⟩=Y (.bool (x.2 2)):=q 3 zz;have q4:wr.cell? ⟨g,i*13+4,I⟩=Y (.bool (x.2 3)):=q 4 zz;have q5:wr.cell? ⟨g,i*13+5,I⟩=Y (.bool (x.2 4)):=q 5 zz;have q6:wr.cell? ⟨g,i*13+6,I⟩=Y (.bool (x.2 5)):=q 6 zz;have q7:wr.cell? ⟨g,i*13+7,I⟩=Y (.bool (x.2 6)):=q 7 zz;have q8:wr.cell? ⟨g,i*13+8,I⟩=Y (.bool (x.2 7)):=q 8 zz;have q9:wr.cell? ⟨g,i*13+9,I⟩=Y (.bool (x.2 8)):=q 9 zz;have j':wr.cell? ⟨g,i*13+10,I⟩=Y (.bool (x.2 9)):=q 10 zz;have k4:wr.cell? ⟨g,i*13+11,I⟩=Y (.bool (x.2 10)):=q 11 zz;have k5:wr.cell? ⟨g,i*13+12,I⟩=Y (.bool (x.2 11)):=q 12 zz;have E2:((SS.take (i+1)).map (·.1)).map (M.int .i64)=((SS.take i).map (·.1)).map (M.int .i64)++[.int .i64 x.1]:=by
     rw[q5A W,nc,nc,<- O];simp only[zM,List.getD,fg W,zQ]
    have l3:=Hm E2;have a2:=Hm J;have b8:=Hm u;clear q O E2 J;go_wp2_with (at_builtin;refine wpList_append_own _ rfl _ _ 24 rfl R.heap.size 3 i0 (.int .i64 0) 1 8 Tryz.underlying24 hi m3 m4 m5 rfl dd _ _ _ rfl ((u.alloc _).alloc _) ⟨wr.heap.size+1,0,I⟩ 1 1 [.int .i64 x.1] rfl rfl (by rw[<- aa wr (.cells (zC x) 86)];exact cell_one_new _ _ _) (λy b4=>by simp at b4;subst b4;rfl) (by unfold maxLen;omega) zz so ?_;intro v' w3 c1 f8 A4);go_roundw
    case rel=>
     obtain⟨g',i5,rfl⟩:=ownsRow_succ c1;refine⟨i+1,Y ⟨g',0,I⟩,i5,zz,by go_num,rfl,?_,((a2.out.alloc d' _).alloc so _).grown f8 so (λq b3=>(b8.out.lt q b3).1)⟩;rw[l3.out];exact c1
    case measure=>simp[intOf];omega
   |revert ø;intro ø
    obtain⟨x,O⟩:∃x,SS.getD i (0,mI)=x:=⟨_,rfl⟩;have P':=Gn (λx=>x.2 p) SS i;have b4:=Sq (f:=λx=>x.2 p) W;have f0:=WC (f:=λx=>x.2 p) W;have q:∀j,j<13->wr (g,i*13+j)=(zC x).toList[j]?:=λj b'=>by
     have E:=wO (bB i2.out (aS.dY (K:=λ_=>True) J (λ_ h _=>h)) (λ_ _=>trivial)) rfl W j b';rw[O]at E;exact E
    have q0:wr (g,i*13)=Y (.int .i64 x.1):=q 0 zz;have q1:wr (g,i*13+1)=Y (.bool (x.2 0)):=q 1 zz;have q2:wr (g,i*13+2)=Y (.bool (x.2 1)):=q 2 zz;have q3:wr (g,i*13+3)=Y (.bool (x.2 2)):=q 3 zz;have q4:wr (g,i*13+4)=Y (.bool (x.2 3)):=q 4 zz;have q5:wr (g,i*13+5)=Y (.bool (x.2 4)):=q 5 zz;have q6:wr (g,i*13+6)=Y (.bool (x.2 5)):=q 6 zz;have q7:wr (g,i*13+7)=Y (.bool (x.2 6)):=q 7 zz;have q8:wr (g,i*13+8)=Y (.bool (x.2 7)):=q 8 zz;have q9:wr (g,i*13+9)=Y (.bool (x.2 8)):=q 9 zz;have j':wr (g,i*13+10)=Y (.bool (x.2 9)):=q 10 zz;have k4:wr (g,i*13+11)=Y (.bool (x.2 10)):=q 11 zz;have k5:wr (g,i*13+12)=Y (.bool (x.2 11)):=q 12 zz;have d9:wr (w.heap.size+1,0)=Y (.int .i64 p):=one_cell ((J.block _ zz).tn J3.out);have x6:(#[.int .i64 x.1,.bool (x.2 0),.bool (x.2 1),.bool (x.2 2),.bool (x.2 3),.bool (x.2 4),.bool (x.2 5),.bool (x.2 6),.bool (x.2 7),.bool (x.2 8),.bool (x.2 9),.bool (x.2 10),.bool (x.2 11)]:Array M)[1+p]?=Y (.bool (x.2 p)):=by
     rcases(show p=0\/p=1\/p=2\/p=3\/p=4\/p=5\/p=6\/p=7\/p=8\/p=9\/p=10\/p=11 from zz)with rfl|rfl|rfl|rfl|rfl|rfl|rfl|rfl|rfl|rfl|rfl|rfl<;>rfl
    have hls:(w:Nat)+1<wr:=zz;rw[O]at b4 f0;have e':=Hm b4;have U:=Hm f0;generalize oP (λx=>x.2 p) (SS.take i)=n at P' e' U;generalize j2:oP (λx=>x.2 p) (SS.take (i+1))=n' at e' U;have k':=Hm j2;clear q O b4 f0 j2;cases m2:x.2 p
    .rw[m2]at x6;go_wp2;go_roundw
     case rel=>exact⟨i+1,zz,by rw[k'.out,U.out m2],by go_num,aP J (dj _) _⟩
     case measure=>simp[intOf];omega
    .rw[m2]at x6;go_wp2;go_roundw
     case rel=>exact⟨i+1,zz,by rw[k'.out,e'.out m2];go_num,by go_num,aP J (dj _) _⟩
     case measure=>simp[intOf];omega
   |revert æ;intro æ
    have e6:=(gH ((J.block _ a0).tn i1.out)).2.2.2.2.2.2.2.2.2.2.2.2.2.2;have d5:aK t w 31 b:=(J.block _ zz).tn k9.out;have k7:=(aM d5).2.2.2.2.2.2.2.2.2.2.1;have y0:=(aM d5).1;have w0:jm t r LL:=(J.block _ zz).tn n6.out;have K8:=Hm w0;have a2:=Hm J;have b8:=Hm u;clear w0 J u d5;go_wp2;go_loop [25] (λv=>∃h:Nat,h<=b.U.n/\v=.int .i64 h/\PQ (Og LL k (List.range' h (b.U.n-h))=sw LL b.U.n k)) (λv=>b.U.n-(intOf v).toNat)
    case atStart=>exact⟨0,zz,rfl,rfl⟩
    case round=>
     obtain⟨h,f9,rfl,a8⟩:=hrel;by_cases g8:h<b.U.n
     .have u1:(Instr.lookup 107 (.map (Y r)) (.agg #[.int .i64 h,.int .i64 k]) false).run F t=.ok (.int .i64 (assoc LL (h,k))) t:=gd (L:=LL) K8.out (h,k);have j3:List.range' h (b.U.n-h)=h::List.range' (h+1) (b.U.n-(h+1)):=by
       rw[show b.U.n-h=(b.U.n-(h+1))+1 by omega,List.range'_succ]
      have s':=a8.out;rw[j3]at s';have E8:sw LL b.U.n k=(decide (assoc LL ((h:Int),(k:Int))<=0)&&Og LL k (List.range' (h+1) (b.U.n-(h+1)))):=by rw[<- s'];rfl
      have o4:=Hm E8;clear E8 s' j3;generalize assoc LL ((h:Int),(k:Int))=a at u1 o4;by_cases Z4:0<a
      .have i8:sw LL b.U.n k=false:=by rw[o4.out];simp;omega
       have h':=Hm (mV i8);clear i8;go_wp2;go_roundw
       case rel=>exact⟨k+1,A1,Q,zz,by go_num,by rw[h'.out],by rw[h'.out];exact b8.out,a2.out⟩
       case measure=>simp[intOf];omega
      .have O8:a<=0:=zz;go_wp2;go_round
       case rel=>exact⟨h+1,zz,by go_num,by rw[PQ,o4.out];simp[O8]⟩
       case measure=>simp[intOf];omega
     .obtain rfl:h=b.U.n:=zz;have i8:sw LL b.U.n k=true:=by rw[<- a8.out,Nat.sub_self];rfl
      have h':=Hm (oG i8);have V1:=b8.out;clear i8 a8;go_wp2_with (at_builtin;refine ff rfl _ _ 24 rfl R.heap.size 3 i0 (.int .i64 0) 1 8 Tryz.underlying24 hi V7 V8 G3 rfl dd _ _ _ rfl (V1.alloc _) ⟨t.heap.size,0,I⟩ 1 1 [.int .i64 k] rfl rfl (cell_one_new _ _ _) (λx O=>by simp at O;subst O;rfl) (by unfold maxLen;omega) zz so ?_;intro v' w3 c1 f8 hnew3);go_roundw
      case rel=>
       obtain⟨A',c',V3⟩:=tK c1;exact⟨k+1,A',c',zz,by go_num,by rw[V3,h'.out];simp,by rw[h'.out];simpa using c1,(a2.out.alloc d' _).grown f8 so (λq b3=>(b8.out.lt q b3).1)⟩
      case measure=>simp[intOf];omega
   |revert ö;intro ö
    have E1:=Gv LL SS.length b.S.toNat W;have d5:aK t w 31 b:=(J.block _ (by rw[e0.out];omega)).tn k9.out;have y0:=(aM d5).1;have L7:=Hm E1;have a2:=Hm J;have b8:=Hm u;clear E1 d5 J u;go_wp2;clear y0;go_loopw [7,34] (λv7 v b5=>∃(k:Nat) (d3:List Ct) (A2:Option Addr) (c2:Nat),(k:Int)<=b.S/\v=.int .i64 k/\v7=.slice A2 d3.length c2/\b5.ownsRow (d.heap.size+1) 127 3 v7 d3.length (UX d3)/\X R.heap.size R b5/\PQ (d3++DJ LL SS.length h (List.range' k (b.S.toNat-k))++nM LL SS.length b.S.toNat (List.range' (h+1) (b.U.n-(h+1)))=f3)) (λ_ v _=>b.S.toNat-(intOf v).toNat)
    case atStart=>exact⟨0,a5,A1,Q,zz,rfl,rfl,b8.out,a2.out,by rw[PQ,nh,Nat.sub_zero,<- L7.out];exact a8.out⟩
    case round=>
     obtain⟨k,d3,A2,c2,hk,rfl,rfl,u,J,d7⟩:=hrel;obtain⟨P,rfl⟩:∃P:H,P=wr:=⟨_,rfl⟩;have u0:=J.size;have hzwp:(d:Nat)+1<=P:=by rw[<- e0.out];exact u0
     by_cases g8:(k:Int)<b.S
     .have u7:=LD LL SS.length h (k:=k) (S:=b.S.toNat) zz;have C2:d3.length+1<=49:=by
       have:=eh List.length d7.out;rw[u7]at this;simp only[lh,fx]at this;omega
      obtain⟨p1,p2⟩:=J4.out h k W g8;have u1:(Instr.lookup 107 (.map (Y r)) (.agg #[.int .i64 h,.int .i64 k]) false).run F P=.ok (.int .i64 (assoc LL (h,k))) P:=gd (L:=LL) ((J.block _ (by rw[e0.out];omega)).tn n6.out) (h,k);obtain⟨z0,z1,z2,z3,z4,z5,z6,z7,z8,z9,d0,e4,e5,h8,e6⟩:=gH ((J.block _ (by rw[e0.out];omega)).tn i1.out);clear z0 z1 z2 z3 z4 z5 z6 z7 z8 z9 d0 e4 e5;have x3:ye LL SS.length h k=(((h:Int),(k:Int)),max (assoc LL ((h:Int),(k:Int))) ((SS.length:Int)-assoc LL ((h:Int),(k:Int)))):=rfl;have n4:=Hm x3;have e9:=Hm u7;have k0:=Hm J;have l1:=Hm u;generalize assoc LL ((h:Int),(k:Int))=a at p1 p2 u1 n4;clear x3 u7 J;by_cases S':a<(SS.length:Int)-a
      .have T':=S';go_wp2_with (at_builtin;refine wpList_append_own _ rfl _ _ 128 rfl (d.heap.size+1) 127 i0 (.agg #[.int .i64 0,.int .i64 0,.int .i64 0]) 3 24 Tryz.underlying128 hi m3 m4 m5 rfl dd _ _ _ rfl (u.alloc _) ⟨P.heap.size,0,I⟩ 1 1 [.int .i64 h,.int .i64 k,.int .i64 ((SS.length:Int)-a)] rfl rfl (nI _ _ _) (Je ((h,k),(SS.length:Int)-a)) (by unfold maxLen;omega) zz so ?_;intro v' w3 c1 f8 A4);go_roundw
       case rel=>
        obtain⟨g',i5,rfl⟩:=ownsRow_succ c1;have p':ye LL SS.length h k=(((h:Int),(k:Int)),(SS.length:Int)-a):=by rw[n4.out];congr 1;rw[Int.max_def];split<;>omega
        refine⟨k+1,d3++[ye LL SS.length h k],Y ⟨g',0,I⟩,i5,zz,by go_num,by simp,?_,(k0.out.alloc u0 _).grown f8 so (λq b3=>by rw[e0.out];exact(l1.out.lt q b3).1),?_⟩
        .rw[lh,DL,p'];exact c1
        .have:=d7.out;rw[e9.out]at this;rw[PQ,nh d3,List.singleton_append];exact this
       case measure=>simp[intOf];omega
      .have T':(SS.length:Int)-a<=a:=zz;go_wp2_with (at_builtin;refine wpList_append_own _ rfl _ _ 128 rfl (d.heap.size+1) 127 i0 (.agg #[.int .i64 0,.int .i64 0,.int .i64 0]) 3 24 Tryz.underlying128 hi m3 m4 m5 rfl dd _ _ _ rfl (u.alloc _) ⟨P.heap.size,0,I⟩ 1 1 [.int .i64 h,.int .i64 k,.int .i64 (a)] rfl rfl (nI _ _ _) (Je ((h,k),a)) (by unfold maxLen;omega) zz so ?_;intro v' w3 c1 f8 A4);go_roundw
       case rel=>
        obtain⟨g',i5,rfl⟩:=ownsRow_succ c1;have p':ye LL SS.length h k=(((h:Int),(k:Int)),a):=by rw[n4.out];congr 1;rw[Int.max_def];split<;>omega
        refine⟨k+1,d3++[ye LL SS.length h k],Y ⟨g',0,I⟩,i5,zz,by go_num,by simp,?_,(k0.out.alloc u0 _).grown f8 so (λq b3=>by rw[e0.out];exact(l1.out.lt q b3).1),?_⟩
        .rw[lh,DL,p'];exact c1
        .have:=d7.out;rw[e9.out]at this;rw[PQ,nh d3,List.singleton_append];exact this
       case measure=>simp[intOf];omega
     .have i':b.S.toNat-k=0:=zz;have u6:=d7.out;rw[i']at u6;have K':=Hm u6;have k0:=Hm J;have l1:=Hm u;clear i' u6 d7 J u;go_wp2;go_roundw
      case rel=>
       refine⟨h+1,d3,A2,c2,zz,by go_num,rfl,l1.out,k0.out,?_⟩;have:=K'.out;simp only[List.range'_zero,DJ,zM,List.append_nil]at this;exact this
      case measure=>simp[intOf];omega
   |revert ë;intro ë
    obtain⟨x,O⟩:∃x,SS.getD i (0,mI)=x:=⟨_,rfl⟩;have u3:x∈SS:=by rw[<- O];simp[List.getD,fg W]
    obtain⟨e1,e2⟩:=n0.out x u3;have i9:SS.drop i=x::SS.drop (i+1):=by
     rw[lL W,<- O];simp[List.getD,fg W]
    have q:∀j,j<13->t.cell? ⟨g,i*13+j,I⟩=(zC x).toList[j]?:=λj b'=>by
     have:=wO C.own rfl W j b';rw[O]at this;exact this
    have q0:t.cell? ⟨g,i*13,I⟩=Y (.int .i64 x.1):=q 0 zz;have q1:t.cell? ⟨g,i*13+1,I⟩=Y (.bool (x.2 0)):=q 1 zz;have q2:t.cell? ⟨g,i*13+2,I⟩=Y (.bool (x.2 1)):=q 2 zz;have q3:t.cell? ⟨g,i*13+3,I⟩=Y (.bool (x.2 2)):=q 3 zz;have q4:t.cell? ⟨g,i*13+4,I⟩=Y (.bool (x.2 3)):=q 4 zz;have q5:t.cell? ⟨g,i*13+5,I⟩=Y (.bool (x.2 4)):=q 5 zz;have q6:t.cell? ⟨g,i*13+6,I⟩=Y (.bool (x.2 5)):=q 6 zz;have q7:t.cell? ⟨g,i*13+7,I⟩=Y (.bool (x.2 6)):=q 7 zz;have q8:t.cell? ⟨g,i*13+8,I⟩=Y (.bool (x.2 7)):=q 8 zz;have q9:t.cell? ⟨g,i*13+9,I⟩=Y (.bool (x.2 8)):=q 9 zz;have j':t.cell? ⟨g,i*13+10,I⟩=Y (.bool (x.2 9)):=q 10 zz;have k4:t.cell? ⟨g,i*13+11,I⟩=Y (.bool (x.2 10)):=q 11 zz;have k5:t.cell? ⟨g,i*13+12,I⟩=Y (.bool (x.2 11)):=q 12 zz;have k7:=(aM C.box).2.2.2.2.2.2.2.2.2.2.1;have R0:w.heap.size<t.heap.size:=C.box.lt;have R':d.heap.size+1<t.heap.size:=(du.1 a3).1;have n8:=Hm C;have o6:=Hm i9;have o7:=Hm a3;clear q O i9 C a3;go_wp2;clear q0 q1 q2 q3 q4 q5 q6 q7 q8 q9 j' k4 k5 k7;go_loopw [11,37] (λn v b5=>∃h:Nat,h<=b.U.n/\v=.int .i64 h/\n=.int .i64 (pF b l x p h)/\tS w d.heap.size (w.heap.size+1) B b l ⟨Y ⟨g,0,I⟩,SS.length,c⟩ r SS p b5/\bA b5 t.heap.size 86 x.1 x.2/\b5.heap[d.heap.size+1]?=Y (.cells #[.int .i64 z.1,.int .i64 z.2] 23 (0,0))) (λ_ v _=>b.U.n-(intOf v).toNat)
    case atStart=>exact⟨0,zz,rfl,rfl,n8.out.below ((X.refl _ _).alloc (dj _) _),bA.new t 86 x.1 x.2,(QR _ _ zz).tn o7.out⟩
    (case round=>
      obtain⟨h,f9,rfl,rfl,C,a6,a3⟩:=hrel;obtain⟨P,rfl⟩:∃P:H,P=wr:=⟨_,rfl⟩;by_cases g8:h<b.U.n
      .have j1:h<l.U.length:=by rw[<- b9.out];exact g8
       obtain⟨G9,G',t3,t4,t5,t6,t7,t8,t9,k6,-⟩:=cS (bP h9.out).1;obtain⟨p1,p2,p3,p4⟩:=kP (bP h9.out).2.2.1 h j1;have d6:=λw' (g9:bp w' b.U l.U)=>qX b G9 G' t5 t6 x.1 zz zz x.2 h l.U j1 p1 p2 p3 p4 w' g9;have U0:=Oj b l x p h;have G1:oN b l x h p=true->pF b l x p (h+1)=pF b l x p h+1:=λe=>by unfold pF;rw[oG (show Tz b l x p h=true from e)];simp
       have A6:oN b l x h p=false->pF b l x p (h+1)=pF b l x p h:=λe=>by unfold pF;rw[mV (show Tz b l x p h=false from e)]
       have e':=Hm G1;have n7:=Hm A6;change ∀w',bp w' b.U l.U->PH F 45 #[b.v,gN x.1 x.2,.int .i64 h] w' λe v4=>e=.returned (tJ (oN b l x h))/\X w'.heap.size w' v4 at d6;have y':=λw=>Dl (oN b l x h) p g9 w;generalize oN b l x h=T at d6 e' n7 y';generalize j2:pF b l x p h=n at U0 e' n7|-;have W0:=Hm j2;have b1:d.heap.size<P.heap.size:=(du.1 C.kn).1;have a4:=a6.lt;have V9:w.heap.size+1<P.heap.size:=(du.1 C.st).1;obtain⟨z0,z1,z2,z3,z4,z5,z6,z7,z8,z9,d0,e4,e5,h8,e6⟩:=gH C.kn;obtain⟨s0,s1,s2,s3,s4,s5,s6,s7,s8,s9,m7,m',m0⟩:=a6.all;have d9:=one_cell C.st;have e8:=Hm C;have e9:=Hm a6;have g4:=Hm a3;have i3:PQ (∀w',X P.heap.size P w'->w'.cell? ⟨d.heap.size,0,I⟩=Y (.int .i64 b.S)/\w'.cell? ⟨d.heap.size,1,I⟩=Y (.int .i64 b.D)/\w'.cell? ⟨d.heap.size,2,I⟩=Y (.int .i64 b.L)/\w'.cell? ⟨d.heap.size,3,I⟩=Y (.int .i64 b.lo)/\w'.cell? ⟨d.heap.size,4,I⟩=Y (.int .i64 b.hi)/\w'.cell? ⟨d.heap.size,5,I⟩=Y (.slice b.C.A b.C.n b.C.c)/\w'.cell? ⟨d.heap.size,6,I⟩=Y (.int .i64 b.rf)/\w'.cell? ⟨d.heap.size,7,I⟩=Y (.int .i64 b.rh)/\w'.cell? ⟨d.heap.size,8,I⟩=Y (.int .i64 b.cf)/\w'.cell? ⟨d.heap.size,9,I⟩=Y (.int .i64 b.ch)/\w'.cell? ⟨d.heap.size,10,I⟩=Y (.slice b.U.A b.U.n b.U.c)/\w'.cell? ⟨d.heap.size,11,I⟩=Y (.slice b.E.A b.E.n b.E.c)/\w'.cell? ⟨d.heap.size,12,I⟩=Y (.slice b.W.A b.W.n b.W.c)/\w'.cell? ⟨t.heap.size,0,I⟩=Y (.int .i64 x.1)/\w'.cell? ⟨t.heap.size,1,I⟩=Y (.bool (x.2 0))/\w'.cell? ⟨t.heap.size,2,I⟩=Y (.bool (x.2 1))/\w'.cell? ⟨t.heap.size,3,I⟩=Y (.bool (x.2 2))/\w'.cell? ⟨t.heap.size,4,I⟩=Y (.bool (x.2 3))/\w'.cell? ⟨t.heap.size,5,I⟩=Y (.bool (x.2 4))/\w'.cell? ⟨t.heap.size,6,I⟩=Y (.bool (x.2 5))/\w'.cell? ⟨t.heap.size,7,I⟩=Y (.bool (x.2 6))/\w'.cell? ⟨t.heap.size,8,I⟩=Y (.bool (x.2 7))/\w'.cell? ⟨t.heap.size,9,I⟩=Y (.bool (x.2 8))/\w'.cell? ⟨t.heap.size,10,I⟩=Y (.bool (x.2 9))/\w'.cell? ⟨t.heap.size,11,I⟩=Y (.bool (x.2 10))/\w'.cell? ⟨t.heap.size,12,I⟩=Y (.bool (x.2 11))/\w'.cell? ⟨w.heap.size+1,0,I⟩=Y (.int .i64 p)/\d.heap.size<w'.heap.size/\t.heap.size<w'.heap.size/\w.heap.size+1<w'.heap.size/\X P.heap.size P w'):=λw' G=>⟨(G.cell (p:=⟨_,_,I⟩) b1).tn z0,(G.cell (p:=⟨_,_,I⟩) b1).tn z1,(G.cell (p:=⟨_,_,I⟩) b1).tn z2,(G.cell (p:=⟨_,_,I⟩) b1).tn z3,(G.cell (p:=⟨_,_,I⟩) b1).tn z4,(G.cell (p:=⟨_,_,I⟩) b1).tn z5,(G.cell (p:=⟨_,_,I⟩) b1).tn z6,(G.cell (p:=⟨_,_,I⟩) b1).tn z7,(G.cell (p:=⟨_,_,I⟩) b1).tn z8,(G.cell (p:=⟨_,_,I⟩) b1).tn z9,(G.cell (p:=⟨_,_,I⟩) b1).tn d0,(G.cell (p:=⟨_,_,I⟩) b1).tn e4,(G.cell (p:=⟨_,_,I⟩) b1).tn e5,(G.cell (p:=⟨_,_,I⟩) a4).tn s0,(G.cell (p:=⟨_,_,I⟩) a4).tn s1,(G.cell (p:=⟨_,_,I⟩) a4).tn s2,(G.cell (p:=⟨_,_,I⟩) a4).tn s3,(G.cell (p:=⟨_,_,I⟩) a4).tn s4,(G.cell (p:=⟨_,_,I⟩) a4).tn s5,(G.cell (p:=⟨_,_,I⟩) a4).tn s6,(G.cell (p:=⟨_,_,I⟩) a4).tn s7,(G.cell (p:=⟨_,_,I⟩) a4).tn s8,(G.cell (p:=⟨_,_,I⟩) a4).tn s9,(G.cell (p:=⟨_,_,I⟩) a4).tn m7,(G.cell (p:=⟨_,_,I⟩) a4).tn m',(G.cell (p:=⟨_,_,I⟩) a4).tn m0,(G.cell (p:=⟨_,_,I⟩) V9).tn d9,by have:=G.size;omega,by have:=G.size;omega,by have:=G.size;omega,G⟩;clear z0 z1 z2 z3 z4 z5 z6 z7 z8 z9 d0 e4 e5 h8 e6 s0 s1 s2 s3 s4 s5 s6 s7 s8 s9 m7 m' m0 d9 C a6 a3 G1 A6 j2 G9 G' t3 t4 t5 t6 t7 t8 t9 k6 p1 p2 p3 p4;unfold aC.v gN at d6;cases o':T p
       all_goals
        rw[o']at y';have v5:=Hm o';clear o';go_wp2;go_region_held3 (λw'=>w'.cell? ⟨d.heap.size,0,I⟩=Y (.int .i64 b.S)/\w'.cell? ⟨d.heap.size,1,I⟩=Y (.int .i64 b.D)/\w'.cell? ⟨d.heap.size,2,I⟩=Y (.int .i64 b.L)/\w'.cell? ⟨d.heap.size,3,I⟩=Y (.int .i64 b.lo)/\w'.cell? ⟨d.heap.size,4,I⟩=Y (.int .i64 b.hi)/\w'.cell? ⟨d.heap.size,5,I⟩=Y (.slice b.C.A b.C.n b.C.c)/\w'.cell? ⟨d.heap.size,6,I⟩=Y (.int .i64 b.rf)/\w'.cell? ⟨d.heap.size,7,I⟩=Y (.int .i64 b.rh)/\w'.cell? ⟨d.heap.size,8,I⟩=Y (.int .i64 b.cf)/\w'.cell? ⟨d.heap.size,9,I⟩=Y (.int .i64 b.ch)/\w'.cell? ⟨d.heap.size,10,I⟩=Y (.slice b.U.A b.U.n b.U.c)/\w'.cell? ⟨d.heap.size,11,I⟩=Y (.slice b.E.A b.E.n b.E.c)/\w'.cell? ⟨d.heap.size,12,I⟩=Y (.slice b.W.A b.W.n b.W.c)/\w'.cell? ⟨t.heap.size,0,I⟩=Y (.int .i64 x.1)/\w'.cell? ⟨t.heap.size,1,I⟩=Y (.bool (x.2 0))/\w'.cell? ⟨t.heap.size,2,I⟩=Y (.bool (x.2 1))/\w'.cell? ⟨t.heap.size,3,I⟩=Y (.bool (x.2 2))/\w'.cell? ⟨t.heap.size,4,I⟩=Y (.bool (x.2 3))/\w'.cell? ⟨t.heap.size,5,I⟩=Y (.bool (x.2 4))/\w'.cell? ⟨t.heap.size,6,I⟩=Y (.bool (x.2 5))/\w'.cell? ⟨t.heap.size,7,I⟩=Y (.bool (x.2 6))/\w'.cell? ⟨t.heap.size,8,I⟩=Y (.bool (x.2 7))/\w'.cell? ⟨t.heap.size,9,I⟩=Y (.bool (x.2 8))/\w'.cell? ⟨t.heap.size,10,I⟩=Y (.bool (x.2 9))/\w'.cell? ⟨t.heap.size,11,I⟩=Y (.bool (x.2 10))/\w'.cell? ⟨t.heap.size,12,I⟩=Y (.bool (x.2 11))/\w'.cell? ⟨w.heap.size+1,0,I⟩=Y (.int .i64 p)/\d.heap.size<w'.heap.size/\t.heap.size<w'.heap.size/\w.heap.size+1<w'.heap.size/\X P.heap.size P w')
         (exact i3.out _ bf)
         (first|(go_at_call 45;(with_reducible refine(d6 _ (b6.out.U.below (e8.out.low.tn (X.mono (by first|with_reducible assumption|exact bt:X P.heap.size P _) e8.out.low.size)))).mono ?_);rintro e v1 ⟨rfl,d2⟩;have k2:X P.heap.size P v1:=X.tn bf (d2.mono (by first|(simp only[H.size_drew];omega)|exact(by with_reducible assumption:X P.heap.size P _).size))))
        go_wp2
       .go_roundw
        case rel=>exact⟨h+1,zz,by go_num,by rw[n7.out v5.out],e8.out.below k2,e9.out.below k2 a4,(k2.block _ (du.1 g4.out).1).tn g4.out⟩
        case measure=>simp[intOf];omega
       .go_roundw
        case rel=>exact⟨h+1,zz,by go_num,by rw[e'.out v5.out];go_num,e8.out.below k2,e9.out.below k2 a4,(k2.block _ (du.1 g4.out).1).tn g4.out⟩
        case measure=>simp[intOf];omega
      .obtain rfl:h=b.U.n:=zz;have U:=Hm C;have g4:=Hm a3;obtain⟨o0,o1⟩:=kV a3;have of:∀j,P.frozen? ⟨d.heap.size+1,j,I⟩=false:=λj=>by simp[H.frozen?,a3]
       have ol:d.heap.size+1<P.heap.size:=(du.1 a3).1;obtain⟨n,f0⟩:∃n,pF b l x p b.U.n=n:=⟨_,rfl⟩;rw[f0];have k':=Hm f0;clear C a6 a3 f0;go_wp2;go_roundw
       case rel=>
        have U2:(if(n:Int)<z.1 then(n:Int)else z.1)=min z.1 n:=by rw[Int.min_def];split<;>split<;>omega
        have U1:(if z.2<(n:Int)then(n:Int)else z.2)=max z.2 n:=by rw[Int.max_def];split<;>split<;>omega
        rw[U2,U1];obtain⟨k1,k2⟩:=tR (.int .i64 (min z.1 n)) (.int .i64 (max z.2 n)) g4.out;refine⟨i+1,(min z.1 n,max z.2 n),zz,by go_num,U.out.keep k2 (λy b4=>zz) zz zz zz (λy b4=>by simp[M.ownBlock]at b4;omega),k1,?_⟩;have e:yc b l p z (SS.drop i)=yc b l p (min z.1 n,max z.2 n) (SS.drop (i+1)):=by
         rw[o6.out,<- k'.out,b9.out];rfl
        rw[PQ,<- e];exact a8.out
       case measure=>simp[intOf];omega)
   |obtain⟨x,O⟩:∃x,SS.getD i (0,mI)=x:=⟨_,rfl⟩
    have u3:x∈SS:=by rw[<- O];simp[List.getD,fg W]
    obtain⟨e1,e2⟩:=n0.out x u3;have i9:SS.drop i=x::SS.drop (i+1):=by
     rw[lL W,<- O];simp[List.getD,fg W]
    have q:∀j,j<13->t.cell? ⟨g,i*13+j,I⟩=(zC x).toList[j]?:=λj b'=>by
     have:=wO C.own rfl W j b';rw[O]at this;exact this
    have q0:t.cell? ⟨g,i*13,I⟩=Y (.int .i64 x.1):=q 0 zz;have q1:t.cell? ⟨g,i*13+1,I⟩=Y (.bool (x.2 0)):=q 1 zz;have q2:t.cell? ⟨g,i*13+2,I⟩=Y (.bool (x.2 1)):=q 2 zz;have q3:t.cell? ⟨g,i*13+3,I⟩=Y (.bool (x.2 2)):=q 3 zz;have q4:t.cell? ⟨g,i*13+4,I⟩=Y (.bool (x.2 3)):=q 4 zz;have q5:t.cell? ⟨g,i*13+5,I⟩=Y (.bool (x.2 4)):=q 5 zz;have q6:t.cell? ⟨g,i*13+6,I⟩=Y (.bool (x.2 5)):=q 6 zz;have q7:t.cell? ⟨g,i*13+7,I⟩=Y (.bool (x.2 6)):=q 7 zz;have q8:t.cell? ⟨g,i*13+8,I⟩=Y (.bool (x.2 7)):=q 8 zz;have q9:t.cell? ⟨g,i*13+9,I⟩=Y (.bool (x.2 8)):=q 9 zz;have j':t.cell? ⟨g,i*13+10,I⟩=Y (.bool (x.2 9)):=q 10 zz;have k4:t.cell? ⟨g,i*13+11,I⟩=Y (.bool (x.2 10)):=q 11 zz;have k5:t.cell? ⟨g,i*13+12,I⟩=Y (.bool (x.2 11)):=q 12 zz;have k7:=(aM C.box).2.2.2.2.2.2.2.2.2.2.1;have R0:w.heap.size<t.heap.size:=C.box.lt;have R':d.heap.size+1<t.heap.size:=(du.1 C.kn).1;have n8:=Hm C;have o6:=Hm i9;clear q O i9 C;go_wp2;clear q0 q1 q2 q3 q4 q5 q6 q7 q8 q9 j' k4 k5 k7;go_loopw [48] (λv b5=>∃(h:Nat) (L2:List gM),h<=b.U.n/\v=.int .i64 h/\lQ w w.heap.size (d.heap.size+1) d.heap.size w2.heap.size b ⟨Y ⟨g,0,I⟩,SS.length,c⟩ SS b5 L2/\bA b5 t.heap.size 86 x.1 x.2/\PQ (ku b l x L2 (List.range' h (b.U.n-h))=ku b l x L (List.range' 0 l.U.length))) (λv _=>b.U.n-(intOf v).toNat)
    case atStart=>
     refine⟨0,L,zz,rfl,n8.out.below ((X.refl _ _).alloc (dj _) _),?_,by rw[PQ,b9.out];rfl⟩;have:=bA.new t 86 x.1 x.2;exact this
    case round=>
     obtain⟨h,L2,f9,rfl,C,a6,d7⟩:=hrel;obtain⟨P,rfl⟩:∃P:H,P=wr:=⟨_,rfl⟩;by_cases g8:h<b.U.n
     .have j1:h<l.U.length:=by rw[<- b9.out];exact g8
      obtain⟨t1,t2,t3,t4,t5,t6,t7,t8,t9,k6,-⟩:=cS (bP h9.out).1;obtain⟨p1,p2,p3,p4⟩:=kP (bP h9.out).2.2.1 h j1;have d6:=λw' (g9:bp w' b.U l.U)=>qX b t1 t2 t5 t6 x.1 zz zz x.2 h l.U j1 p1 p2 p3 p4 w' g9;have z':=λw'=>xQ (oN b l x h) w';have j3:List.range' h (b.U.n-h)=h::List.range' (h+1) (b.U.n-(h+1)):=by
       rw[show b.U.n-h=(b.U.n-(h+1))+1 by omega,List.range'_succ]
      have HR:=Hm j3;obtain⟨z0,z1,z2,z3,z4,z5,z6,z7,z8,z9,d0,e4,e5,h8,e6⟩:=gH C.kn;obtain⟨s0,s1,s2,s3,s4,s5,s6,s7,s8,s9,m7,m',m0⟩:=a6.all;have b1:d.heap.size+1<P.heap.size:=(du.1 C.kn).1;have a4:=a6.lt;have e8:=Hm C;have e9:=Hm a6;have hlw2:=C.low.size;change ∀w',bp w' b.U l.U->PH F 45 #[b.v,gN x.1 x.2,.int .i64 h] w' λe v4=>e=.returned (tJ (oN b l x h))/\X w'.heap.size w' v4 at d6;generalize w8:oN b l x h=T at d6 z';have K1:=Hm w8;clear w8 t1 t2 t3 t4 t5 t6 t7 t8 t9 k6 p1 p2 p3 p4 j3 h8 e6 C a6;unfold aC.v gN at d6
      go_wp2_with (first
       | (go_at_call 45;refine(d6 _ (b6.out.U.below e8.out.low)).mono ?_;rintro e v1 ⟨rfl,d2⟩;obtain⟨x5,x8⟩:=aU d2)
       | (go_at_call 46;refine(z' _).mono ?_;rintro e v2 ⟨A2,c2,rfl,d1,j5⟩;obtain⟨P0,R4⟩:=aU j5))
      have hz20:=d2.size;have hns:(ie T 12).length<=12:=kO T 12;have w9:aN v2 ⟨A2,(ie T 12).length,c2⟩ (ie T 12):=Lm (by simpa using d1) rfl zz;have w6:∀y,I4 ⟨A2,(ie T 12).length,c2⟩ (ie T 12) y->d.heap.size<y:=λy b4=>by
       obtain⟨-, o,B4⟩:=b4;simp only at B4;subst B4;have:=(d1.lt y rfl).1;omega
      have w7:=(e8.out.below d2).below j5;have x2:=(e9.out.below d2 a4).below j5 zz;have hlv2:P.heap.size<=v2.heap.size:=by have:=j5.size;omega
      have K4:=Hm w9;have J1:=Hm w6;have J2:=Hm w7;have L':=Hm x2;clear w9 w6 w7 x2 d1 x5 x8 P0 R4 d2 j5 z0 z1 z2 z3 z4 z5 z6 z7 z8 z9 d0 e4 e5 s0 s1 s2 s3 s4 s5 s6 s7 s8 s9 m7 m' m0;go_loopw [58] (λv b5=>∃(k:Nat) (L3:List gM),k<=(ie T 12).length/\v=.int .i64 k/\lQ w w.heap.size (d.heap.size+1) d.heap.size w2.heap.size b ⟨Y ⟨g,0,I⟩,SS.length,c⟩ SS b5 L3/\bA b5 t.heap.size 86 x.1 x.2/\aN b5 ⟨A2,(ie T 12).length,c2⟩ (ie T 12)/\PQ (ko h L3 ((ie T 12).drop k)=ko h L2 (ie T 12))) (λv _=>(ie T 12).length-(intOf v).toNat)
      case atStart=>exact⟨0,L2,zz,rfl,J2.out,L'.out,K4.out,rfl⟩
      case round=>
       obtain⟨k,L3,hk,rfl,C,a6,l',t'⟩:=hrel;obtain⟨h7,rfl⟩:∃h7:H,h7=wr:=⟨_,rfl⟩;by_cases u2:k<(ie T 12).length
       .obtain⟨Z1,off2,w5,Z5,V⟩:=l'.2.2.2 zz;simp only at w5;subst w5;have P2:=V k u2;obtain⟨h6,u4⟩:∃h6,(ie T 12).getD k 0=h6:=⟨_,rfl⟩;have x7:(ie T 12).drop k=h6::(ie T 12).drop (k+1):=by
         rw[lL u2,<- u4];simp[List.getD,fg u2]
        rw[u4]at P2;have e6:=(gH C.kn).2.2.2.2.2.2.2.2.2.2.2.2.2.2;obtain⟨W1,W2,iE,r1,r2,r3,r4,r5,r6⟩:=Gm (w:=h7.drew) (r:=d.heap.size) (L:=L3) C.map (h,h6);have A3:=lQ.kQ (wr':=W2) C zz zz zz zz ((aS.refl _ h7).drew.tn r6) r5;have C':=abj a6 ((aS.refl _ h7).drew.tn r6) zz;have x0:=l'.keep ((aS.refl _ h7).drew.tn r6) (λy b4=>by have:=J1.out y b4;omega);have U:=Hm A3;have n9:=Hm C';have K5:=Hm x0;have J':=Hm x7;generalize P1:assoc L3 (h,h6)=Z2 at r1 r2 r3 r4;unfold gG at r1 r2 r3;simp only at r1 r2 r3;clear V u4 x7 A3 C' x0 C a6 l' r5 r6 P1;go_wp2;go_region
        all_goals
         go_wp2;go_roundw
         case rel=>
          refine⟨k+1,_,zz,by go_num,U.out,n9.out,K5.out,?_⟩;have e:ko h L3 ((ie T 12).drop k)=ko h (wD L3 (h,h6)) ((ie T 12).drop (k+1)):=by rw[J'.out];rfl
          rw[PQ,<- e];exact t'.out
         case measure=>simp[intOf];omega
       .obtain rfl:k=(ie T 12).length:=zz;have e3:L3=ko h L2 (ie T 12):=by
         have:=t'.out;rw[lv (dj _)]at this;exact this
        have K3:=Hm e3;have U:=Hm C;have n9:=Hm a6;clear e3 C a6 l' t';go_wp2;go_roundw
        case rel=>
         refine⟨h+1,L3,zz,by go_num,U.out,n9.out,?_⟩;have e:ku b l x L2 (List.range' h (b.U.n-h))=ku b l x L3 (List.range' (h+1) (b.U.n-(h+1))):=by
          rw[HR.out,K3.out,<- K1.out];rfl
         rw[PQ,<- e];exact d7.out
        case measure=>simp[intOf];omega
     .obtain rfl:h=b.U.n:=zz;have w1:L2=ku b l x L (List.range' 0 l.U.length):=by
       have:=d7.out;rw[Nat.sub_self]at this;exact this
      have K2:=Hm w1;have U:=Hm C;clear w1 C a6 d7;go_wp2;go_roundw
      case rel=>
       refine⟨i+1,L2,zz,by go_num,U.out,?_⟩;have e:lP b l L (SS.drop i)=lP b l L2 (SS.drop (i+1)):=by rw[o6.out,K2.out];rfl
       rw[PQ,<- e];exact a8.out
      case measure=>simp[intOf];omega
  .first
   |revert ø;intro ø
    obtain rfl:i=SS.length:=zz;rw[List.take_of_length_le (dj _)]at*;obtain⟨z0,z1,z2,z3,z4,z5,z6,z7,z8,z9,d0,e4,e5,h8,e6⟩:=gH ((J.block _ a0).tn i1.out);have a2:=Hm J;clear J;go_wp2_with (go_at_call 67;refine(E0 ⟨Y ⟨g,0,I⟩,SS.length,c⟩ _ _ _).mono ?_;rintro e w2 ⟨rfl,f4⟩);go_ret2;exact⟨by rw[a7.out];rfl,a'.out.tn ((a2.out.tn (f4.mono d')).mono a'.out.size)⟩
   |revert æ;intro æ
    have i':k=b.S.toNat:=zz;have K6:=Hm i';have i2:=Hm u;have a2:=Hm J;clear i' J u;have d5:aK t w 31 b:=(a2.out.block _ zz).tn k9.out;have y0:=(aM d5).1;clear d5;go_wp2;go_ret2;rw[a7.out,<- K6.out];exact⟨_,_,rfl,dy a'.out.size i2.out,a'.out.tn (a2.out.mono a'.out.size)⟩
   |revert ë;intro ë
    obtain rfl:i=SS.length:=zz;have e1:z=yc b l p ((l.U.length:Nat),0) SS:=by
     have:=a8.out;rw[lv (dj _)]at this;exact this
    have n5:=Hm e1;obtain⟨o0,o1⟩:=kV a3;obtain⟨y0,y1⟩:=kV C.res;have of:∀j,t.frozen? ⟨w.heap.size+1+1,j,I⟩=false:=λj=>by simp[H.frozen?,C.res]
    have V':w.heap.size+1+1<t.heap.size:=(du.1 C.res).1;have U:=Hm C;clear e1 C a3 a8;go_wp2;obtain⟨f1,f2⟩:=tR (.int .i64 z.1) (.int .i64 z.2) U.out.res;obtain⟨c0,Q⟩:=kV f1;rw[a7.out,<- n5.out];refine bd (v:=.tuple #[.agg #[.int .i64 z.1,.int .i64 z.2],.int .i64 0]) ?_ rfl ⟨rfl,U.out.low.tn (f2.below U.out.low.size (λx O=>zz))⟩;simp[results,Tryz.results35,go_sem,c0,Q]
   |revert ï;intro ï
    obtain rfl:i=SS.length:=zz;have e1:L=fN b l:=by
     have:=a8.out;rw[lv (dj _)]at this;exact this.tn l3.out.symm
    have n5:=Hm e1;obtain⟨z0,z1,z2,z3,z4,z5,z6,z7,z8,z9,d0,e4,e5,h8,e6⟩:=gH C.kn;obtain⟨y0,y1,y2,y3,y4,y5,y6,y7,y8,y9,k7,y11,y12,y13,y14⟩:=gH C.res;have yf:∀j,t.frozen? ⟨w.heap.size+1,j,I⟩=false:=λj=>by simp[H.frozen?,C.res]
    have V':w.heap.size+1<t.heap.size:=(du.1 C.res).1;have U:=Hm C;clear e1 C a8;go_wp2;obtain⟨f1,f2⟩:=Bs (.int .i64 b.S) (.int .i64 b.D) (.int .i64 b.L) (.int .i64 b.lo) (.int .i64 b.hi) (.slice b.C.A b.C.n b.C.c) (.int .i64 b.rf) (.int .i64 b.rh) (.int .i64 b.cf) (.int .i64 b.ch) (.slice b.U.A b.U.n b.U.c) (.slice b.E.A b.E.n b.E.c) (.slice b.W.A b.W.n b.W.c) (.slice (Y ⟨g,0,I⟩) SS.length c) (.map (Y d.heap.size)) U.out.res;obtain⟨c0,Q,c2,c3,c4,c5,c6,c7,c8,c9,N',N0,O1,O2,O3⟩:=gH f1;refine bd (v:=.tuple #[uC b ⟨Y ⟨g,0,I⟩,SS.length,c⟩ (Y d.heap.size),.int .i64 0]) ?_ rfl ⟨_,c,d.heap.size,rfl,?_,?_,zz,U.out.low.tn (f2.below U.out.low.size (λx O=>zz))⟩
    .simp[results,Tryz.results61,go_sem,uC,c0,Q,c2,c3,c4,c5,c6,c7,c8,c9,N',N0,O1,O2,O3]
    .exact dy (B:=w2.heap.size) zz (bB U.out.own f2 (λg' r'=>by
      have:=(U.out.own.lt g' r').1;omega))
    .rw[<- n5.out];exact f2.get zz U.out.map
   |revert å;intro å
    obtain rfl:i=SS.length:=zz;rw[List.take_of_length_le (dj _)]at u;obtain⟨g2,rfl⟩:∃g2,A1=Y ⟨g2,0,I⟩:=by
     rcases u.2 with⟨E,h2⟩|⟨g,cap,g5,E,-⟩
     .omega
     .simp only[lA]at E;exact⟨g,E.1⟩
    obtain⟨zs,m6⟩:∃zs,zs=SS.map (·.1):=⟨_,rfl⟩;rw[<- m6]at u;have h1:zs.length=SS.length:=by rw[m6];simp
    have m1:=Tryz.slices_Sort_int g2 0 Q zs wr (qZ u h1.symm) (u.lt g2 rfl).2 (by rw[h1];omega);rw[h1]at m1;have j4:(zs.mergeSort λx y=>decide (x<=y)).length=SS.length:=by rw[List.length_mergeSort,h1]
    obtain⟨n1,u9⟩:∃n1,(zs.mergeSort λx y=>decide (x<=y))=n1:=⟨_,rfl⟩;rw[u9]at m1 j4;have p0:=λw' O6=>Tryz.slices_Compact_int g2 0 Q n1 w' O6 (by rw[j4];omega);rw[j4]at p0;have x1:uN SS=Lib.compact n1:=by rw[uN,<- m6,u9]
    have K0:=Hm x1;have O0:SS.length<=Q:=by
     rcases u.2 with⟨E,h2⟩|⟨g,cap,g5,E,_,_,h4,-⟩
     .cases E
     .cases E;exact h4
    have a2:=Hm J;have b8:=Hm u;have v0:=Hm h1;have l2:=Hm j4;clear u J m6 h1 j4 u9 x1
    go_wp2_with (first
     | (go_at_call 63;refine m1.mono ?_;clear m1;rintro e w2 ⟨rfl,q2,os,E'⟩;obtain⟨o2,w4⟩:=oR b8.out v0.out.symm (l2.out.tn v0.out.symm) E';have v9:=Hm o2;have v8:=Hm w4;clear E' o2 w4)
     | (go_at_call 64;refine(p0 w2 (qZ v9.out l2.out.symm) O0).mono ?_;clear p0;rintro e w3 ⟨rfl,q3,u'⟩;rw[<- l2.out]at u'))
    go_ret2;obtain⟨o3,O4⟩:=DO v9.out l2.out.symm u';rw[a7.out,K0.out];subst u';exact⟨_,_,rfl,dy a'.out.size o3,a'.out.tn (((a2.out.grown v8.out d' (by have:=(b8.out.lt g2 rfl).1;simpa using this)).grown O4 (by have:=v8.out.size;have:=a2.out.size;omega) (by have:=(b8.out.lt g2 rfl).1;simpa using this)).mono a'.out.size)⟩
   |have x':h=b.U.n:=zz
    have B':a5=f3:=by
     have:=a8.out;rw[x',Nat.sub_self]at this;simpa[nM]using this
    have b2:=v6.out;rw[<- B']at b2 r9 Q0;obtain⟨g,rfl,Z6⟩:∃g,A1=Y ⟨g,0,I⟩/\a5.length<=Q:=by
     rcases u.2 with⟨E,h2⟩|⟨g,cap,g5,E,h2,h3,h4,-⟩
     .omega
     .simp only[lA]at E;exact⟨g,E.1,zz⟩
    have b3:∀(i j:Nat),i<a5.length->j<3->t (g,i*3+j)=(Sv (a5.getD i ((0,0),0)))[j]?:=λi j hi b'=>by
     rw[u.cellAt (i*3+j) zz,Jd a5 ((0,0),0) i j hi b']
    have q0:t (g,0)=Y (.int .i64 (-1)):=by have:=b3 0 0 zz zz;rw[b2]at this;exact this
    have q1:t (g,1)=Y (.int .i64 (-1)):=by have:=b3 0 1 zz zz;rw[b2]at this;exact this
    have q2:t (g,2)=Y (.int .i64 SS.length):=by have:=b3 0 2 zz zz;rw[b2]at this;exact this
    have g7:g<t.heap.size:=(u.lt g rfl).2;obtain⟨cs,q'⟩:∃cs:List Ct,cs=nM LL SS.length b.S.toNat (List.range' 0 b.U.n):=⟨_,rfl⟩;rw[<- q']at b2;have C2:a5.length=cs.length+1:=by rw[b2];rfl
    have x4:∀w',X t t w'->Y5 w' ⟨Y (g,3),a5.length-1,Q-1⟩ cs ((0,0),0):=λw' G=>by
     refine⟨by show a5.length-1=cs.length;omega,by show cs.length<=Q-1;omega,?_,λ_=>⟨g,3,rfl,by have:=G.size;omega,λk hk=>?_⟩⟩
     .show cs.length<=1000;omega
     .have e:∀j,j<3->w' (g,3+k*3+j)=(Sv (cs.getD k ((0,0),0)))[j]?:=λj b'=>by
       rw[G.cell (p:=⟨g,_,I⟩) g7];have:=b3 (k+1) j zz b';rw[b2,List.getD_cons_succ,show(k+1)*3+j=3+k*3+j by omega]at this;exact this
      exact⟨e 0 zz,e 1 zz,e 2 zz⟩
    have p8:=λw' (G:X t.heap.size t w')=>Ss Om (λ_=>True) ((-1, -1),(SS.length:Int)) ((0,0),0) ⟨Y ⟨g,3,I⟩,a5.length-1,Q-1⟩ cs w' (x4 w' G) db (λ_ _=>trivial) (λx y d _ _ _=>Oo x y d);obtain⟨z,a3⟩:∃z,iR Om ((-1, -1),(SS.length:Int)) cs=z:=⟨_,rfl⟩;rw[a3]at p8;have o7:PQ (DK b l=z):=by rw[PQ,n3.out,<- q'];exact a3
    simp only at p8;have a2:=Hm J;have i3:PQ (∀w',X t t w'->w' (g,0)=Y (.int .i64 (-1))/\w' (g,1)=Y (.int .i64 (-1))/\w' (g,2)=Y (.int .i64 SS.length)/\g<w'.heap.size/\X t t w'):=λw' G=>⟨(G.cell (p:=⟨_,_,I⟩) g7).tn q0,(G.cell (p:=⟨_,_,I⟩) g7).tn q1,(G.cell (p:=⟨_,_,I⟩) g7).tn q2,by have:=G.size;omega,G⟩;have g6:2<=Q:=zz;have h3:(1:Int)<=(a5.length:Int):=zz;have h4:¬(Q=1):=zz;have h5:0<a5.length:=zz;have hlt':¬(h<b.U.n):=W;clear b3 q0 q1 q2 x4 a3 q' b2 J u a8 B' C2 x';go_wp2;obtain⟨r0,r1,r2,r3,-⟩:=i3.out t (X.refl _ _);go_region_with (go_at_call 75;(with_reducible refine(p8 _ bf).mono ?_);rintro e v1 ⟨rfl,d2⟩;obtain⟨x5,x8⟩:=aU d2;have W3:=d2.size;have k2:X t.heap.size t v1:=X.tn bf (d2.mono ss);(first|(have zl:t.heap.size<v1.heap.size:=(by simp only[aa,H.size_drew]at W3;omega))|skip))
    all_goals
     go_wp2;go_quiet ((fail));go_wp2;rw[a7.out,o7.out];refine bd (v:=.tuple #[.int .i64 z.1.1,.int .i64 z.1.2,.int .i64 z.2,.int .i64 0]) (by simp[results,Tryz.results39,go_sem]) rfl ⟨rfl,?_⟩;have hw0:(w:Nat)<=t:=by have:=a'.out.size;have:=a2.out.size;omega
     have B3:X w w v1:=a'.out.tn ((a2.out.tn (k2.mono a2.out.size)).mono a'.out.size);exact bt):p:=h
def py{p:Prop}(h:p:=by
 first
 |have _:=ø
  have G:=λd (h1:aI d b l) (h2:aD d)=>qp b l 62 #[] lT true d h1 h2 (λ_=>gW b d) h;have o:=G (W.alloc (aE b 31)) (aq u (aE b 31)) (ai E (aE b 31));clear G u E h;unfold jo at o;generalize aJ b l b.D.toNat=f at o|-;generalize fN b l=LL at o|-;unfold aE uC aC.v at o;unfold Bz Tryz.f36;dsimp only;unfold aC.v;refine Go.Co.mG ?_;go_wp2;refine Go.Co.mG ?_;go_wp2_with (go_at_call 61;refine o.mono ?_;clear o;rintro e d ⟨A,c,r,rfl,a5,z,b0,j⟩);refine Go.Co.mG ?_;go_wp2;have e6:=j.size;simp only[aa]at e6 b0;have c8:r<d.heap.size:=(du.1 z).1;refine Go.Co.Dc ⟨rfl,rfl,A,c,r,d.heap.size,rfl,rfl,?_,Sp _ _,zz,zz,?_,?_,?_,λi hi=>?_⟩
  .exact(QR _ _ zz).tn ((j.block _ ss).tn (Sp _ _))
  .exact dy (by rw[aa];omega) (H.ownsRow.alloc a5 _)
  .exact(QR _ _ c8).tn z
  .exact aP (aY j) (dj _) _
  (·have:i=2\/i=3\/i=4\/i=9\/i=38\/i=39\/i=40\/i=41\/i=42\/i=43\/i=44\/i=45\/i=46\/i=47:=zz
    rcases this with rfl|rfl|rfl|rfl|rfl|rfl|rfl|rfl|rfl|rfl|rfl|rfl|rfl|rfl<;>rfl)
 |have _:=å
  have b2:=Hm u;have b1:=Hm E;have B:PQ (oQ b l hour step=(lY (assoc (fN b l) (hour,step)) (aJ b l b.D.toNat).length,0)):=by unfold oQ;rw[PQ,dE h]
  have a2:b.U.n<=1000:=by rw[u.U.1];exact u.U.2.2.1
  have G:=λd (h1:aI d b l) (h2:aD d) (a8 a0:Nat) (d7:d.cell? ⟨a8,0,I⟩=Y (.int .i64 hour)) (c1:a8<d.heap.size) (d8:d.cell? ⟨a0,0,I⟩=Y (.int .i64 step)) (e4:a0<d.heap.size)=>qp b l 68 #[.pointer (Y ⟨a8,0,I⟩),.pointer (Y ⟨a0,0,I⟩)] Dx (mW b hour step) d h1 h2 (λd'=>by
   obtain⟨t1,t2,-⟩:=cS (bP d').1;exact xY b a2 zz zz hour step a8 a0 d d7 c1 d8 e4) h
  unfold jo at G;generalize aJ b l b.D.toNat=f at G B;generalize fN b l=LL at G B;have V:=λ(s:Sl) (m:Option Nat) (n:Int) w'=>xZ b s m n w';clear u E h a2;have O:(((w.alloc (aE b 31)).alloc (.cells #[.int .i64 hour] 3)).alloc (.cells #[.int .i64 step] 3)).cell? (w.heap.size+1,0)=Y (.int .i64 hour):=one_cell ((QR _ _ ss).tn (by rw[<- aa w (aE b 31)];exact Sp _ _));have c2:(((w.alloc (aE b 31)).alloc (.cells #[.int .i64 hour] 3)).alloc (.cells #[.int .i64 step] 3)).cell? (w.heap.size+1+1,0)=Y (.int .i64 step):=one_cell (by rw[<- aa w (aE b 31),<- aa (w.alloc (aE b 31)) (.cells #[.int .i64 hour] 3)];exact Sp _ _);have o:=G (((w.alloc (aE b 31)).alloc (.cells #[.int .i64 hour] 3)).alloc (.cells #[.int .i64 step] 3)) (aq (aq (aq b2.out _) _) _) (ai (ai (ai b1.out _) _) _) (w.heap.size+1) (w.heap.size+1+1) O ss c2 ss;clear G O c2;unfold aC.v aE uC at o;unfold uC at V;unfold aC.v;go_enter Tryz.func32,Tryz.ntmps32;go_wp2_with (go_at_call 61;refine o.mono ?_;clear o;rintro e d ⟨A,c,r,rfl,a5,z,b0,j⟩);have Q:Gk (d.alloc (.cells (iG b ⟨A,f.length,c⟩ (Y r)) 109)) d b ⟨A,f.length,c⟩ (Y r):=Sp _ _;have J:jm (d.alloc (.cells (iG b ⟨A,f.length,c⟩ (Y r)) 109)) r LL:=(QR _ _ (du.1 z).1).tn z;have c4:=j.size;simp only[aa]at c4;have N:X w w (d.alloc (.cells (iG b ⟨A,f.length,c⟩ (Y r)) 109)):=aP (jI j) (dj _) _;have a3:(d.alloc (.cells (iG b ⟨A,f.length,c⟩ (Y r)) 109)).cell? (w.heap.size+1,0)=Y (.int .i64 hour):=one_cell ((QR _ _ zz).tn ((j.block _ ss).tn ((QR _ _ ss).tn (by rw[<- aa w (aE b 31)];exact Sp _ _))));have d0:(d.alloc (.cells (iG b ⟨A,f.length,c⟩ (Y r)) 109)).cell? (w.heap.size+1+1,0)=Y (.int .i64 step):=one_cell ((QR _ _ zz).tn ((j.block _ ss).tn (by rw[<- aa w (aE b 31),<- aa (w.alloc (aE b 31)) (.cells #[.int .i64 hour] 3)];exact Sp _ _)));clear a5 z j;change Ly.wp _ _ _ _ (d.alloc (.cells (iG b ⟨A,f.length,c⟩ (Y r)) 109));have a':d.heap.size<(d.alloc (.cells (iG b ⟨A,f.length,c⟩ (Y r)) 109)).heap.size:=by simp
  generalize(d.alloc (.cells (iG b ⟨A,f.length,c⟩ (Y r)) 109))=t at Q J N a3 d0 a'|-;obtain⟨z0,z1,z2,z3,z4,z5,z6,z7,z8,z9,e7,e8,e9,e',f1⟩:=gH Q;have b6:∀n,(Instr.lookup 107 (.map (Y r)) (.agg #[.int .i64 hour,.int .i64 step]) false).run F (t.drewN n)=.ok (.int .i64 (assoc LL (hour,step))) (t.drewN n):=λn=>gd (w:=t.drewN n) (L:=LL) J (hour,step);have b7:(Instr.lookup 107 (.map (Y r)) (.agg #[.int .i64 hour,.int .i64 step]) false).run F t.drew=.ok (.int .i64 (assoc LL (hour,step))) t.drew:=gd (w:=t.drew) (L:=LL) J (hour,step);generalize assoc LL (hour,step)=a at b6 b7 B;have R:=Hm N;clear Q J N;go_wp2_with (first|(go_at_call 67;refine(V ⟨A,f.length,c⟩ _ _ _).mono ?_;rintro e w2 ⟨rfl,P⟩)|go_still_tail 7,kr);go_ret2;exact⟨by rw[B.out];rfl,R.out.tn (((lH (X.refl _ t)).tn (P.mono (dj _))).mono R.out.size)⟩
 |have b2:=Hm u
  have b1:=Hm E;have B:PQ (DF b l hour=(ie (sU (fN b l) (aJ b l b.D.toNat).length hour 1) b.S.toNat,ie (sU (fN b l) (aJ b l b.D.toNat).length hour 0) b.S.toNat,0)):=by unfold DF;rw[PQ,dE h]
  have a2:b.U.n<=1000:=by rw[u.U.1];exact u.U.2.2.1
  obtain⟨t1,t2,-⟩:=cS (bP (Bt h).1).1;have O:((w.alloc (aE b 31)).alloc (.cells #[.int .i64 hour] 3)).cell? (w.heap.size+1,0)=Y (.int .i64 hour):=one_cell (by rw[<- aa w (aE b 31)];exact Sp _ _);have o:=qp b l 69 #[.pointer (Y ⟨w.heap.size+1,0,I⟩)] Dy (ax hour 0 (b.U.n-1)) ((w.alloc (aE b 31)).alloc (.cells #[.int .i64 hour] 3)) (aq (aq b2.out _) _) (ai (ai b1.out _) _) (λ_=>DC b a2 hour (w.heap.size+1) _ O ss) h;unfold jo at o;generalize aJ b l b.D.toNat=f at o B;generalize fN b l=LL at o B;have V:=λ(s:Sl) (m:Option Nat) (n v:Int) (e5:lY n s.n=v) w'=>Y3 b s m n v e5 w';clear u E h a2 O;unfold aC.v aE uC at o;unfold uC at V;unfold aC.v;go_enter Tryz.func33,Tryz.ntmps33;go_wp2_with (go_at_call 61;refine o.mono ?_;rintro e d ⟨A,c,r,rfl,a5,z,b0,j⟩;obtain⟨d9,e2⟩:=aU j;have c6:w.heap.size<d.heap.size:=(by have:=j.size;simp only[aa]at this;omega));have c4:=j.size;simp only[aa]at c4;have Q:Gk (d.alloc (.cells (iG b ⟨A,f.length,c⟩ (Y r)) 109)) d b ⟨A,f.length,c⟩ (Y r):=Sp _ _;have J:jm (d.alloc (.cells (iG b ⟨A,f.length,c⟩ (Y r)) 109)) r LL:=(QR _ _ (du.1 z).1).tn z;have N:X w w (d.alloc (.cells (iG b ⟨A,f.length,c⟩ (Y r)) 109)):=aP (cB j) (dj _) _;have a3:(d.alloc (.cells (iG b ⟨A,f.length,c⟩ (Y r)) 109)).heap[w.heap.size+1]?=Y (.cells #[.int .i64 hour] 3 (0,0)):=(QR _ _ zz).tn ((j.block _ ss).tn (by rw[<- aa w (aE b 31)];exact Sp _ _));have b4:(d.alloc (.cells (iG b ⟨A,f.length,c⟩ (Y r)) 109)).heap[w.heap.size]?=Y (aE b 31):=(QR _ _ zz).tn ((j.block _ so).tn ((QR _ _ ss).tn (Sp _ _)));have f8:r<d.heap.size:=(du.1 z).1;clear a5 z j d9 e2;change Ly.wp _ _ _ _ (d.alloc (.cells (iG b ⟨A,f.length,c⟩ (Y r)) 109));have a':d.heap.size<(d.alloc (.cells (iG b ⟨A,f.length,c⟩ (Y r)) 109)).heap.size:=by simp
  generalize(d.alloc (.cells (iG b ⟨A,f.length,c⟩ (Y r)) 109))=t at Q J N a3 b4 a'|-;have d3:=Hm Q;have d5:=Hm J;have R:=Hm N;have d2:=Hm a3;have f2:=Hm b4;clear Q J N a3 b4;obtain⟨i0,hi,c',c6,d1⟩:=info_parts vD;go_loopw [4,5,20] (λv1 v2 v wr=>∃k:Nat,(k:Int)<=b.S/\v=.int .i64 k/\kH t.heap.size v1 v2 (ie (sU LL f.length hour 1) k) (ie (sU LL f.length hour 0) k) wr/\X t.heap.size t wr) (λ_ _ v _=>b.S.toNat-(intOf v).toNat)
  case atStart=>exact⟨0,zz,rfl,⟨⟨I,0,rfl⟩,⟨I,0,rfl⟩,H.ownsRow_nil _ _ _ _,H.ownsRow_nil _ _ _ _,λg e3=>by simp[M.ownBlock]at e3⟩,X.refl _ _⟩
  case round=>
   obtain⟨k,hk,rfl,a9,K⟩:=hrel;have c5:=K.size;have f7:=kO (sU LL f.length hour 1) k;have f6:=kO (sU LL f.length hour 0) k;by_cases c8:(k:Int)<b.S
   .obtain⟨z0,z1,z2,z3,z4,z5,z6,z7,z8,z9,e7,e8,e9,e',f1⟩:=gH ((K.block _ a').tn d3.out);have f5:=one_cell ((K.block _ zz).tn d2.out);have b3:jm wr r LL:=(K.block _ zz).tn d5.out;have b6:∀n,(Instr.lookup 107 (.map (Y r)) (.agg #[.int .i64 hour,.int .i64 k]) false).run F (wr.drewN n)=.ok (.int .i64 (assoc LL (hour,k))) (wr.drewN n):=λn=>gd (w:=wr.drewN n) (L:=LL) b3 (hour,k);have b7:(Instr.lookup 107 (.map (Y r)) (.agg #[.int .i64 hour,.int .i64 k]) false).run F wr.drew=.ok (.int .i64 (assoc LL (hour,k))) wr.drew:=gd (w:=wr.drew) (L:=LL) b3 (hour,k);have b5:∀v,sU LL f.length hour v k=decide (lY (assoc LL (hour,k)) f.length=v):=λv=>rfl;generalize assoc LL (hour,k)=a at b6 b7 b5;rcases Od a f.length with a6|a6|a6
    all_goals
     have c3:=λ(s:Sl) (m:Option Nat) (c1:s.n=f.length) w'=>V s m a _ ((eh (λq:Nat=>lY a (q:Int)) c1).tn a6) w';have T:=Hm a6;have S:=Hm b5;have HR:=Hm a9;have a1:=Hm K;obtain⟨⟨A1,O,rfl⟩,⟨A2,c2,rfl⟩,o1,o2,o3⟩:=a9;have f3:=Hm o1;have f4:=Hm o2;clear a6 b5 o1 o2 o3 b3 K V
    .have e1:sU LL f.length hour 1 k=true:=by rw[S.out,T.out];rfl
     have e0:sU LL f.length hour 0 k=false:=by rw[S.out,T.out];rfl
     have E1:=Hm (oG e1);have Z:=Hm (mV e0);clear e1 e0
     go_wp2_with (first
      | (go_at_call 67;refine(c3 ⟨A,f.length,c⟩ _ rfl _).mono ?_;rintro e w2 ⟨rfl,P⟩;have y:=(lH (X.refl wr.heap.size wr)).tn (P.mono (dj _));have c9:=y.size;have C:=Hm (HR.out.below y);have U:=C.out.2.2.1)
      | go_still_tail 7,kr
      | (at_builtin;refine ff rfl _ _ 24 rfl t.heap.size 3 i0 (.int .i64 0) 1 8 Tryz.underlying24 hi c' c6 d1 rfl dd _ _ _ rfl (U.alloc _) ⟨w2.heap.size,0,I⟩ 1 1 [.int .i64 k] rfl rfl (cell_one_new _ _ _) (λx a7=>by simp at a7;subst a7;rfl) (by unfold maxLen;omega) zz so ?_;intro v' w3 b9 a4 b8))
     go_roundw
     case rel=>
      refine⟨k+1,zz,by go_num,?_,(aP (a1.out.tn (y.mono c5)) (dj _) _).grown a4 so (λq b'=>(U.lt q b').1)⟩;rw[Z.out];exact kH.fst (C.out.below (aP (X.refl _ _) (dj _) _)) (k:Int) E1.out b9 a4 b8
     case measure=>simp[intOf];omega
    .have e1:sU LL f.length hour 1 k=false:=by rw[S.out,T.out];rfl
     have e0:sU LL f.length hour 0 k=false:=by rw[S.out,T.out];rfl
     have E1:=Hm (mV e1);have Z:=Hm (mV e0);clear e1 e0
     go_wp2_with (first
      | (go_at_call 67;refine(c3 ⟨A,f.length,c⟩ _ rfl _).mono ?_;rintro e w2 ⟨rfl,P⟩;have y:=(lH (X.refl wr.heap.size wr)).tn (P.mono (dj _));have c9:=y.size;have C:=Hm (HR.out.below y);have U:=C.out.2.2.2.1)
      | go_still_tail 7,kr)
     go_roundw
     case rel=>
      refine⟨k+1,zz,by go_num,?_,a1.out.tn (y.mono c5)⟩;rw[Z.out,E1.out];exact C.out
     case measure=>simp[intOf];omega
    .have e1:sU LL f.length hour 1 k=false:=by rw[S.out,T.out];rfl
     have e0:sU LL f.length hour 0 k=true:=by rw[S.out,T.out];rfl
     have E1:=Hm (mV e1);have Z:=Hm (oG e0);clear e1 e0
     go_wp2_with (first
      | (go_at_call 67;refine(c3 ⟨A,f.length,c⟩ _ rfl _).mono ?_;rintro e w2 ⟨rfl,P⟩;have y:=(lH (X.refl wr.heap.size wr)).tn (P.mono (dj _));have c9:=y.size;have C:=Hm (HR.out.below y);have U:=C.out.2.2.2.1)
      | go_still_tail 7,kr
      | (at_builtin;refine ff rfl _ _ 24 rfl t.heap.size 3 i0 (.int .i64 0) 1 8 Tryz.underlying24 hi c' c6 d1 rfl dd _ _ _ rfl (U.alloc _) ⟨w2.heap.size,0,I⟩ 1 1 [.int .i64 k] rfl rfl (cell_one_new _ _ _) (λx a7=>by simp at a7;subst a7;rfl) (by unfold maxLen;omega) zz so ?_;intro v' w3 b9 a4 b8))
     go_roundw
     case rel=>
      refine⟨k+1,zz,by go_num,?_,(aP (a1.out.tn (y.mono c5)) (dj _) _).grown a4 so (λq b'=>(U.lt q b').1)⟩;rw[E1.out];exact(kH.fst (C.out.below (aP (X.refl _ _) (dj _) _)).swap (k:Int) Z.out b9 a4 b8).swap
     case measure=>simp[intOf];omega
   .have d6:(k:Int)=b.S:=zz;have c7:k=b.S.toNat:=zz;have d4:=Hm c7;have HR:=Hm a9;have a1:=Hm K;obtain⟨⟨A1,O,rfl⟩,⟨A2,c2,rfl⟩,o1,o2,o3⟩:=a9;clear o1 o2 o3 c7 K d6;go_wp2;refine bd (results_tmp3 rfl _ _ _) rfl ?_;rw[B.out,<- d4.out];exact⟨_,_,rfl,HR.out.base R.out.size,R.out.tn (a1.out.mono R.out.size)⟩):p:=h
def ZP{p:Prop}(h:p:=by
 first
 |have _:=ø
  skip
 |have _:=å
  by_cases a:ay b l=0
  .exact Ia b l w k j a
 |by_cases a:ay b l=0
  .exact MG b l w k j a
 have m:=Hm k;have o:=Hm j;clear k j;have g:=λd (q:aI d b l) (h2:aD d)=>cG b l d q h2
 first
 |have _:=å
  have i:PQ (ve b l=(0,ay b l)):=by
   unfold ve;rw[dE (by simpa using a)];exact rfl
  have x:(ay b l != 0)=true:=by simpa using a
  clear a;unfold aC.v at g|-;go_enter Tryz.func20,Tryz.ntmps20;go_wp2_with (go_at_call 13;refine(g _ (aq m.out _) (ai o.out _)).mono ?_;rintro e d ⟨rfl,f⟩;obtain⟨s,t⟩:=aU f);go_ret2;exact⟨by rw[i.out];rfl,di f⟩
 |have _:=æ
  have i:PQ (AU b l=([],0,ay b l)):=by
   unfold AU;rw[dE (by simpa using a)];exact rfl
  have x:(ay b l != 0)=true:=by simpa using a
  clear a;unfold aC.v at g|-;go_enter Tryz.func18,Tryz.ntmps18;go_wp2_with (go_at_call 13;refine(g _ (aq m.out _) (ai o.out _)).mono ?_;rintro e d ⟨rfl,f⟩;obtain⟨s,t⟩:=aU f);refine bd (results_tmp3 rfl _ _ _) rfl ?_;rw[i.out];exact⟨I,0,rfl,H.ownsRow_nil _ _ _ _,di f⟩
 |·simp only[a]at g
   have r:=λd (q:aI d b l)=>sQ b l a d q;have i:PQ (oK b l=((((aJ b l b.D.toNat).length:Nat):Int),0)):=by
    unfold oK;rw[PQ,cd (by simp[a])]
   have v:(aJ b l b.D.toNat).length<=1296:=by
    obtain⟨C,z,E,G,J,K,N,O,P,y,-⟩:=cS (bP a).1;exact ec (ln _ _) (nH z y zz)
   generalize aJ b l b.D.toNat=L at r i v;clear a;unfold aC.v at g r|-;go_enter Tryz.func28,Tryz.ntmps28;go_wp2_with (first|(go_at_call 13;refine(g _ (aq m.out _) (ai o.out _)).mono ?_;rintro e d ⟨rfl,f⟩;obtain⟨s,t⟩:=aU f;have n:=di f;have B:w.heap.size<d.heap.size:=(by have:=f.size;simp only[aa]at this;omega))|(go_at_call 60;refine(r _ (m.out.below n)).mono ?_;rintro e Q ⟨A,c,rfl, -, u⟩));go_ret2;exact⟨by rw[i.out];rfl,n.tn (u.mono n.size)⟩):p:=h
def tk{p:Prop}(h:p:=by
 intro j d;have l:j (a,0)=Y (.int .i64 step):=(d.cell (p:=⟨a,0,I⟩) c).tn f;have m:a<j.heap.size:=iv c d.size;first|have _:=ø;have g:=λw=>fB b step i h2 w;clear f c d;simp only[zR];unfold aC.v at g|-;go_enter Tryz.func65,Tryz.ntmps65|have g:=λw=>fB b step i h2 w;clear f c d;simp only[zR];unfold aC.v at g|-;go_enter Tryz.func70,Tryz.ntmps70
 go_wp2_with (go_at_call 66;refine(g _).mono ?_;rintro e w' ⟨rfl,k⟩);go_ret;exact⟨rfl,aY k⟩):p:=h
def ZS{p:Prop}(h:p:=by
 have d:=bJ (i:=0) h a;simp only[zS]at d;have c:=bJ (i:=1) d b;simp only[zS]at c;first|have _:=ø;exact⟨c,((aS.refl _ _).set (p:=⟨g,0,I⟩) (λ_ h=>h rfl) _).set (p:=⟨g,1,I⟩) (λ_ h=>h rfl) _⟩|have _:=å;have h2:=bJ (i:=2) c u2;simp only[zS]at h2;exact⟨h2,((((aS.refl _ _).set (p:=⟨g,0,I⟩) (λ_ h=>h rfl) _).set (p:=⟨g,1,I⟩) (λ_ h=>h rfl) _).set (p:=⟨g,2,I⟩) (λ_ h=>h rfl) _)⟩|exact⟨c,(((aS.refl _ _).set (p:=⟨g,0,I⟩) (λ_ h=>h rfl) _).set (p:=⟨g,1,I⟩) (λ_ h=>h rfl) _)⟩):p:=h
def xbc{p:Prop}(h:p:=by
 have e:L.getD i (0,mI)=L[i]:=by simp[List.getD,fg h]
 rw[e]at a;rw[oP,oP,q5A h,np,lh];first|have _:=ø;simp only[List.filter_cons,a,if_true,List.filter_nil,fx,ky]|simp only[List.filter_cons,a,kx,if_false,List.filter_nil,ky,Nat.add_zero]):p:=h
end Go
namespace Go.Proofs.YtfcgpihkimpkcaaGreatDoor
open Go.RowKit
theorem Im(b:aC)(l:bN)(d:Int)(w:H)(j:aI w b l)(o:aD w)(k:ay b l≠0):
  PH F 16 #[b.v,.int .i64 d] w (Lh (sv b l d) w):=by
 have ø:=0;exact ZN
theorem Io(b:aC)(l:bN)(d:Int)(w:H)(j:aI w b l)(o:aD w)(k:ay b l=0)(hf:ax d 0 (b.E.n-1)=false):
  PH F 16 #[b.v,.int .i64 d] w (Lh (sv b l d) w):=by
 have å:=0;exact ZN
def Cb(b:aC)(l:bN)(a:Int)(w:H)(d:aI w b l)(c:aD w):
  PH F 16 #[b.v,.int .i64 a] w (Lh (sv b l a) w):=by
 by_cases e:ay b l=0
 .cases f:ax a 0 (b.E.n-1)
  .exact Io b l a w d c e f
  .exact Au b l a w d c e f
 .exact Im b l a w d c e
theorem qT(b:aC)(l:bN)(w:H)(k:aI w b l)(j:aD w):
  PH F 20 #[b.v] w (Tl (ve b l) w):=by
 have å:=0;exact ZP
theorem Ce(b:aC)(l:bN)(w:H)(k:aI w b l)(j:aD w):
  PH F 18 #[b.v] w (EN (AU b l) w):=by
 have æ:=0;exact ZP
variable{c:Int}{b:aC}{e:Int×Int}
structure Qs(b:aC)(e:Int×Int):Prop where
 l:1-b.rf<=e.1
 h:e.1<=b.rf-1
 q:e.2<b.ch
def ceil_lt{v d c:Int}(a:0<d):c<(v+d-1)/d↔c*d<v:=by
 rw[Int.lt_iff_add_one_le,Int.le_ediv_iff_mul_le a,Int.add_mul];omega
def vZ(d:b.ch<b.rh)(a:Qs b e){s c:Int}:c<vY b e s↔c*(b.rh-e.2)<nJ b.rf b.rh b.ch e s:=ceil_lt (by have:=a.q;omega)
def MP(a:b.ch<b.rh)(c:Qs b e):Ve b e=true↔b.cf<vY b e (-1)\/b.cf<vY b e 1:=by
 simp only[Ve,jC,nd,decide_eq_true_iff,vZ a c]
def oK(b:aC)(l:bN):Int×Int:=if ay b l≠0 then(0,ay b l)else((((aJ b l b.D.toNat).length:Nat):Int),0)
def oL(p:Int×Int)(w:H)(e:Ending)(w':H):Prop:=e=.returned (.tuple #[.int .i64 p.1,.int .i64 p.2])/\X w w w'
theorem vG(b:aC)(l:bN)(w:H)(k:aI w b l)(j:aD w)(a:ay b l=0:=by kernel_rfl):
  PH F 28 #[b.v] w (oL (oK b l) w):=by
 have ø:=0;exact ZP
variable{w:H}{g:Nat}{t:Lk}{a0 a1 a2 a3 a4 a5 a6 a7 a8 a9 a10 a11 a12 a13 a14:M}
def uC(b:aC)(s:Sl)(m:Option Nat):M:=.agg #[.int .i64 b.S,.int .i64 b.D,.int .i64 b.L,.int .i64 b.lo,.int .i64 b.hi,.slice b.C.A b.C.n b.C.c,.int .i64 b.rf,.int .i64 b.rh,.int .i64 b.cf,.int .i64 b.ch,.slice b.U.A b.U.n b.U.c,.slice b.E.A b.E.n b.E.c,.slice b.W.A b.W.n b.W.c,.slice s.A s.n s.c,.map m]
def bJ{g i:Nat}{cs:Array M}(h:w.heap[g]?=Y (.cells cs t (0,0)))(v:M):(w.setCell (g,i) v).heap[g]?=Y (.cells (cs.setIfInBounds i v) t (0,0)):=by
 simp[H.setCell,ml,h]
def Bs(a b k l m n o q r s c d e f j:M)(h:w.heap[g]?=Y (.cells #[a0,a1,a2,a3,a4,a5,a6,a7,a8,a9,a10,a11,a12,a13,a14] t (0,0))):
  (((((((((((((((w.setCell (g,0) a).setCell (g,1) b).setCell (g,2) k).setCell (g,3) l).setCell (g,4) m).setCell (g,5) n).setCell (g,6) o).setCell (g,7) q).setCell (g,8) r).setCell (g,9) s).setCell (g,10) c).setCell (g,11) d).setCell (g,12) e).setCell (g,13) f).setCell (g,14) j).heap[g]?=Y (.cells #[a,b,k,l,m,n,o,q,r,s,c,d,e,f,j] t (0,0))/\aS (λx=>x≠g) w (((((((((((((((w.setCell (g,0) a).setCell (g,1) b).setCell (g,2) k).setCell (g,3) l).setCell (g,4) m).setCell (g,5) n).setCell (g,6) o).setCell (g,7) q).setCell (g,8) r).setCell (g,9) s).setCell (g,10) c).setCell (g,11) d).setCell (g,12) e).setCell (g,13) f).setCell (g,14) j):=
 by
  have u:=bJ (i:=0) h a;simp only[zS]at u;have v:=bJ (i:=1) u b;simp only[zS]at v;have h2:=bJ (i:=2) v k;simp only[zS]at h2;have E:=bJ (i:=3) h2 l;simp only[zS]at E;have G:=bJ (i:=4) E m;simp only[zS]at G;have J:=bJ (i:=5) G n;simp only[zS]at J;have K:=bJ (i:=6) J o;simp only[zS]at K;have L:=bJ (i:=7) K q;simp only[zS]at L;have N:=bJ (i:=8) L r;simp only[zS]at N;have O:=bJ (i:=9) N s;simp only[zS]at O;have y:=bJ (i:=10) O c;simp only[zS]at y;have z:=bJ (i:=11) y d;simp only[zS]at z;have A:=bJ (i:=12) z e;simp only[zS]at A;have B:=bJ (i:=13) A f;simp only[zS]at B;have C:=bJ (i:=14) B j;simp only[zS]at C;exact⟨C,((((((((((((((((aS.refl _ _).set (p:=⟨g,0,I⟩) (λ_ h=>h rfl) a).set (p:=⟨g,1,I⟩) (λ_ h=>h rfl) b).set (p:=⟨g,2,I⟩) (λ_ h=>h rfl) k).set (p:=⟨g,3,I⟩) (λ_ h=>h rfl) l).set (p:=⟨g,4,I⟩) (λ_ h=>h rfl) m).set (p:=⟨g,5,I⟩) (λ_ h=>h rfl) n).set (p:=⟨g,6,I⟩) (λ_ h=>h rfl) o).set (p:=⟨g,7,I⟩) (λ_ h=>h rfl) q).set (p:=⟨g,8,I⟩) (λ_ h=>h rfl) r).set (p:=⟨g,9,I⟩) (λ_ h=>h rfl) s).set (p:=⟨g,10,I⟩) (λ_ h=>h rfl) c).set (p:=⟨g,11,I⟩) (λ_ h=>h rfl) d).set (p:=⟨g,12,I⟩) (λ_ h=>h rfl) e).set (p:=⟨g,13,I⟩) (λ_ h=>h rfl) f).set (p:=⟨g,14,I⟩) (λ_ h=>h rfl) j)⟩
def gH(h:w.heap[g]?=Y (.cells #[a0,a1,a2,a3,a4,a5,a6,a7,a8,a9,a10,a11,a12,a13,a14] t (0,0))):
  w.cell? ⟨g,0,I⟩=Y a0/\w.cell? ⟨g,1,I⟩=Y a1/\w.cell? ⟨g,2,I⟩=Y a2/\w.cell? ⟨g,3,I⟩=Y a3/\w.cell? ⟨g,4,I⟩=Y a4/\w.cell? ⟨g,5,I⟩=Y a5/\w.cell? ⟨g,6,I⟩=Y a6/\w.cell? ⟨g,7,I⟩=Y a7/\w.cell? ⟨g,8,I⟩=Y a8/\w.cell? ⟨g,9,I⟩=Y a9/\w.cell? ⟨g,10,I⟩=Y a10/\w.cell? ⟨g,11,I⟩=Y a11/\w.cell? ⟨g,12,I⟩=Y a12/\w.cell? ⟨g,13,I⟩=Y a13/\w.cell? ⟨g,14,I⟩=Y a14:=by
 have key:∀i v,(#[a0,a1,a2,a3,a4,a5,a6,a7,a8,a9,a10,a11,a12,a13,a14]:Array M)[i]?=Y v->w.cell? ⟨g,i,I⟩=Y v:=λi v a=>by rw[H.cell?,h];exact a
 exact⟨key _ _ rfl,key _ _ rfl,key _ _ rfl,key _ _ rfl,key _ _ rfl,key _ _ rfl,key _ _ rfl,key _ _ rfl,key _ _ rfl,key _ _ rfl,key _ _ rfl,key _ _ rfl,key _ _ rfl,key _ _ rfl,key _ _ rfl⟩
def iG(b:aC)(s:Sl)(m:Option Nat):Array M:= #[.int .i64 b.S,.int .i64 b.D,.int .i64 b.L,.int .i64 b.lo,.int .i64 b.hi,.slice b.C.A b.C.n b.C.c,.int .i64 b.rf,.int .i64 b.rh,.int .i64 b.cf,.int .i64 b.ch,.slice b.U.A b.U.n b.U.c,.slice b.E.A b.E.n b.E.c,.slice b.W.A b.W.n b.W.c,.slice s.A s.n s.c,.map m]
def Gk(w:H)(g:Nat)(b:aC)(s:Sl)(m:Option Nat):Prop:=w.heap[g]?=Y (.cells (iG b s m) 109 (0,0))
def abo(c:Nat)(d:Array M)(b:aC)(v:Bool)(w:H):Prop:=∀a,X w w a->PH F c (#[b.v]++d) a λe w'=>e=.returned (.bool v)/\X a a w'
variable{wr wr':H}{B n c bb kb mb:Nat}{L:List gM}{s:Sl}{SS:List (Int×(Nat->Bool))}
def ko(h:Int)(L:List gM)(a:List Int):List gM:=a.foldl (λL n=>wD L (h,n)) L
def oN(b:aC)(l:bN)(x:Int×(Nat->Bool))(h:Nat):Nat->Bool:=eT b.S b.L x.1 x.2 (l.U.getD h (0,0))
def ku(b:aC)(l:bN)(x:Int×(Nat->Bool))(L:List gM)(a:List Nat):List gM:=a.foldl (λL (h:Nat)=>ko (h:Int) L (ie (oN b l x h) 12)) L
def lP(b:aC)(l:bN)(L:List gM)(xs:List (Int×(Nat->Bool))):List gM:=xs.foldl (λL x=>ku b l x L (List.range' 0 l.U.length)) L
def fN(b:aC)(l:bN):List gM:=lP b l [] (aJ b l b.D.toNat)
def jo(b:aC)(l:bN)(w:H)(e:Ending)(w':H):Prop:=∃A c r,e=.returned (.tuple #[uC b ⟨A,(aJ b l b.D.toNat).length,c⟩ (Y r),.int .i64 0])/\
 w'.ownsRow w.heap.size 86 13 (.slice A (aJ b l b.D.toNat).length c) (aJ b l b.D.toNat).length (Gf (aJ b l b.D.toNat))/\jm w' r (fN b l)/\w.heap.size<=r/\X w w w'
def Ja:∀(L:List (Int×(Nat->Bool))) (i j:Nat),i<L.length->j<13->(Gf L)[i*13+j]?=(zC (L.getD i (0,mI))).toList[j]?
 | [],i,j,hi,_=>by simp at hi
 | x::r,0,j,_,b=>by
  have a:(zC x).toList.length=13:=rfl;simp only[Gf,la,Nat.zero_mul,kl,List.getD_cons_zero];exact List.getElem?_append_left (by rw[a];exact b)
 | x::r,i+1,j,hi,b=>by
  have a:(zC x).toList.length=13:=rfl;have c:=Ja r i j (by simpa using hi) b;simp only[Gf,la,List.getD_cons_succ]at c|-;rw[List.getElem?_append_right (by rw[a];omega),a,show(i+1)*13+j-13=i*13+j by omega];exact c
def wO{B g n c:Nat}{L:List (Int×(Nat->Bool))}(h:w.ownsRow B 86 13 (.slice (Y (g,0)) n c) n (Gf L))(b:n=L.length){i:Nat}(hi:i<n)(j:Nat)(a:j<13):w (g,i*13+j)=(zC (L.getD i (0,mI))).toList[j]?:=by
 rw[h.cellAt (i*13+j) (by
  have:i*13+13<=n*13:=zz;omega),Ja L i j zz a]
structure lQ(w:H)(bb kb mb B:Nat)(b:aC)(s:Sl)(SS:List (Int×(Nat->Bool)))(wr:H)(L:List gM):Prop where
 box:aK wr bb 31 b
 res:wr.heap[bb+1]?=Y (.cells (iG bI iy I) 109 (0,0))
 kn:Gk wr kb b s (Y mb)
 own:wr.ownsRow B 86 13 (.slice s.A s.n s.c) s.n (Gf SS)
 map:jm wr mb L
 low:X w w wr
theorem lQ.below(h:lQ w bb kb mb B b s SS wr L)(a:X wr wr wr'):lQ w bb kb mb B b s SS wr' L:=
 have hk:=aS.dY (K:=λ_=>True) a (λ_ h _=>h)
 ⟨hk.get db h.box,hk.get db h.res,hk.get db h.kn,bB h.own hk (λ_ _=>trivial),hk.get db h.map,h.low.tn (a.mono h.low.size)⟩
theorem lQ.kQ{L L':List gM}(h:lQ w bb kb mb B b s SS wr L)(d:w.heap.size<=mb)(h2:bb+1<mb)(e:mb<kb)(f:kb<B)(hk:aS (λx=>x≠mb) wr wr')(a:jm wr' mb L'):lQ w bb kb mb B b s SS wr' L':=
 ⟨hk.get zz h.box,hk.get zz h.res,hk.get zz h.kn,bB h.own hk (λg c=>by have:=(h.own.lt g c).1;omega),a,h.low.tn (hk.below h.low.size (λx i=>zz))⟩
def Gm{r:Nat}(c:jm w r L)(k:Int×Int):∃(a b:H) (i:Nat),(Instr.lookup 107 (.map (Y r)) (gG k) false).run F w=.ok (.int .i64 (assoc L k)) w/\
  (Instr.mapEntry 107 (.map (Y r)) (gG k)).run F w=.ok (.tuple #[.int .i64 (assoc L k),.int .i64 i]) a/\(Instr.lookup 107 (.map (Y r)) (gG k) false).run F a=.ok (.int .i64 (assoc L k)) a/\
  (Instr.entryStore 107 (.map (Y r)) (.int .i64 i) (.int .i64 (wrap64 (assoc L k+1)))).run F a=.ok () b/\jm b r (wD L k)/\aS (λx=>x≠r) w b:=by
 have g:r<w.heap.size:=(du.1 c).1;obtain⟨i,j,h2,m⟩:=Ll c k;have f:jm (w.putObj r (.map (jl (sS k L)).toArray (sS k L).length)) r (sS k L):=H.putObj_heap_same g;have d:=run_store f h2 (wrap64 (assoc L k+1));rw[<- m]at d;have n:=(aS.refl (λx=>x≠r) w).put (l:=r) (λ_ h=>h rfl) (.map (jl (sS k L)).toArray (sS k L).length);have e:=gd f k;rw[Lj]at e;exact⟨_,_,i,gd c k,j,e,d,H.putObj_heap_same (by simpa using g),n.put (λ_ h=>h rfl) _⟩
def Lm{A:Option Addr}{l:List Int}(h:w.ownsRow B 3 1 (.slice A n c) n (l.map (M.int .i64)))(f:n=l.length)(e:l.length<=1000):aN w ⟨A,n,c⟩ l:=by
 subst f;rcases h.2 with⟨a,h2⟩|⟨g,i,j,a,h2,b,d,m,o,p⟩
 .have:l=[]:=List.eq_nil_of_length_eq_zero h2;subst this;exact⟨rfl,fi _,fi _,λh=>dC h ss⟩
 .simp only[lA]at a;obtain⟨rfl, -, rfl⟩:=a;refine⟨rfl,d,e,λ_=>⟨g,0,rfl,(du.1 b).1,λk hk=>?_⟩⟩;have:=h.cellAt k zz;rw[kl,this];simp[List.getD,fg hk]
theorem Ob(b:aC)(l:bN)(gf:Nat)(G4:Array M)(eg:Enters F gf)(w:H)(a1:aI w b l)(b7:aD w)(d4:ay b l=0)(hf:abo gf G4 b true w)(h0:aJ b l b.D.toNat≠[]):
  PH F 61 #[b.v,.func (.func gf) #[] G4] w (jo b l w):=by
 have ï:=0;exact pb
def cP(b:aC)(l:bN)(q:Bool):Int:=if ay b l≠0 then ay b l else if q=false then 6 else if aJ b l b.D.toNat=[]then 9 else 0
def Bt{b:aC}{l:bN}{q:Bool}(h:cP b l q=0):ay b l=0/\q=true/\aJ b l b.D.toNat≠[]:=by
 unfold cP at h;by_cases a:ay b l=0
 .rw[cd (by simpa using a)]at h
  cases q with
  | false=>rw[dE rfl]at h;omega
  | true=>
   rw[cd ss]at h;by_cases c:aJ b l b.D.toNat=[]
   .rw[dE c]at h;omega
   .exact⟨a,rfl,c⟩
 .rw[dE a]at h;exact dC h a
def qp(b:aC)(l:bN)(a:Nat)(c:Array M)(e:Enters F a)(q:Bool)(w:H)(j:aI w b l)(g:aD w)(i:ay b l=0->abo a c b q w)(h:cP b l q=0):
  PH F 61 #[b.v,.func (.func a) #[] c] w (jo b l w):=by
 obtain⟨d,h2,f⟩:=Bt h;subst h2;exact Ob b l a c e w j g d (i d) f
def lT:Enters F 62:=enters_of Tryz.func62 kr rfl
def Dw:Enters F 65:=enters_of Tryz.func65 kr rfl
def Dx:Enters F 68:=enters_of Tryz.func68 kr rfl
def Dy:Enters F 69:=enters_of Tryz.func69 kr rfl
def Dz:Enters F 70:=enters_of Tryz.func70 kr rfl
theorem gW(b:aC)(w:H):abo 62 #[] b true w:=by
 intro a _;simp only[zR,List.append_nil];unfold aC.v;go_enter Tryz.func62,Tryz.ntmps62;go_wp2;go_ret;exact⟨rfl,(X.refl _ _).alloc (dj _) _⟩
theorem Ay(b:aC)(i: -1000<=b.S)(h2:b.S<=1000)(step:Int)(a:Nat)(w:H)(f:w (a,0)=Y (.int .i64 step))(c:a<w):abo 65 #[.pointer (Y (a,0))] b (ax step 0 (b.S-1)) w:=by
 have ø:=0;exact tk
theorem xX(b:aC)(i: -1000<=b.S)(h2:b.S<=1000)(step:Int)(a:Nat)(w:H)(f:w (a,0)=Y (.int .i64 step))(c:a<w):abo 70 #[.pointer (Y (a,0))] b (ax step 0 (b.S-1)) w:=tk
theorem DC(b:aC)(j:b.U.n<=1000)(c:Int)(a:Nat)(w:H)(g:w (a,0)=Y (.int .i64 c))(f:a<w):abo 69 #[.pointer (Y (a,0))] b (ax c 0 (b.U.n-1)) w:=by
 intro i d;have l:i (a,0)=Y (.int .i64 c):=(d.cell (p:=⟨a,0,I⟩) f).tn g;have m:a<i.heap.size:=iv f d.size;have h:=λw=>oE b c j w;clear g f d;simp only[zR];unfold aC.v at h|-;go_enter Tryz.func69,Tryz.ntmps69;go_wp2_with (go_at_call 44;refine(h _).mono ?_;rintro e w' ⟨rfl,k⟩);go_ret;exact⟨rfl,aY k⟩
theorem xY(b:aC)(r:b.U.n<=1000)(h2: -1000<=b.S)(s:b.S<=1000)(g step:Int)(c a:Nat)(w:H)(m:w (c,0)=Y (.int .i64 g))(i:c<w)(n:w (a,0)=Y (.int .i64 step))(k:a<w):
  abo 68 #[.pointer (Y (c,0)),.pointer (Y (a,0))] b (ax g 0 (b.U.n-1)&&ax step 0 (b.S-1)) w:=by
 intro h f;have v:h (c,0)=Y (.int .i64 g):=(f.cell (p:=⟨c,0,I⟩) i).tn m;have x:h (a,0)=Y (.int .i64 step):=(f.cell (p:=⟨a,0,I⟩) k).tn n;have A:c<h.heap.size:=iv i f.size;have s2:a<h.heap.size:=iv k f.size;have j:=λw=>oE b g r w;have l:=λw=>fB b step h2 s w;clear m i n k f;simp only[zR];generalize ax g 0 (b.U.n-1)=p at j|-;generalize ax step 0 (b.S-1)=q at l|-;unfold aC.v at j l|-;cases p
 all_goals
  go_enter Tryz.func68,Tryz.ntmps68
  go_wp2_with (first
   | (go_at_call 44;refine(j _).mono ?_;rintro e o ⟨rfl,d⟩;obtain⟨y,z⟩:=aU d;have u:=d.size;have C:h.heap.size<o.heap.size:=(by simp only[aa]at u;omega);have E:a<o.heap.size:=zz)
   | (go_at_call 66;refine(l _).mono ?_;rintro e B ⟨rfl,t⟩))
  go_ret
 .exact⟨by simp,aY d⟩
 .exact⟨by simp,(aY d).tn (t.mono (aY d).size)⟩
def lY(n a:Int):Int:=if n=a then 1 else if n=0 then 2 else 0
theorem xZ(b:aC)(s:Sl)(m:Option Nat)(n:Int)(w:H):PH F 67 #[uC b s m,.int .i64 n] w λe w'=>e=.returned (.int .i64 (lY n s.n))/\X w w w':=by
 unfold uC;go_enter Tryz.func67,Tryz.ntmps67;go_wp2;all_goals go_ret
 all_goals exact⟨aW (by simp_all[lY]),(X.refl _ _).alloc (dj _) _⟩
variable{f:Int×(Nat->Bool)->Bool}{L:List (Int×(Nat->Bool))}{i:Nat}
def oP(f:Int×(Nat->Bool)->Bool)(L:List (Int×(Nat->Bool))):Nat:=(L.filter f).length
def Sq(h:i<L.length)(a:f (L.getD i (0,mI))=true):oP f (L.take (i+1))=oP f (L.take i)+1:=by
 have ø:=0;exact xbc
def WC(h:i<L.length)(a:f (L.getD i (0,mI))=false):oP f (L.take (i+1))=oP f (L.take i):=xbc
def Gn(f:Int×(Nat->Bool)->Bool)(L:List (Int×(Nat->Bool)))(i:Nat):oP f (L.take i)<=i:=ec (ln _ _) (List.length_take_le _ _)
def vH(b:aC)(l:bN)(step:Int):Int×Int:=
 if cP b l (ax step 0 (b.S-1))=0 then(lY (oP (λx=>x.2 step.toNat) (aJ b l b.D.toNat)) (aJ b l b.D.toNat).length,0)else(0,cP b l (ax step 0 (b.S-1)))
def nL{b:aC}{l:bN}(h:ay b l=0):(aJ b l b.D.toNat).length<=1296:=by
 obtain⟨d,c,e,f,g,i,j,k,m,a,-⟩:=cS (bP h).1;exact ec (ln _ _) (nH c a zz)
theorem Ln(b:aC)(l:bN)(step:Int)(w:H)(a1:aI w b l)(b7:aD w)(h:cP b l (ax step 0 (b.S-1))=0):
  PH F 31 #[b.v,.int .i64 step] w (oL (vH b l step) w):=by
 have ø:=0;exact pb
def Lr(b:aC)(l:bN)(step:Int)(w:H)(c:aI w b l)(a:aD w)(h:cP b l (ax step 0 (b.S-1))=0:=by kernel_rfl):PH F 31 #[b.v,.int .i64 step] w (oL (vH b l step) w):=Ln b l step w c a h
def mW(b:aC)(a step:Int):Bool:=ax a 0 (b.U.n-1)&&ax step 0 (b.S-1)
def oQ(b:aC)(l:bN)(a step:Int):Int×Int:=
 if cP b l (mW b a step)=0 then(lY (assoc (fN b l) (a,step)) (aJ b l b.D.toNat).length,0)else(0,cP b l (mW b a step))
theorem Gp(b:aC)(l:bN)(hour step:Int)(w:H)(u:aI w b l)(E:aD w)(h:cP b l (mW b hour step)=0):
  PH F 32 #[b.v,.int .i64 hour,.int .i64 step] w (oL (oQ b l hour step) w):=by
 have å:=0;exact py
def ya(b:aC)(l:bN)(a step:Int)(w:H)(d:aI w b l)(c:aD w)(h:cP b l (mW b a step)=0:=by kernel_rfl):PH F 32 #[b.v,.int .i64 a,.int .i64 step] w (oL (oQ b l a step) w):=Gp b l a step w d c h
variable{P:Ps}{o:Kp}{a:Act}{Q:Exit->Act->H->Prop}
def abm{K:Act->H->Prop}(s x:ae)(t:Lk)
  (y:o.op=.call {callee:=.builtin .append,args:= #[s,x],argTypes:= #[t,t]})
  (base:Nat)(e:Lk)(i:TypeInfo)(z:M)(size bytes:Nat)(J:P.underlying t=Y (.slice e))(hi:P.info? e=Y i)(N:i.zero=Y z)
  (E:i.size=size)(l:i.bytes=bytes)(O:z.cells.size=size)(G:0<size)
  (v:M)(n:Nat)(xs:List M)(C:a.eval s=v)(A:w.ownsRow base e size v n xs)
  (ad:Addr)(m c:Nat)(news:List M)(L:a.eval x=.slice (Y ad) m c)(q:news.length=m*size)(r:∀j u,news[j]?=Y u->w.cell? (ad.add j)=Y u)(b:∀u∈news,u.oneCell'=true)
  (g:n+m<=maxLen)(p:(n+m)*bytes<=140737488355328)(k:base<=w.heap.size)
  (h:∀v' w',w'.ownsRow base e size v' (n+m) (xs++news)->w.grownBy w' v.ownBlock->(v'.ownBlock=v.ownBlock\/v'.ownBlock=Y w.heap.size)->K (a.put o.dst v') w'):o.wp P a w K Q:=by
 obtain⟨v',w',B,h2,d, -, f⟩:=gU (P:=P) w base t o.type e i z size bytes J hi N E l O G v n xs A ad m c news q r b g p k;unfold Kp.wp Hn;simp only[y,ab,invoke,builtin,Sem.run_bind,Sem.run_pure,Result.andThen_ok,zM,C,L,B];exact h v' w' h2 d f
def ff{ops:Array Kp}{rest:List Kp}(r:o.guard=I)(s x:ae)(t:Lk)
  (B:o.op=.call {callee:=.builtin .append,args:= #[s,x],argTypes:= #[t,t]})
  (base:Nat)(e:Lk)(i:TypeInfo)(z:M)(size bytes:Nat)(K:P.underlying t=Y (.slice e))(hi:P.info? e=Y i)(N:i.zero=Y z)
  (G:i.size=size)(p:i.bytes=bytes)(O:z.cells.size=size)(J:0<size)
  (v:M)(n:Nat)(xs:List M)(E:a.eval s=v)(C:w.ownsRow base e size v n xs)
  (ad:Addr)(m c:Nat)(news:List M)(L:a.eval x=.slice (Y ad) m c)(y:news.length=m*size)(A:∀j u,news[j]?=Y u->w.cell? (ad.add j)=Y u)(b:∀u∈news,u.oneCell'=true)
  (g:n+m<=maxLen)(q:(n+m)*bytes<=140737488355328)(l:base<=w.heap.size)
  (h:∀v' w',w'.ownsRow base e size v' (n+m) (xs++news)->w.grownBy w' v.ownBlock->(v'.ownBlock=v.ownBlock\/v'.ownBlock=Y w.heap.size)->wpList P ops Q rest (a.put o.dst v') w'):wpList P ops Q (o::rest) a w:=
 wpList_plain r λ_ k=>abm s x t B base e i z size bytes K hi N G p O J v n xs E C ad m c news L y A b g q l λv' w' h2 d f=>k _ _ (h v' w' h2 d f)
def kH(B:Nat)(d e:M)(a b:List Int)(w:H):Prop:=
 (∃A c,d=.slice A a.length c)/\(∃A c,e=.slice A b.length c)/\w.ownsRow B 3 1 d a.length (a.map (M.int .i64))/\w.ownsRow B 3 1 e b.length (b.map (M.int .i64))/\(∀g,d.ownBlock=Y g->e.ownBlock≠Y g)
def kH.below{B:Nat}{v1 v2:M}{l1 l2:List Int}{w w':H}(h:kH B v1 v2 l1 l2 w)(a:X w w w'):kH B v1 v2 l1 l2 w':=
 have hk:=aS.dY (K:=λ_=>True) a (λ_ h _=>h)
 ⟨h.1,h.2.1,bB h.2.2.1 hk (λ_ _=>trivial),bB h.2.2.2.1 hk (λ_ _=>trivial),h.2.2.2.2⟩
def wP(p:List Int×List Int×Int)(w:H)(e:Ending)(w':H):Prop:=
 ∃a b,e=.returned (.tuple #[a,b,.int .i64 p.2.2])/\kH w.heap.size a b p.1 p.2.1 w'/\X w w w'
def sU(LL:List gM)(b a v:Int):Nat->Bool:=λn=>decide (lY (assoc LL (a,n)) b=v)
def DF(b:aC)(l:bN)(a:Int):List Int×List Int×Int:=
 if cP b l (ax a 0 (b.U.n-1))=0 then(ie (sU (fN b l) (aJ b l b.D.toNat).length a 1) b.S.toNat,ie (sU (fN b l) (aJ b l b.D.toNat).length a 0) b.S.toNat,0)else([],[],cP b l (ax a 0 (b.U.n-1)))
def Y3(b:aC)(s:Sl)(m:Option Nat)(n v:Int)(a:lY n s.n=v)(w:H):PH F 67 #[uC b s m,.int .i64 n] w λe w'=>e=.returned (.int .i64 v)/\X w w w':=a▸xZ b s m n w
def Od(n a:Int):lY n a=1\/lY n a=2\/lY n a=0:=by
 unfold lY;split
 .exact .inl rfl
 .split
  .exact .inr (.inl rfl)
  .exact .inr (.inr rfl)
variable{v1 v2:M}{l1 l2:List Int}
def kH.fst{v1 v2 v1':M}{l1 l2 l1':List Int}{w w':H}(h:kH B v1 v2 l1 l2 w)(x:Int)(m:l1'=l1++[x])(i:w'.ownsRow B 3 1 v1' (l1.length+1) (l1.map (M.int .i64)++[.int .i64 x]))(l:w.grownBy w' v1.ownBlock)(a:v1'.ownBlock=v1.ownBlock\/v1'.ownBlock=Y w):kH B v1' v2 l1' l2 w':=by
 obtain⟨n,k,o,d,f⟩:=h;subst m;refine⟨?_,k,by simpa using i,d.kept l ?_,λg j=>?_⟩
 .obtain⟨g,c,b⟩:=ownsRow_succ i;exact⟨Y ⟨g,0,I⟩,c,by rw[b];simp⟩
 .cases b:v1.ownBlock with
  | none=>cases h2:v2.ownBlock<;>simp
  | some g=>exact .inr (f g b)
 .rcases a with a|a
  .exact f g (a▸j)
  .rw[j]at a;cases a;intro e;have:=(d.lt _ e).2;omega
def kH.base{B B':Nat}(h:kH B v1 v2 l1 l2 w)(hB:B'<=B):kH B' v1 v2 l1 l2 w:=⟨h.1,h.2.1,dy hB h.2.2.1,dy hB h.2.2.2.1,h.2.2.2.2⟩
def kH.swap(h:kH B v1 v2 l1 l2 w):kH B v2 v1 l2 l1 w:=
 ⟨h.2.1,h.1,h.2.2.2.1,h.2.2.1,λg a b=>h.2.2.2.2 g b a⟩
theorem Oe(b:aC)(l:bN)(hour:Int)(w:H)(u:aI w b l)(E:aD w)(h:cP b l (ax hour 0 (b.U.n-1))=0):
  PH F 33 #[b.v,.int .i64 hour] w (wP (DF b l hour) w):=py
def Of(b:aC)(l:bN)(a:Int)(w:H)(d:aI w b l)(c:aD w)(h:cP b l (ax a 0 (b.U.n-1))=0:=by kernel_rfl):PH F 33 #[b.v,.int .i64 a] w (wP (DF b l a) w):=Oe b l a w d c h
def Og(LL:List gM)(n:Nat)(a:List Nat):Bool:=a.all λh=>decide (assoc LL ((h:Int),(n:Int))<=0)
def sw(LL:List gM)(U:Nat):Nat->Bool:=λn=>Og LL n (List.range' 0 U)
def qq(b:aC)(l:bN):List Int×Int:=
 if cP b l true=0 then(ie (sw (fN b l) b.U.n) b.S.toNat,0)else([],cP b l true)
theorem Lt(b:aC)(l:bN)(w:H)(a1:aI w b l)(b7:aD w)(h:cP b l true=0):
  PH F 34 #[b.v] w (ji w (qq b l).1 (qq b l).2 w):=by
 have æ:=0;exact pb
def Lu(b:aC)(l:bN)(w:H)(c:aI w b l)(a:aD w)(h:cP b l true=0:=by kernel_rfl):PH F 34 #[b.v] w (ji w (qq b l).1 (qq b l).2 w):=Lt b l w c a h
variable{v0:M}
def Tz(b:aC)(l:bN)(x:Int×(Nat->Bool))(p:Nat):Nat->Bool:=λh=>oN b l x h p
def pF(b:aC)(l:bN)(x:Int×(Nat->Bool))(p k:Nat):Nat:=(ie (Tz b l x p) k).length
def yc(b:aC)(l:bN)(p:Nat)(z:Int×Int)(xs:List (Int×(Nat->Bool))):Int×Int:=xs.foldl (λz x=>(min z.1 (pF b l x p l.U.length:Nat),max z.2 (pF b l x p l.U.length:Nat))) z
def qs(b:aC)(l:bN)(step:Int):(Int×Int)×Int:=
 if cP b l (ax step 0 (b.S-1))=0 then(yc b l step.toNat ((l.U.length:Nat),0) (aJ b l b.D.toNat),0)else((0,0),cP b l (ax step 0 (b.S-1)))
def yd(p:(Int×Int)×Int)(w:H)(e:Ending)(w':H):Prop:=e=.returned (.tuple #[.agg #[.int .i64 p.1.1,.int .i64 p.1.2],.int .i64 p.2])/\X w w w'
def kV(h:w.heap[g]?=Y (.cells #[v0,v1] t (0,0))):w (g,0)=Y v0/\w (g,1)=Y v1:=by
 constructor<;>(rw[H.cell?,h];rfl)
def tR(a b:M)(h:w.heap[g]?=Y (.cells #[v0,v1] t (0,0))):((w.setCell (g,0) a).setCell (g,1) b).heap[g]?=Y (.cells #[a,b] t (0,0))/\aS (λx=>x≠g) w ((w.setCell (g,0) a).setCell (g,1) b):=by
 have ø:=0;exact ZS
variable{sb0x r p:Nat}{l:bN}
structure tS(w:H)(kb sb0x B:Nat)(b:aC)(l:bN)(s:Sl)(r:Nat)(SS:List (Int×(Nat->Bool)))(p:Nat)(wr:H):Prop where
 box:aK wr w.heap.size 31 b
 st:wr.heap[sb0x]?=Y (.cells #[.int .i64 p] 3 (0,0))
 res:wr.heap[sb0x+1]?=Y (.cells #[.int .i64 0,.int .i64 0] 23 (0,0))
 kn:Gk wr kb b s (Y r)
 own:wr.ownsRow B 86 13 (.slice s.A s.n s.c) s.n (Gf SS)
 low:X w w wr
theorem tS.keep{K:Nat->Prop}(h:tS w kb sb0x B b l s r SS p wr)(hk:aS K wr wr')(k0:∀x,x<=w.heap.size->K x)(c:K sb0x)(d:K (sb0x+1))(e:K kb)(f:∀g,(M.slice s.A s.n s.c).ownBlock=Y g->K g):tS w kb sb0x B b l s r SS p wr':=
 ⟨hk.get (k0 _ (dj _)) h.box,hk.get c h.st,hk.get d h.res,hk.get e h.kn,bB h.own hk f,h.low.tn (hk.below h.low.size (λx a=>k0 x (q9A a)))⟩
def tS.below(h:tS w kb sb0x B b l s r SS p wr)(a:X wr wr wr'):tS w kb sb0x B b l s r SS p wr':=
 h.keep (aS.dY (K:=λ_=>True) a (λ_ h _=>h)) (λ_ _=>trivial) db db db (λ_ _=>trivial)
def Oj(b:aC)(l:bN)(x:Int×(Nat->Bool))(p k:Nat):pF b l x p k<=k:=kO _ _
theorem Gq(b:aC)(l:bN)(step:Int)(w:H)(a1:aI w b l)(b7:aD w)(h:cP b l (ax step 0 (b.S-1))=0):
  PH F 35 #[b.v,.int .i64 step] w (yd (qs b l step) w):=by
 have ë:=0;exact pb
def Gr(b:aC)(l:bN)(step:Int)(w:H)(c:aI w b l)(a:aD w)(h:cP b l (ax step 0 (b.S-1))=0:=by kernel_rfl):PH F 35 #[b.v,.int .i64 step] w (yd (qs b l step) w):=Gq b l step w c a h
def Y4(w:H)(s:Sl)(L:List (Int×Int))(d:Int×Int):Prop:=s.n=L.length/\L.length<=s.c/\L.length<=1000/\(0<L.length->∃b off,s.A=Y ⟨b,off,I⟩/\b<w.heap.size/\∀k,k<L.length->w (b,off+k*2)=Y (.int .i64 (L.getD k d).1)/\w (b,off+k*2+1)=Y (.int .i64 (L.getD k d).2))
def Gs(a b:M)(h:w.heap[g]?=Y (.cells #[a0,a1] t (0,0))):((w.setCell (g,0) a).setCell (g,1) b).heap[g]?=Y (.cells #[a,b] t (0,0))/\aS (λx=>x≠g) w ((w.setCell (g,0) a).setCell (g,1) b):=ZS
def tT(h:w.heap[g]?=Y (.cells #[a0,a1] t (0,0))):w (g,0)=Y a0/\w (g,1)=Y a1:=by
 refine⟨?_,?_⟩<;>(rw[H.cell?,h];rfl)
def dR(a:Int×Int->Int×Int->Bool)(one:Int×Int)(L:List (Int×Int)):Int×Int:=L.foldl (λone x=>if a x one then x else one) one
theorem Jb(b:Int×Int->Int×Int->Bool)(P:Int×Int->Prop)(one d:Int×Int)(s:Sl)(L:List (Int×Int))(w:H)(a5:Y4 w s L d)(a6:P one)(V:∀x∈L,P x)
  (W:∀x y f,X w.heap.size w f->P x->P y->PH F 73 #[.agg #[.int .i64 x.1,.int .i64 x.2],.agg #[.int .i64 y.1,.int .i64 y.2]] f λe w'=>e=.returned (.bool (b x y))/\X f.heap.size f w'):
  PH F 72 #[.func (.func 73) #[] #[],.agg #[.int .i64 one.1,.int .i64 one.2],.slice s.A s.n s.c] w λe w'=>e=.returned (.agg #[.int .i64 (dR b one L).1,.int .i64 (dR b one L).2])/\X w.heap.size w w':=by
 have ø:=0;exact pa
def Y5(w:H)(s:Sl)(L:List ((Int×Int)×Int))(d:(Int×Int)×Int):Prop:=s.n=L.length/\L.length<=s.c/\L.length<=1000/\(0<L.length->∃b off,s.A=Y ⟨b,off,I⟩/\b<w.heap.size/\∀k,k<L.length->w (b,off+k*3)=Y (.int .i64 (L.getD k d).1.1)/\w (b,off+k*3+1)=Y (.int .i64 (L.getD k d).1.2)/\w (b,off+k*3+2)=Y (.int .i64 (L.getD k d).2))
def Ol(a b u2:M)(h:w.heap[g]?=Y (.cells #[a0,a1,a2] t (0,0))):(((w.setCell (g,0) a).setCell (g,1) b).setCell (g,2) u2).heap[g]?=Y (.cells #[a,b,u2] t (0,0))/\aS (λx=>x≠g) w (((w.setCell (g,0) a).setCell (g,1) b).setCell (g,2) u2):=by
 have å:=0;exact ZS
def tU(h:w.heap[g]?=Y (.cells #[a0,a1,a2] t (0,0))):w (g,0)=Y a0/\w (g,1)=Y a1/\w (g,2)=Y a2:=by
 refine⟨?_,?_,?_⟩<;>(rw[H.cell?,h];rfl)
def iR(a:(Int×Int)×Int->(Int×Int)×Int->Bool)(one:(Int×Int)×Int)(L:List ((Int×Int)×Int)):(Int×Int)×Int:=L.foldl (λone x=>if a x one then x else one) one
theorem Ss(b:(Int×Int)×Int->(Int×Int)×Int->Bool)(P:(Int×Int)×Int->Prop)(one d:(Int×Int)×Int)(s:Sl)(L:List ((Int×Int)×Int))(w:H)(a5:Y5 w s L d)(a6:P one)(V:∀x∈L,P x)
  (W:∀x y f,X w.heap.size w f->P x->P y->PH F 76 #[.agg #[.int .i64 x.1.1,.int .i64 x.1.2,.int .i64 x.2],.agg #[.int .i64 y.1.1,.int .i64 y.1.2,.int .i64 y.2]] f λe w'=>e=.returned (.bool (b x y))/\X f.heap.size f w'):
  PH F 75 #[.func (.func 76) #[] #[],.agg #[.int .i64 one.1.1,.int .i64 one.1.2,.int .i64 one.2],.slice s.A s.n s.c] w λe w'=>e=.returned (.agg #[.int .i64 (iR b one L).1.1,.int .i64 (iR b one L).1.2,.int .i64 (iR b one L).2])/\X w.heap.size w w':=by
 have æ:=0;exact pa
def Y6(w:H)(s:Sl)(L:List (Sl×Int))(d:Sl×Int):Prop:=s.n=L.length/\L.length<=s.c/\L.length<=1000/\(0<L.length->∃b off,s.A=Y ⟨b,off,I⟩/\b<w.heap.size/\∀k,k<L.length->w (b,off+k*2)=Y (.slice (L.getD k d).1.A (L.getD k d).1.n (L.getD k d).1.c)/\w (b,off+k*2+1)=Y (.int .i64 (L.getD k d).2))
def Gt(a b:M)(h:w.heap[g]?=Y (.cells #[a0,a1] t (0,0))):((w.setCell (g,0) a).setCell (g,1) b).heap[g]?=Y (.cells #[a,b] t (0,0))/\aS (λx=>x≠g) w ((w.setCell (g,0) a).setCell (g,1) b):=ZS
def tW(h:w.heap[g]?=Y (.cells #[a0,a1] t (0,0))):w (g,0)=Y a0/\w (g,1)=Y a1:=by
 refine⟨?_,?_⟩<;>(rw[H.cell?,h];rfl)
def dG(a:Sl×Int->Sl×Int->Bool)(one:Sl×Int)(L:List (Sl×Int)):Sl×Int:=L.foldl (λone x=>if a x one then x else one) one
theorem Jc(b:Sl×Int->Sl×Int->Bool)(P:Sl×Int->Prop)(one d:Sl×Int)(s:Sl)(L:List (Sl×Int))(w:H)(a5:Y6 w s L d)(a6:P one)(V:∀x∈L,P x)
  (W:∀x y f,X w.heap.size w f->P x->P y->PH F 87 #[.agg #[.slice x.1.A x.1.n x.1.c,.int .i64 x.2],.agg #[.slice y.1.A y.1.n y.1.c,.int .i64 y.2]] f λe w'=>e=.returned (.bool (b x y))/\X f.heap.size f w'):
  PH F 86 #[.func (.func 87) #[] #[],.agg #[.slice one.1.A one.1.n one.1.c,.int .i64 one.2],.slice s.A s.n s.c] w λe w'=>e=.returned (.agg #[.slice (dG b one L).1.A (dG b one L).1.n (dG b one L).1.c,.int .i64 (dG b one L).2])/\X w.heap.size w w':=by
 have å:=0;exact pa
def jB(x y:Int×Int):Bool:=decide (y.2<x.2)||(decide (x.2=y.2)&&decide (x.1<y.1))
def Om(x y:(Int×Int)×Int):Bool:=decide (x.2<y.2)
theorem Oo(x y:(Int×Int)×Int)(w:H):PH F 76 #[.agg #[.int .i64 x.1.1,.int .i64 x.1.2,.int .i64 x.2],.agg #[.int .i64 y.1.1,.int .i64 y.1.2,.int .i64 y.2]] w λe w'=>e=.returned (.bool (Om x y))/\X w w w':=by
 go_enter Tryz.func76,Tryz.ntmps76;go_wp2;go_ret;exact⟨rfl,((X.refl _ _).alloc (dj _) _).alloc ss _⟩
theorem DG(x y:Int×Int)(w:H):PH F 73 #[.agg #[.int .i64 x.1,.int .i64 x.2],.agg #[.int .i64 y.1,.int .i64 y.2]] w λe w'=>e=.returned (.bool (jB x y))/\X w w w':=by
 obtain⟨g,a⟩:=x;obtain⟨h,b⟩:=y;simp only;by_cases c:b<a
 .go_enter Tryz.func73,Tryz.ntmps73;go_wp2;go_ret;exact⟨bR (by simp[jB,c]),((X.refl _ _).alloc (dj _) _).alloc ss _⟩
 .have d:a<=b:=zz;by_cases h2:a=b
  .subst h2;go_enter Tryz.func73,Tryz.ntmps73;go_wp2;go_ret;exact⟨bR (by simp[jB]),((X.refl _ _).alloc (dj _) _).alloc ss _⟩
  .have f:(a==b)=false:=by simpa using h2
   go_enter Tryz.func73,Tryz.ntmps73;go_wp2;go_ret;exact⟨bR (by simp[jB,c,h2]),((X.refl _ _).alloc (dj _) _).alloc ss _⟩
def Gu(a b:Int):Int:=if a<b then -1 else if b<a then 1 else 0
theorem Lx(a:Int)(w:H):PH F 142 #[.int .i64 a] w λe w'=>e=.returned (.bool false)/\w=w':=by
 go_enter Tryz.func142,Tryz.ntmps142;go_wp2;go_ret;exact⟨rfl,rfl⟩
theorem Su(a b:Int)(w:H):PH F 123 #[.int .i64 a,.int .i64 b] w λe w'=>e=.returned (.int .i64 (Gu a b))/\w=w':=by
 go_enter Tryz.func123,Tryz.ntmps123;go_wp2_with (go_at_call 142;refine(Lx _ _).mono ?_;rintro e w' ⟨rfl,rfl⟩);all_goals go_ret
 all_goals exact⟨aW (by unfold Gu;split<;>first|rfl|omega|(split<;>first|rfl|omega)),rfl⟩
def abn:List Int->List Int->Int
 | [],[]=>0
 | [],_::_=> -1
 | _::_,[]=>1
 | x::r,y::s=>if Gu x y=0 then abn r s else Gu x y
def Lz(l m:List Int)(k:Nat)(a:k<l.length)(h2:k<m.length):abn (l.drop k) (m.drop k)=if Gu (l.getD k 0) (m.getD k 0)=0 then abn (l.drop (k+1)) (m.drop (k+1))else Gu (l.getD k 0) (m.getD k 0):=by
 rw[lL a,lL h2];have e1:l.getD k 0=l[k]:=by simp[List.getD,fg a]
 have b:m.getD k 0=m[k]:=by simp[List.getD,fg h2]
 rw[e1,b];rfl
theorem DI(s t:Sl)(l m:List Int)(w:H)(E:aN w s l)(hm:aN w t m):
  PH F 88 #[.slice s.A s.n s.c,.slice t.A t.n t.c] w λe w'=>e=.returned (.int .i64 (abn l m))/\w=w':=by
 have å:=0;exact ZV
def Oq(x y:(Sl×List Int)×Int):Bool:=decide (x.2<y.2)||(decide (x.2=y.2)&&decide (abn x.1.2 y.1.2<0))
theorem Ot(a b:Sl)(lx f:List Int)(nx c:Int)(w:H)(h:aN w a lx)(i:aN w b f):PH F 87 #[.agg #[.slice a.A a.n a.c,.int .i64 nx],.agg #[.slice b.A b.n b.c,.int .i64 c]] w λe w'=>e=.returned (.bool (Oq ((a,lx),nx) ((b,f),c)))/\X w w w':=by
 have j:=Hm h;have k:=Hm i;have l:=λg (d:aN g a lx) (h2:aN g b f)=>DI a b lx f g d h2;clear h i;by_cases d:nx<c
 .go_enter Tryz.func87,Tryz.ntmps87;go_wp2;go_ret;exact⟨bR (by simp[Oq,d]),((X.refl _ _).alloc (dj _) _).alloc ss _⟩
 .have m:c<=nx:=zz;by_cases h2:nx=c
  .subst h2;go_enter Tryz.func87,Tryz.ntmps87;go_wp2_with (go_at_call 88;refine(l _ (aZ (aZ j.out _) _) (aZ (aZ k.out _) _)).mono ?_;rintro e w' ⟨rfl,rfl⟩);go_ret;exact⟨bR (by simp[Oq]),((X.refl _ _).alloc (dj _) _).alloc ss _⟩
  .have n:(nx==c)=false:=by simpa using h2
   go_enter Tryz.func87,Tryz.ntmps87;go_wp2;go_ret;exact⟨bR (by simp[Oq,d,h2]),((X.refl _ _).alloc (dj _) _).alloc ss _⟩
section
variable{L:List gM}{M:Int}
def wrap_small{n:Int}(a:0<=n)(h2:n<=4611686018427387904):wrap64 n=n:=by unfold wrap64;omega
def Small(L:List gM)(M:Int):Prop:=∀k,0<=assoc L k/\assoc L k<=M
def Small.nil:Small [] 0:=λk=>by simp[assoc,dP]
def Small.mono{M M':Int}(h:Small L M)(a:M<=M'):Small L M':=λk=>⟨(h k).1,Int.le_trans (h k).2 a⟩
def LA(h:Small L M)(a:M<=4611686018427387903)(k0:Int×Int):Small (wD L k0) (M+1)/\∀k,assoc (wD L k0) k=assoc L k+if k=k0 then 1 else 0:=by
 have e:∀k,assoc (wD L k0) k=assoc L k+if k=k0 then 1 else 0:=λk=>by
  rw[Li];by_cases hk:k=k0
  .subst hk;rw[dE rfl,dE rfl,wrap_small (by have:=h k;omega) (by have:=h k;omega)]
  .rw[cd hk,cd hk,Int.add_zero]
 refine⟨λk=>?_,e⟩;rw[e];have:=h k;split<;>omega
def uw(b:Int):∀(c:List Int) {L:List gM} {M:Int},Small L M->M+c.length<=4611686018427387903->Small (ko b L c) (M+c.length)/\∀h n,assoc (ko b L c) (h,n)=assoc L (h,n)+if h=b then(c.count n:Int)else 0
 | [],L,M,d,_=>by
  simp only[ko,List.foldl_nil,ky,Int.natCast_zero,Int.add_zero];exact⟨d,λh n=>by simp⟩
 | a::r,L,M,d,l=>by
  simp only[fx,Int.natCast_add,Int.natCast_one]at l;obtain⟨i,h2⟩:=LA d zz (b,a);obtain⟨j,k⟩:=uw b r i zz;have e:ko b L (a::r)=ko b (wD L (b,a)) r:=rfl;rw[e];refine⟨j.mono (by simp only[fx];omega),λh n=>?_⟩;rw[k,h2,List.count_cons];by_cases g:h=b
  .subst g;by_cases f:n=a
   .subst f;simp;omega
   .have m:¬(a=n):=λe=>f e.symm;simp[f,m]
  .simp[g]
def LB(d:Nat->Bool)(k n:Nat):(ie d k).count (n:Int)=if n<k/\d n=true then 1 else 0:=by
 induction k with
 | zero=>simp[ie]
 | succ k c=>
  cases a:d k
  .rw[mV a,c];by_cases b:n=k
   .subst b;simp[a]
   .congr 1;simp;omega
  .rw[oG a,List.count_append,c,List.count_cons,List.count_nil];by_cases b:n=k
   .subst b;simp[a]
   .have e:¬((k:Int)=(n:Int)):=zz;simp[e];congr 1;simp;omega
def vJ(b:aC)(l:bN)(x:Int×(Nat->Bool)):∀(c:List Nat) {L:List gM} {M:Int},Small L M->M+12*c.length<=4611686018427387903->Small (ku b l x L c) (M+12*c.length)/\∀(h n:Nat),n<12->assoc (ku b l x L c) ((h:Int),(n:Int))=assoc L ((h:Int),(n:Int))+(c.count h:Int)*(if oN b l x h n=true then 1 else 0)
 | [],L,M,d,_=>by
  simp only[ku,List.foldl_nil,ky,Int.natCast_zero,Int.mul_zero,Int.add_zero];exact⟨d,λh n _=>by simp⟩
 | a::r,L,M,d,m=>by
  simp only[fx,Int.natCast_add,Int.natCast_one]at m;have s:(ie (oN b l x a) 12).length<=12:=kO _ _;obtain⟨i,h2⟩:=uw (a:Int) (ie (oN b l x a) 12) d zz;obtain⟨j,k⟩:=vJ b l x r (i.mono (M':=M+12) zz) zz;have e:ku b l x L (a::r)=ku b l x (ko (a:Int) L (ie (oN b l x a) 12)) r:=rfl;rw[e];refine⟨j.mono (by simp only[fx];omega),λh n g=>?_⟩;rw[k h n g,h2,LB,List.count_cons];by_cases f:h=a
  .subst f;cases q:oN b l x h n<;>simp[g];omega
  .have o:¬(a=h):=λe=>f e.symm;have p:¬((h:Int)=(a:Int)):=zz;simp[o,p]
def vK(b:aC)(l:bN):∀(xs:List (Int×(Nat->Bool))) {L:List gM} {M:Int},Small L M->M+12*l.U.length*xs.length<=4611686018427387903->Small (lP b l L xs) (M+12*l.U.length*xs.length)/\∀(h n:Nat),h<l.U.length->n<12->assoc (lP b l L xs) ((h:Int),(n:Int))=assoc L ((h:Int),(n:Int))+(oP (λx=>oN b l x h n) xs:Int)
 | [],L,M,a,_=>by
  simp only[lP,List.foldl_nil,ky,Int.natCast_zero,Int.mul_zero,Int.add_zero];exact⟨a,λh n _ _=>by simp[oP]⟩
 | x::r,L,M,a,m=>by
  have i:(12:Int)*l.U.length*(x::r).length=12*l.U.length+12*l.U.length*r.length:=by
   rw[fx,Int.natCast_add,Int.natCast_one,Int.mul_add,Int.mul_one,Int.add_comm]
  have q:(0:Int)<=12*l.U.length*r.length:=Int.mul_nonneg zz zz;rw[i]at m|-;have f:(List.range' 0 l.U.length).length=l.U.length:=List.length_range';obtain⟨c,h2⟩:=vJ b l x (List.range' 0 l.U.length) a (by rw[f];omega);rw[f]at c;obtain⟨j,k⟩:=vK b l r c zz;have e:lP b l L (x::r)=lP b l (ku b l x L (List.range' 0 l.U.length)) r:=rfl;rw[e];refine⟨j.mono zz,λh n d g=>?_⟩;rw[k h n d g,h2 h n g];have o:(List.range' 0 l.U.length).count h=1:=by
   rw[List.Nodup.count (List.nodup_range' (step:=1))];simp[List.mem_range'_1,d]
  rw[o];cases p:oN b l x h n<;>simp[oP,List.filter_cons,p];omega
def LC{b:aC}{l:bN}(d:ay b l=0)(c:l.U.length<=1000)(h n:Nat)(f:h<l.U.length)(g:n<12):assoc (fN b l) ((h:Int),(n:Int))=(oP (λx=>oN b l x h n) (aJ b l b.D.toNat):Int):=by
 have i:=nL d;have a:(0:Int)+12*l.U.length*(aJ b l b.D.toNat).length<=4611686018427387903:=by
  have:12*l.U.length*(aJ b l b.D.toNat).length<=12*1000*1296:=Nat.mul_le_mul (Nat.mul_le_mul_left _ c) i;have e:(0:Int)+12*l.U.length*(aJ b l b.D.toNat).length=((12*l.U.length*(aJ b l b.D.toNat).length:Nat):Int):=by simp
  rw[e];exact Int.ofNat_le.2 (ec this dd)
 have:=(vK b l (aJ b l b.D.toNat) Small.nil a).2 h n f g;rw[fN,this];simp[assoc,dP]
end
abbrev Ct:Type:=(Int×Int)×Int
def ye(LL:List gM)(n:Int)(h k:Nat):Ct:=(((h:Int),(k:Int)),max (assoc LL ((h:Int),(k:Int))) (n-assoc LL ((h:Int),(k:Int))))
def DJ(LL:List gM)(n:Int)(h:Nat)(a:List Nat):List Ct:=a.map (ye LL n h)
def nM(LL:List gM)(n:Int)(S:Nat)(a:List Nat):List Ct:=a.flatMap λh=>DJ LL n h (List.range' 0 S)
def DK(b:aC)(l:bN):Ct:=iR Om ((-1, -1),(aJ b l b.D.toNat).length) (nM (fN b l) (aJ b l b.D.toNat).length b.S.toNat (List.range' 0 b.U.n))
def vL(b:aC)(l:bN):Int×Int×Int×Int:=
 if cP b l true=0 then((DK b l).1.1,(DK b l).1.2,(DK b l).2,0)else(0,0,0,cP b l true)
def yg(p:Int×Int×Int×Int)(w:H)(e:Ending)(w':H):Prop:=e=.returned (.tuple #[.int .i64 p.1,.int .i64 p.2.1,.int .i64 p.2.2.1,.int .i64 p.2.2.2])/\X w w w'
def Sv(x:Ct):List M:=[.int .i64 x.1.1,.int .i64 x.1.2,.int .i64 x.2]
def UX(L:List Ct):List M:=L.flatMap Sv
def DL(L:List Ct)(x:Ct):UX (L++[x])=UX L++Sv x:=by simp[UX]
def Jd:∀(L:List Ct) (d:Ct) (i j:Nat),i<L.length->j<3->(UX L)[i*3+j]?=(Sv (L.getD i d))[j]?
 | [],_,i,j,hi,_=>by simp at hi
 | x::r,d,0,j,_,b=>by
  have a:(Sv x).length=3:=rfl;simp only[UX,la,Nat.zero_mul,kl,List.getD_cons_zero];exact List.getElem?_append_left (by rw[a];exact b)
 | x::r,d,i+1,j,hi,b=>by
  have a:(Sv x).length=3:=rfl;have c:=Jd r d i j (by simpa using hi) b;simp only[UX,la,List.getD_cons_succ]at c|-;rw[List.getElem?_append_right (by rw[a];omega),a,show(i+1)*3+j-3=i*3+j by omega];exact c
def Sw:(F.info? 127).map (λi=>(i.zero,i.size,i.bytes))=Y (Y (.agg #[.int .i64 0,.int .i64 0,.int .i64 0]),3,24):=by kernel_rfl
def Je(x:Ct):∀u∈Sv x,u.oneCell'=true:=by
 intro u a;simp only[Sv,fc,hZ,or_false]at a;rcases a with rfl|rfl|rfl<;>rfl
def LD(LL:List gM)(n:Int)(h:Nat){k S:Nat}(hk:k<S):DJ LL n h (List.range' k (S-k))=ye LL n h k::DJ LL n h (List.range' (k+1) (S-(k+1))):=by
 rw[show S-k=(S-(k+1))+1 by omega,List.range'_succ];rfl
def Gv(LL:List gM)(n:Int)(S:Nat){h U:Nat}(a:h<U):nM LL n S (List.range' h (U-h))=DJ LL n h (List.range' 0 S)++nM LL n S (List.range' (h+1) (U-(h+1))):=by
 rw[show U-h=(U-(h+1))+1 by omega,List.range'_succ];rfl
def Az(LL:List gM)(n:Int)(S:Nat)(b:List Nat):(nM LL n S b).length=b.length*S:=by
 induction b with
 | nil=>simp[nM]
 | cons a r c=>
  have:nM LL n S (a::r)=DJ LL n a (List.range' 0 S)++nM LL n S r:=rfl;rw[this,lh,c,fx,Nat.succ_mul];simp[DJ,Nat.add_comm]
theorem LF(b:aC)(l:bN)(w:H)(a1:aI w b l)(b7:aD w)(h:cP b l true=0):
  PH F 39 #[b.v] w (yg (vL b l) w):=by
 have ö:=0;exact pb
def LG(b:aC)(l:bN)(w:H)(c:aI w b l)(a:aD w)(h:cP b l true=0:=by kernel_rfl):PH F 39 #[b.v] w (yg (vL b l) w):=LF b l w c a h
open Go.Shelf
section
attribute [local go_sem] Oper.semAt_some
def WE(b:aC)(l:bN):Option (Int×(Nat->Bool)):=(gT b l.C (b.S.toNat-l.C.length)).find? (fM b l)
def zV(b:aC)(l:bN):Int×Bool×Int:=
 if ay b l≠0 then(0,false,ay b l)else match WE b l with
  | some x=>((((ie x.2 12).length:Nat):Int),true,0)
  | none=>(0,false,0)
def Bv(p:Int×Bool×Int)(w:H)(e:Ending)(w':H):Prop:=e=.returned (.tuple #[.int .i64 p.1,.bool p.2.1,.int .i64 p.2.2])/\X w w w'
def yj(S:Int):∀(l:List Int) (p:Int),bS S (Y p) l=0-> -1<=p->p<S->(l.length:Int)<=S-1-p
 | [],p,_,_,_=>by simp;omega
 | n::r,p,h,c,h2=>by
  simp only[bS]at h;by_cases a:ax n 0 (S-1)=false
  .rw[dE a]at h;omega
  .rw[cd a]at h;by_cases b:decide (n<=p)=true
   .rw[dE b]at h;omega
   .rw[cd b]at h;have e:=cq.1 (by simpa using a);have:=yj S r n h zz zz;simp at b;simp only[fx];omega
def uO{S:Int}{l:List Int}(h:bS S I l=0)(b:0<=S):(l.length:Int)<=S:=by
 cases l with
 | nil=>simpa using b
 | cons n r=>
  simp only[bS]at h;by_cases a:ax n 0 (S-1)=false
  .rw[dE a]at h;omega
  .rw[cd a,cd ss]at h;have e:=cq.1 (by simpa using a);have:=yj S r n h zz zz;simp only[fx];omega
theorem AA{w:H}{g:Nat}{t1 t2 t3:Lk}{v1 v2 v3:M}(a b c:M)(d:w.heap[g]?=Y (.cells #[v1] t1 (0,0)))(h2:w.heap[g+1]?=Y (.cells #[v2] t2 (0,0)))(e:w.heap[g+1+1]?=Y (.cells #[v3] t3 (0,0))):
  (((w.setCell (g,0) a).setCell (g+1,0) b).setCell (g+1+1,0) c).heap[g]?=Y (.cells #[a] t1 (0,0))/\
  (((w.setCell (g,0) a).setCell (g+1,0) b).setCell (g+1+1,0) c).heap[g+1]?=Y (.cells #[b] t2 (0,0))/\
  (((w.setCell (g,0) a).setCell (g+1,0) b).setCell (g+1+1,0) c).heap[g+1+1]?=Y (.cells #[c] t3 (0,0))/\
  (((w.setCell (g,0) a).setCell (g+1,0) b).setCell (g+1+1,0) c).heap.size=w.heap.size/\
  aS (λx=>x≠g/\x≠g+1/\x≠g+1+1) w (((w.setCell (g,0) a).setCell (g+1,0) b).setCell (g+1+1,0) c):=by
 refine⟨?_,?_,?_,by simp[H.setCell],(((aS.refl _ _).set (λ_ h=>h.1 rfl) _).set (λ_ h=>h.2.1 rfl) _).set (λ_ h=>h.2.2 rfl) _⟩
 .exact(X.heap_setCell _ _ _ _ (by show g≠g+1+1;omega)).tn ((X.heap_setCell _ _ _ _ (by show g≠g+1;omega)).tn (Boxed.set _ d))
 .exact(X.heap_setCell _ _ _ _ (by show g+1≠g+1+1;omega)).tn (Boxed.set _ ((X.heap_setCell _ _ _ _ (by show g+1≠g;omega)).tn h2))
 .exact Boxed.set _ ((X.heap_setCell _ _ _ _ (by show g+1+1≠g+1;omega)).tn ((X.heap_setCell _ _ _ _ (by show g+1+1≠g;omega)).tn e))
def SD{α:Type}{f:α->Bool}{pre xs:List α}{x:α}(b:pre++[x] <+: xs)(a:pre.find? f=I)(c:f x=true):xs.find? f=Y x:=by
 obtain⟨t,rfl⟩:=b;rw[nh,qQB,a];simp[c]
theorem DY(b:aC)(l:bN)(w:H)(b6:aI w b l)(hG:aD w)(q:ay b l=0):
  PH F 38 #[b.v] w (Bv (zV b l) w):=by
 have æ:=0;exact pr
def DZ(b:aC)(l:bN)(w:H)(c:aI w b l)(a:aD w)(h:ay b l=0:=by kernel_rfl):
  PH F 38 #[b.v] w (Bv (zV b l) w):=DY b l w c a h
end
end Go.Proofs.YtfcgpihkimpkcaaGreatDoor
