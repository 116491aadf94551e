import Derived.Test.YtfcgpihkimpkcaaGreatDoorZm
import Derived.Test.YtfcgpihkimpkcaaGreatDoorZl
import Derived.Sort.OwnSortedInts
import Derived.Lib.SliceRun
import Derived.OrdersHeld
import Derived.StillTailTactics
import Derived.Deep.RegionHeld3
import Derived.Conc.EventLaws
set_option maxRecDepth 100000
set_option maxHeartbeats 4000000
set_option linter.all false
noncomputable section
open Go renaming World->Cl,undef->D,World->H,execOp->Hn,Oper->Kp,TypeId->Lk,Code->Ly,Value->M,Calls->PH,Program->Ps,heap_alloc_old->QR,heap_alloc_new->Sp,Operand->ae,yielded->aw,bodyPost_ret->bd
open Go.Proofs.Tryz renaming prog->F
open Go.Lib renaming hid->Hm
open Option renaming none->I,some->Y
open Go.RowKit renaming Hid->PQ,Below->X
namespace Go
def xv{p:Prop}(h:p:=by
 first
 |have _:=ø
  have m:=yT F g 31 b.v.cells.toList 0 _ w #[] a (dj 13) (by intro v d;simp[aC.v,M.cells]at d;rcases d with rfl|rfl|rfl|rfl|rfl|rfl|rfl|rfl|rfl|rfl|rfl|rfl|rfl<;>rfl);obtain⟨u,z,E,G,J,K,L,N,O,P,A,B,C⟩:=aM a;have t:=dx a
 |have m:=yT F g 23 [.int .i64 p,.int .i64 q] 0 _ w #[] a (dj 2) (by intro v d;simp at d;rcases d with rfl|rfl<;>rfl)
  have u:w.cell? ⟨g,0,I⟩=Y v0:=by unfold H.cell?;dsimp only;rw[a];rfl
  have z:w.cell? ⟨g,1,I⟩=Y v1:=by unfold H.cell?;dsimp only;rw[a];rfl
  have t:∀i,w.frozen? ⟨g,i,I⟩=false:=λi=>by simp[H.frozen?,a]
 refine⟨?_,λe c=>?_⟩
 .first|have _:=å;unfold Hn|unfold aC.v at f;unfold Hn uq
  simp only[k,l,f];clear k l f a m;go_simp
 .refine(m e ?_).resolve_left ss;unfold Hn at c;simp only[k,l,f]at c;have s:(Instr.sureAddr (.pointer (Y ⟨g,0,I⟩))).run F w=.ok ⟨g,0,I⟩ w:=rfl;have s2:∀es,(Instr.sureAddr (.pointer (Y ⟨g,0,I⟩))).events F w es=es:=λes=>rfl
  first
  |have _:=ø
   have s3:(sizeOf 31).run F w=.ok 13 w:=by simp[go_sem]
   have n:∀es,(sizeOf 31).events F w es=es:=λes=>by simp[go_sem]
   have s5:b.v.cells.size=13:=rfl;simp only[Instr.storeAt,storeVar,Sem.events_bind,Sem.run_bind,s,s2,s3,n,s5,Result.evThen_ok,Result.andThen_ok,ne_eq,not_true_eq_false,if_false,Sem.events_pure]at c
  |have s3:(sizeOf 23).run F w=.ok 2 w:=by simp[go_sem]
   have n:∀es,(sizeOf 23).events F w es=es:=λes=>by simp[go_sem]
   have s5:(M.agg #[.int .i64 p,.int .i64 q]).cells= #[.int .i64 p,.int .i64 q]:=rfl;have s6:(#[M.int .i64 p,M.int .i64 q]).size=2:=rfl;simp only[Instr.storeAt,storeVar,Sem.events_bind,Sem.run_bind,s,s2,s3,n,s5,s6,Result.evThen_ok,Result.andThen_ok,ne_eq,not_true_eq_false,if_false,Sem.events_pure]at c
  revert c;generalize Sem.run F (storeCells _ _) w=r;cases r<;>exact id):p:=h
def qe{p:Prop}(h:p:=by
 first|have _:=ø;obtain⟨i0,hi,g,i,l⟩:=info_parts SA;have q:=λ(w:H) (a:Option Addr) (n c n' c':Nat)=>Lib.run_eql_slice_nil w _ _ a n c n' c' Tryz.underlying28;have u:=λw=>run_underlying Tryz.underlying28 w;have o:=Hm d;have m:=Hm b;have r:=Hm f;clear d b f;go_enter Tryz.func103,Tryz.ntmps103;go_wp2_with (at_builtin;refine wpList_append_own _ rfl _ _ 28 rfl w.heap.size 55 i0 _ 2 16 Tryz.underlying28 hi g i l rfl dd _ _ _ rfl (H.ownsRow_made w #[] 0 (dj _) (fi _) rfl) a n c xs rfl ?qc1 ?qc2 ?qc3 ?qc4 ?qc5 ?qc6 ?_)|have _:=å;obtain⟨i0,hi,g,i,l⟩:=info_parts SB;have q:=λ(w:H) (a:Option Addr) (n c n' c':Nat)=>Lib.run_eql_slice_nil w _ _ a n c n' c' Tryz.underlying29;have u:=λw=>run_underlying Tryz.underlying29 w;have o:=Hm d;have m:=Hm b;have r:=Hm f;clear d b f;go_enter Tryz.func104,Tryz.ntmps104;go_wp2_with (at_builtin;refine wpList_append_own _ rfl _ _ 29 rfl w.heap.size 80 i0 _ 3 24 Tryz.underlying29 hi g i l rfl dd _ _ _ rfl (H.ownsRow_made w #[] 0 (dj _) (fi _) rfl) a n c xs rfl ?qc1 ?qc2 ?qc3 ?qc4 ?qc5 ?qc6 ?_)|obtain⟨i0,hi,g,i,l⟩:=info_parts Sz;have q:=λ(w:H) (a:Option Addr) (n c n' c':Nat)=>Lib.run_eql_slice_nil w _ _ a n c n' c' Tryz.underlying27;have u:=λw=>run_underlying Tryz.underlying27 w;have o:=Hm d;have m:=Hm b;have r:=Hm f;clear d b f;go_enter Tryz.func102,Tryz.ntmps102;go_wp2_with (at_builtin;refine wpList_append_own _ rfl _ _ 27 rfl w.heap.size 100 i0 _ 2 16 Tryz.underlying27 hi g i l rfl dd _ _ _ rfl (H.ownsRow_made w #[] 0 (dj _) (fi _) rfl) a n c xs rfl ?qc1 ?qc2 ?qc3 ?qc4 ?qc5 ?qc6 ?_)
 case qc1=>exact r.out
 case qc2=>exactλj u v=>Lib.cell?_alloc_some _ (o.out j u v)
 case qc3=>exact m.out
 case qc4=>unfold maxLen;omega
 case qc5=>omega
 case qc6=>simp
 intro v' z x t y;go_wp2;go_ret;exact⟨v',rfl,by simpa using x,((X.refl _ w).alloc (dj _) _).grown t ss (by intro k hk;simp[M.ownBlock]at hk;omega)⟩):p:=h
def tz{p:Prop}(h:p:=by
 obtain⟨A,c,rfl,j,h2,m⟩:=jP h;refine⟨⟨A,l.length,c⟩,rfl,⟨rfl,j,f,λn=>?_⟩,λa i=>h2 _ (by simp only at i;rw[i];rfl)⟩;obtain⟨g,rfl,b⟩:=m n;have d:=(h2 g rfl).2
 first
 |have _:=ø
  refine⟨g,0,rfl,d,λk hk=>?_⟩;rw[kl];exact b _ _ (by simp[List.getD,fg hk])
 |have _:=å
  refine⟨g,0,rfl,d,λk hk=>⟨?_,?_⟩⟩
  .have:=fO pG 2 (λ_=>rfl) (0,0) l k 0 hk zz;rw[kl];exact b _ _ (this.tn rfl)
  .have:=fO pG 2 (λ_=>rfl) (0,0) l k 1 hk zz;rw[kl];exact b _ _ (this.tn rfl)
 |refine⟨g,0,rfl,d,λk hk=>⟨?_,?_,?_⟩⟩
  .have:=fO rO 3 (λ_=>rfl) (0,0,false) l k 0 hk zz;rw[kl];exact b _ _ (this.tn rfl)
  .have:=fO rO 3 (λ_=>rfl) (0,0,false) l k 1 hk zz;rw[kl];exact b _ _ (this.tn rfl)
  .have:=fO rO 3 (λ_=>rfl) (0,0,false) l k 2 hk zz;rw[kl];exact b _ _ (this.tn rfl)):p:=h
def xag{p:Prop}(h:p:=by
 rw[b]at h;first|have _:=ø;obtain⟨f,e1,d,-⟩:=bp.own h a|have _:=å;obtain⟨f,e1,d,-⟩:=fL.own h a|obtain⟨f,e1,d,-⟩:=aN.own h a
 obtain⟨A,n,c⟩:=s;obtain⟨g,n',c'⟩:=f;simp only[lA]at e1 b;obtain⟨rfl,rfl,rfl⟩:=e1;rw[<- b]at d;exact d):p:=h
def xay{p:Prop}(h:p:=by
 intro o J;obtain⟨x0,L,N,O,P,x5,x6,x7,x8,x9,a5,a6,a7⟩:=aM J.1;clear J;go_simp):p:=h
def xaP{p:Prop}(h:p:=by
 obtain⟨k,h2,z,o⟩:=h;first|have _:=ø;refine⟨by rw[qu pG 2 (λ_=>rfl),k],zz,λu n=>?_,λr=>?_⟩|refine⟨by rw[qu rO 3 (λ_=>rfl),k],zz,λu n=>?_,λr=>?_⟩
 .obtain⟨x, -, d⟩:=List.mem_flatMap.1 n;first|have _:=ø;(simp only[pG,fc,hZ,or_false]at d;rcases d with rfl|rfl<;>rfl)|(simp only[rO,fc,hZ,or_false]at d;rcases d with rfl|rfl|rfl<;>rfl)
 .obtain⟨b,off,e1,y,i⟩:=o zz;refine⟨_,e1,λj u m=>?_⟩
  first
  |have _:=ø
   obtain⟨t,e,a⟩:=Bu pG 2 (λ_=>rfl) (0,0) l j u m;obtain⟨f,g⟩:=i (j/2) e;have q:=Nat.div_add_mod j 2;rcases(show j%2=0\/j%2=1 by omega)with c|c
   .rw[c]at a;simp only[pG,zQ,fp]at a;rw[Addr.add_lit,show off+j=off+j/2*2 by omega,f,a]
   .rw[c]at a;simp only[pG,zQ,fp]at a;rw[Addr.add_lit,show off+j=off+j/2*2+1 by omega,g,a]
  |obtain⟨t,e,a⟩:=Bu rO 3 (λ_=>rfl) (0,0,false) l j u m
   obtain⟨f,g,v⟩:=i (j/3) e;have q:=Nat.div_add_mod j 3;rcases(show j%3=0\/j%3=1\/j%3=2 by omega)with c|c|c
   .rw[c]at a;simp only[rO,zQ,fp]at a;rw[Addr.add_lit,show off+j=off+j/3*3 by omega,f,a]
   .rw[c]at a;simp only[rO,zQ,fp]at a;rw[Addr.add_lit,show off+j=off+j/3*3+1 by omega,g,a]
   .rw[c]at a;simp only[rO,zQ,fp]at a;rw[Addr.add_lit,show off+j=off+j/3*3+2 by omega,v,a]):p:=h
def xbd{p:Prop}(h:p:=by
 subst c;rcases h.2 with⟨a,-⟩|⟨g',j,k,a,h2,b,d,e,f,i⟩
 .cases a
 first
 |have _:=ø
  .cases a;exact holds_of_blockI b (by simpa using i)
 |·cases a
   rw[hw];exact⟨ownsRow_sortedI hl h2 b d e (by simpa using f),grownBy_sortedI _⟩):p:=h
def xbk{p:Prop}(h:p:=by
 have b4:=Hm d3;have d9:=Hm d1
 first
 |have _:=ø
  have a9:=λz m h2=>cG b l z m h2;have h7:=λz m=>xU b l hc z m;rw[hc]at a9;rw[c2]at h7;clear d3 d1 hc c2;unfold aC.v at*;go_enter Tryz.func79,Tryz.ntmps79;go_wp2_with (first|(go_at_call 13;refine(a9 _ (aq (aq b4.out _) _) (ai (ai d9.out _) _)).mono ?_;rintro e z ⟨rfl,b9⟩;obtain⟨L,c4,b',c3⟩:=mL (b:=b) (b0:=bI) b9;obtain⟨N,O,S,T,V,Z,x6,x7,x8,x9,P,Q,R⟩:=aM L;clear b9;have a6:=Hm L;have a7:=Hm c4;have a2:=Hm b';have c7:=Hm c3;clear L c4 b' c3)|(go_at_call 80;refine(h7 _ (b4.out.below a2.out)).mono ?_;rintro e q ⟨rfl,J⟩;clear N  O  S  T  V  Z  x6  x7  x8  x9  P  Q  R;have a3:aK q (w.heap.size+1) 31 bI:=(J.block _ a7.out.lt).tn a7.out;obtain⟨N,O,S,T,V,Z,x6,x7,x8,x9,P,Q,R⟩:=aM ((J.block _ a6.out.lt).tn a6.out);obtain⟨z0,z1,z2,z3,z4,z5,z6,z7,z8,z9,a0,b1,b2⟩:=aM a3;have f8:=dx a3;have c8:=Hm a3;have a1:=Hm (a2.out.tn (J.mono a2.out.size));clear a3 J));have d':=c7.out;clear N  O  S  T  V  Z  x6  x7  x8  x9  P  Q  R z0  z1  z2  z3  z4  z5  z6  z7  z8  z9  a0  b1  b2 f8;obtain⟨f1,f2,f3⟩:=iH b c8.out;have b5:=a1.out.tn (f2.below (n:=w.heap.size) (by have:=a1.out.size;omega) (λx L=>zz));have c':aK (((((((((((((q.setCell (w.heap.size+1,0) (.int .i64 b.S)).setCell (w.heap.size+1,1) (.int .i64 b.D)).setCell (w.heap.size+1,2) (.int .i64 b.L)).setCell (w.heap.size+1,3) (.int .i64 b.lo)).setCell (w.heap.size+1,4) (.int .i64 b.hi)).setCell (w.heap.size+1,5) (.slice b.C.A b.C.n b.C.c)).setCell (w.heap.size+1,6) (.int .i64 b.rf)).setCell (w.heap.size+1,7) (.int .i64 b.rh)).setCell (w.heap.size+1,8) (.int .i64 b.cf)).setCell (w.heap.size+1,9) (.int .i64 b.ch)).setCell (w.heap.size+1,10) (.slice b.U.A b.U.n b.U.c)).setCell (w.heap.size+1,11) (.slice b.E.A b.E.n b.E.c)).setCell (w.heap.size+1,12) (.slice b.W.A b.W.n b.W.c)) (w.heap.size+1) 31 b:=f1;have b8:X w w (((((((((((((q.setCell (w.heap.size+1,0) (.int .i64 b.S)).setCell (w.heap.size+1,1) (.int .i64 b.D)).setCell (w.heap.size+1,2) (.int .i64 b.L)).setCell (w.heap.size+1,3) (.int .i64 b.lo)).setCell (w.heap.size+1,4) (.int .i64 b.hi)).setCell (w.heap.size+1,5) (.slice b.C.A b.C.n b.C.c)).setCell (w.heap.size+1,6) (.int .i64 b.rf)).setCell (w.heap.size+1,7) (.int .i64 b.rh)).setCell (w.heap.size+1,8) (.int .i64 b.cf)).setCell (w.heap.size+1,9) (.int .i64 b.ch)).setCell (w.heap.size+1,10) (.slice b.U.A b.U.n b.U.c)).setCell (w.heap.size+1,11) (.slice b.E.A b.E.n b.E.c)).setCell (w.heap.size+1,12) (.slice b.W.A b.W.n b.W.c)):=b5;clear f1 f2 f3 b5;generalize(((((((((((((q.setCell ⟨w.heap.size+1,0,I⟩ (.int .i64 b.S)).setCell ⟨w.heap.size+1,1,I⟩ (.int .i64 b.D)).setCell ⟨w.heap.size+1,2,I⟩ (.int .i64 b.L)).setCell ⟨w.heap.size+1,3,I⟩ (.int .i64 b.lo)).setCell ⟨w.heap.size+1,4,I⟩ (.int .i64 b.hi)).setCell ⟨w.heap.size+1,5,I⟩ (.slice b.C.A b.C.n b.C.c)).setCell ⟨w.heap.size+1,6,I⟩ (.int .i64 b.rf)).setCell ⟨w.heap.size+1,7,I⟩ (.int .i64 b.rh)).setCell ⟨w.heap.size+1,8,I⟩ (.int .i64 b.cf)).setCell ⟨w.heap.size+1,9,I⟩ (.int .i64 b.ch)).setCell ⟨w.heap.size+1,10,I⟩ (.slice b.U.A b.U.n b.U.c)).setCell ⟨w.heap.size+1,11,I⟩ (.slice b.E.A b.E.n b.E.c)).setCell ⟨w.heap.size+1,12,I⟩ (.slice b.W.A b.W.n b.W.c))=c6 at c' b8|-
 |obtain⟨t1,t2,t3,t4,t5,t6,t7,t8,t9,k2,k3⟩:=cS (bP a').1
  have f0:PQ (l.C.length<=12):=by have:=uO k3 zz;show _<=_;omega
  have g1:PQ (∀{n:Nat},n=l.C.length->n<=12):=λ{n} h=>by rw[h];exact f0.out
  obtain⟨i0,hi,j5,j',k1⟩:=info_parts vD;have a9:=λz m h2=>cG b l z m h2;have e':=λz=>fB b step zz zz z;have e8:=λz m=>jO b.C l.C step z m;have h6:=λz m=>DX b l z m;rw[a']at a9;rw[c2]at e';rw[decide_eq_false hm]at e8;have i5:=Hm a8;clear a8 d3 d1 a' c2 hm t1 t2 t3 t4 t5 t6 t7 t8 t9 k2;unfold aC.v at*;go_enter Tryz.func40,Tryz.ntmps40;go_wp2_with (first|(go_at_call 13;refine(a9 _ (aq (aq b4.out _) _) (ai (ai d9.out _) _)).mono ?_;rintro e z ⟨rfl,b9⟩;obtain⟨L,c4,b',c3⟩:=mL (b:=b) (b0:=bI) b9;obtain⟨N,O,S,T,V,Z,x6,x7,x8,x9,P,Q,R⟩:=aM L;clear b9 a9;have a6:=Hm L;have a7:=Hm c4;have a2:=Hm b';have c7:=Hm c3;clear L c4 b' c3)|(go_at_call 66;refine(e' z).mono ?_;rintro e q ⟨rfl,J⟩;clear N  O  S  T  V  Z  x6  x7  x8  x9  P  Q  R e';have e0:aK q w.heap.size 31 b:=(J.block _ a6.out.lt).tn a6.out;have a3:aK q (w.heap.size+1) 31 bI:=(J.block _ a7.out.lt).tn a7.out;obtain⟨N,O,S,T,V,Z,x6,x7,x8,x9,P,Q,R⟩:=aM e0;have k0:=Hm e0;have c8:=Hm a3;have a1:=Hm (a2.out.tn (J.mono a2.out.size));have d':PQ (w.heap.size+2<=q.heap.size):=ec c7.out J.size;clear e0 a3 J a6 a7 a2 c7)|(go_at_call 77;refine(e8 q (b4.out.C.below a1.out)).mono ?_;rintro e l' ⟨rfl,rfl⟩;clear e8)|(go_at_call 78;refine(h6 q (b4.out.below a1.out)).mono ?_;rintro e u ⟨C',f,d,j,rfl,h5,g4⟩;clear h6 N  O  S  T  V  Z  x6  x7  x8  x9  P  Q  R;have a5:=Hm h5;have b3:=Hm g4;clear h5 g4)|(at_builtin;refine ff rfl _ _ 24 rfl q.heap.size 3 i0 (.int .i64 0) 1 8 Tryz.underlying24 hi j5 j' k1 rfl dd _ C'.n _ rfl ((a5.out.C.alloc _).alloc _) ⟨u.heap.size+1,0,I⟩ 1 1 [.int .i64 step] rfl rfl ?qc1 ?qc2 ?qc3 ?qc4 ?qc5 ?_)|fail)
  case qc1=>rw[<- aa u (aE ({b with C:=C',U:=f,E:=d,W:=j }:aC) 31)];exact cell_one_new _ _ _
  case qc2=>intro y h0;simp at h0;subst h0;rfl
  case qc3=>have:C'.n<=12:=g1.out (n:=C'.n) a5.out.nC;unfold maxLen;omega
  case qc4=>have:C'.n<=12:=g1.out (n:=C'.n) a5.out.nC;omega
  case qc5=>have:=b3.out.size;simp;omega
  intro v4 w4 d5 g7 h1;obtain⟨k,s,rfl⟩:=ownsRow_succ d5;obtain⟨d2,g8,g',h8,g3⟩:=AB a5.out b3.out (o:=.cells #[.int .i64 step] 3) d5 g7 h1;obtain⟨y0,y1,y2,y3,y4,y5,y6,y7,y8,y9,k4,k6,k7⟩:=aM d2;have k8:=dx d2;have i4:=Hm d2;have i6:=Hm g8;have i7:=Hm g';have f':=Hm g3;have k':=Hm h8;have i8:=Hm d5;clear d2 g8 g' h8 g3 d5 g7 h1;go_wp2_with fail;have f5:aK (w4.setCell (u.heap.size,5) (.slice (Y (k,0)) (C'.n+1) s)) u 31 ({b with C:=⟨Y (k,0),C'.n+1,s⟩,U:=f,E:=d,W:=j }:aC):=by
   have:=bJ (i:=5) i4.out (.slice (Y ⟨k,0,I⟩) (C'.n+1) s);simp only[zS]at this;exact this
  have k5:aS (λx=>x≠u.heap.size) w4 (w4.setCell (u.heap.size,5) (.slice (Y (k,0)) (C'.n+1) s)):=(aS.refl _ _).set (λ_ h=>h rfl) _;generalize w4.setCell ⟨u.heap.size,5,I⟩ (.slice (Y ⟨k,0,I⟩) (C'.n+1) s)=w5 at f5 k5|-;obtain⟨e1,e2,e3⟩:=i7.out _ rfl;have g6:k≠u.heap.size:=by
   rcases e3 with h|h
   .have:=(f'.out _ h).2;simp only at this;omega
   .simp only at h;omega
  have c1:=bB i8.out k5 (λg c=>by simp only[M.ownBlock,fp]at c;omega);have i1:l.C.map (M.int .i64)++[.int .i64 step]=(l.C++[step]).map (M.int .i64):=by simp
  rw[i1]at c1;have g0:C'.n=l.C.length:=a5.out.nC;have a4:C'.n+1=(l.C++[step]).length:=by rw[g0];simp
  have j3:=f0.out;have e9:=Tryz.slices_Sort_int k 0 s (l.C++[step]) w5 (qZ c1 a4) (c1.lt k rfl).2 (by rw[<- a4];omega);rw[<- a4]at e9;have d4:((l.C++[step]).mergeSort λx y=>decide (x<=y)).length=(l.C++[step]).length:=List.length_mergeSort _;refine e9.mono ?_;rintro e B ⟨rfl,q2,os,h9⟩;obtain⟨o6,e4⟩:=oR c1 a4 d4 h9;have i3:aS (λx=>x≠u.heap.size/\∀a,C'.A=Y a->x≠a.block) u w5:=(i6.out.mono (λ_ _ h=>h.2)).tn (k5.mono (λ_ _ h=>h.1));have c5:aS (λx=>x≠u.heap.size/\x≠k/\∀a,C'.A=Y a->x≠a.block) u B:=(i3.mono (λ_ _ h=>⟨h.1,h.2.2⟩)).grown e4 (λr a' _ j1=>by simp only[fp]at a';exact j1.2.1 a'.symm);have f4:aK B u 31 ({b with C:=⟨Y (k,0),C'.n+1,s⟩,U:=f,E:=d,W:=j }:aC):=(e4.block _ f5.lt (by simp only[ne_eq,fp];exactλh=>g6 (by first|exact h|exact h.symm))).tn f5;have g9:∀x,x<q.heap.size->x≠u.heap.size/\x≠k/\∀a,C'.A=Y a->x≠a.block:=λx L=>by
   have l2:=b3.out.size;simp only at e1;refine⟨zz,zz,λa j2=>?_⟩;have:=(f'.out a j2).1;omega
  have c9:X q q B:=b3.out.tn (c5.below b3.out.size g9);have d6:∀a:Addr,q.heap.size<=a.block->a.block<u.heap.size->(∀A,C'.A=Y A->A.block<a.block)->a.block≠u.heap.size/\a.block≠k/\∀A,C'.A=Y A->a.block≠A.block:=λa m h2 h3=>by
   refine⟨zz,?_,λA h4=>by have:=h3 A h4;omega⟩;rcases e3 with h|h
   .have:=h3 _ h;simp only at this;omega
   .simp only at h;omega
  have t:=a5.out;have f7:=bB t.U c5 (λg c=>by
    cases G:f.A with
    | none=>simp only[G]at c;simp[M.ownBlock]at c
    | some a=>
     have m:=t.U.lt g c;simp only[G,M.ownBlock,fp]at c;subst c;exact d6 a m.1 m.2 (λA h'=>t.CU A a h' G))
  have f6:=bB t.E c5 (λg c=>by
    cases G:d.A with
    | none=>simp only[G]at c;simp[M.ownBlock]at c
    | some a=>
     have m:=t.E.lt g c;simp only[G,M.ownBlock,fp]at c;subst c;exact d6 a m.1 m.2 (λA h'=>t.CE A a h' G))
  have zZ:=bB t.W c5 (λg c=>by
    cases G:j.A with
    | none=>simp only[G]at c;simp[M.ownBlock]at c
    | some a=>
     have m:=t.W.lt g c;simp only[G,M.ownBlock,fp]at c;subst c;exact d6 a m.1 m.2 (λA h'=>t.CW A a h' G))
  have e5:∀c6,aS (λx=>q.heap.size<=x/\x<B.heap.size) B c6->l5 c6 q ({b with C:=⟨Y (k,0),C'.n+1,s⟩,U:=f,E:=d,W:=j }:aC) (iY l step):=λc6 hk=>⟨a4.tn d4.symm,t.nU,t.nE,t.nW,by show((l.C++[step]).mergeSort λx y=>decide (x<=y)).length<=1000;rw[d4,<- a4];omega,t.bU,t.bE,t.bW,
   bB o6 hk (λg c=>o6.lt g c),bB f7 hk (λg c=>f7.lt g c),bB f6 hk (λg c=>f6.lt g c),bB zZ hk (λg c=>zZ.lt g c)⟩
  have e7:=(e5 B (aS.refl _ _)).book;have i9:=Hm e5;clear e5 f7 f6 zZ;have b6:X w w B:=a1.out.tn (c9.mono a1.out.size);have g5:aD B:=d9.out.below b6;have i2:aK B (w.heap.size+1) 31 bI:=(c9.block _ c8.out.lt).tn c8.out;have g2:=Hm i2;have l1:=Hm f4;have f9:=Hm b6;have k9:=Hm e7;have j4:PQ ((w:Nat)+2<=B):=ec d'.out c9.size;have a8:=SE ({b with C:=⟨Y ⟨k,0,I⟩,C'.n+1,s⟩,U:=f,E:=d,W:=j }:aC) (iY l step) B e7 g5 (by rw[qv];exact i5.out);unfold aC.v at a8;clear f5 k5 e1 e2 e3 g6 c1 i1 g0 a4 j3 e9 d4 h9 o6 e4 i3 c5 g9 c9 d6 t e7 b6 g5 i2 y0  y1  y2  y3  y4  y5  y6  y7  y8  y9  k4  k6  k7 k8;obtain⟨N,O,S,T,V,Z,x6,x7,x8,x9,P,Q,R⟩:=aM f4;clear f4;go_wp2_with (go_at_call 79;refine a8.mono ?_;clear a8;rintro e w7 ⟨rfl,e6⟩;clear N  O  S  T  V  Z  x6  x7  x8  x9  P  Q  R;have d7:aK w7 (w.heap.size+1) 31 bI:=(e6.block _ g2.out.lt).tn g2.out;obtain⟨z0,z1,z2,z3,z4,z5,z6,z7,z8,z9,a0,b1,b2⟩:=aM d7;have f8:=dx d7;have i':=Hm d7;have d8:=Hm e6;clear d7 e6);obtain⟨f1,f2,f3⟩:=iH ({b with C:=⟨Y ⟨k,0,I⟩,C'.n+1,s⟩,U:=f,E:=d,W:=j }:aC) i'.out;have b7:=f9.out.tn (d8.out.mono f9.out.size);have l3:=j4.out;have l4:=d8.out.size;have b5:=b7.tn (f2.below (n:=w.heap.size) zz (λx L=>zz));have d0:=f2;have c':aK (((((((((((((w7.setCell (w.heap.size+1,0) (.int .i64 b.S)).setCell (w.heap.size+1,1) (.int .i64 b.D)).setCell (w.heap.size+1,2) (.int .i64 b.L)).setCell (w.heap.size+1,3) (.int .i64 b.lo)).setCell (w.heap.size+1,4) (.int .i64 b.hi)).setCell (w.heap.size+1,5) (.slice (Y (k,0)) (C'.n+1) s)).setCell (w.heap.size+1,6) (.int .i64 b.rf)).setCell (w.heap.size+1,7) (.int .i64 b.rh)).setCell (w.heap.size+1,8) (.int .i64 b.cf)).setCell (w.heap.size+1,9) (.int .i64 b.ch)).setCell (w.heap.size+1,10) (.slice f.A f.n f.c)).setCell (w.heap.size+1,11) (.slice d.A d.n d.c)).setCell (w.heap.size+1,12) (.slice j.A j.n j.c)) (w.heap.size+1) 31 ({b with C:=⟨Y (k,0),C'.n+1,s⟩,U:=f,E:=d,W:=j }:aC):=f1;have b8:X w w (((((((((((((w7.setCell (w.heap.size+1,0) (.int .i64 b.S)).setCell (w.heap.size+1,1) (.int .i64 b.D)).setCell (w.heap.size+1,2) (.int .i64 b.L)).setCell (w.heap.size+1,3) (.int .i64 b.lo)).setCell (w.heap.size+1,4) (.int .i64 b.hi)).setCell (w.heap.size+1,5) (.slice (Y (k,0)) (C'.n+1) s)).setCell (w.heap.size+1,6) (.int .i64 b.rf)).setCell (w.heap.size+1,7) (.int .i64 b.rh)).setCell (w.heap.size+1,8) (.int .i64 b.cf)).setCell (w.heap.size+1,9) (.int .i64 b.ch)).setCell (w.heap.size+1,10) (.slice f.A f.n f.c)).setCell (w.heap.size+1,11) (.slice d.A d.n d.c)).setCell (w.heap.size+1,12) (.slice j.A j.n j.c)):=b5;have d0:aS (λx=>x≠w.heap.size+1) w7 (((((((((((((w7.setCell (w.heap.size+1,0) (.int .i64 b.S)).setCell (w.heap.size+1,1) (.int .i64 b.D)).setCell (w.heap.size+1,2) (.int .i64 b.L)).setCell (w.heap.size+1,3) (.int .i64 b.lo)).setCell (w.heap.size+1,4) (.int .i64 b.hi)).setCell (w.heap.size+1,5) (.slice (Y (k,0)) (C'.n+1) s)).setCell (w.heap.size+1,6) (.int .i64 b.rf)).setCell (w.heap.size+1,7) (.int .i64 b.rh)).setCell (w.heap.size+1,8) (.int .i64 b.cf)).setCell (w.heap.size+1,9) (.int .i64 b.ch)).setCell (w.heap.size+1,10) (.slice f.A f.n f.c)).setCell (w.heap.size+1,11) (.slice d.A d.n d.c)).setCell (w.heap.size+1,12) (.slice j.A j.n j.c)):=f2;clear f1 f2 f3 b5;generalize(((((((((((((w7.setCell ⟨w.heap.size+1,0,I⟩ (.int .i64 b.S)).setCell ⟨w.heap.size+1,1,I⟩ (.int .i64 b.D)).setCell ⟨w.heap.size+1,2,I⟩ (.int .i64 b.L)).setCell ⟨w.heap.size+1,3,I⟩ (.int .i64 b.lo)).setCell ⟨w.heap.size+1,4,I⟩ (.int .i64 b.hi)).setCell ⟨w.heap.size+1,5,I⟩ (.slice (Y ⟨k,0,I⟩) (C'.n+1) s)).setCell ⟨w.heap.size+1,6,I⟩ (.int .i64 b.rf)).setCell ⟨w.heap.size+1,7,I⟩ (.int .i64 b.rh)).setCell ⟨w.heap.size+1,8,I⟩ (.int .i64 b.cf)).setCell ⟨w.heap.size+1,9,I⟩ (.int .i64 b.ch)).setCell ⟨w.heap.size+1,10,I⟩ (.slice f.A f.n f.c)).setCell ⟨w.heap.size+1,11,I⟩ (.slice d.A d.n d.c)).setCell ⟨w.heap.size+1,12,I⟩ (.slice j.A j.n j.c))=c6 at c' b8 d0|-;clear z0  z1  z2  z3  z4  z5  z6  z7  z8  z9  a0  b1  b2 f8
 obtain⟨z0,z1,z2,z3,z4,z5,z6,z7,z8,z9,a0,b1,b2⟩:=aM c'
 first
 |have _:=ø
  refine bd (v:=.tuple #[b.v,.int .i64 0]) ?_ rfl ⟨?_,b8⟩
  .first|(simp[results,Tryz.results79,go_sem,z0,z1,z2,z3,z4,z5,z6,z7,z8,z9,a0,b1,b2,aC.v,bI,iy];done)|skip
  (·first|(simp;done)|(rw[cd HC.out];done)|rfl)
 |refine bd (v:=.tuple #[({b with C:=⟨Y ⟨k,0,I⟩,C'.n+1,s⟩,U:=f,E:=d,W:=j }:aC).v,.int .i64 0]) ?_ rfl ⟨({b with C:=⟨Y ⟨k,0,I⟩,C'.n+1,s⟩,U:=f,E:=d,W:=j }:aC),rfl,?_,b8⟩
  .simp[results,Tryz.results40,go_sem,z0,z1,z2,z3,z4,z5,z6,z7,z8,z9,a0,b1,b2,aC.v,bI,iy]
  .exact⟨⟨_,_,_,_,rfl⟩,(i9.out _ ((aS.dY (K:=λx=>q.heap.size<=x/\x<B.heap.size) d8.out (λx _ h=>h.2)).tn (d0.mono (λx _ h=>by have:=d'.out;omega)))).base a1.out.size⟩):p:=h
end Go
namespace Go.Proofs.YtfcgpihkimpkcaaGreatDoor
open Go.RowKit
variable{w w':H}{B g n cap q:Nat}{zs:List Int}
def uN(L:List (Int×(Nat->Bool))):List Int:=Lib.compact ((L.map (·.1)).mergeSort λx y=>decide (x<=y))
def iM(b:aC)(l:bN):List Int×Int:=if cP b l true=0 then(uN (aJ b l b.D.toNat),0)else([],cP b l true)
def oR{os:Array Obj}{zs ts:List Int}(h:w.ownsRow B 3 1 (.slice (Y (g,0)) n cap) n (zs.map (M.int .i64)))(c:n=zs.length)(hl:ts.length=zs.length)
  (hw:w'=Go.Sort.grow (Go.Sort.putRow (M.int .i64) (Go.Sort.ahead w q) g 0 ts.toArray) os):w'.ownsRow B 3 1 (.slice (Y (g,0)) n cap) n (ts.map (M.int .i64))/\w.grownBy w' (Y g):=xbd
def qZ(h:w.ownsRow B 3 1 (.slice (Y (g,0)) n cap) n (zs.map (M.int .i64)))(c:n=zs.length):Go.Sort.Holds (M.int .i64) w g 0 zs.toArray:=by
 have ø:=0;exact xbd
def DN(zs:List Int):(Lib.compact zs).length<=zs.length:=by
 unfold Lib.compact Lib.compactUpTo;rw[my];exact ec (ln _ _) ss
def DO(h:w.ownsRow B 3 1 (.slice (Y (g,0)) n cap) n (zs.map (M.int .i64)))(c:n=zs.length)
  (m:w'=Go.Sort.putRow (M.int .i64) (Go.Sort.ahead w q) g 0 (Lib.compact zs++List.replicate (zs.length-(Lib.compact zs).length) 0).toArray):
  w'.ownsRow B 3 1 (.slice (Y (g,0)) (Lib.compact zs).length cap) (Lib.compact zs).length ((Lib.compact zs).map (M.int .i64))/\w.grownBy w' (Y g):=by
 have l:=DN zs;have o:w'=Go.Sort.grow (Go.Sort.putRow (M.int .i64) (Go.Sort.ahead w q) g 0 (Lib.compact zs++List.replicate (zs.length-(Lib.compact zs).length) 0).toArray) #[]:=by rw[m,Go.Sort.grow_empty]
 obtain⟨k,h2⟩:=oR h c so o;refine⟨?_,h2⟩;subst c;rcases k.2 with⟨e1,-⟩|⟨g',p,a,e1,d,e,r,f,i,j⟩
 .cases e1
 .cases e1;refine⟨by simp,.inr ⟨g,cap,a,rfl,d,e,zz,f,i,?_⟩⟩;have b:(a.toList.take (zs.length*1)).take (Lib.compact zs).length=(Lib.compact zs).map (M.int .i64):=by
   rw[j,nc];exact List.take_left' ss
  rw[List.take_take,Nat.mul_one,Nat.min_eq_left l]at b;rw[Nat.mul_one];exact b
theorem DR(b:aC)(l:bN)(w:H)(a1:aI w b l)(b7:aD w)(h:cP b l true=0):
  PH F 29 #[b.v] w (ji w.heap.size (iM b l).1 (iM b l).2 w):=by
 have å:=0;exact pb
def DT(b:aC)(l:bN)(w:H)(c:aI w b l)(a:aD w)(h:cP b l true=0:=by kernel_rfl):PH F 29 #[b.v] w (ji w (iM b l).1 (iM b l).2 w):=DR b l w c a h
variable{α:Type}{s:Sl}{l:List (Int×Int)}{e:Nat}{v:M}
def Sz:(F.info? 100).map (λi=>(i.zero,i.size,i.bytes))=Y (Y (.agg #[.int .i64 0,.int .i64 0]),2,16):=by kernel_rfl
theorem DU(a:Addr)(n c:Nat)(xs:List M)(w:H)(f:xs.length=n*2)(s:n<=1000)(d:∀j u,xs[j]?=Y u->w.cell? (a.add j)=Y u)(b:∀u∈xs,u.oneCell'=true):
  PH F 102 #[.slice (Y a) n c] w λe w'=>∃v',e=.returned v'/\w'.ownsRow w 100 2 v' n xs/\X w w w':=qe
theorem Gy(n c:Nat)(w:H):
  PH F 102 #[.slice I n c] w λe w'=>e=.returned (.slice I 0 0)/\w'=w:=by
 have q:=λ(w:H) (a:Option Addr) (n c n' c':Nat)=>Lib.run_eql_slice_nil w _ _ a n c n' c' Tryz.underlying27;go_enter Tryz.func102,Tryz.ntmps102;go_wp2;go_ret;exact⟨rfl,rfl⟩
def SA:(F.info? 55).map (λi=>(i.zero,i.size,i.bytes))=Y (Y (.agg #[.int .i64 0,.int .i64 0]),2,16):=by kernel_rfl
theorem DV(a:Addr)(n c:Nat)(xs:List M)(w:H)(f:xs.length=n*2)(s:n<=1000)(d:∀j u,xs[j]?=Y u->w.cell? (a.add j)=Y u)(b:∀u∈xs,u.oneCell'=true):
  PH F 103 #[.slice (Y a) n c] w λe w'=>∃v',e=.returned v'/\w'.ownsRow w 55 2 v' n xs/\X w w w':=by
 have ø:=0;exact qe
theorem Gz(n c:Nat)(w:H):
  PH F 103 #[.slice I n c] w λe w'=>e=.returned (.slice I 0 0)/\w'=w:=by
 have q:=λ(w:H) (a:Option Addr) (n c n' c':Nat)=>Lib.run_eql_slice_nil w _ _ a n c n' c' Tryz.underlying28;go_enter Tryz.func103,Tryz.ntmps103;go_wp2;go_ret;exact⟨rfl,rfl⟩
def SB:(F.info? 80).map (λi=>(i.zero,i.size,i.bytes))=Y (Y (.agg #[.int .i64 0,.int .i64 0,.bool false]),3,24):=by kernel_rfl
theorem DW(a:Addr)(n c:Nat)(xs:List M)(w:H)(f:xs.length=n*3)(s:n<=1000)(d:∀j u,xs[j]?=Y u->w.cell? (a.add j)=Y u)(b:∀u∈xs,u.oneCell'=true):
  PH F 104 #[.slice (Y a) n c] w λe w'=>∃v',e=.returned v'/\w'.ownsRow w 80 3 v' n xs/\X w w w':=by
 have å:=0;exact qe
theorem GA(n c:Nat)(w:H):
  PH F 104 #[.slice I n c] w λe w'=>e=.returned (.slice I 0 0)/\w'=w:=by
 have q:=λ(w:H) (a:Option Addr) (n c n' c':Nat)=>Lib.run_eql_slice_nil w _ _ a n c n' c' Tryz.underlying29;go_enter Tryz.func104,Tryz.ntmps104;go_wp2;go_ret;exact⟨rfl,rfl⟩
def mK(w:H)(s:Sl)(size:Nat)(xs:List M):Prop:=xs.length=s.n*size/\s.n<=1000/\(∀u∈xs,u.oneCell'=true)/\(0<s.n->∃a,s.A=Y a/\∀j u,xs[j]?=Y u->w.cell? (a.add j)=Y u)
def GB(s:Sl)(xs:List M)(w:H)(h:mK w s 2 xs):
  PH F 102 #[.slice s.A s.n s.c] w λe w'=>∃v',e=.returned v'/\w'.ownsRow w 100 2 v' s.n xs/\X w w w':=by
 obtain⟨A,n,c⟩:=s;obtain⟨d,h2,k,g⟩:=h
 cases A with
 | none=>
  rcases mT n with rfl|b
  .refine(Gy 0 c w).mono ?_;rintro e w' ⟨rfl,rfl⟩;obtain rfl:xs=[]:=List.eq_nil_of_length_eq_zero (by simpa using d);exact⟨_,rfl,H.ownsRow_nil _ _ _ _,X.refl _ _⟩
  .obtain⟨a,f,-⟩:=g b;cases f
 | some a=>
  refine DU a n c xs w d h2 (λj u i=>?_) k;have b:0<n:=by
   rcases mT n with rfl|b
   .obtain rfl:xs=[]:=List.eq_nil_of_length_eq_zero (by simpa using d);simp at i
   .exact b
  obtain⟨m,f,l⟩:=g b;cases f;exact l j u i
def GC(s:Sl)(xs:List M)(w:H)(h:mK w s 2 xs):
  PH F 103 #[.slice s.A s.n s.c] w λe w'=>∃v',e=.returned v'/\w'.ownsRow w 55 2 v' s.n xs/\X w w w':=by
 obtain⟨A,n,c⟩:=s;obtain⟨d,h2,k,g⟩:=h
 cases A with
 | none=>
  rcases mT n with rfl|b
  .refine(Gz 0 c w).mono ?_;rintro e w' ⟨rfl,rfl⟩;obtain rfl:xs=[]:=List.eq_nil_of_length_eq_zero (by simpa using d);exact⟨_,rfl,H.ownsRow_nil _ _ _ _,X.refl _ _⟩
  .obtain⟨a,f,-⟩:=g b;cases f
 | some a=>
  refine DV a n c xs w d h2 (λj u i=>?_) k;have b:0<n:=by
   rcases mT n with rfl|b
   .obtain rfl:xs=[]:=List.eq_nil_of_length_eq_zero (by simpa using d);simp at i
   .exact b
  obtain⟨m,f,l⟩:=g b;cases f;exact l j u i
def GD(s:Sl)(xs:List M)(w:H)(h:mK w s 3 xs):
  PH F 104 #[.slice s.A s.n s.c] w λe w'=>∃v',e=.returned v'/\w'.ownsRow w 80 3 v' s.n xs/\X w w w':=by
 obtain⟨A,n,c⟩:=s;obtain⟨d,h2,k,g⟩:=h
 cases A with
 | none=>
  rcases mT n with rfl|b
  .refine(GA 0 c w).mono ?_;rintro e w' ⟨rfl,rfl⟩;obtain rfl:xs=[]:=List.eq_nil_of_length_eq_zero (by simpa using d);exact⟨_,rfl,H.ownsRow_nil _ _ _ _,X.refl _ _⟩
  .obtain⟨a,f,-⟩:=g b;cases f
 | some a=>
  refine DW a n c xs w d h2 (λj u i=>?_) k;have b:0<n:=by
   rcases mT n with rfl|b
   .obtain rfl:xs=[]:=List.eq_nil_of_length_eq_zero (by simpa using d);simp at i
   .exact b
  obtain⟨m,f,l⟩:=g b;cases f;exact l j u i
def GF(s:Sl)(l:List Int)(w:H)(h:aN w s l):
  PH F 101 #[.slice s.A s.n s.c] w λe w'=>∃v',e=.returned v'/\w'.ownsRow w 3 1 v' s.n (l.map (M.int .i64))/\X w w w':=by
 obtain⟨A,n,c⟩:=s;obtain⟨g,h2,o,j⟩:=h;simp only at g;subst g;rcases mT l.length with i|m
 .obtain rfl:l=[]:=List.eq_nil_of_length_eq_zero i
  cases A with
  | none=>
   refine(Tryz.slices_Clone_int_nil 0 c w).mono ?_;rintro e w' ⟨rfl,rfl⟩;exact⟨_,rfl,H.ownsRow_nil _ _ _ _,X.refl _ _⟩
  | some a=>
   refine(Tryz.slices_Clone_int_zero a c w).mono ?_;rintro e w' ⟨v',rfl,d, -, f⟩;exact⟨_,rfl,d,f⟩
 .obtain⟨b,off,rfl,p,k⟩:=j m;refine(Tryz.slices_Clone_int b off l.length c l w (dj _) zz k).mono ?_;rintro e w' ⟨v',rfl,d, -, f⟩;rw[List.take_length]at d;exact⟨_,rfl,d,f⟩
def pG(x:Int×Int):List M:=[.int .i64 x.1,.int .i64 x.2]
def rO(x:Int×Int×Bool):List M:=[.int .i64 x.1,.int .i64 x.2.1,.bool x.2.2]
def Bu(f:α->List M)(m:Nat)(c:∀a,(f a).length=m)(d:α):∀(l:List α) (j:Nat) (u:M),(l.flatMap f)[j]?=Y u->0<m/\j/m<l.length/\(f (l.getD (j/m) d))[j%m]?=Y u
 | [],j,u,h=>by simp at h
 | a::r,j,u,h=>by
  rw[la]at h;by_cases b:j<m
  .rw[List.getElem?_append_left (by rw[c];exact b)]at h;refine⟨zz,by rw[Nat.div_eq_of_lt b];simp,?_⟩;rw[Nat.div_eq_of_lt b,Nat.mod_eq_of_lt b];exact h
  .rw[List.getElem?_append_right (by rw[c];omega),c]at h;obtain⟨e,k,i⟩:=Bu f m c d r (j-m) u h;have e1:j/m=(j-m)/m+1:=by rw[Nat.div_eq_sub_div e zz]
   have g:j%m=(j-m)%m:=by rw[Nat.mod_eq_sub_mod zz]
   refine⟨e,by rw[e1,fx];omega,?_⟩;rw[e1,g];simpa[List.getD]using i
def qu(f:α->List M)(m:Nat)(b:∀a,(f a).length=m):∀l:List α,(l.flatMap f).length=l.length*m
 | []=>by simp
 | a::r=>by rw[la,lh,b,qu f m b r,fx,Nat.succ_mul];omega
def bp.cells(h:bp w s l):mK w s 2 (l.flatMap pG):=by
 have ø:=0;exact xaP
def fL.cells{l:List (Int×Int×Bool)}(h:fL w s l):mK w s 3 (l.flatMap rO):=xaP
def jP{B e size n:Nat}{xs:List M}(h:w.ownsRow B e size v n xs):∃A c,v=.slice A n c/\n<=c/\(∀g,v.ownBlock=Y g->B<=g/\g<w.heap.size)/\
  (0<n->∃g,A=Y ⟨g,0,I⟩/\∀j u,xs[j]?=Y u->w.cell? ⟨g,j,I⟩=Y u):=by
 have m:=h.lt;rcases h.2 with⟨rfl,rfl⟩|⟨g,b,o,rfl,h2,d,f,p,q,i⟩
 .exact⟨I,0,rfl,dj _,λg k=>by simp[M.ownBlock]at k,λh=>dC h (kq 0)⟩
 .refine⟨Y ⟨g,0,I⟩,b,rfl,f,m,λr=>⟨g,rfl,λj u a=>?_⟩⟩;rw[<- i]at a;have l:j<n*size:=by
   have:=(List.getElem?_eq_some_iff.1 a).1;simp at this;omega
  rw[List.getElem?_take_of_lt l]at a;simp only[H.cell?,d];simpa using a
def fO(f:α->List M)(m:Nat)(b:∀a,(f a).length=m)(d:α):∀(l:List α) (k j:Nat),k<l.length->j<m->(l.flatMap f)[k*m+j]?=(f (l.getD k d))[j]?
 | [],k,j,hk,_=>by simp at hk
 | a::r,0,j,_,c=>by
  rw[la,List.getElem?_append_left (by rw[b];omega),Nat.zero_mul,kl];rfl
 | a::r,k+1,j,hk,c=>by
  have e:k<r.length:=by simpa using hk
  have e1:(k+1)*m+j=m+(k*m+j):=by rw[Nat.succ_mul];omega
  rw[e1,la,List.getElem?_append_right (by rw[b];omega),b,Nat.add_sub_cancel_left,fO f m b d r k j e c];rfl
def bp.own(h:w.ownsRow B e 2 v l.length (l.flatMap pG))(f:l.length<=1000):∃s:Sl,v=.slice s.A s.n s.c/\bp w s l/\(∀a,s.A=Y a->B<=a.block/\a.block<w.heap.size):=by
 have å:=0;exact tz
def fL.own{l:List (Int×Int×Bool)}(h:w.ownsRow B e 3 v l.length (l.flatMap rO))(f:l.length<=1000):∃s:Sl,v=.slice s.A s.n s.c/\fL w s l/\(∀a,s.A=Y a->B<=a.block/\a.block<w.heap.size):=tz
def aN.own{l:List Int}(h:w.ownsRow B e 1 v l.length (l.map (M.int .i64)))(f:l.length<=1000):∃s:Sl,v=.slice s.A s.n s.c/\aN w s l/\(∀a,s.A=Y a->B<=a.block/\a.block<w.heap.size):=by
 have ø:=0;exact tz
variable{i k:Nat}{oi:Kp}{L:Array Bool}{a:Act}{P:Ps}{ops:Array Kp}{Q:Exit->Act->H->Prop}{md:Region.Mode}{S:H->Prop}{late:Nat->Bool}
def wpAnyL(P:Ps)(md:Region.Mode)(ops:Array Kp)(Q:Exit->Act->H->Prop)(S:H->Prop)(late:Nat->Bool):Nat->Array Bool->Act->H->Prop
 | 0,L,a,w=>Region.ready md ops L=[]/\Q .normal a w
 | k+1,L,a,w=>(Region.ready md ops L=[]->Q .normal a w)/\∀i∈Region.ready md ops L,wpOp P ops Q i (λb w'=>(late i=false->S w')/\wpAnyL P md ops Q S late k (L.setIfInBounds i true) b w') a w
def sA:∀(k:Nat) (L:Array Bool) (a:Act) (w:H),wpAnyL P md ops Q S late k L a w->wpAny P md ops Q k L a w
 | 0,_,_,_,h=>h
 | k+1,_,_,_,h=>⟨h.1,λi hi=>wpOp_mono (λb w' c=>sA k _ b w' c.2) (h.2 i hi)⟩
def wpAnyL_first(hi:ops[i]?=Y oi)(G:∀(j:Nat) (o:Kp) cs b,ops[j]?=Y o->o.op≠.select cs b)
  (N:∀c a w,Q (.panic c) (a.put oi.dst v) w->Q (.panic c) a w)
  (V:∀j d,ops[j]?=Y d->late j=true->∃e∈d.after,Region.binds md e=true/\e.on=i):
  ∀(k:Nat) (L:Array Bool) (a:Act) (w:Cl),
   (∀j d,ops[j]?=Y d->j≠i->L.getD j true=false->(∀e∈d.after,Region.binds md e=true->e.on≠i)->oi.apart ops d=true)->
   i∈Region.ready md ops L->YieldsIf P ops S oi v a->S w->
   wpAnyL P md ops Q S late k (L.setIfInBounds i true) (a.put oi.dst v) w->wpAnyL P md ops Q S late (k+1) L a w:=by
 intro k
 induction k with
 | zero=>
  intro L a w _ l r m H;refine⟨λh=>(by rw[h]at l;cases l),λj p=>?_⟩;by_cases f:j=i
  .subst f;exact r.wpOp hi m ⟨λ_=>m,H⟩
  .have:=ready_mono p f;rw[H.1]at this;cases this
 | succ k Z=>
  intro L a w A l r m H;refine⟨λh=>(by rw[h]at l;cases l),λj p=>?_⟩;by_cases f:j=i
  .subst f;exact r.wpOp hi m ⟨λ_=>m,H⟩
  .have g:=H.2 j (ready_mono p f);obtain⟨C,d,q,O⟩:=mem_ready.1 p;have E:∀e∈d.after,Region.binds md e=true->e.on≠i:=λe u t x=>by
    have g:=O e u t;have y:=(mem_ready.1 l).1;rw[x]at g;rcases Nat.lt_or_ge i L.size with s|s
    .simp[s]at y g;rw[y]at g;cases g
    .simp[Array.getElem?_eq_none s]at g
   have z:late j=false:=by
    cases U:late j with
    | false=>rfl
    | true=>
     obtain⟨e,u,t,x⟩:=V j d q U;exact dC x (E e u t)
   have h2:=wpOp_putIf q (A j d q f C E) (λcs b=>G i oi cs b hi) (λcs b=>G j d cs b q) N r g;have R:∀k ok,ops[k]?=Y ok->k≠i->(L.setIfInBounds j true).getD k true=false->
     (∀e∈ok.after,Region.binds md e=true->e.on≠i)->oi.apart ops ok=true:=λk ok hk T J W=>by
    refine A k ok hk T ?_ W;by_cases B:j=k
    .subst B;exact C
    .rw[getD_set_ne true B]at J;exact J
   refine wpOp_mono (λK w' n=>⟨λ_=>n.2.1 z,Z (L.setIfInBounds j true) K w' R (ready_mono l (Ne.symm f)) n.1 (n.2.1 z) ?_⟩) h2;rw[Array.setIfInBounds_comm _ _ f];exact n.2.2
def nN(md:Region.Mode)(ops:Array Kp)(late:Nat->Bool)(i:Nat):Bool:=(List.range ops.size).all λj=> !late j||(match ops[j]? with|some o=>o.after.any λe=>Region.binds md e&&e.on==i|none=>true)
def yh(h:nN md ops late i=true):∀j b,ops[j]?=Y b->late j=true->∃e∈b.after,Region.binds md e=true/\e.on=i:=λj b c g=>by
 have k:=(du.1 c).1;have a:=List.all_eq_true.1 h j (List.mem_range.2 k);rw[c,g]at a;simp only[Bool.not_true,Bool.false_or,Array.any_eq_true',ed,lj]at a;obtain⟨e,f,d,l⟩:=a;exact⟨e,f,d,l⟩
def dN(hi:ops[i]?=Y oi)
  (g:Region.noSelect ops=true)(e:Region.free md ops L i=true)(f:(Region.ready md ops L).contains i=true)(j:nN md ops late i=true)
  (b:∀c a w,Q (.panic c) (a.put oi.dst v) w->Q (.panic c) a w)(l:YieldsIf P ops S oi v a)(d:S w)
  (h:wpAnyL P md ops Q S late k (L.setIfInBounds i true) (a.put oi.dst v) w):wpAnyL P md ops Q S late (k+1) L a w:=
 wpAnyL_first hi (Region.noSelect_spec g) b (yh j) k L a w (Region.free_spec hi e) (by simpa using f) l d h
def eU{o:Kp}(b:Region.ready md ops L=[i])(g:ops[i]?=Y o)
  (h:∀K:Act->H->Prop,(∀a w,(late i=false->S w)->wpAnyL P md ops Q S late k (L.setIfInBounds i true) a w->K a w)->if Region.wanted o (aw ops a.tmps)=true then Kp.wp P o a w K Q else K (a.put o.dst D) w):
  wpAnyL P md ops Q S late (k+1) L a w:=by
 refine⟨λd=>(by rw[d]at b;cases b),λj c=>?_⟩;rw[b]at c;obtain rfl:=ib.1 c;exact wpOp_step g (λK f=>h K λa w e h2=>f a w ⟨e,h2⟩)
def cH(b:Region.ready md ops L=[])(h:Q .normal a w):∀k,wpAnyL P md ops Q S late k L a w
 | 0=>⟨b,h⟩
 | _+1=>⟨λ_=>h,by rw[b];simp⟩
def bK{id:Nat}(late:Nat->Bool)(b:P.follows .mixedOrders=true)
  (h:wpAnyL P .any ops Q S late ops.size (Array.replicate ops.size false) a w.drew):(Ly.region id ops true).wp P Q a w:=
 wp_region_any b (sA _ _ _ _ h)
def gi{B e size n:Nat}{v:M}{xs:List M}(h:w.ownsRow B e size v n xs):∃A c,v=.slice A n c:=by
 obtain⟨A,c,a,-⟩:=jP h;exact⟨A,c,a⟩
structure lZ(w:H)(B:Nat)(b:aC)(l:bN):Prop where
 nC:b.C.n=l.C.length
 nU:b.U.n=l.U.length
 nE:b.E.n=l.E.length
 nW:b.W.n=l.W.length
 bC:l.C.length<=1000
 bU:l.U.length<=1000
 bE:l.E.length<=1000
 bW:l.W.length<=1000
 C:w.ownsRow B 3 1 (.slice b.C.A b.C.n b.C.c) b.C.n (l.C.map (M.int .i64))
 U:w.ownsRow B 100 2 (.slice b.U.A b.U.n b.U.c) b.U.n (l.U.flatMap pG)
 E:w.ownsRow B 55 2 (.slice b.E.A b.E.n b.E.c) b.E.n (l.E.flatMap pG)
 W:w.ownsRow B 80 3 (.slice b.W.A b.W.n b.W.c) b.W.n (l.W.flatMap rO)
 CU:∀a a',b.C.A=Y a->b.U.A=Y a'->a.block<a'.block
 CE:∀a a',b.C.A=Y a->b.E.A=Y a'->a.block<a'.block
 CW:∀a a',b.C.A=Y a->b.W.A=Y a'->a.block<a'.block
 UW:∀a a',b.U.A=Y a->b.W.A=Y a'->a.block<a'.block
 EW:∀a a',b.E.A=Y a->b.W.A=Y a'->a.block<a'.block
def iH{g:Nat}{t:Lk}{b0:aC}(b:aC)(h:aK w g t b0):aK (((((((((((((w.setCell ⟨g,0,I⟩ (.int .i64 b.S)).setCell ⟨g,1,I⟩ (.int .i64 b.D)).setCell ⟨g,2,I⟩ (.int .i64 b.L)).setCell ⟨g,3,I⟩ (.int .i64 b.lo)).setCell ⟨g,4,I⟩ (.int .i64 b.hi)).setCell ⟨g,5,I⟩ (.slice b.C.A b.C.n b.C.c)).setCell ⟨g,6,I⟩ (.int .i64 b.rf)).setCell ⟨g,7,I⟩ (.int .i64 b.rh)).setCell ⟨g,8,I⟩ (.int .i64 b.cf)).setCell ⟨g,9,I⟩ (.int .i64 b.ch)).setCell ⟨g,10,I⟩ (.slice b.U.A b.U.n b.U.c)).setCell ⟨g,11,I⟩ (.slice b.E.A b.E.n b.E.c)).setCell ⟨g,12,I⟩ (.slice b.W.A b.W.n b.W.c)) g t b/\aS (λx=>x≠g) w (((((((((((((w.setCell ⟨g,0,I⟩ (.int .i64 b.S)).setCell ⟨g,1,I⟩ (.int .i64 b.D)).setCell ⟨g,2,I⟩ (.int .i64 b.L)).setCell ⟨g,3,I⟩ (.int .i64 b.lo)).setCell ⟨g,4,I⟩ (.int .i64 b.hi)).setCell ⟨g,5,I⟩ (.slice b.C.A b.C.n b.C.c)).setCell ⟨g,6,I⟩ (.int .i64 b.rf)).setCell ⟨g,7,I⟩ (.int .i64 b.rh)).setCell ⟨g,8,I⟩ (.int .i64 b.cf)).setCell ⟨g,9,I⟩ (.int .i64 b.ch)).setCell ⟨g,10,I⟩ (.slice b.U.A b.U.n b.U.c)).setCell ⟨g,11,I⟩ (.slice b.E.A b.E.n b.E.c)).setCell ⟨g,12,I⟩ (.slice b.W.A b.W.n b.W.c))/\(((((((((((((w.setCell ⟨g,0,I⟩ (.int .i64 b.S)).setCell ⟨g,1,I⟩ (.int .i64 b.D)).setCell ⟨g,2,I⟩ (.int .i64 b.L)).setCell ⟨g,3,I⟩ (.int .i64 b.lo)).setCell ⟨g,4,I⟩ (.int .i64 b.hi)).setCell ⟨g,5,I⟩ (.slice b.C.A b.C.n b.C.c)).setCell ⟨g,6,I⟩ (.int .i64 b.rf)).setCell ⟨g,7,I⟩ (.int .i64 b.rh)).setCell ⟨g,8,I⟩ (.int .i64 b.cf)).setCell ⟨g,9,I⟩ (.int .i64 b.ch)).setCell ⟨g,10,I⟩ (.slice b.U.A b.U.n b.U.c)).setCell ⟨g,11,I⟩ (.slice b.E.A b.E.n b.E.c)).setCell ⟨g,12,I⟩ (.slice b.W.A b.W.n b.W.c)).heap.size=w.heap.size:=by
 unfold aK aE at*;have a:=bJ (i:=0) h (.int .i64 b.S);simp only[zS]at a;have c:=bJ (i:=1) a (.int .i64 b.D);simp only[zS]at c;have h2:=bJ (i:=2) c (.int .i64 b.L);simp only[zS]at h2;have j:=bJ (i:=3) h2 (.int .i64 b.lo);simp only[zS]at j;have k:=bJ (i:=4) j (.int .i64 b.hi);simp only[zS]at k;have l:=bJ (i:=5) k (.slice b.C.A b.C.n b.C.c);simp only[zS]at l;have m:=bJ (i:=6) l (.int .i64 b.rf);simp only[zS]at m;have n:=bJ (i:=7) m (.int .i64 b.rh);simp only[zS]at n;have o:=bJ (i:=8) n (.int .i64 b.cf);simp only[zS]at o;have q:=bJ (i:=9) o (.int .i64 b.ch);simp only[zS]at q;have d:=bJ (i:=10) q (.slice b.U.A b.U.n b.U.c);simp only[zS]at d;have e:=bJ (i:=11) d (.slice b.E.A b.E.n b.E.c);simp only[zS]at e;have f:=bJ (i:=12) e (.slice b.W.A b.W.n b.W.c);simp only[zS]at f;exact⟨f,((((((((((((((aS.refl _ _).set (p:=⟨g,0,I⟩) (λ_ h=>h rfl) _).set (p:=⟨g,1,I⟩) (λ_ h=>h rfl) _).set (p:=⟨g,2,I⟩) (λ_ h=>h rfl) _).set (p:=⟨g,3,I⟩) (λ_ h=>h rfl) _).set (p:=⟨g,4,I⟩) (λ_ h=>h rfl) _).set (p:=⟨g,5,I⟩) (λ_ h=>h rfl) _).set (p:=⟨g,6,I⟩) (λ_ h=>h rfl) _).set (p:=⟨g,7,I⟩) (λ_ h=>h rfl) _).set (p:=⟨g,8,I⟩) (λ_ h=>h rfl) _).set (p:=⟨g,9,I⟩) (λ_ h=>h rfl) _).set (p:=⟨g,10,I⟩) (λ_ h=>h rfl) _).set (p:=⟨g,11,I⟩) (λ_ h=>h rfl) _).set (p:=⟨g,12,I⟩) (λ_ h=>h rfl) _),by simp[H.setCell]⟩
theorem DX(b:aC)(l:bN)(w:H)(t:aI w b l):
  PH F 78 #[b.v] w λe w'=>∃C U E W:Sl,e=.returned ({b with C:=C,U:=U,E:=E,W:=W}:aC).v/\lZ w' w.heap.size {b with C:=C,U:=U,E:=E,W:=W} l/\X w.heap.size w w':=by
 have a2:=Hm t;have c1:=λw' h=>GF b.C l.C w' h;have c3:=λw' h=>GB b.U (l.U.flatMap pG) w' h;have c2:=λw' h=>GC b.E (l.E.flatMap pG) w' h;have c4:=λw' h=>GD b.W (l.W.flatMap rO) w' h;clear t;unfold aC.v;go_enter Tryz.func78,Tryz.ntmps78;go_wp2_with fail;change Ly.wp _ _ _ _ ((w.alloc (aE b 31)).alloc (aE bI 31));have b6:aK ((w.alloc (aE b 31)).alloc (aE bI 31)) w.heap.size 31 b:=(QR _ _ ss).tn (Sp _ _);have b8:aK ((w.alloc (aE b 31)).alloc (aE bI 31)) (w.heap.size+1) 31 bI:=by rw[<- aa w (aE b 31)];exact Sp _ _
 have b9:((w.alloc (aE b 31)).alloc (aE bI 31)).heap.size=w.heap.size+1+1:=by simp only[aa]
 have b7:X w.heap.size w ((w.alloc (aE b 31)).alloc (aE bI 31)):=((X.refl _ _).alloc (dj _) _).alloc (by simp only[aa];omega) _;generalize((w.alloc (aE b 31)).alloc (aE bI 31))=W at b6 b8 b9 b7|-;have f:=Hm b6;have HR:=Hm b8;have c7:=Hm b9;have a1:=Hm b7;clear b6 b8 b9 b7;have B:aK W.drew w.heap.size 31 b/\X W.heap.size W W.drew:=⟨f.out,X.drew (X.refl _ _)⟩;refine bK (S:=λw'=>aK w' w.heap.size 31 b/\X W.heap.size W w') (λi=>decide (13<=i)) kr ?_;refine dN (i:=0) (v:=?_) rfl kr kr kr kr (λ_ _ _ h=>h) (Or.inl ⟨by rfl,?_⟩) B ?_
 .exact .pointer (Y ⟨w.heap.size,5,I⟩)
 .intro o J;go_simp
 try simp only[Act.put,zS]
 refine dN (i:=1) (v:=?_) rfl kr kr kr kr (λ_ _ _ h=>h) (Or.inl ⟨by rfl,?_⟩) B ?_
 .exact .slice b.C.A b.C.n b.C.c
 .exact xay
 try simp only[Act.put,zS]
 refine dN (i:=3) (v:=?_) rfl kr kr kr kr (λ_ _ _ h=>h) (Or.inl ⟨by rfl,?_⟩) B ?_
 .exact .pointer (Y ⟨w.heap.size,10,I⟩)
 .intro o J;go_simp
 try simp only[Act.put,zS]
 refine dN (i:=4) (v:=?_) rfl kr kr kr kr (λ_ _ _ h=>h) (Or.inl ⟨by rfl,?_⟩) B ?_
 .exact .slice b.U.A b.U.n b.U.c
 .exact xay
 try simp only[Act.put,zS]
 refine dN (i:=6) (v:=?_) rfl kr kr kr kr (λ_ _ _ h=>h) (Or.inl ⟨by rfl,?_⟩) B ?_
 .exact .pointer (Y ⟨w.heap.size,11,I⟩)
 .intro o J;go_simp
 try simp only[Act.put,zS]
 refine dN (i:=7) (v:=?_) rfl kr kr kr kr (λ_ _ _ h=>h) (Or.inl ⟨by rfl,?_⟩) B ?_
 .exact .slice b.E.A b.E.n b.E.c
 .exact xay
 try simp only[Act.put,zS]
 refine dN (i:=9) (v:=?_) rfl kr kr kr kr (λ_ _ _ h=>h) (Or.inl ⟨by rfl,?_⟩) B ?_
 .exact .pointer (Y ⟨w.heap.size,12,I⟩)
 .intro o J;go_simp
 try simp only[Act.put,zS]
 refine dN (i:=10) (v:=?_) rfl kr kr kr kr (λ_ _ _ h=>h) (Or.inl ⟨by rfl,?_⟩) B ?_
 .exact .slice b.W.A b.W.n b.W.c
 .exact xay
 try simp only[Act.put,zS]
 clear B;obtain⟨a4,b'⟩:∃a4,W.drew=a4:=⟨_,rfl⟩;have k0:X W.heap.size W a4:=by rw[<- b'];exact X.drew (X.refl _ _)
 rw[b'];clear b';have l1:aN a4 b.C l.C:=(a2.out.C.below a1.out).below k0;refine eU (i:=2) kr rfl (λK c=>?_);go_simp;refine(c1 a4 l1).mono ?_;rintro e o ⟨v1,rfl,o1,j1⟩;have G:X W.heap.size W o:=k0.tn (j1.mono k0.size);obtain⟨d,n,rfl⟩:=gi o1;clear l1 c1;go_simp;refine c _ _ (λ_=>⟨(G.block _ f.out.lt).tn f.out,G⟩) ?_;clear c K;try simp only[Act.put,zS]
 refine dN (i:=12) (v:=?_) rfl kr kr kr kr (λ_ _ _ h=>h) (Or.inl ⟨by rfl,?_⟩) ⟨(G.block _ f.out.lt).tn f.out,G⟩ ?_
 .exact .pointer (Y ⟨w.heap.size,5,I⟩)
 .intro o J;go_simp
 try simp only[Act.put,zS]
 have l2:mK o b.U 2 (l.U.flatMap pG):=((a2.out.U.below a1.out).below G).cells;refine eU (i:=5) kr rfl (λK c=>?_);go_simp;refine(c3 o l2).mono ?_;rintro e w2 ⟨v2,rfl,o2,j2⟩;have Z:X W.heap.size W w2:=G.tn (j2.mono G.size);obtain⟨m,r,rfl⟩:=gi o2;clear l2 c3;go_simp;refine c _ _ (λ_=>⟨(Z.block _ f.out.lt).tn f.out,Z⟩) ?_;clear c K;try simp only[Act.put,zS]
 have l3:mK w2 b.E 2 (l.E.flatMap pG):=((a2.out.E.below a1.out).below Z).cells;refine eU (i:=8) kr rfl (λK c=>?_);go_simp;refine(c2 w2 l3).mono ?_;rintro e w3 ⟨v3,rfl,o3,j3⟩;have k3:X W.heap.size W w3:=Z.tn (j3.mono Z.size);obtain⟨q,y,rfl⟩:=gi o3;clear l3 c2;go_simp;refine c _ _ (λ_=>⟨(k3.block _ f.out.lt).tn f.out,k3⟩) ?_;clear c K;try simp only[Act.put,zS]
 have l4:mK w3 b.W 3 (l.W.flatMap rO):=((a2.out.W.below a1.out).below k3).cells;refine eU (i:=11) kr rfl (λK c=>?_);go_simp;refine(c4 w3 l4).mono ?_;rintro e k ⟨v4,rfl,o4,j4⟩;have k4:X W.heap.size W k:=k3.tn (j4.mono k3.size);obtain⟨u,A,rfl⟩:=gi o4;clear l4 c4;go_simp;refine c _ _ (λ_=>⟨(k4.block _ f.out.lt).tn f.out,k4⟩) ?_;clear c K;try simp only[Act.put,zS]
 have b0:aK k w.heap.size 31 b:=(k4.block _ f.out.lt).tn f.out;have r0:aK k (w.heap.size+1) 31 bI:=(k4.block _ HR.out.lt).tn HR.out;have L:=(aM b0).2.2.2.2.2;have f1:=dx b0 5;refine eU (i:=13) kr rfl (λK c=>?_);obtain⟨V, -, -, -, -, Q,R,T⟩:=L;go_simp;refine c _ _ (λh=>dC h dd) ?_;clear c K V Q R T f1;try simp only[Act.put,zS]
 have b1:aK (k.setCell ⟨w.heap.size,5,I⟩ (.slice d b.C.n n)) w.heap.size 31 {b with C:=⟨d,b.C.n,n⟩}:=by
  have:=bJ (i:=5) b0 (.slice d b.C.n n);simp only[zS]at this;exact this
 have g1:aS (λx=>x≠w.heap.size) k (k.setCell ⟨w.heap.size,5,I⟩ (.slice d b.C.n n)):=(aS.refl _ _).set (λ_ h=>h rfl) _;generalize k.setCell ⟨w.heap.size,5,I⟩ (.slice d b.C.n n)=u1 at b1 g1|-;refine eU (i:=14) kr rfl (λK c=>?_);go_simp;refine c _ _ (λh=>dC h dd) ?_;clear c K;try simp only[Act.put,zS]
 have N:=(aM b1).2.2.2.2.2;have f2:=dx b1 10;refine eU (i:=15) kr rfl (λK c=>?_);obtain⟨V, -, -, -, -, Q,R,T⟩:=N;go_simp;refine c _ _ (λh=>dC h dd) ?_;clear c K V Q R T f2;try simp only[Act.put,zS]
 have b2:aK (u1.setCell ⟨w.heap.size,10,I⟩ (.slice m b.U.n r)) w.heap.size 31 {b with C:=⟨d,b.C.n,n⟩,U:=⟨m,b.U.n,r⟩}:=by
  have:=bJ (i:=10) b1 (.slice m b.U.n r);simp only[zS]at this;exact this
 have g2:aS (λx=>x≠w.heap.size) u1 (u1.setCell ⟨w.heap.size,10,I⟩ (.slice m b.U.n r)):=(aS.refl _ _).set (λ_ h=>h rfl) _;generalize u1.setCell ⟨w.heap.size,10,I⟩ (.slice m b.U.n r)=u2 at b2 g2|-;clear b1;refine eU (i:=16) kr rfl (λK c=>?_);go_simp;refine c _ _ (λh=>dC h dd) ?_;clear c K;try simp only[Act.put,zS]
 have O:=(aM b2).2.2.2.2.2;have f3:=dx b2 11;refine eU (i:=17) kr rfl (λK c=>?_);obtain⟨V, -, -, -, -, Q,R,T⟩:=O;go_simp;refine c _ _ (λh=>dC h dd) ?_;clear c K V Q R T f3;try simp only[Act.put,zS]
 have b3:aK (u2.setCell ⟨w.heap.size,11,I⟩ (.slice q b.E.n y)) w.heap.size 31 {b with C:=⟨d,b.C.n,n⟩,U:=⟨m,b.U.n,r⟩,E:=⟨q,b.E.n,y⟩}:=by
  have:=bJ (i:=11) b2 (.slice q b.E.n y);simp only[zS]at this;exact this
 have g3:aS (λx=>x≠w.heap.size) u2 (u2.setCell ⟨w.heap.size,11,I⟩ (.slice q b.E.n y)):=(aS.refl _ _).set (λ_ h=>h rfl) _;generalize u2.setCell ⟨w.heap.size,11,I⟩ (.slice q b.E.n y)=u3 at b3 g3|-;clear b2;refine eU (i:=18) kr rfl (λK c=>?_);go_simp;refine c _ _ (λh=>dC h dd) ?_;clear c K;try simp only[Act.put,zS]
 have P:=(aM b3).2.2.2.2.2;have f4:=dx b3 12;refine eU (i:=19) kr rfl (λK c=>?_);obtain⟨V, -, -, -, -, Q,R,T⟩:=P;go_simp;refine c _ _ (λh=>dC h dd) ?_;clear c K V Q R T f4;try simp only[Act.put,zS]
 have b4:aK (u3.setCell ⟨w.heap.size,12,I⟩ (.slice u b.W.n A)) w.heap.size 31 {b with C:=⟨d,b.C.n,n⟩,U:=⟨m,b.U.n,r⟩,E:=⟨q,b.E.n,y⟩,W:=⟨u,b.W.n,A⟩}:=by
  have:=bJ (i:=12) b3 (.slice u b.W.n A);simp only[zS]at this;exact this
 have g4:aS (λx=>x≠w.heap.size) u3 (u3.setCell ⟨w.heap.size,12,I⟩ (.slice u b.W.n A)):=(aS.refl _ _).set (λ_ h=>h rfl) _;generalize u3.setCell ⟨w.heap.size,12,I⟩ (.slice u b.W.n A)=u4 at b4 g4|-;clear b3;refine cH kr ?_ _;have b5:aS (λx=>x≠w.heap.size) k u4:=((g1.tn g2).tn g3).tn g4;have r4:aK u4 (w.heap.size+1) 31 bI:=(b5.block _ r0.lt zz).tn r0;clear g1 g2 g3 g4 r0;have G4:=Hm b5;have R4:=Hm r4;have B4:=Hm b4;have a8:=Hm o1;have a9:=Hm o2;have a':=Hm o3;have a0:=Hm o4;have J1:=Hm j1;have J2:=Hm j2;have J3:=Hm j3;have J4:=Hm j4;have K0:=Hm k0;have K4:=Hm k4;clear b5 o1 o2 o3 o4 j1 j2 j3 j4 k0 G Z k3 k4;obtain⟨x0,L,N,O,P,x5,x6,x7,x8,x9,a5,a6,a7⟩:=aM b4;obtain⟨z0,z1,z2,z3,z4,z5,z6,z7,z8,z9,d2,d3,d4⟩:=aM r4;have c8:=dx r4;clear b4 r4;go_wp2;obtain⟨f1,f2,f3⟩:=iH ({b with C:=⟨d,b.C.n,n⟩,U:=⟨m,b.U.n,r⟩,E:=⟨q,b.E.n,y⟩,W:=⟨u,b.W.n,A⟩}:aC) R4.out;generalize c9:(((((((((((((u4.setCell ⟨w.heap.size+1,0,I⟩ (.int .i64 b.S)).setCell ⟨w.heap.size+1,1,I⟩ (.int .i64 b.D)).setCell ⟨w.heap.size+1,2,I⟩ (.int .i64 b.L)).setCell ⟨w.heap.size+1,3,I⟩ (.int .i64 b.lo)).setCell ⟨w.heap.size+1,4,I⟩ (.int .i64 b.hi)).setCell ⟨w.heap.size+1,5,I⟩ (.slice d b.C.n n)).setCell ⟨w.heap.size+1,6,I⟩ (.int .i64 b.rf)).setCell ⟨w.heap.size+1,7,I⟩ (.int .i64 b.rh)).setCell ⟨w.heap.size+1,8,I⟩ (.int .i64 b.cf)).setCell ⟨w.heap.size+1,9,I⟩ (.int .i64 b.ch)).setCell ⟨w.heap.size+1,10,I⟩ (.slice m b.U.n r)).setCell ⟨w.heap.size+1,11,I⟩ (.slice q b.E.n y)).setCell ⟨w.heap.size+1,12,I⟩ (.slice u b.W.n A))=d1 at f1 f2 f3|-;clear c9 x0 L N O P x5 x6 x7 x8 x9 a5 a6 a7 z0 z1 z2 z3 z4 z5 z6 z7 z8 z9 d2 d3 d4 c8;obtain⟨x0,L,N,O,P,x5,x6,x7,x8,x9,a5,a6,a7⟩:=aM f1;refine bd (v:=({b with C:=⟨d,b.C.n,n⟩,U:=⟨m,b.U.n,r⟩,E:=⟨q,b.E.n,y⟩,W:=⟨u,b.W.n,A⟩}:aC).v) (by simp[results,Tryz.results78,go_sem,x0,L,N,O,P,x5,x6,x7,x8,x9,a5,a6,a7,aC.v]) rfl ⟨⟨d,b.C.n,n⟩,⟨m,b.U.n,r⟩,⟨q,b.E.n,y⟩,⟨u,b.W.n,A⟩,rfl,?_⟩;clear x0 L N O P x5 x6 x7 x8 x9 a5 a6 a7;have s0:=K0.out.size;have s1:=J1.out.size;have s2:=J2.out.size;have s3:=J3.out.size;have s4:=J4.out.size;have d6:=c7.out;have c6:aS (λx=>x<w3.heap.size) w3 k:=aS.dY J4.out (λ_ _ h=>h);have c5:aS (λx=>x<w2.heap.size) w2 k:=(aS.dY (K:=λx=>x<w2.heap.size) J3.out (λ_ _ h=>h)).tn (c6.mono (λx h s=>zz));have c':aS (λx=>x<o.heap.size) o k:=(aS.dY (K:=λx=>x<o.heap.size) J2.out (λ_ _ h=>h)).tn (c5.mono (λx h s=>zz));have a3:aS (λx=>x≠w.heap.size/\x≠w.heap.size+1) k d1:=(G4.out.mono (λ_ _ h=>h.1)).tn (f2.mono (λ_ _ h=>h.2));have p1:=bB (bB a8.out c' (λg j=>(a8.out.lt g j).2)) a3 (λg j=>by have:=(a8.out.lt g j).1;omega);have p2:=bB (bB a9.out c5 (λg j=>(a9.out.lt g j).2)) a3 (λg j=>by have:=(a9.out.lt g j).1;omega);have p3:=bB (bB a'.out c6 (λg j=>(a'.out.lt g j).2)) a3 (λg j=>by have:=(a'.out.lt g j).1;omega);have p4:=bB a0.out a3 (λg j=>by have:=(a0.out.lt g j).1;omega);have q1:=λa (h:d=Y a)=>a8.out.lt a.block (by rw[h];rfl);have q2:=λa (h:m=Y a)=>a9.out.lt a.block (by rw[h];rfl);have q3:=λa (h:q=Y a)=>a'.out.lt a.block (by rw[h];rfl);have q4:=λa (h:u=Y a)=>a0.out.lt a.block (by rw[h];rfl);have t:=a2.out;refine⟨⟨t.C.1,t.U.1,t.E.1,t.W.1,t.C.2.2.1,t.U.2.2.1,t.E.2.2.1,t.W.2.2.1,dy zz p1,dy zz p2,dy zz p3,dy zz p4,
  λa z h s=>?_,λa z h s=>?_,λa z h s=>?_,λa z h s=>?_,λa z h s=>?_⟩,?_⟩
 .have:=q1 a h;have:=q2 z s;omega
 .have:=q1 a h;have:=q3 z s;omega
 .have:=q1 a h;have:=q4 z s;omega
 .have:=q2 a h;have:=q4 z s;omega
 .have:=q3 a h;have:=q4 z s;omega
 .have t1:X w.heap.size w k:=a1.out.tn (K4.out.mono zz);exact t1.tn (a3.below zz (λx d5=>zz))
def gI(b:aC)(l:bN):Int:=if ay b l≠0 then ay b l else if lK b l b.D.toNat=true then 0 else 9
def Y7(b:aC)(r:Int)(w:H)(e:Ending)(w':H):Prop:=e=.returned (.tuple #[(if r=0 then b else bI).v,.int .i64 r])/\X w w w'
theorem mL{w w':H}{b b0:aC}(h:X ((w.alloc (aE b 31)).alloc (aE b0 31)).heap.size ((w.alloc (aE b 31)).alloc (aE b0 31)) w'):aK w' w 31 b/\aK w' (w.heap.size+1) 31 b0/\X w w w'/\(w:Nat)+2<=w':=by
 refine⟨(h.block _ (by simp only[aa];omega)).tn ((QR _ _ ss).tn (Sp _ _)),(h.block _ (by simp only[aa];omega)).tn (by rw[<- aa w (aE b 31)];exact Sp _ _),cB h,?_⟩;have:=h.size;simp only[aa]at this;omega
theorem vM(b:aC)(l:bN)(w:H)(d3:aI w b l)(d1:aD w)(hc:ay b l=0)(c2:lK b l b.D.toNat=true):PH F 79 #[b.v] w (Y7 b 0 w):=by
 have ø:=0;exact xbk
variable{l:bN}{b:aC}
def iY(l:bN)(step:Int):bN:= {l with C:=(l.C++[step]).mergeSort λx y=>decide (x<=y)}
def pH(b:aC)(l:bN)(step:Int):Int:=if ay b l≠0 then ay b l else if ax step 0 (b.S-1)=false then 6 else if step∈l.C then 5 else gI b (iY l step)
structure l5(w:H)(B:Nat)(b:aC)(l:bN):Prop where
 nC:b.C.n=l.C.length
 nU:b.U.n=l.U.length
 nE:b.E.n=l.E.length
 nW:b.W.n=l.W.length
 bC:l.C.length<=1000
 bU:l.U.length<=1000
 bE:l.E.length<=1000
 bW:l.W.length<=1000
 C:w.ownsRow B 3 1 (.slice b.C.A b.C.n b.C.c) b.C.n (l.C.map (M.int .i64))
 U:w.ownsRow B 100 2 (.slice b.U.A b.U.n b.U.c) b.U.n (l.U.flatMap pG)
 E:w.ownsRow B 55 2 (.slice b.E.A b.E.n b.E.c) b.E.n (l.E.flatMap pG)
 W:w.ownsRow B 80 3 (.slice b.W.A b.W.n b.W.c) b.W.n (l.W.flatMap rO)
def nO(b:aC)(l:bN)(r:Int)(w:H)(e:Ending)(w':H):Prop:=
 ∃a:aC,e=.returned (.tuple #[a.v,.int .i64 r])/\(if r=0 then(∃C U E W:Sl,a= {b with C:=C,U:=U,E:=E,W:=W})/\l5 w' w.heap.size a l else a=bI)/\X w w w'
def qv(b:aC)(l:bN)(C U E W:Sl):gI {b with C:=C,U:=U,E:=E,W:=W} l=gI b l:=rfl
def SE(b:aC)(l:bN)(w:H)(d:aI w b l)(c:aD w)(h:gI b l=0):PH F 79 #[b.v] w λe w'=>e=.returned (.tuple #[b.v,.int .i64 0])/\X w w w':=
 (vM b l w d c (Decidable.not_not.1 λa=>by rw[gI,dE a]at h;exact a h) (by
  unfold gI at h;split at h
  .contradiction
  .split at h
   .assumption
   .cases h)).mono λe w' a=>⟨a.1,a.2⟩
def Jf{l:List Int}(h:w.ownsRow B e 1 (.slice s.A s.n s.c) s.n (l.map (M.int .i64)))(b:s.n=l.length)(a:l.length<=1000):aN w s l:=xag
def tX{l:List (Int×Int)}(h:w.ownsRow B e 2 (.slice s.A s.n s.c) s.n (l.flatMap pG))(b:s.n=l.length)(a:l.length<=1000):bp w s l:=by
 have ø:=0;exact xag
def Bw{l:List (Int×Int×Bool)}(h:w.ownsRow B e 3 (.slice s.A s.n s.c) s.n (l.flatMap rO))(b:s.n=l.length)(a:l.length<=1000):fL w s l:=by
 have å:=0;exact xag
def l5.book(h:l5 w B b l):aI w b l:=⟨Jf h.C h.nC h.bC,tX h.U h.nU h.bU,tX h.E h.nE h.bE,Bw h.W h.nW h.bW⟩
def lZ.rows(h:lZ w B b l):l5 w B b l:=⟨h.nC,h.nU,h.nE,h.nW,h.bC,h.bU,h.bE,h.bW,h.C,h.U,h.E,h.W⟩
def l5.base{B B':Nat}(h:l5 w B b l)(hB:B'<=B):l5 w B' b l:=⟨h.nC,h.nU,h.nE,h.nW,h.bC,h.bU,h.bE,h.bW,dy hB h.C,dy hB h.U,dy hB h.E,dy hB h.W⟩
def lZ.book(h:lZ w B b l):aI w b l:=h.rows.book
theorem AB{w2 w3 w4:H}{C' U' E' W':Sl}{o:Obj}{n4 c4:Nat}{A4:Option Addr}{xs:List M}(s:lZ w3 w2 ({b with C:=C',U:=U',E:=E',W:=W' }:aC) l)(J:X w2 w2 w3)
  (t:w4.ownsRow w2 3 1 (.slice A4 n4 c4) n4 xs)(j:((w3.alloc (aE ({b with C:=C',U:=U',E:=E',W:=W' }:aC) 31)).alloc o).grownBy w4 (M.slice C'.A C'.n C'.c).ownBlock)
  (p:(M.slice A4 n4 c4).ownBlock=(M.slice C'.A C'.n C'.c).ownBlock\/(M.slice A4 n4 c4).ownBlock=Y (w3.heap.size+1+1)):
  aK w4 w3 31 ({b with C:=C',U:=U',E:=E',W:=W' }:aC)/\aS (λx=>∀a,C'.A=Y a->x≠a.block) w3 w4/\(∀a,A4=Y a->w2.heap.size<=a.block/\a.block<w4.heap.size/\(C'.A=Y a\/w3.heap.size<a.block))/\(w3:Nat)+2<=w4/\(∀a,C'.A=Y a->w2.heap.size<=a.block/\a.block<w3.heap.size):=by
 have n:∀a,C'.A=Y a->w2.heap.size<=a.block/\a.block<w3.heap.size:=λa f=>s.C.lt a.block (by simp only[f];rfl);have w:=j.size;simp only[aa]at w;have c:∀q,(M.slice C'.A C'.n C'.c).ownBlock=Y q->∃a,C'.A=Y a/\a.block=q:=λq c=>by
  cases m:C'.A with
  | none=>rw[m]at c;simp[M.ownBlock]at c
  | some a=>rw[m]at c;exact⟨a,rfl,by simpa[M.ownBlock]using c⟩
 refine⟨?_,?_,λa f=>?_,zz,n⟩
 .refine(j.block _ (by simp only[aa];omega) (λe=>?_)).tn ((QR _ _ (by simp only[aa];omega)).tn (Sp _ _));obtain⟨a,d,h2⟩:=c _ (by first|exact e|exact e.symm);have:=n a d;omega
 .exact(((aS.refl _ _).alloc _).alloc _).grown j (λr v K u=>by
   obtain⟨a,d,h2⟩:=c r v;exact u a d h2.symm)
 .have d:=t.lt a.block (by rw[f];rfl);refine⟨d.1,d.2,?_⟩;rw[f]at p;rcases p with h2|h2
  .obtain⟨y,i,k⟩:=c _ h2.symm;left;rcases s.C.2 with⟨e1,-⟩|⟨g,z,B,e1,-⟩
   .simp only[lA]at e1;rw[e1.1]at i;cases i
   .simp only[lA]at e1;rcases t.2 with⟨h,-⟩|⟨g',A,G,h,-⟩
    .rw[f]at h;cases h
    .rw[f]at h;cases h;rw[e1.1]at i|-;cases i;simp only at k;rw[k]
  .right;simp only[M.ownBlock,aa,fp]at h2;omega
theorem SG(b:aC)(l:bN)(step:Int)(r9:Int)(w:H)(d3:aI w b l)(d1:aD w)(a':ay b l=0)(c2:ax step 0 (b.S-1)=true)(hm:step∉l.C)(a8:gI b (iY l step)=0):
  PH F 40 #[b.v,.int .i64 step] w (nO b (iY l step) 0 w):=xbk
def LI(b:aC)(l:bN)(step:Int)(w:H)(e:aI w b l)(d:aD w)(h:pH b l step=0):PH F 40 #[b.v,.int .i64 step] w (nO b (iY l step) 0 w):=by
 unfold pH at h;split at h
 .rename_i a;exact dC h a
 .rename_i a;split at h
  .cases h
  .rename_i h2;split at h
   .cases h
   .rename_i c;exact SG b l step 0 w e d (Decidable.not_not.1 a) (by simpa using h2) c h
variable{Z:ae->M}{o:Kp}
def uq(g:Nat)(b:aC)(w:H):H:=((((((((((((w.setCell (g,0) (.int .i64 b.S)).setCell (g,1) (.int .i64 b.D)).setCell (g,2) (.int .i64 b.L)).setCell (g,3) (.int .i64 b.lo)).setCell (g,4) (.int .i64 b.hi)).setCell (g,5) (.slice b.C.A b.C.n b.C.c)).setCell (g,6) (.int .i64 b.rf)).setCell (g,7) (.int .i64 b.rh)).setCell (g,8) (.int .i64 b.cf)).setCell (g,9) (.int .i64 b.ch)).setCell (g,10) (.slice b.U.A b.U.n b.U.c)).setCell (g,11) (.slice b.E.A b.E.n b.E.c)).setCell (g,12) (.slice b.W.A b.W.n b.W.c)
def pq{g:Nat}{t:Lk}{b0:aC}(b:aC)(h:aK w g t b0):aK (uq g b w) g t b/\aS (λx=>x≠g) w (uq g b w)/\(uq g b w).heap.size=w.heap.size:=by
 obtain⟨a,h2,c⟩:=iH b h;exact⟨a,h2,by unfold uq;simp[H.setCell]⟩
def yT(P:Ps)(g:Nat)(t:Lk):∀(vs:List M) (i:Nat) (cs:Array M) (w:H) (es:Array Event),w.heap[g]?=Y (.cells cs t (0,0))->i+vs.length<=cs.size->(∀v∈vs,v.oneCell'=true)->
  ∀e∈(storeCells ⟨g,0,I⟩ vs i).events P w es,e∈es\/∃j wr,e=⟨.cell ⟨g,j,I⟩,wr,false⟩
 | [],_,_,_,_,_,_,_,e,he=>.inl (by simpa[storeCells]using he)
 | v::vs,i,cs,w,es,c,l,b,e,he=>by
  rw[fx]at l;have m:i<cs.size:=zz;have d:(⟨g,0,I⟩:Addr).add i=⟨g,i,I⟩:=by rw[Addr.add_lit,kl]
  have f:w.cell? ⟨g,i,I⟩=Y cs[i]:=by unfold H.cell?;dsimp only;rw[c];exact km m
  have k:w.frozen? ⟨g,i,I⟩=false:=by simp[H.frozen?,c]
  have e1:=_root_.Go.run_store P w ⟨g,i,I⟩ v .plain (b v ss);have a:=events_store P w es ⟨g,i,I⟩ v .plain (b v ss);rw[f]at e1 a;simp only[k,kx,if_false]at e1 a;rw[storeCells,d]at he;rw[Sem.events_bind,e1,Result.evThen_ok,a]at he;rcases yT P g t vs (i+1) _ _ _ (bJ c v) (by simpa using(by omega:i+1+vs.length<=cs.size)) (λx n=>b x (by simp[n])) e he with h|h
  .rcases Array.mem_push.1 h with h|rfl
   .exact .inl h
   .exact .inr ⟨_,_,rfl⟩
  .exact .inr h
theorem rJ{x y:ae}{g:Nat}{b b0:aC}(k:o.op=.store 31 x y)(l:Z x=.pointer (Y ⟨g,0,I⟩))(f:Z y=b.v)(a:aK w g 31 b0):
  (Hn Z o).run F w=.ok .skip (uq g b w)/\∀e∈(Hn Z o).events F w #[],∃j wr,e=⟨.cell ⟨g,j,I⟩,wr,false⟩:=by
 have ø:=0;exact xv
end Go.Proofs.YtfcgpihkimpkcaaGreatDoor
