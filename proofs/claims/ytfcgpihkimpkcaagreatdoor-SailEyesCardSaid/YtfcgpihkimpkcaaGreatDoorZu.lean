import Derived.Test.YtfcgpihkimpkcaaGreatDoorZt
set_option maxRecDepth 100000
set_option maxHeartbeats 4000000
set_option linter.all false
noncomputable section
open Go renaming undef->D,World->H,execOp->Hn,Oper->Kp,TypeId->Lk,Code->Ly,Value->M,Calls->PH,heap_alloc_new->Sp,resolve->ab,Operand->ae,yielded->aw,FuncId->ba,bodyPost_ret->bd
open Go.Proofs.Tryz renaming prog->F,prog->Hb
open Option renaming none->I,some->Y
open Go.RowKit renaming Below->X
namespace Go
def xbD{p:Prop}(h:p:=by
 refine bK (S:=λa=>X u.heap.size u a) (λ_=>false) rR ?_;replace hB:X u.heap.size u w.drew:=hB.drew;generalize w.drew=w at hB|-
 first
 |have _:=ø
  change wpAnyL _ _ _ _ _ _ 16 (Array.replicate 16 false) _ _;refine MN (i:=0) (d:=21) (b.v) (λa c=>gE rfl (aaM (t:=1) o) ((c.block _ n).tn r) ⟨rfl⟩) hB ?_;refine MN (i:=1) (d:=22) (.int .i64 k) (λa c=>bq (.inl rfl) (aaM (t:=8) h8)) hB ?_;refine MN (i:=3) (d:=24) (.pointer (Y ⟨g,8,I⟩)) (λa c=>TH (g:=g) (off:=0) (z:=8) rfl rfl (aaM (t:=1) o) ⟨rfl⟩) hB ?_;refine MN (i:=4) (d:=25) (.pointer (Y ⟨g,8,I⟩)) (λa c=>TH (g:=g) (off:=8) (z:=0) rfl rfl (aaM (t:=24) rfl) ⟨rfl⟩) hB ?_;refine MN (i:=5) (d:=26) (.int .i64 b.cf) (λa c=>abe rfl rfl (aaM (t:=25) rfl) ((c.cell (p:=⟨g,8,I⟩) n).tn x8)) hB ?_;refine tC (i:=2) (d:=23) (fn:=58) (args:= #[b.v,.int .i64 k,.int .i64 (-1)]) (v:=.int .i64 x) kr rfl rfl zz wnn (dm rfl (MK (aaM (t:=21) rfl) (aaM (t:=22) rfl) rfl) rfl rfl) (hc _ hB) λm l=>⟨hB.tn (l.mono hB.size),?_⟩;have hB:=hB.tn (l.mono hB.size);refine MN (i:=6) (d:=27) (.bool true) (λa c=>Sr rfl rfl (aaM (t:=23) rfl) (aaM (t:=26) rfl) hp ⟨rfl⟩) hB ?_;refine MN (i:=7) (d:=28) (.bool true) (λa c=>bq (.inl rfl) (aaM (t:=27) rfl)) hB ?_;refine tN (i:=8) (d:=29) rfl rfl zz (jc (j:=7) (g:=28) rfl rfl zz rfl) kr kr kr kr hB ?_;refine tN (i:=9) (d:=30) rfl rfl zz (jc (j:=7) (g:=28) rfl rfl zz rfl) kr kr kr kr hB ?_;refine tN (i:=11) (d:=32) rfl rfl zz (jc (j:=7) (g:=28) rfl rfl zz rfl) kr kr kr kr hB ?_;refine tN (i:=12) (d:=33) rfl rfl zz (jc (j:=7) (g:=28) rfl rfl zz rfl) kr kr kr kr hB ?_;refine tN (i:=13) (d:=34) rfl rfl zz (jc (j:=7) (g:=28) rfl rfl zz rfl) kr kr kr kr hB ?_;refine tN (i:=10) (d:=31) rfl rfl zz (jc (j:=7) (g:=28) rfl rfl zz rfl) kr kr kr kr hB ?_;refine tN (i:=14) (d:=35) rfl rfl zz (jc (j:=7) (g:=28) rfl rfl zz rfl) kr kr kr kr hB ?_;refine MN (i:=15) (d:=36) (.bool true) (λa c=>aa6 rfl (aaM (t:=28) rfl) ((dE rfl).tn rfl)) hB ?_;refine cH kr ?_ _;exact Rs.mk hB (λi hi=>nk) rfl
 |have _:=å
  change wpAnyL _ _ _ _ _ _ 16 (Array.replicate 16 false) _ _;refine MN (i:=0) (d:=21) (b.v) (λa c=>gE rfl (aaM (t:=1) o) ((c.block _ n).tn r) ⟨rfl⟩) hB ?_;refine MN (i:=1) (d:=22) (.int .i64 k) (λa c=>bq (.inl rfl) (aaM (t:=8) h8)) hB ?_;refine MN (i:=3) (d:=24) (.pointer (Y ⟨g,8,I⟩)) (λa c=>TH (g:=g) (off:=0) (z:=8) rfl rfl (aaM (t:=1) o) ⟨rfl⟩) hB ?_;refine MN (i:=4) (d:=25) (.pointer (Y ⟨g,8,I⟩)) (λa c=>TH (g:=g) (off:=8) (z:=0) rfl rfl (aaM (t:=24) rfl) ⟨rfl⟩) hB ?_;refine MN (i:=5) (d:=26) (.int .i64 b.cf) (λa c=>abe rfl rfl (aaM (t:=25) rfl) ((c.cell (p:=⟨g,8,I⟩) n).tn x8)) hB ?_;refine tC (i:=2) (d:=23) (fn:=58) (args:= #[b.v,.int .i64 k,.int .i64 (-1)]) (v:=.int .i64 x) kr rfl rfl zz wnn (dm rfl (MK (aaM (t:=21) rfl) (aaM (t:=22) rfl) rfl) rfl rfl) (hc _ hB) λm l=>⟨hB.tn (l.mono hB.size),?_⟩;have hB:=hB.tn (l.mono hB.size);refine MN (i:=6) (d:=27) (.bool false) (λa c=>Sr rfl rfl (aaM (t:=23) rfl) (aaM (t:=26) rfl) hp ⟨rfl⟩) hB ?_;refine MN (i:=7) (d:=28) (.bool false) (λa c=>bq (.inl rfl) (aaM (t:=27) rfl)) hB ?_;refine aaN (i:=8) (d:=29) (b.v) (eE (j:=7) (g:=28) rfl rfl zz rfl) (λa c=>gE rfl (aaM (t:=1) o) ((c.block _ n).tn r) ⟨rfl⟩) hB ?_;refine aaN (i:=9) (d:=30) (.int .i64 k) (eE (j:=7) (g:=28) rfl rfl zz rfl) (λa c=>bq (.inl rfl) (aaM (t:=8) h8)) hB ?_;refine aaN (i:=11) (d:=32) (.pointer (Y ⟨g,8,I⟩)) (eE (j:=7) (g:=28) rfl rfl zz rfl) (λa c=>TH (g:=g) (off:=0) (z:=8) rfl rfl (aaM (t:=1) o) ⟨rfl⟩) hB ?_;refine aaN (i:=12) (d:=33) (.pointer (Y ⟨g,8,I⟩)) (eE (j:=7) (g:=28) rfl rfl zz rfl) (λa c=>TH (g:=g) (off:=8) (z:=0) rfl rfl (aaM (t:=32) rfl) ⟨rfl⟩) hB ?_;refine aaN (i:=13) (d:=34) (.int .i64 b.cf) (eE (j:=7) (g:=28) rfl rfl zz rfl) (λa c=>abe rfl rfl (aaM (t:=33) rfl) ((c.cell (p:=⟨g,8,I⟩) n).tn x8)) hB ?_;refine tC (i:=10) (d:=31) (fn:=58) (args:= #[b.v,.int .i64 k,.int .i64 1]) (v:=.int .i64 y) kr rfl rfl zz (eE (j:=7) (g:=28) rfl rfl zz rfl) (dm rfl (MK (aaM (t:=29) rfl) (aaM (t:=30) rfl) rfl) rfl rfl) (hc2 _ hB) λm l=>⟨hB.tn (l.mono hB.size),?_⟩;have hB:=hB.tn (l.mono hB.size);refine aaN (i:=14) (d:=35) (.bool q) (eE (j:=7) (g:=28) rfl rfl zz rfl) (λa c=>Sr rfl rfl (aaM (t:=31) rfl) (aaM (t:=34) rfl) hq ⟨rfl⟩) hB ?_;refine MN (i:=15) (d:=36) (.bool q) (λa c=>aa6 rfl (aaM (t:=28) rfl) ((cd Bool.false_ne_true).tn (aaM (t:=35) rfl))) hB ?_;refine cH kr ?_ _;exact Rs.mk hB (λi hi=>nk) rfl
 |have _:=æ
  change wpAnyL _ _ _ _ _ _ 9 (Array.replicate 9 false) _ _;refine MN (i:=0) (d:=19) (.int .i64 uB) (λa c=>bq (.inl rfl) (aaM (t:=5) h5)) hB ?_;refine MN (i:=1) (d:=20) (b.v) (λa c=>gE rfl (aaM (t:=1) o) ((c.block _ n).tn r) ⟨rfl⟩) hB ?_;refine MN (i:=2) (d:=21) (.int .i64 k) (λa c=>bq (.inl rfl) (aaM (t:=6) h6)) hB ?_;refine MN (i:=4) (d:=23) (b.v) (λa c=>gE rfl (aaM (t:=1) o) ((c.block _ n).tn r) ⟨rfl⟩) hB ?_;refine MN (i:=5) (d:=24) (.int .i64 k) (λa c=>bq (.inl rfl) (aaM (t:=6) h6)) hB ?_;refine tC (i:=3) (d:=22) (fn:=58) (args:= #[b.v,.int .i64 k,.int .i64 (-1)]) (v:=.int .i64 x) kr rfl rfl zz wnn (dm rfl (MK (aaM (t:=20) rfl) (aaM (t:=21) rfl) rfl) rfl rfl) (hc _ hB) λm l=>⟨hB.tn (l.mono hB.size),?_⟩;have hB:=hB.tn (l.mono hB.size);refine tC (i:=6) (d:=25) (fn:=58) (args:= #[b.v,.int .i64 k,.int .i64 1]) (v:=.int .i64 y) kr rfl rfl zz wnn (dm rfl (MK (aaM (t:=23) rfl) (aaM (t:=24) rfl) rfl) rfl rfl) (hc2 _ hB) λm l=>⟨hB.tn (l.mono hB.size),?_⟩;have hB:=hB.tn (l.mono hB.size);refine MN (i:=7) (d:=26) (.int .i64 ((max (max uB x) y))) (λa c=>XM rfl rfl (aaM (t:=19) rfl) (aaM (t:=22) rfl) (aaM (t:=25) rfl) ⟨rfl⟩) hB ?_;refine MN (i:=8) (d:=5) (.int .i64 ((max (max uB x) y))) (λa c=>bq (.inr rfl) (aaM (t:=26) rfl)) hB ?_;refine cH kr ?_ _;exact Rs.mk hB (λi hi=>nk) rfl
 |change wpAnyL _ _ _ _ _ _ 17 (Array.replicate 17 false) _ _
  refine MN (i:=0) (d:=17) (b.v) (λa c=>gE rfl (aaM (t:=2) h2) ((c.block _ n).tn r) ⟨rfl⟩) hB ?_;refine MN (i:=1) (d:=18) (.int .i64 k) (λa c=>bq (.inl rfl) (aaM (t:=1) o)) hB ?_;refine MN (i:=3) (d:=20) (.pointer (Y ⟨g,8,I⟩)) (λa c=>TH (g:=g) (off:=0) (z:=8) rfl rfl (aaM (t:=2) h2) ⟨rfl⟩) hB ?_;refine MN (i:=4) (d:=21) (.pointer (Y ⟨g,8,I⟩)) (λa c=>TH (g:=g) (off:=8) (z:=0) rfl rfl (aaM (t:=20) rfl) ⟨rfl⟩) hB ?_;refine MN (i:=5) (d:=22) (.int .i64 b.cf) (λa c=>abe rfl rfl (aaM (t:=21) rfl) ((c.cell (p:=⟨g,8,I⟩) n).tn x8)) hB ?_;refine MN (i:=7) (d:=24) (b.v) (λa c=>gE rfl (aaM (t:=2) h2) ((c.block _ n).tn r) ⟨rfl⟩) hB ?_;refine MN (i:=8) (d:=25) (.int .i64 k) (λa c=>bq (.inl rfl) (aaM (t:=1) o)) hB ?_;refine MN (i:=10) (d:=27) (.pointer (Y ⟨g,8,I⟩)) (λa c=>TH (g:=g) (off:=0) (z:=8) rfl rfl (aaM (t:=2) h2) ⟨rfl⟩) hB ?_;refine MN (i:=11) (d:=28) (.pointer (Y ⟨g,8,I⟩)) (λa c=>TH (g:=g) (off:=8) (z:=0) rfl rfl (aaM (t:=27) rfl) ⟨rfl⟩) hB ?_;refine MN (i:=12) (d:=29) (.int .i64 b.cf) (λa c=>abe rfl rfl (aaM (t:=28) rfl) ((c.cell (p:=⟨g,8,I⟩) n).tn x8)) hB ?_;refine tC (i:=2) (d:=19) (fn:=58) (args:= #[b.v,.int .i64 k,.int .i64 (-1)]) (v:=.int .i64 x) kr rfl rfl zz wnn (dm rfl (MK (aaM (t:=17) rfl) (aaM (t:=18) rfl) rfl) rfl rfl) (hc _ hB) λm l=>⟨hB.tn (l.mono hB.size),?_⟩;have hB:=hB.tn (l.mono hB.size);refine MN (i:=6) (d:=23) (.bool p) (λa c=>Sr rfl rfl (aaM (t:=19) rfl) (aaM (t:=22) rfl) hp ⟨rfl⟩) hB ?_;refine tC (i:=9) (d:=26) (fn:=58) (args:= #[b.v,.int .i64 k,.int .i64 1]) (v:=.int .i64 y) kr rfl rfl zz wnn (dm rfl (MK (aaM (t:=24) rfl) (aaM (t:=25) rfl) rfl) rfl rfl) (hc2 _ hB) λm l=>⟨hB.tn (l.mono hB.size),?_⟩;have hB:=hB.tn (l.mono hB.size);refine MN (i:=13) (d:=30) (.bool q) (λa c=>Sr rfl rfl (aaM (t:=26) rfl) (aaM (t:=29) rfl) hq ⟨rfl⟩) hB ?_;refine MN (i:=14) (d:=4) (.bool p) (λa c=>bq (.inr rfl) (aaM (t:=23) rfl)) hB ?_;refine MN (i:=15) (d:=5) (.bool q) (λa c=>bq (.inr rfl) (aaM (t:=30) rfl)) hB ?_;refine MN (i:=16) (d:=6) (.int .i64 0) (λa c=>bq (.inr rfl) rfl) hB ?_;refine cH kr ?_ _;exact Rs.mk hB (λi hi=>nk) rfl):p:=h
def ZM{p:Prop}(h:p:=by
 first|have _:=ø;refine wp_block (wp_loop (λa w=>∃(k:Nat) (uB:Int) (f':Nat->M),k<=l.E.length/\a=fa 28 f'/\f' 1=.pointer (Y ⟨g,0,I⟩)/\f' 5=.int .i64 uB/\f' 6=.int .i64 k/\X u.heap.size u w/\qG b 0 l.E=qG b uB (l.E.drop k)) (λa _=>l.E.length-(intOf (a.tmps.getD 6 D)).toNat) ⟨0,0,f,fi _,rfl,e1,L,c,hB,rfl⟩ λa C a1=>?_);clear e1 L c hB;obtain⟨k,uB,f1,hk,rfl,e1,L,c,hB,b2⟩:=a1;rw[Iw]|refine wp_block (wp_loop (λa w=>∃(k:Nat) (f':Nat->M),k<=l.E.length/\a=fa 61 f'/\pL U g b l k f' w) (λa _=>l.E.length-(intOf (a.tmps.getD 8 D)).toNat) ⟨0,f,fi _,rfl,a1⟩ λa u a1=>?_);obtain⟨k,f1,hk,rfl,A,a9,e1,c,r,d,j,R⟩:=a1;rw[JG];have a8:=s;have b7:=B;have s:aK u g 31 b:=(j.block _ s.lt).tn s;have B:=B.below j
 obtain⟨-, d2, -, d3,-⟩:=bP a5;obtain⟨c1,c2,c3,c4,c5,c6,c7,c8,c9⟩:=wL d2;have d9:=B.E.1;have d8:=B.E.2.2.1;first|have _:=ø;skip|have d1:=JD b l.E k
 have V:=s.lt;obtain⟨x0,x1,x2,x3,x4,x5,x6,x7,x8,x9,b5,a7,b6⟩:=aM s;first|have _:=ø;skip|have hB:X u u u:=X.refl _ _
 by_cases d':k<b.E.n
 .have J:k<l.E.length:=zz;first|have _:=å;skip|have b3:=H8 b uB l.E k J
  obtain⟨q1,q2,z,G,q5⟩:=qY d3 k J;obtain⟨x,S⟩:∃x,vY b (l.E.getD k (0,0)) (-1)=x:=⟨_,rfl⟩;obtain⟨y,T⟩:∃y,vY b (l.E.getD k (0,0)) 1=y:=⟨_,rfl⟩
  first
  |have _:=ø
   have hcon:=λC (P:X u.heap.size u C)=>kB (ek b c1 c2 c3 c4 c7 c8 k (-1) zz zz l.E J zz zz z G zz C ((B.below P).E)) (vI S);have hcon2:=λC (P:X u.heap.size u C)=>kB (ek b c1 c2 c3 c4 c7 c8 k 1 zz zz l.E J zz zz z G zz C ((B.below P).E)) (vI T);rw[S,T]at b3;clear q1 q2 z G q5 S T;refine wp_seq (bn u (· < 7) (λf'=>f' 16=.bool true) rr λN w2 hB n q=>wp_cond_true (ag zz q) (wp_skip ?_));have e1:=(n 1 zz).tn e1;have L:=(n 5 zz).tn L;have c:=(n 6 zz).tn c;refine wp_seq (wp_block ?_);refine To u (λi=>i<7/\i≠5) (λf'=>f' 5=.int .i64 (max (max uB x) y)) (aaL e1 L c V s hcon hcon2 hB) λf3 w3 hB t z=>?_;have e1:=(t 1 zz).tn e1;have c:=(t 6 zz).tn c;refine To u (λi=>i<7/\i≠6) (λf'=>f' 6=.int .i64 (k+1)) rr λZ w4 hB E G=>?_;refine⟨⟨k+1,_,Z,J,rfl,(E 1 zz).tn e1,(E 5 zz).tn z,G.tn ss,hB,b2.tn b3⟩,?_⟩;rw[sF (k:=k+1) zz (G.tn ss),sF (k:=k) zz ‹f1 6=_›];omega
  |have hcon:=λC (P:X u.heap.size u C)=>kB (ek b c1 c2 c3 c4 c7 c8 k (-1) zz zz l.E J zz zz z G zz C ((B.below P).E)) (vI S);have hcon2:=λC (P:X u.heap.size u C)=>kB (ek b c1 c2 c3 c4 c7 c8 k 1 zz zz l.E J zz zz z G zz C ((B.below P).E)) (vI T);have a6:=MM a5 J S T;have o:=AT b l.E k;clear q1 q2 z G q5 S T;refine wp_seq (bn u (· < 9) (λf'=>f' 18=.bool true) rr λN w2 hB n q=>wp_cond_true (ag zz q) (wp_skip ?_));have e1:=(n 1 zz).tn e1;have c:=(n 6 zz).tn c;have r:=(n 7 zz).tn r;have E8:=d;have d:=(n 8 zz).tn d;refine wp_seq (wp_block ?_)
   have a3:∀{f':Nat->M} {w':H},pL U g b l (k+1) f' w'->(∃(k:Nat) (a':Nat->M),k<=l.E.length/\fa 61 f'=fa 61 a'/\pL U g b l k a' w')/\l.E.length-(intOf ((fa 61 f').tmps.getD 8 D)).toNat<l.E.length-(intOf ((fa 61 f1).tmps.getD 8 D)).toNat:=λ{f' w'} h=>by
    refine⟨⟨k+1,f',J,rfl,h⟩,?_⟩;obtain⟨_,_,_,_,_,h8,_⟩:=h;rw[sF (k:=k+1) zz h8,sF (k:=k) zz E8];omega
   cases O:(decide (b.cf<x)||decide (b.cf<y))
   .have a2:¬b.cf<x:=λh=>by simp[h]at O
    have b0:¬b.cf<y:=λh=>by simp[h]at O
    rw[JC,a6,O,cd ss]at o;refine bn u (· < 9) (λf'=>f' 36=.bool false) (aal e1 d V s x8 hcon (decide_eq_false a2) hcon2 (decide_eq_false b0) hB) λf3 w3 hB t z=>wp_cond_false (ag zz z) (wp_skip ?_);have e1:=(t 1 zz).tn e1;have c:=(t 6 zz).tn c;have r:=(t 7 zz).tn r;have d:=(t 8 zz).tn d;refine To u (λi=>i<9/\i≠8) (λf'=>f' 8=.int .i64 (k+1)) rr λZ w4 hB E G=>a3 ⟨A,a9,(E 1 zz).tn e1,?_,?_,G.tn ss,j.tn (hB.mono j.size),?_⟩
    .rw[o];exact(E 6 zz).tn c
    .rw[o];exact(E 7 zz).tn r
    .rw[o];exact rK R hB
   .rw[JC,a6,O,dE rfl]at o;have a0:Ly.wp F (.region 9 Qt true) (aR (Rs 61 u N (· < 9) λf'=>f' 36=.bool true)) (fa 61 N) w2:=by
     cases a2:decide (b.cf<x)
     .rw[a2,Bool.false_or]at O;have:=aal e1 d V s x8 hcon a2 hcon2 O hB;exact this
     .exact aaJ e1 d V s x8 hcon a2 hB
    refine bn u (· < 9) (λf'=>f' 36=.bool true) a0 λf3 w3 hB t z=>wp_cond_true (ag zz z) ?_;have e1:=(t 1 zz).tn e1;have c:=(t 6 zz).tn c;have r:=(t 7 zz).tn r;have d:=(t 8 zz).tn d;clear a0 hcon hcon2 a6 O;refine wp_seq (J9 zz (rK R hB) (ec j.size hB.size) c d λZ v A' c' E c R b4=>?_);have e1:=(E 1 zz zz).tn e1;have r:=(E 7 zz zz).tn r;have d:=(E 8 zz zz).tn d;have j:=(j.tn (hB.mono j.size)).tn b4;have s:aK v g 31 b:=(j.block _ a8.lt).tn a8;have B:=b7.below j;clear n t E q z b4 hB V x0 x1 x2 x3 x4 x5 x6 x7 x8 x9 b5 a7 b6;obtain⟨d7,off,b',e2,b1⟩:=B.E.2.2.2 zz;have V:=s.lt;obtain⟨x0,x1,x2,x3,x4,x5,x6,x7,x8,x9,b5,a7,b6⟩:=aM s;rw[b']at a7;obtain⟨-, b8⟩:=b1 k J;have hB:X v v v:=X.refl _ _;obtain⟨K,d5⟩:∃K,(kL b l.E k).2=K:=⟨_,rfl⟩;rw[d5]at o r d1;have a4:∃p,(if K<0\/(l.E.getD k (0,0)).2<(l.E.getD K.toNat (0,0)).2 then(k:Int)else K)=(if p=true then(k:Int)else K)/\Ly.wp F (.region 11 JF true) (aR (Rs 61 v Z (· < 9) λf'=>f' 57=.bool p)) (fa 61 Z) v:=by
     by_cases h0:K<0
     .exact⟨true,by rw[dE (.inl h0),dE rfl],rr⟩
     .obtain⟨m,rfl⟩:∃m:Nat,K=(m:Int):=⟨K.toNat,zz⟩;have d0:m<b.E.n:=zz;obtain⟨-, b9⟩:=b1 m zz;rw[qNB];generalize(l.E.getD k (0,0)).2=y1 at b8;generalize(l.E.getD m (0,0)).2=y2 at b9;by_cases h1:y1<y2
      .exact⟨true,by rw[dE (.inr h1),dE rfl],rr⟩
      .exact⟨false,by rw[cd zz,cd ss],rr⟩
    obtain⟨p,d6,a4⟩:=a4;rw[d6]at o;refine bn v (· < 9) (λf'=>f' 57=.bool p) a4 λf5 w5 hB k5 q5=>?_;have e1:=(k5 1 zz).tn e1;have c:=(k5 6 zz).tn c;have r:=(k5 7 zz).tn r;have d:=(k5 8 zz).tn d;cases p
    .rw[cd ss]at o;refine wp_cond_false (ag zz q5) (wp_skip ?_);refine To v (λi=>i<9/\i≠8) (λf'=>f' 8=.int .i64 (k+1)) rr λf6 w6 hB Q q6=>a3 ⟨A',c',(Q 1 zz).tn e1,?_,?_,q6.tn ss,j.tn (hB.mono j.size),?_⟩
     .rw[o];exact(Q 6 zz).tn c
     .rw[o];exact(Q 7 zz).tn r
     .rw[o];exact rK R hB
    .rw[dE rfl]at o;refine wp_cond_true (ag zz q5) ?_;refine To v (λi=>i<9/\i≠7) (λf'=>f' 7=.int .i64 k) rr λf6 w6 hB Q q6=>?_;have e1:=(Q 1 zz).tn e1;have c:=(Q 6 zz).tn c;have d:=(Q 8 zz).tn d;refine To v (λi=>i<9/\i≠8) (λf'=>f' 8=.int .i64 (k+1)) rr λf7 w7 hB k7 q7=>a3 ⟨A',c',(k7 1 zz).tn e1,?_,?_,q7.tn ss,j.tn (hB.mono j.size),?_⟩
     .rw[o];exact(k7 6 zz).tn c
     .rw[o];exact(k7 7 zz).tn q6
     .rw[o];exact rK R hB
 .have d4:k=l.E.length:=zz;first|have _:=ø;refine wp_seq (bn u (· < 7) (λf'=>f' 16=.bool false) rr λN w2 hB n q=>wp_cond_false (ag zz q) (wp_exit ?_));exact⟨rfl,N,rfl,hB,(n 5 zz).tn (by rw[L,b2,lv zz];rfl)⟩|subst d4;refine wp_seq (bn u (· < 9) (λf'=>f' 18=.bool false) rr λN w2 hB n q=>wp_cond_false (ag zz q) (wp_exit ?_));exact⟨rfl,N,rfl,A,a9,(n 1 zz).tn e1,(n 6 zz).tn c,(n 7 zz).tn r,(n 8 zz).tn d,j.tn (hB.mono j.size),rK R hB⟩):p:=h
def sT{p:Prop}(h:p:=by
 first|have _:=ø;refine wp_block (wp_loop (λa w=>∃(k:Nat) (f':Nat->M),k<=l.length/\a=fa 119 f'/\f' 1=.pointer (Y ⟨g,0,I⟩)/\f' 4=.int .i64 k/\X u.heap.size u w/\nD b.S l=nD b.S (l.drop k)) (λa _=>l.length-(intOf (a.tmps.getD 4 D)).toNat) ⟨0,f,fi _,rfl,K,h4,hB,rfl⟩ λa w1 Q=>?_);obtain⟨k,P,hk,rfl,e1,E,hB,d⟩:=Q;rw[Qm];have a2:b.U.n=l.length:=C.1|have _:=å;refine wp_block (wp_loop (λa w=>∃(k:Nat) (f':Nat->M),k<=l.length/\a=fa 119 f'/\f' 1=.pointer (Y ⟨g,0,I⟩)/\f' 5=.int .i64 k/\X u.heap.size u w/\nF b.rf b.ch l=nF b.rf b.ch (l.drop k)) (λa _=>l.length-(intOf (a.tmps.getD 5 D)).toNat) ⟨0,f,fi _,rfl,K,h5,hB,rfl⟩ λa w1 Q=>?_);obtain⟨k,P,hk,rfl,e1,G,hB,d⟩:=Q;rw[Qn];have a2:b.E.n=l.length:=C.1|refine wp_block (wp_loop (λa w=>∃(k:Nat) (f':Nat->M),k<=l.length/\a=fa 119 f'/\f' 1=.pointer (Y ⟨g,0,I⟩)/\f' 6=.int .i64 k/\X u.heap.size u w/\qi b.S b.U.n l=qi b.S b.U.n (l.drop k)) (λa _=>l.length-(intOf (a.tmps.getD 6 D)).toNat) ⟨0,f,fi _,rfl,K,h6,hB,rfl⟩ λa w1 Q=>?_);obtain⟨k,P,hk,rfl,e1,U,hB,d⟩:=Q;rw[Qo];have a2:b.W.n=l.length:=C.1
 have a9:l.length<=1000:=C.2.2.1;first|have _:=ø;by_cases a1:k<b.U.n|have _:=å;by_cases a1:k<b.E.n|by_cases a1:k<b.W.n
 .have t:k<l.length:=zz;obtain⟨a7,off,V,b2,W⟩:=C.2.2.2 zz;first|have _:=ø;rw[V]at x10;obtain⟨c0,O⟩:=W k t;have c:=Al b.S l k t;generalize(l.getD k (0,0)).1=x at c c0;generalize(l.getD k (0,0)).2=y at c O;refine wp_seq (bn u (· < 7) (λf'=>f' 21=.bool true) rr λJ T hB s q=>wp_cond_true (ag zz q) (wp_skip ?_))|have _:=å;rw[V]at x11;obtain⟨c0,O⟩:=W k t;have c:=Am b.rf b.ch l k t;generalize(l.getD k (0,0)).1=x at c c0;generalize(l.getD k (0,0)).2=y at c O;refine wp_seq (bn u (· < 7) (λf'=>f' 49=.bool true) rr λJ T hB s q=>wp_cond_true (ag zz q) (wp_skip ?_))|rw[V]at x12;obtain⟨c0,O,c2⟩:=W k t;have c:=Dh b.S b.U.n l k t;generalize(l.getD k (0,0,false)).1=x at c c0;generalize(l.getD k (0,0,false)).2.1=y at c O;generalize(l.getD k (0,0,false)).2.2=z at c2;refine wp_seq (bn u (· < 7) (λf'=>f' 96=.bool true) rr λJ T hB s q=>wp_cond_true (ag zz q) (wp_skip ?_))
  have e1:=(s 1 zz).tn e1;first|have _:=ø;have E:=(s 4 zz).tn E|have _:=å;have G:=(s 5 zz).tn G|have U:=(s 6 zz).tn U
  refine wp_seq (wp_block ?_)
  first
  |have _:=æ
   cases e:ax x 0 (b.U.n-1)
   .refine bn u (· < 7) (λf'=>f' 118=.bool true) rr λf3 B hB r j=>wp_cond_true (ag zz j) ?_;refine bn u (λi=>i<7/\i≠2) (λf'=>f' 2=.int .i64 6) rr λm N hB L o=>wp_ret ?_;exact .inr ⟨rfl,by rw[d,c,dE (by simp[e])];decide,m,rfl,hB,by rw[d,c,dE (by simp[e])];exact o⟩
   .cases n:ax y 0 (b.S-1)
    .refine bn u (· < 7) (λf'=>f' 118=.bool true) rr λf3 B hB r j=>wp_cond_true (ag zz j) ?_;refine bn u (λi=>i<7/\i≠2) (λf'=>f' 2=.int .i64 6) rr λm N hB L o=>wp_ret ?_;exact .inr ⟨rfl,by rw[d,c,dE (by simp[e,n])];decide,m,rfl,hB,by rw[d,c,dE (by simp[e,n])];exact o⟩
    .refine bn u (· < 7) (λf'=>f' 118=.bool false) rr λf5 w5 hB v S=>wp_cond_false (ag zz S) (wp_skip ?_);have e1:=(v 1 zz).tn e1;have U:=(v 6 zz).tn U;refine To u (λi=>i<7/\i≠6) (λf'=>f' 6=.int .i64 (k+1)) rr λf6 w6 hB R A=>?_;refine⟨⟨k+1,f6,t,rfl,(R 1 zz).tn e1,A.tn ss,hB,d.tn (c.tn (by rw[cd (by simp[e,n])]))⟩,?_⟩;rw[sF (k:=k+1) zz (A.tn ss),sF (k:=k) zz ‹P 6=_›];omega
  |have _:=ø
   refine wp_seq ?_;cases e:ax x 0 (b.S-1)
   .refine bn u (· < 7) (λf'=>f' 32=.bool true) rr λf3 B hB r j=>wp_cond_true (ag zz j) ?_;refine bn u (λi=>i<7/\i≠2) (λf'=>f' 2=.int .i64 6) rr λm N hB L o=>wp_ret ?_;exact .inr ⟨rfl,by rw[d,c,dE e];decide,m,rfl,hB,by rw[d,c,dE e];exact o⟩
   .refine bn u (· < 7) (λf'=>f' 32=.bool false) rr λf3 B hB r j=>wp_cond_false (ag zz j) (wp_skip ?_);have e1:=(r 1 zz).tn e1;have E:=(r 4 zz).tn E;cases n:ax y (-9) 9
    .refine bn u (· < 7) (λf'=>f' 40=.bool true) rr λf3 B hB r j=>wp_cond_true (ag zz j) ?_;refine bn u (λi=>i<7/\i≠2) (λf'=>f' 2=.int .i64 1) rr λm N hB L o=>wp_ret ?_;exact .inr ⟨rfl,by rw[d,c,cd (by simp[e]),dE n];decide,m,rfl,hB,by rw[d,c,cd (by simp[e]),dE n];exact o⟩
    .refine bn u (· < 7) (λf'=>f' 40=.bool false) rr λf5 w5 hB v S=>wp_cond_false (ag zz S) (wp_skip ?_);have e1:=(v 1 zz).tn e1;have E:=(v 4 zz).tn E;refine To u (λi=>i<7/\i≠4) (λf'=>f' 4=.int .i64 (k+1)) rr λf6 w6 hB R A=>?_;refine⟨⟨k+1,f6,t,rfl,(R 1 zz).tn e1,A.tn ss,hB,d.tn (c.tn (by rw[cd (by simp[e]),cd (by simp[n])]))⟩,?_⟩;rw[sF (k:=k+1) zz (A.tn ss),sF (k:=k) zz ‹P 4=_›];omega
  |refine wp_seq ?_
   cases e:ax x (1-b.rf) (b.rf-1)
   .refine bn u (· < 7) (λf'=>f' 77=.bool true) rr λf3 B hB r j=>wp_cond_true (ag zz j) ?_;refine bn u (λi=>i<7/\i≠2) (λf'=>f' 2=.int .i64 1) rr λm N hB L o=>wp_ret ?_;exact .inr ⟨rfl,by rw[d,c,dE (by simp[e])];decide,m,rfl,hB,by rw[d,c,dE (by simp[e])];exact o⟩
   .cases n:ax y 0 60
    .refine bn u (· < 7) (λf'=>f' 77=.bool true) rr λf3 B hB r j=>wp_cond_true (ag zz j) ?_;refine bn u (λi=>i<7/\i≠2) (λf'=>f' 2=.int .i64 1) rr λm N hB L o=>wp_ret ?_;exact .inr ⟨rfl,by rw[d,c,dE (by simp[e,n])];decide,m,rfl,hB,by rw[d,c,dE (by simp[e,n])];exact o⟩
    .refine bn u (· < 7) (λf'=>f' 77=.bool false) rr λf3 B hB r j=>wp_cond_false (ag zz j) (wp_skip ?_);have e1:=(r 1 zz).tn e1;have G:=(r 5 zz).tn G;by_cases Z:b.ch<=y
     .refine bn u (· < 7) (λf'=>f' 87=.bool true) rr λf3 B hB r j=>wp_cond_true (ag zz j) ?_;refine bn u (λi=>i<7/\i≠2) (λf'=>f' 2=.int .i64 7) rr λm N hB L o=>wp_ret ?_;exact .inr ⟨rfl,by rw[d,c,cd (by simp[e,n]),dE Z];decide,m,rfl,hB,by rw[d,c,cd (by simp[e,n]),dE Z];exact o⟩
     .refine bn u (· < 7) (λf'=>f' 87=.bool false) rr λf5 w5 hB v S=>wp_cond_false (ag zz S) (wp_skip ?_);have e1:=(v 1 zz).tn e1;have G:=(v 5 zz).tn G;refine To u (λi=>i<7/\i≠5) (λf'=>f' 5=.int .i64 (k+1)) rr λf6 w6 hB R A=>?_;refine⟨⟨k+1,f6,t,rfl,(R 1 zz).tn e1,A.tn ss,hB,d.tn (c.tn (by rw[cd (by simp[e,n]),cd Z]))⟩,?_⟩;rw[sF (k:=k+1) zz (A.tn ss),sF (k:=k) zz ‹P 5=_›];omega
 .have a8:k=l.length:=zz;first|have _:=ø;refine wp_seq (bn u (· < 7) (λf'=>f' 21=.bool false) rr λJ T hB s q=>wp_cond_false (ag zz q) (wp_exit ?_))|have _:=å;refine wp_seq (bn u (· < 7) (λf'=>f' 49=.bool false) rr λJ T hB s q=>wp_cond_false (ag zz q) (wp_exit ?_))|refine wp_seq (bn u (· < 7) (λf'=>f' 96=.bool false) rr λJ T hB s q=>wp_cond_false (ag zz q) (wp_exit ?_))
  exact .inl ⟨rfl,by rw[d,lv zz];rfl,J,rfl,hB,(s 1 zz).tn (e1.tn K.symm)⟩):p:=h
def xaA{p:Prop}(h:p:=by
 obtain⟨rfl⟩:=d;unfold Hn;simp only[c,e,f];go_simp;rw[Go.IntWalk.i64_in _ h]):p:=h
def xaH{p:Prop}(h:p:=by
 unfold Hn;simp only[b,ab,c,a,Deferred.ofValue];simp[go_sem,invoke,hc]):p:=h
def xbz{p:Prop}(h:p:=by
 obtain⟨rfl⟩:=b;unfold Hn;simp only[a,c];go_simp):p:=h
end Go
namespace Go.Proofs.YtfcgpihkimpkcaaGreatDoor
open Go.RowKit Go.Co
variable{K R:Act->H->Prop}{fn:ba}{args:Array M}{v:M}{E S:H->Prop}{w w':H}{ops:Array Kp}{n d j i g k off m cp z:Nat}{f:Nat->M}{oi o:Kp}{rest:List Nat}{Q:Exit->Act->H->Prop}{md:Region.Mode}{late:Nat->Bool}{L:Array Bool}{Z:ae->M}{x y c:ae}{a b:Int}{t':Lk}{r q p:Bool}
section
variable{t:Bool}
def eE(b:oi.guard=Y (j,t))(c:(ops[j]?).bind (·.dst)=Y g)(d:g<n)(a:f g=.bool t):Region.wanted oi (aw ops (fa n f).tmps)=true:=xaZ
def jc(b:oi.guard=Y (j,t))(c:(ops[j]?).bind (·.dst)=Y g)(d:g<n)(a:f g=.bool (!t)):Region.wanted oi (aw ops (fa n f).tmps)=false:=by
 unfold Region.wanted;rw[b];simp only[xM c d a];cases t<;>rfl
def ZE(v:M)(hi:ops[i]?=Y oi)(a:oi.dst=Y d)(b:d<n)(c:Region.wanted oi (aw ops (fa n f).tmps)=true)(e:(Hn (fa n f).eval oi).run F w=.ok (.value v) w')(h:K (fa n (ah f d v)) w'):wpOp F ops Q i K (fa n f) w:=by
 unfold wpOp;simp only[hi,c,if_true,Kp.wp,e,Kp.upon];rw[a,cw b];exact .inl h
def Vg(hi:ops[i]?=Y oi)(a:oi.dst=Y d)(c:d<n)(j:Region.wanted oi (aw ops (fa n f).tmps)=true)(k:(Hn (fa n f).eval oi).run F w=.ok (.enter fn args) w)
  (hc:PH F fn args w λe w'=>e=.returned v/\E w')(h:∀w',E w'->K (fa n (ah f d v)) w'):wpOp F ops Q i K (fa n f) w:=by
 unfold wpOp;simp only[hi,j,if_true,Kp.wp,k,Kp.upon_enter];refine .inl (hc.mono λe w' b=>?_);obtain⟨rfl,g⟩:=b;show K ((fa n f).put oi.dst v) w';rw[a,cw c];exact h w' g
def ZG(hi:ops[i]?=Y oi)(a:oi.dst=Y d)(b:d<n)(c:Region.wanted oi (aw ops (fa n f).tmps)=false)(h:K (fa n (ah f d D)) w):wpOp F ops Q i K (fa n f) w:=by
 unfold wpOp;simp only[hi,c,kx,if_false];rw[a,cw b];exact h
def lV(v:M)(hi:ops[i]?=Y oi)(a:oi.dst=Y d)(b:d<n)(c:Region.wanted oi (aw ops (fa n f).tmps)=true)(e:(Hn (fa n f).eval oi).run F w=.ok (.value v) w')(h:wpOps F ops Q rest (fa n (ah f d v)) w'):wpOps F ops Q (i::rest) (fa n f) w:=by
 rw[wpOps_cons];exact ZE v hi a b c e h
def lN(hi:ops[i]?=Y oi)(a:oi.dst=Y d)(b:d<n)(c:Region.wanted oi (aw ops (fa n f).tmps)=false)(h:wpOps F ops Q rest (fa n (ah f d D)) w):wpOps F ops Q (i::rest) (fa n f) w:=by
 rw[wpOps_cons];exact ZG hi a b c h
def lC(hi:ops[i]?=Y oi)(a:oi.dst=Y d)(b:d<n)(c:Region.wanted oi (aw ops (fa n f).tmps)=true)(g:(Hn (fa n f).eval oi).run F w=.ok (.enter fn args) w)
  (hc:PH F fn args w λe w'=>e=.returned v/\E w')(h:∀w',E w'->wpOps F ops Q rest (fa n (ah f d v)) w'):wpOps F ops Q (i::rest) (fa n f) w:=by
 rw[wpOps_cons];exact Vg hi a b c g hc h
def lE(h:Q .normal (fa n f) w):wpOps F ops Q [] (fa n f) w:=h
def tV(v:M)(hi:ops[i]?=Y oi)(b:oi.dst=Y d)(g:d<n)(m:Region.wanted oi (aw ops (fa n f).tmps)=true)(l:Region.noSelect ops=true)(c:Region.free md ops L i=true)(j:(Region.ready md ops L).contains i=true)(e:nN md ops late i=true)
  (o:∀w',S w'->(Hn (fa n f).eval oi).run F w'=.ok (.value v) w')(a:S w)
  (h:wpAnyL F md ops (aR R) S late k (L.setIfInBounds i true) (fa n (ah f d v)) w):wpAnyL F md ops (aR R) S late (k+1) L (fa n f) w:=
 dN (v:=v) hi l c j e (λ_ _ _ h=>h) (.inl ⟨m,o⟩) a (by rw[b,cw g];exact h)
def tN(hi:ops[i]?=Y oi)(b:oi.dst=Y d)(g:d<n)(m:Region.wanted oi (aw ops (fa n f).tmps)=false)(l:Region.noSelect ops=true)(c:Region.free md ops L i=true)(j:(Region.ready md ops L).contains i=true)(e:nN md ops late i=true)(a:S w)
  (h:wpAnyL F md ops (aR R) S late k (L.setIfInBounds i true) (fa n (ah f d D)) w):wpAnyL F md ops (aR R) S late (k+1) L (fa n f) w:=
 dN (v:=D) hi l c j e (λ_ _ _ h=>h) (.inr ⟨m,rfl⟩) a (by rw[b,cw g];exact h)
def tC(j:Region.ready md ops L=[i])(hi:ops[i]?=Y oi)(b:oi.dst=Y d)(g:d<n)(l:Region.wanted oi (aw ops (fa n f).tmps)=true)(o:(Hn (fa n f).eval oi).run F w=.ok (.enter fn args) w)
  (hc:PH F fn args w λe w'=>e=.returned v/\E w')(h:∀w',E w'->S w'/\wpAnyL F md ops (aR R) S late k (L.setIfInBounds i true) (fa n (ah f d v)) w'):wpAnyL F md ops (aR R) S late (k+1) L (fa n f) w:=by
 refine bl [i] j ss λm c=>?_;obtain rfl:=ib.1 c;exact Vg hi b g l o hc λw' a=>⟨λ_=>(h w' a).1,(h w' a).2⟩
end
def gy(n:Nat){F:Func}{c:Ly}{A:Array M}{R:Ending->H->Prop}(b:Hb.funcs[fn]?=Y F)(a:F.body=Y c)(d:A.size+(F.ntmps-A.size)=n)(h:∀f:Nat->M,(∀i,f i=A.getD i D)->Ly.wp Hb c (bodyPost Hb F R) (fa n f) w):PH Hb fn A w R:=by
 refine calls_of_wp b a ?_;rw[iu d];exact h _ λ_=>rfl
theorem Ib{g:Nat}{b:aC}(h:aK w g 31 b):(Instr.loadAt 31 (.pointer (Y (g,0)))).run F w=.ok b.v w:=by
 obtain⟨a,c,i,j,k,l,m,n,o,p,d,e,f⟩:=aM h;unfold aC.v;go_simp
theorem ag{n t:Nat}{f:Nat->M}(h:t<n)(e:f t=v):(fa n f).eval (.tmp t)=v:=(fe h).tn e
def ZK(s:Nat):List Nat:=if s=31 then[0,1,2,3,5,6,8,10,11,12]else if s=80 then[0,1,2]else if s=33\/s=23\/s=26\/s=100\/s=55 then[0,1]else[]
def Sm(x:Int):Prop:= -9223372036854775808<=x/\x<=9223372036854775807
structure yW(x y:M):Prop where h:x=y
def ZL(t:Nat):Option Nat:=if t=27\/t=28 then Y 2 else if t=29 then Y 3 else I
def TG:BinOp->Option (Int->Int->Bool)
 | .lss=>Y λa b=>decide (a<b)
 | .leq=>Y λa b=>decide (a<=b)
 | .gtr=>Y λa b=>decide (b<a)
 | .geq=>Y λa b=>decide (b<=a)
 | .eql=>Y λa b=>a==b
 | .neq=>Y λa b=>a != b
 | _=>I
section
variable{t t':Lk}
def bq(a:o.op=.move x\/o.op=.assign x)(l:Z x=v):(Hn Z o).run F w=.ok (.value v) w:=xbs
theorem dm{xs:Array ae}{ts:Array Lk}(b:o.op=.call {callee:=.value (.func fn),args:=xs,argTypes:=ts})(a:xs.map Z=args)(c:Z (.func fn)=.func (.func fn) #[] #[])
  (hc:(callFunc fn args).run F w=.ok (.enter fn args) w):(Hn Z o).run F w=.ok (.enter fn args) w:=xaH
theorem j0(a:o.op=.unOp .not t x)(c:Z x=.bool r)(b:yW (.bool (!r)) v):(Hn Z o).run F w=.ok (.value v) w:=xbz
theorem aa6(a:o.op=.pick c x y)(hc:Z c=.bool r)(b:(if r then Z x else Z y)=v):(Hn Z o).run F w=.ok (.value v) w:=by
 subst b;unfold Hn;simp only[a,hc];cases r<;>go_simp
theorem abc(a:o.op=.binOp .eql 4 x y 4)(d:Z x=.bool r)(e:Z y=.bool q)(b:(r==q)=p)(c:yW (.bool p) v):(Hn Z o).run F w=.ok (.value v) w:=by
 subst b;obtain⟨rfl⟩:=c;unfold Hn;simp only[a,d,e];go_simp
theorem Vh(a:o.op=.binOp .neq 4 x y 4)(d:Z x=.bool r)(e:Z y=.bool q)(b:(r != q)=p)(c:yW (.bool p) v):(Hn Z o).run F w=.ok (.value v) w:=by
 subst b;obtain⟨rfl⟩:=c;unfold Hn;simp only[a,d,e];cases r<;>cases q<;>go_simp
theorem Sr{op:BinOp}{F:Int->Int->Bool}(c:o.op=.binOp op t x y t')(hF:TG op=Y F)(f:Z x=.int .i64 a)(g:Z y=.int .i64 b)(d:F a b=r)(e:yW (.bool r) v):(Hn Z o).run Hb w=.ok (.value v) w:=by
 subst d;obtain⟨rfl⟩:=e;unfold Hn;simp only[c,f,g];cases op<;>cases hF<;>go_simp
def gE{B:aC}(b:o.op=.load 31 x)(d:Z x=.pointer (Y (g,0)))(a:aK w g 31 B)(c:yW (B.v) v):(Hn Z o).run F w=.ok (.value v) w:=by
 have h:=(Ib a);obtain⟨rfl⟩:=c;unfold Hn;simp only[b,d];simp[h]
theorem qM{sh:Int}{s:Sl}(a:o.op=.load 33 x)(c:Z x=.pointer (Y (g,0)))(d:w (g,0)=Y (.int .i64 sh))(e:w (g,1)=Y (.slice s.A s.n s.c))(b:yW (aF sh s) v):(Hn Z o).run F w=.ok (.value v) w:=by
 obtain⟨rfl⟩:=b;unfold Hn aF;simp only[a,c];go_simp
theorem Xo{h s:Int}(a:o.op=.load 80 x)(c:Z x=.pointer (Y (g,off)))(d:w (g,off)=Y (.int .i64 h))(e:w (g,off+1)=Y (.int .i64 s))(h2:w (g,off+2)=Y (.bool r))(b:yW (.agg #[.int .i64 h,.int .i64 s,.bool r]) v):(Hn Z o).run F w=.ok (.value v) w:=xbz
theorem TH{s:Nat}(b:o.op=.fieldAddr s x k)(a:(ZK s)[k]?=Y z)(c:Z x=.pointer (Y (g,off)))(d:yW (.pointer (Y (g,off+z))) v):(Hn Z o).run F w=.ok (.value v) w:=by
 obtain⟨rfl⟩:=d;unfold Hn;simp only[b,c];clear b c;unfold ZK at a;repeat' split at a
 .subst s;iterate 10 (rcases k with _|k; · cases a;go_simp)
  cases a
 .subst s;iterate 3 (rcases k with _|k; · cases a;go_simp)
  cases a
 .rename_i h;iterate 2 (rcases k with _|k; · cases a;rcases h with rfl|rfl|rfl|rfl|rfl<;>go_simp)
  cases a
 .cases a
theorem abe(b:o.op=.load t x)(a:[3,4,24,27,28,29,36].contains t=true)(c:Z x=.pointer (Y (g,off)))(hc:w (g,off)=Y v):(Hn Z o).run F w=.ok (.value v) w:=by
 unfold Hn;simp only[b,c];simp at a;rcases a with rfl|rfl|rfl|rfl|rfl|rfl|rfl<;>go_simp
theorem Xp(a:o.op=.indexAddr 24 x y)(c:Z x=.slice (Y (g,off)) m cp)(d:Z y=.int .i64 k)(hk:k<m)(b:yW (.pointer (Y (g,off+k))) v):(Hn Z o).run F w=.ok (.value v) w:=by
 obtain⟨rfl⟩:=b;unfold Hn;simp only[a,c,d];go_simp
theorem Vj(b:o.op=.indexAddr t x y)(a:ZL t=Y z)(d:Z x=.slice (Y (g,off)) m cp)(e:Z y=.int .i64 k)(hk:k<m)(c:yW (.pointer (Y (g,off+k*z))) v):(Hn Z o).run F w=.ok (.value v) w:=by
 obtain⟨rfl⟩:=c;unfold Hn;simp only[b,d,e];unfold ZL at a;split at a
 .rename_i h;cases a;rcases h with rfl|rfl<;>go_simp
 .split at a
  .rename_i h;cases a;subst h;go_simp
  .cases a
theorem SF{A:Option Addr}(b:o.op=.call {callee:=.builtin .len,args:= #[x],argTypes:= #[t]})(a:[24,27,28,29].contains t=true)(c:o.type=3)(e:Z x=.slice A m cp)(d:yW (.int .i64 m) v):(Hn Z o).run F w=.ok (.value v) w:=by
 obtain⟨rfl⟩:=d;unfold Hn;simp only[b,ab,zM,e,c];simp at a;rcases a with rfl|rfl|rfl|rfl<;>go_simp
theorem AW(c:o.op=.binOp .sub 3 x y 3)(e:Z x=.int .i64 a)(f:Z y=.int .i64 b)(h:Sm (a-b))(d:yW (.int .i64 (a-b)) v):(Hn Z o).run F w=.ok (.value v) w:=xaA
theorem XM{z:ae}{c:Int}(d:o.op=.call {callee:=.builtin .max,args:= #[x,y,z],argTypes:= #[3,3,3]})(e:o.type=3)(g:Z x=.int .i64 a)(h:Z y=.int .i64 b)(i:Z z=.int .i64 c)(f:yW (.int .i64 (max (max a b) c)) v):(Hn Z o).run F w=.ok (.value v) w:=by
 obtain⟨rfl⟩:=f;unfold Hn;simp only[d,ab,zM,g,h,i,e];go_simp;repeat (first|omega|split)
theorem E4(c:o.op=.binOp .add 3 x y 3)(e:Z x=.int .i64 a)(f:Z y=.int .i64 b)(h:Sm (a+b))(d:yW (.int .i64 (a+b)) v):(Hn Z o).run F w=.ok (.value v) w:=xaA
end
variable{id N:Nat}{p:Prop}{z:ae}{a b c v':M}{u:H}{xs:Array ae}{ts:Array Lk}
def Rs(n:Nat)(u:H)(f:Nat->M)(keep:Nat->Prop)(p:(Nat->M)->Prop)(a:Act)(w:H):Prop:=∃f',a=fa n f'/\X u u w/\(∀i,keep i->f' i=f i)/\p f'
def Rs.mk{u w:H}{f f':Nat->M}{keep:Nat->Prop}{p:(Nat->M)->Prop}(a:X u u w)(hk:∀i,keep i->f' i=f i)(b:p f'):aR (Rs n u f keep p) .normal (fa n f') w:=⟨f',rfl,a,hk,b⟩
def XF(b:Z x=a):(#[x]).map Z= #[a]:=by simp[b]
def MJ(c:Z x=a)(d:Z y=b):(#[x,y]).map Z= #[a,b]:=by simp[c,d]
def MK(d:Z x=a)(e:Z y=b)(h2:Z z=c):(#[x,y,z]).map Z= #[a,b,c]:=by simp[d,e,h2]
def XG{x y z u:ae}{a b c d:M}(e:Z x=a)(f:Z y=b)(h2:Z z=c)(g:Z u=d):(#[x,y,z,u]).map Z= #[a,b,c,d]:=by simp[e,f,h2,g]
def fG:Ly:=match Tryz.f14.body with|some c=>c|_=>.skip
def ZI:Array Kp:=br [0] fG
def Vo:Array Kp:=br [1,0,0] fG
def P6:Array Kp:=br [1,0,1,0] fG
def Vp:Array Kp:=br [1,0,1,1,4,0] fG
def P7:Array Kp:=br [1,1,0,0] fG
def Vq:Array Kp:=br [1,1,0,1,4,0] fG
def Vr:Array Kp:=br [1,1,1,0,0] fG
def ux:Ly:=dk [1,1,1,0,1,2,3] fG
def P8:Array Kp:=br [0,0] ux
def P9:Array Kp:=br [1,0,2,0,0] ux
def Qa:Array Kp:=br [1,0,2,0,1,4,0] ux
def Ig:Array Kp:=br [1,0,2,1,0] ux
def Qb:Array Kp:=br [1,0,2,1,1,4,0] ux
def Vt:Array Kp:=br [1,1] ux
def Ih:Array Kp:=br [1,1,1,1,0,0] fG
def Qc:Array Kp:=br [1,1,1,1,0,1,4,0] fG
def Qd:Array Kp:=br [1,1,1,1,1,0,0] fG
def uy:Ly:=dk [1,1,1,1,1,0,1,2,3] fG
def Ii:Array Kp:=br [0,0] uy
def B6:Array Kp:=br [1,0,2,0,0] uy
def Qe:Array Kp:=br [1,0,2,0,1,4,0] uy
def Ij:Array Kp:=br [1,0,2,1,0] uy
def Qf:Array Kp:=br [1,0,2,1,1,4,0] uy
def Qg:Array Kp:=br [1,1] uy
def Ik:Array Kp:=br [1,1,1,1,1,1,0,0] fG
def Qh:Array Kp:=br [1,1,1,1,1,1,0,1,4,0] fG
def Qi:Array Kp:=br [1,1,1,1,1,1,1,0,0] fG
def za:Ly:=dk [1,1,1,1,1,1,1,0,1,2,3] fG
def Il:Array Kp:=br [0,0] za
def B7:Array Kp:=br [1,0,2,0] za
def Qj:Array Kp:=br [1,0,2,1,4,0] za
def Qk:Array Kp:=br [1,1] za
def Ql:Array Kp:=br [1,1,1,1,1,1,1,1,0] fG
def ML:fG=.seq (.region 0 ZI false) (.seq (.seq (.region 1 Vo false) (.seq (.region 2 P6 false) (.cond (.tmp 10) (.seq (.region 3 Vp false) (.ret)) (.skip)))) (.seq (.seq (.region 4 P7 false) (.cond (.tmp 16) (.seq (.region 5 Vq false) (.ret)) (.skip))) (.seq (.seq (.region 6 Vr false) (.block 0 (.loop ux))) (.seq (.seq (.region 13 Ih false) (.cond (.tmp 44) (.seq (.region 14 Qc false) (.ret)) (.skip))) (.seq (.seq (.region 15 Qd false) (.block 2 (.loop uy))) (.seq (.seq (.region 22 Ik false) (.cond (.tmp 91) (.seq (.region 23 Qh false) (.ret)) (.skip))) (.seq (.seq (.region 24 Qi false) (.block 4 (.loop za))) (.seq (.region 29 Ql false) (.ret))))))))):=rfl
def Qm:ux=.seq (.seq (.region 7 P8 false) (.cond (.tmp 21) (.skip) (.exit 0))) (.seq (.block 1 (.seq (.seq (.region 9 P9 true) (.cond (.tmp 32) (.seq (.region 10 Qa false) (.ret)) (.skip))) (.seq (.region 11 Ig false) (.cond (.tmp 40) (.seq (.region 12 Qb false) (.ret)) (.skip))))) (.region 8 Vt false)):=rfl
def Qn:uy=.seq (.seq (.region 16 Ii false) (.cond (.tmp 49) (.skip) (.exit 2))) (.seq (.block 3 (.seq (.seq (.region 18 B6 true) (.cond (.tmp 77) (.seq (.region 19 Qe false) (.ret)) (.skip))) (.seq (.region 20 Ij true) (.cond (.tmp 87) (.seq (.region 21 Qf false) (.ret)) (.skip))))) (.region 17 Qg false)):=rfl
def Qo:za=.seq (.seq (.region 25 Il false) (.cond (.tmp 96) (.skip) (.exit 4))) (.seq (.block 5 (.seq (.region 27 B7 true) (.cond (.tmp 118) (.seq (.region 28 Qj false) (.ret)) (.skip)))) (.region 26 Qk false)):=rfl
theorem Oh{d i:Nat}(e:f i=a)(h:Nat.beq i d=false:=by exact rfl):ah f d v i=a:=(cd (Nat.ne_of_beq_eq_false h)).tn e
theorem Ls{n t:Nat}(e:f t=v)(h:t<n:=by omega):(fa n f).eval (.tmp t)=v:=(fe h).tn e
def Tv:(fa n f).eval (.const v)=v:=rfl
def vq{x:M}:yW x x:=⟨rfl⟩
def XH{x:Bool}:x=x:=rfl
theorem dT[Decidable p](h:p)(e:true=r):decide p=r:=(decide_eq_true h).tn e
theorem dF[Decidable p](h:¬p)(e:false=r):decide p=r:=(decide_eq_false h).tn e
structure At(j:Nat)(p:Prop):Prop where h:p
structure Ac(j:Nat)(p:Prop):Prop where h:p
def XI(hi:ops[i]?=Y oi)(a:oi.dst=Y d)(c:Region.wanted oi (aw ops (fa n f).tmps)=true)(hB:X u u w)(h:∃v,(∀w',X u u w'->(Hn (fa n f).eval oi).run F w'=.ok (.value v) w')/\wpOps F ops Q rest (fa n (ah f d v)) w)(b:d<n:=by omega):wpOps F ops Q (i::rest) (fa n f) w:=let⟨v,hy,h⟩:=h;lV v hi a b c (hy w hB) h
def XJ(hi:ops[i]?=Y oi)(a:oi.dst=Y d)(c:Region.wanted oi (aw ops (fa n f).tmps)=false)(h:wpOps F ops Q rest (fa n (ah f d D)) w)(b:d<n:=by omega):wpOps F ops Q (i::rest) (fa n f) w:=lN hi a b c h
def Lv(o:Kp):Bool:=match o.op with|.call c=>(match c.callee with|.builtin _=>true|_=>false)|_=>true
def XO(_:Nat.blt j ops.size=true)(h:At (j+1) (wpAnyL F md ops (aR R) (λa=>X u u a) late k L (fa n f) w)):At j (wpAnyL F md ops (aR R) (λa=>X u u a) late k L (fa n f) w):=⟨h.h⟩
def XP(_:L.getD j true=false)(hi:ops[j]?=Y oi)(_:Lv oi=true)(b:oi.dst=Y d)(m:Region.wanted oi (aw ops (fa n f).tmps)=true)(hB:X u u w)
  (h:∃v,(∀w',X u u w'->(Hn (fa n f).eval oi).run F w'=.ok (.value v) w')/\At (j+1) (wpAnyL F md ops (aR R) (λa=>X u u a) late k (L.setIfInBounds j true) (fa n (ah f d v)) w))
  (g:d<n:=by omega)(l:Region.noSelect ops=true:=by kernel_rfl)(c:Region.free md ops L j=true:=by kernel_rfl)(i:(Region.ready md ops L).contains j=true:=by kernel_rfl)(e:nN md ops late j=true:=by kernel_rfl):At j (wpAnyL F md ops (aR R) (λa=>X u u a) late (k+1) L (fa n f) w):=let⟨v,hy,h⟩:=h;⟨tV v hi b g m l c i e hy hB h.h⟩
def XQ(_:L.getD j true=false)(hi:ops[j]?=Y oi)(b:oi.dst=Y d)(m:Region.wanted oi (aw ops (fa n f).tmps)=false)(hB:X u u w)
  (h:At (j+1) (wpAnyL F md ops (aR R) (λa=>X u u a) late k (L.setIfInBounds j true) (fa n (ah f d D)) w))
  (g:d<n:=by omega)(l:Region.noSelect ops=true:=by kernel_rfl)(c:Region.free md ops L j=true:=by kernel_rfl)(i:(Region.ready md ops L).contains j=true:=by kernel_rfl)(e:nN md ops late j=true:=by kernel_rfl):At j (wpAnyL F md ops (aR R) (λa=>X u u a) late (k+1) L (fa n f) w):=⟨tN hi b g m l c i e hB h.h⟩
def adc(_:Nat.blt j ops.size=true)(h:Ac (j+1) (wpAnyL F md ops (aR R) (λa=>X u u a) late k L (fa n f) w)):Ac j (wpAnyL F md ops (aR R) (λa=>X u u a) late k L (fa n f) w):=⟨h.h⟩
def Xs(fn:ba)(xs:Array ae)(a:Act)(u w:H)(p:M->H->Prop):Prop:=∃args v,xs.map a.eval=args/\(callFunc fn args).run F w=.ok (.enter fn args) w/\PH F fn args w (λe w'=>e=.returned v/\X w w w')/\∀w',X u u w'->p v w'
theorem XR(hi:ops[i]?=Y oi)(e:oi.op=.call {callee:=.value (.func fn),args:=xs,argTypes:=ts})(b:oi.dst=Y d)(g:Region.wanted oi (aw ops (fa n f).tmps)=true)(hB:X u u w)
  (h:Xs fn xs (fa n f) u w λv w'=>wpOps F ops Q rest (fa n (ah f d v)) w')(c:d<n:=by omega):wpOps F ops Q (i::rest) (fa n f) w:=
 let⟨_,_,ha,hf,hc,h⟩:=h;lC hi b c g (dm e ha rfl hf) hc λw' a=>h w' (hB.tn (a.mono hB.size))
theorem XS(_:L.getD j true=false)(hi:ops[j]?=Y oi)(g:oi.op=.call {callee:=.value (.func fn),args:=xs,argTypes:=ts})(c:oi.dst=Y d)(l:Region.wanted oi (aw ops (fa n f).tmps)=true)(hB:X u.heap.size u w)
  (h:Xs fn xs (fa n f) u w λv w'=>At (j+1) (wpAnyL F md ops (aR R) (λa=>X u.heap.size u a) late k (L.setIfInBounds j true) (fa n (ah f d v)) w'))(e:d<n:=by omega)(i:Region.ready md ops L=[j]:=by kernel_rfl):Ac j (wpAnyL F md ops (aR R) (λa=>X u.heap.size u a) late (k+1) L (fa n f) w):=
 let⟨_,_,ha,hf,hc,h⟩:=h;⟨tC i hi c e l (dm g ha rfl hf) hc λw' b=>⟨hB.tn (b.mono hB.size),(h w' (hB.tn (b.mono hB.size))).h⟩⟩
def kE(h:PH F fn args w λe w'=>e=.returned v/\w=w')(e:v=v'):PH F fn args w λe w'=>e=.returned v'/\X w w w':=h.mono λ_ _ h=>⟨e▸h.1,h.2▸X.refl _ _⟩
def kB(h:PH F fn args w λe w'=>e=.returned v/\X w w w')(e:v=v'):PH F fn args w λe w'=>e=.returned v'/\X w w w':=h.mono λ_ _ h=>⟨e▸h.1,h.2⟩
def ic(m:Nat){l:List Nat}{a:Act}(c:ops.size=m)(b:List.range m=l)(h:wpOps F ops Q l a w):Ly.wp F (.region id ops false) Q a w:=wF (by rw[c];exact b) h
def vB{a b:Bool}(h:a=b):M.bool a=.bool b:=h▸rfl
def vI{a b:Int}(h:a=b):M.int .i64 a=.int .i64 b:=h▸rfl
def Tn(hB:X u.heap.size u w){a:Act}(h:X u.heap.size u w.drew->At 0 (wpAnyL F .any ops Q (λb=>X u.heap.size u b) (λ_=>false) ops.size (Array.replicate ops.size false) a w.drew)):(Ly.region id ops true).wp F Q a w:=bK _ rR (h hB.drew).h
def XT{a:Act}(h:aR R .normal a w)(b:Region.ready md ops L=[]:=by kernel_rfl):Ac j (wpAnyL F md ops (aR R) (λc=>X u u c) late k L a w):=⟨cH b h k⟩
def Xt(h:Ac 0 p):At j p:=⟨h.h⟩
structure Qz(q:Prop):Prop where h:q
theorem Tw{p q:Prop}(d:q)(h:Qz q->p:=by intro hqq;(repeat (first|((first|refine XI rfl rfl ?_ hB ?_|refine XP rfl rfl rfl rfl ?_ hB ?_);(first|exact bY rfl|(refine eE rfl rfl ?_ ?_;omega;focus ((repeat (first|exact au _ _ _|assumption|refine Oh ?_));done)));refine⟨?_,λf e=>?_,?_⟩;rotate_left;focus ((first|refine bq (.inl rfl) ?_|refine bq (.inr rfl) ?_|(refine TH (g:=?_) (off:=?_) rfl rfl ?_ ?_;rotate_left 2)|(refine abe (g:=?_) (off:=?_) rfl rfl ?_ ?_;rotate_left 2)|(refine aa6 (r:=?_) rfl ?_ ?_;rotate_left 1)|(refine abc (r:=?_) (q:=?_) (p:=?_) rfl ?_ ?_ ?_ ?_;rotate_left 3)|(refine Vh (r:=?_) (q:=?_) (p:=?_) rfl ?_ ?_ ?_ ?_;rotate_left 3)|(refine Sr (a:=?_) (b:=?_) (r:=?_) rfl rfl ?_ ?_ ?_ ?_;rotate_left 3)|(refine j0 (r:=?_) rfl ?_ ?_;rotate_left 1)|(refine Vj (g:=?_) (off:=?_) (m:=?_) (cp:=?_) (k:=?_) rfl rfl ?_ ?_ ?_ ?_;rotate_left 5)|(refine Xp (g:=?_) (off:=?_) (m:=?_) (cp:=?_) (k:=?_) rfl ?_ ?_ ?_ ?_;rotate_left 5)|(refine SF (A:=?_) (m:=?_) (cp:=?_) rfl rfl rfl ?_ ?_;rotate_left 3)|(refine E4 (a:=?_) (b:=?_) rfl ?_ ?_ ?_ ?_;rotate_left 2)|(refine AW (a:=?_) (b:=?_) rfl ?_ ?_ ?_ ?_;rotate_left 2)|(refine gE (g:=?_) (B:=?_) rfl ?_ ?_ ?_;rotate_left 2)|(refine qM (g:=?_) (sh:=?_) (s:=?_) rfl ?_ ?_ ?_ ?_;rotate_left 3)|(refine Xo (g:=?_) (off:=?_) (h:=?_) (s:=?_) (r:=?_) rfl ?_ ?_ ?_ ?_ ?_;rotate_left 5)|(refine XM (a:=?_) (b:=?_) (c:=?_) rfl rfl ?_ ?_ ?_ ?_;rotate_left 3));all_goals first|(refine Ls ?_;(repeat (first|exact au _ _ _|assumption|refine Oh ?_));done)|exact Tv|(refine(dE rfl).tn ?_;first|(refine Ls ?_;(repeat (first|exact au _ _ _|assumption|refine Oh ?_));done)|exact Tv)|(refine(cd Bool.false_ne_true).tn ?_;first|(refine Ls ?_;(repeat (first|exact au _ _ _|assumption|refine Oh ?_));done)|exact Tv)|assumption|(refine Eq.tn (Below.cell (B:=?_) (w:=?_) ?_ ?_) ?_;rotate_left 2;assumption;assumption;assumption)|(refine Eq.tn (Below.block (B:=?_) (w:=?_) ?_ _ ?_) ?_;rotate_left 2;assumption;assumption;assumption)|(refine dT ?_ ?_;omega;exact rfl)|(refine dF ?_ ?_;omega;exact rfl)|(unfold Sm;omega)|omega|exact vq|exact XH))|((first|refine XJ rfl rfl ?_ ?_|refine XQ rfl rfl rfl ?_ hB ?_);(focus refine jc rfl rfl ?_ ?_;omega;(repeat (first|exact au _ _ _|assumption|refine Oh ?_));done))|refine XO rfl ?_));exact hqq.h):p:=h ⟨d⟩
theorem rr(h:p:=by((first|(refine Tn hB ?_;intro hB)|refine ic 1 rfl rfl ?_|refine ic 2 rfl rfl ?_|refine ic 3 rfl rfl ?_|refine ic 4 rfl rfl ?_|refine ic 5 rfl rfl ?_|refine ic 6 rfl rfl ?_|refine ic 7 rfl rfl ?_|refine ic 8 rfl rfl ?_|refine ic 9 rfl rfl ?_|refine ic 10 rfl rfl ?_|refine ic 11 rfl rfl ?_|refine ic 12 rfl rfl ?_|refine ic 13 rfl rfl ?_|refine ic 14 rfl rfl ?_|refine ic 15 rfl rfl ?_|refine ic 16 rfl rfl ?_|refine ic 17 rfl rfl ?_|refine ic 18 rfl rfl ?_|refine ic 19 rfl rfl ?_|refine ic 20 rfl rfl ?_|refine ic 21 rfl rfl ?_|refine ic 22 rfl rfl ?_|refine ic 23 rfl rfl ?_|refine ic 24 rfl rfl ?_|refine ic 25 rfl rfl ?_|refine ic 26 rfl rfl ?_|refine ic 27 rfl rfl ?_|refine ic 28 rfl rfl ?_|refine ic 29 rfl rfl ?_|refine ic 30 rfl rfl ?_|refine ic 31 rfl rfl ?_|refine ic 32 rfl rfl ?_|refine ic 33 rfl rfl ?_);refine Tw ?_;(try refine Xt ?_);(repeat (first|(((first|refine XR rfl rfl rfl ?_ hB ?_|refine XS rfl rfl rfl rfl ?_ hB ?_);(first|exact bY rfl|(refine eE rfl rfl ?_ ?_;omega;focus ((repeat (first|exact au _ _ _|assumption|refine Oh ?_));done)));refine⟨?_,?_,?_,?_,?_,λe hB=>?_⟩;rotate_left 2;(focus ((first|(refine XF (a:=?_) ?_;rotate_left 1)|(refine MJ (a:=?_) (b:=?_) ?_ ?_;rotate_left 2)|(refine MK (a:=?_) (b:=?_) (c:=?_) ?_ ?_ ?_;rotate_left 3)|(refine XG (a:=?_) (b:=?_) (c:=?_) (d:=?_) ?_ ?_ ?_ ?_;rotate_left 4));all_goals first|(refine Ls ?_;(repeat (first|exact au _ _ _|assumption|refine Oh ?_));done)|exact Tv));exact rfl;(first|exact hc _ hB|exact hcon _ hB|exact hcon2 _ hB|exact hcon3 _ hB|((first|refine kE (bz _ _ _ _) ?_|(refine kB (rH _ _ ?_ ?_ _) ?_;assumption;assumption)|(refine kB (rI _ _ ?_ _) ?_;assumption));(first|(refine vB (b:=?_) ?_;rotate_left;assumption)|(refine vI (b:=?_) ?_;rotate_left;assumption)|exact rfl))));refine Tw ?_;(try refine Xt ?_))|refine adc rfl ?_));(first|refine XT ?_|refine lE ?_);refine Rs.mk hB (λi hi=>?_) ?_;(focus ((repeat (refine(cu _ _ ?_).tn ?_;omega));exact rfl));(first|exact rfl|exact⟨rfl,rfl⟩|exact db|(simp;done)))):p:=h
def bn{x y:Ly}(u:H)(keep:Nat->Prop)(p:(Nat->M)->Prop)(h:Ly.wp F x (aR (Rs N u f keep p)) (fa N f) w)(next:∀f' w',X u u w'->(∀i,keep i->f' i=f i)->p f'->Ly.wp F y Q (fa N f') w'):Ly.wp F (.seq x y) Q (fa N f) w:=
 wp_seq (wp_mono h λe a w' d=>by
  obtain⟨rfl,f',rfl,b,h2,c⟩:=d.elim;exact next f' w' b h2 c)
def To{x:Ly}(u:H)(keep:Nat->Prop)(p:(Nat->M)->Prop)(h:Ly.wp F x (aR (Rs N u f keep p)) (fa N f) w)(next:∀f' w',X u.heap.size u w'->(∀i,keep i->f' i=f i)->p f'->Q .normal (fa N f') w'):Ly.wp F x Q (fa N f) w:=
 wp_mono h λe a w' d=>by
  obtain⟨rfl,f',rfl,b,h2,c⟩:=d.elim;exact next f' w' b h2 c
variable{l:List (Int×Int)}{keep:Nat->Prop}{p:(Nat->M)->Prop}{x y:Ly}{b:aC}
def sF{n t k:Nat}{f:Nat->M}(h:t<n)(e:f t=.int .i64 k):(intOf ((fa n f).tmps.getD t D)).toNat=k:=by
 rw[Array.getD_eq_getD_getElem?,ej h,e];simp[intOf]
def Lp(N:Nat)(u:H)(f:Nat->M)(R:Int)(e:Exit)(a:Act)(w:H):Prop:=(e=.normal/\R=0/\∃f',a=fa N f'/\X u u w/\f' 1=f 1)\/(e=.ret/\R≠0/\∃f',a=fa N f'/\X u u w/\f' 2=.int .i64 R)
def TK(a4:aK u g 31 b)(a5: -1000<=b.S)(a6:b.S<=1000)(K:f 1=(g,0))(a3:g<u)(x10:u (g,10)=Y (.slice b.U.A b.U.n b.U.c))(C:bp u b.U l)(h4:f 4=.int .i64 (0:Nat))(hB:X u u w):
  Ly.wp F (.block 0 (.loop ux)) (Lp 119 u f (nD b.S l)) (fa 119 f) w:=by
 have ø:=0;exact sT
def TL(x6:u (g,6)=Y (.int .i64 b.rf))(a':2<=b.rf)(a0:b.rf<=30)(x9:u (g,9)=Y (.int .i64 b.ch))(K:f 1=(g,0))(a3:g<u)(x11:u (g,11)=Y (.slice b.E.A b.E.n b.E.c))(C:bp u b.E l)(h5:f 5=.int .i64 (0:Nat))(hB:X u u w):
  Ly.wp F (.block 2 (.loop uy)) (Lp 119 u f (nF b.rf b.ch l)) (fa 119 f) w:=by
 have å:=0;exact sT
def TM{l:List (Int×Int×Bool)}(a4:aK u g 31 b)(b1:b.U.n<=1000)(a5: -1000<=b.S)(a6:b.S<=1000)(K:f 1=(g,0))(a3:g<u)(x12:u (g,12)=Y (.slice b.W.A b.W.n b.W.c))(C:fL u b.W l)(h6:f 6=.int .i64 (0:Nat))(hB:X u u w):
  Ly.wp F (.block 4 (.loop za)) (Lp 119 u f (qi b.S b.U.n l)) (fa 119 f) w:=by
 have æ:=0;exact sT
variable{x:ae}
theorem B8{b:aC}(c:o.op=.box 31 x)(a:Z x=b.v):(Hn Z o).run F w=.ok (.value (.pointer (Y (w.heap.size,0)))) (w.alloc (aE b 31)):=by
 unfold aC.v at a;unfold Hn;simp only[c,a];unfold aE;go_simp;try rfl
def ZO{f:Nat->M}{r:Int}{w:H}(h:f 2=r):(results Tryz.f14 (fa 119 f).tmps).run F w=.ok (.int .i64 r) w:=by
 have e:(fa 119 f).tmps[2]?=Y (.int .i64 r):=by rw[ej zz,h]
 generalize(fa 119 f).tmps=A at e;unfold results Tryz.f14;simp[e]
theorem mm(b:aC)(l:bN)(w:H)(j:aI w b l):
  PH F 14 #[b.v] w λe w'=>e=.returned (.int .i64 (ay b l))/\X w w w':=by
 refine gy 119 Tryz.func14 (c:=fG) rfl rfl λf a2=>?_;have f0:f 0=b.v:=a2 _;clear a2;rw[ML];refine wp_seq (wF (l:=[0,1]) rfl ?_);refine lV (d:=1) (.pointer (Y ⟨w.heap.size,0,I⟩)) rfl rfl zz wnn (B8 rfl (ag (t:=0) zz f0)) ?_;refine lV (d:=2) (.int .i64 0) rfl rfl zz wnn (bq (.inr rfl) rfl) ?_;refine lE ?_;have x:aK (w.alloc (aE b 31)) w 31 b:=Sp _ _;have B:X w w (w.alloc (aE b 31)):=(X.refl _ _).alloc (dj _) _;have a6:(w.alloc (aE b 31)).heap.size=w.heap.size+1:=aa _ _;have j:=j.below B;have e1:ah (ah f 1 (.pointer (Y (w.heap.size,0)))) 2 (.int .i64 0) 1=.pointer (Y (w.heap.size,0)):=rfl;generalize ah (ah f 1 (.pointer (Y ⟨w.heap.size,0,I⟩))) 2 (.int .i64 0)=f1 at e1|-;generalize w.alloc (aE b 31)=u at x B a6 j|-;have E:(w:Nat)<u:=zz;generalize P:w.heap.size=g at e1 x E;have hB:X u u u:=X.refl _ _;have n:∀{f' w'},X u u w'->∀{r},f' 2=.int .i64 r->ay b l=r->bodyPost F Tryz.f14 (λe w'=>e=.returned (.int .i64 (ay b l))/\X g w w') .ret (fa 119 f') w':=λhB r h2 k=>by
  subst k;exact bd (v:=.int .i64 (ay b l)) (ZO h2) rfl ⟨rfl,P▸B.tn (hB.mono B.size)⟩
 obtain⟨r,k⟩:∃r,dZ b l.C=r:=⟨_,rfl⟩;have hc:=λw1 (h:X u.heap.size u w1)=>kB (Ic b l.C w1 (j.C.below h)) (vI k);refine wp_seq (bn u (λi=>i<7/\i≠3) (λf'=>f' 3=.int .i64 r) rr λf2 w2 hB k2 q2=>?_);have e1:=(k2 1 zz).tn e1;clear hc;cases K:(r != 0);rotate_left
 .refine bn u (· < 7) (λf'=>f' 10=.bool true) rr λf3 V hB p o=>wp_cond_true (ag zz o) ?_;have e3:=(p 3 zz).tn q2;refine bn u (λi=>i<7/\i≠2) (λf'=>f' 2=.int .i64 r) rr λW w4 hB R z=>wp_ret ?_;refine n hB z ?_;have C:r≠0:=by simpa using K
  rw[<- k]at C|-;unfold dZ at C|-;unfold ay;split
  .rfl
  .rename_i P;rw[cd P]at C;rw[dE C]
 .have a5:r=0:=by simpa using K
  refine bn u (· < 7) (λf'=>f' 10=.bool false) rr λf3 V hB p o=>wp_cond_false (ag zz o) (wp_skip ?_);have e1:=(p 1 zz).tn e1;rw[a5]at k;clear k2 p q2 o K;have Q:cA b l.C=0:=by
   by_cases h:cA b l.C=0
   .exact h
   .unfold dZ at k;rw[dE h]at k;exact dC k h
  have a1:cZ b=0:=by unfold dZ at k;rw[cd (by simp[Q])]at k;exact k
  obtain⟨t1,t2,t3,t4,t5,t6,t7,t8,t9,b4,b5⟩:=cS Q;obtain⟨u1,u2,u3,u4,u5,u6,u7,u8,u9⟩:=wL a1;have HK:ay b l=if fH b.S l.U≠0 then fH b.S l.U else if fT b.rf b.ch l.E≠0 then fT b.rf b.ch l.E else ki b.S l.U.length l.W:=by
   rw[ay,cd (by simp[Q]),cd (by simp[a1])]
  obtain⟨x0,x1,x2,x3,x4,x5,x6,x7,x8,x9,a7,a8,a9⟩:=aM x;have O:b.U.n=l.U.length:=j.U.1;have b1:l.U.length<=1000:=j.U.2.2.1;have a0:b.E.n=l.E.length:=j.E.1;have b3:b.W.n=l.W.length:=j.W.1;refine wp_seq ?_;cases hF:ax (b.U.n:Nat) 1 4
  .refine bn u (· < 7) (λf'=>f' 16=.bool true) rr λf3 V hB p o=>wp_cond_true (ag zz o) ?_;refine bn u (λi=>i<7/\i≠2) (λf'=>f' 2=.int .i64 2) rr λW w4 hB R z=>wp_ret (n hB z ?_);have:fH b.S l.U=2:=by rw[fH,<- O,cd (by simp[hF])]
   rw[HK,this];rfl
  .refine bn u (· < 7) (λf'=>f' 16=.bool false) rr λf3 V hB p o=>wp_cond_false (ag zz o) (wp_skip ?_);have e1:=(p 1 zz).tn e1;have a3:fH b.S l.U=nD b.S l.U:=by rw[fH,<- O,dE hF]
   rw[a3]at HK;refine wp_seq (bn u (λi=>i<7/\i≠4) (λf'=>f' 4=.int .i64 0) rr λW w4 hB R z=>?_);have e1:=(R 1 zz).tn e1;refine wp_mono (TK x zz zz e1 E a7 j.U z hB) λe a w5 y=>?_;rcases y with⟨rfl,L,f5,rfl,hB,S⟩|⟨rfl,L,f5,rfl,hB,S⟩;rotate_left
   .exact n hB S (by rw[HK,dE L])
   have e1:=S.tn e1;rw[cd (by simp[L])]at HK;refine wp_seq ?_;by_cases a':3<b.E.n
   .refine bn u (· < 7) (λf'=>f' 44=.bool true) rr λf6 w6 hB k6 T=>wp_cond_true (ag zz T) ?_;refine bn u (λi=>i<7/\i≠2) (λf'=>f' 2=.int .i64 2) rr λA G hB q m=>wp_ret (n hB m ?_);have:fT b.rf b.ch l.E=2:=by rw[fT,dE zz]
    rw[HK,this];rfl
   .refine bn u (· < 7) (λf'=>f' 44=.bool false) rr λf6 w6 hB k6 T=>wp_cond_false (ag zz T) (wp_skip ?_);have e1:=(k6 1 zz).tn e1;have a4:fT b.rf b.ch l.E=nF b.rf b.ch l.E:=by rw[fT,cd zz]
    rw[a4]at HK;refine wp_seq (bn u (λi=>i<7/\i≠5) (λf'=>f' 5=.int .i64 0) rr λA G hB q m=>?_);have e1:=(q 1 zz).tn e1;refine wp_mono (TL x6 zz zz x9 e1 E a8 j.E m hB) λe a w8 y=>?_;rcases y with⟨rfl,N,J,rfl,hB,s⟩|⟨rfl,N,J,rfl,hB,s⟩;rotate_left
    .exact n hB s (by rw[HK,dE N])
    have e1:=s.tn e1;rw[cd (by simp[N])]at HK;refine wp_seq ?_;by_cases b2:4<b.W.n
    .refine bn u (· < 7) (λf'=>f' 91=.bool true) rr λf9 w9 hB k9 U=>wp_cond_true (ag zz U) ?_;refine bn u (λi=>i<7/\i≠2) (λf'=>f' 2=.int .i64 2) rr λA G hB q m=>wp_ret (n hB m ?_);rw[HK,ki,dE zz]
    .refine bn u (· < 7) (λf'=>f' 91=.bool false) rr λf9 w9 hB k9 U=>wp_cond_false (ag zz U) (wp_skip ?_);have e1:=(k9 1 zz).tn e1;rw[ki,cd zz,<- O]at HK;refine wp_seq (bn u (λi=>i<7/\i≠6) (λf'=>f' 6=.int .i64 0) rr λA G hB q m=>?_);have e1:=(q 1 zz).tn e1;refine wp_mono (TM x zz zz zz e1 E a9 j.W m hB) λe a w8 y=>?_;rcases y with⟨rfl,Z,J,rfl,hB,s⟩|⟨rfl,Z,J,rfl,hB,s⟩;rotate_left
     .exact n hB s HK
     refine bn u (λi=>i<7/\i≠2) (λf'=>f' 2=.int .i64 0) rr λA G hB q m=>wp_ret (n hB m ?_);rw[HK,Z]
variable{t:Nat}
def MN(v:M)(o:∀w',S w'->(Hn (fa n f).eval oi).run F w'=.ok (.value v) w')(a:S w)(h:wpAnyL F md ops (aR R) S late k (L.setIfInBounds i true) (fa n (ah f d v)) w)
  (hi:ops[i]?=Y oi:=by rfl)(b:oi.dst=Y d:=by rfl)(m:Region.wanted oi (aw ops (fa n f).tmps)=true:=by exact bY rfl)(g:d<n:=by omega)(l:Region.noSelect ops=true:=by kernel_rfl)(c:Region.free md ops L i=true:=by kernel_rfl)(j:(Region.ready md ops L).contains i=true:=by kernel_rfl)(e:nN md ops late i=true:=by kernel_rfl):wpAnyL F md ops (aR R) S late (k+1) L (fa n f) w:=tV v hi b g m l c j e o a h
def aaN(v:M)(m:Region.wanted oi (aw ops (fa n f).tmps)=true)(o:∀w',S w'->(Hn (fa n f).eval oi).run F w'=.ok (.value v) w')(a:S w)(h:wpAnyL F md ops (aR R) S late k (L.setIfInBounds i true) (fa n (ah f d v)) w)
  (hi:ops[i]?=Y oi:=by rfl)(b:oi.dst=Y d:=by rfl)(g:d<n:=by omega)(l:Region.noSelect ops=true:=by kernel_rfl)(c:Region.free md ops L i=true:=by kernel_rfl)(j:(Region.ready md ops L).contains i=true:=by kernel_rfl)(e:nN md ops late i=true:=by kernel_rfl):wpAnyL F md ops (aR R) S late (k+1) L (fa n f) w:=tV v hi b g m l c j e o a h
def aaM{v:M}(e:f t=v)(h:t<n:=by omega):(fa n f).eval (.tmp t)=v:=ag h e
theorem ek(b:aC)(q:2<=b.rf)(r:b.rf<=30)(s:2<=b.rh)(t:b.rh<=60)(u:1<=b.ch)(v:b.ch<=60)(h:Nat)(a:Int)(s1: -1<=a)(s2:a<=1)(E:List (Int×Int))(z:h<E.length)
  (l: -30<=(E.getD h (0,0)).1)(m:(E.getD h (0,0)).1<=30)(n:0<=(E.getD h (0,0)).2)(o:(E.getD h (0,0)).2<=60)(d:(E.getD h (0,0)).2<b.rh)(w:H)(C:bp w b.E E):
  PH F 58 #[b.v,.int .i64 h,.int .i64 a] w λe w'=>e=.returned (.int .i64 (vY b (E.getD h (0,0)) a))/\X w w w':=by
 obtain⟨S,D,L,lo,hi,⟨G,K,J⟩,rf,rh,cf,ch,⟨Q,T,R⟩,⟨N,P,O⟩,⟨U,W,V⟩⟩:=b;obtain⟨k,hc,a2,c⟩:=C;simp only[aC.v]at k hc c q r s t u v d|-;subst k;obtain⟨f,off,rfl,a1,j⟩:=c zz;obtain⟨g,i⟩:=j h z;clear j c;generalize E.getD h (0,0)=p at l m n o d g i|-;obtain⟨x,y⟩:=p;simp only at l m n o d g i;have e1:f<w.heap.size+1:=zz;have Z:f<w.heap.size+2:=zz;obtain⟨m1,m2⟩:=sR (x:=x) (y:=rh-y) (A:=30) (B:=60) zz zz zz;obtain⟨m3,m4⟩:=sR (x:=a) (y:=rf) (A:=1) (B:=30) zz zz zz;obtain⟨m5,m6⟩:=sR (x:=a*rf-x) (y:=ch-y) (A:=60) (B:=60) zz zz zz;go_enter Tryz.func58,Tryz.ntmps58;go_wp2;all_goals go_ret
 all_goals refine⟨aW ?_,by exact bt⟩
 all_goals simp only[vY,nJ,I6]
 all_goals
  congr 1;omega
theorem Iv(b:aC)(n:Int)(a:b.E.n<=1000)(w:H):
  PH F 57 #[b.v,.int .i64 n] w λe w'=>e=.returned (.bool (ax n 0 (b.E.n-1)))/\X w w w':=by
 have å:=0;exact ZU
variable{x y uB:Int}{p:Bool}
def lS:Ly:=match Tryz.f17.body with|some c=>c|_=>.skip
def TN:Array Kp:=match lS with|.seq (.region _ ops _) _=>ops|_=> #[]
def TO:Array Kp:=match lS with|.seq _ (.seq (.seq (.region _ ops _) _) _)=>ops|_=> #[]
def TP:Array Kp:=match lS with|.seq _ (.seq (.seq _ (.seq (.region _ ops _) _)) _)=>ops|_=> #[]
def TQ:Array Kp:=match lS with|.seq _ (.seq (.seq _ (.seq _ (.cond _ (.seq (.region _ ops _) _) _))) _)=>ops|_=> #[]
def TS:Array Kp:=match lS with|.seq _ (.seq _ (.seq (.seq (.region _ ops _) _) _))=>ops|_=> #[]
def TT:Array Kp:=match lS with|.seq _ (.seq _ (.seq (.seq _ (.cond _ (.seq (.region _ ops _) _) _)) _))=>ops|_=> #[]
def Up:Array Kp:=match lS with|.seq _ (.seq _ (.seq _ (.seq (.region _ ops _) _)))=>ops|_=> #[]
def Cf:lS=.seq (.region 0 TN false) (.seq (.seq (.region 1 TO false) (.seq (.region 2 TP false) (.cond (.tmp 11) (.seq (.region 3 TQ false) (.ret)) (.skip)))) (.seq (.seq (.region 4 TS false) (.cond (.tmp 16) (.seq (.region 5 TT false) (.ret)) (.skip))) (.seq (.region 6 Up true) (.ret)))):=rfl
def aaK(o:f 1=k)(h2:f 2=(g,0))(n:g<u)(r:aK u g 31 b)(x8:u (g,8)=Y (.int .i64 b.cf))(hc:∀a,X u u a->PH F 58 #[b.v,.int .i64 k,.int .i64 (-1)] a λe m=>e=.returned (.int .i64 x)/\X a a m)(hc2:∀a,X u u a->PH F 58 #[b.v,.int .i64 k,.int .i64 1] a λe m=>e=.returned (.int .i64 y)/\X a a m)(hp:decide (b.cf<x)=p)(hq:decide (b.cf<y)=q)(hB:X u u w):Ly.wp F (.region 6 Up true) (aR (Rs 31 u f (λi=>i<4) λf'=>(f' 4,f' 5,f' 6)=(.bool p,.bool q,.int .i64 0))) (fa 31 f) w:=xbD
def mO(b:aC)(l:bN)(a:Int):Bool×Bool×Int:=
 if ay b l≠0 then(false,false,ay b l)else if ax a 0 (b.E.n-1)=false then(false,false,6)else(decide (b.cf<vY b (l.E.getD a.toNat (0,0)) (-1)),decide (b.cf<vY b (l.E.getD a.toNat (0,0)) 1),0)
def Uq{f:Nat->M}{r q:Bool}{x:Int}{w:H}(h:f 4=r)(c:f 5=q)(h2:f 6=x):(results Tryz.f17 (fa 31 f).tmps).run F w=.ok (.tuple #[.bool r,.bool q,.int .i64 x]) w:=by
 have e:(fa 31 f).tmps[4]?=Y (.bool r):=by rw[ej zz,h]
 have a:(fa 31 f).tmps[5]?=Y (.bool q):=by rw[ej zz,c]
 have b:(fa 31 f).tmps[6]?=Y (.int .i64 x):=by rw[ej zz,h2]
 generalize(fa 31 f).tmps=A at e a b;unfold results Tryz.f17;simp[e,a,b]
theorem EP(b:aC)(l:bN)(e:Int)(w:H)(k:aI w b l):
  PH F 17 #[b.v,.int .i64 e] w (Lh (mO b l e) w):=by
 refine gy 31 Tryz.func17 (c:=lS) rfl rfl λf G=>?_;have f0:f 0=b.v:=G _;have U:f 1=e:=G _;clear G;rw[Cf];refine wp_seq (wF (l:=[0,1,2,3]) rfl ?_);refine lV (d:=2) (.pointer (Y ⟨w.heap.size,0,I⟩)) rfl rfl zz wnn (B8 rfl (ag (t:=0) zz f0)) ?_;refine lV (d:=4) (.bool false) rfl rfl zz wnn (bq (.inr rfl) rfl) ?_;refine lV (d:=5) (.bool false) rfl rfl zz wnn (bq (.inr rfl) rfl) ?_;refine lV (d:=6) (.int .i64 0) rfl rfl zz wnn (bq (.inr rfl) rfl) (lE ?_);have s:aK (w.alloc (aE b 31)) w 31 b:=Sp _ _;have o:X w w (w.alloc (aE b 31)):=(X.refl _ _).alloc (dj _) _;have a8:(w.alloc (aE b 31)).heap.size=w.heap.size+1:=aa _ _;have k:=k.below o;have e1:ah (ah (ah (ah f 2 (.pointer (Y (w.heap.size,0)))) 4 (.bool false)) 5 (.bool false)) 6 (.int .i64 0) 1=.int .i64 e:=U;have j:ah (ah (ah (ah f 2 (.pointer (Y (w.heap.size,0)))) 4 (.bool false)) 5 (.bool false)) 6 (.int .i64 0) 2=.pointer (Y (w.heap.size,0)):=rfl;generalize ah (ah (ah (ah f 2 (.pointer (Y ⟨w.heap.size,0,I⟩))) 4 (.bool false)) 5 (.bool false)) 6 (.int .i64 0)=U at e1 j|-;generalize w.alloc (aE b 31)=u at s o a8 k|-;have a2:(w:Nat)<u:=zz;generalize b2:w.heap.size=g at j s a2;have hB:X u u u:=X.refl _ _;have C:∀{f' w'},X u u w'->∀{r q x},(f' 4,f' 5,f' 6)=(.bool r,.bool q,.int .i64 x)->mO b l e=(r,q,x)->bodyPost F Tryz.f17 (Lh (mO b l e) w) .ret (fa 31 f') w':=λhB r q x h m=>by
  rw[m];exact bd (v:=.tuple #[.bool r,.bool q,.int .i64 x]) (Uq (eh (·.1) h) (eh (·.2.1) h) (eh (·.2.2) h)) rfl ⟨rfl,o.tn (hB.mono o.size)⟩
 obtain⟨r,m⟩:∃r,ay b l=r:=⟨_,rfl⟩;have hc:=λa (h:X u.heap.size u a)=>kB (mm b l a (k.below h)) (vI m);refine wp_seq (bn u (λi=>i<7) (λf'=>f' 7=.int .i64 r) rr λf2 w2 hB k2 q2=>?_);have e1:=(k2 1 zz).tn e1;have j:=(k2 2 zz).tn j;clear hc;cases W:(r != 0);rotate_left
 .refine bn u (λi=>i<8) (λf'=>f' 11=.bool true) rr λf3 w3 hB A L=>wp_cond_true (ag zz L) ?_;have e3:=(A 7 zz).tn q2;have a7:r≠0:=by simpa using W
  refine bn u (λi=>i<4) (λf'=>(f' 4,f' 5,f' 6)=(.bool false,.bool false,.int .i64 r)) rr λV w4 hB B n=>wp_ret ?_;exact C hB n (by unfold mO;rw[dE (by rw[m];exact a7),m])
 have K:ay b l=0:=m.tn (by simpa using W);refine bn u (λi=>i<7) (λf'=>f' 11=.bool false) rr λf3 w3 hB A L=>wp_cond_false (ag zz L) (wp_skip ?_);have e1:=(A 1 zz).tn e1;have j:=(A 2 zz).tn j;obtain⟨-, a5, -, a6,-⟩:=bP K;obtain⟨O,P,Q,R,c5,c6,S,T,c9⟩:=wL a5;have b1:=k.E.1;have a0:=k.E.2.2.1;obtain⟨p,z⟩:∃p,ax e 0 (b.E.n-1)=p:=⟨_,rfl⟩;have hc:=λa (_:X u.heap.size u a)=>kB (Iv b e zz a) (vB z);cases p
 .refine wp_seq (bn u (λi=>i<7) (λf'=>f' 16=.bool true) rr λV w4 hB B n=>wp_cond_true (ag zz n) ?_);refine bn u (λi=>i<4) (λf'=>(f' 4,f' 5,f' 6)=(.bool false,.bool false,.int .i64 6)) rr λf5 w5 hB k5 N=>wp_ret ?_;exact C hB N (by unfold mO;rw[cd (by simp[K]),dE z])
 refine wp_seq (bn u (λi=>i<7) (λf'=>f' 16=.bool false) rr λV w4 hB B n=>wp_cond_false (ag zz n) (wp_skip ?_));have e1:=(B 1 zz).tn e1;have j:=(B 2 zz).tn j;clear hc;obtain⟨a9,a'⟩:=cq.1 z;obtain⟨h,rfl⟩:∃h:Nat,e=(h:Int):=⟨e.toNat,zz⟩;have J:h<l.E.length:=zz;obtain⟨q1,b3,a3,a4,b4⟩:=qY a6 h J;obtain⟨x,Z⟩:∃x,vY b (l.E.getD h (0,0)) (-1)=x:=⟨_,rfl⟩;obtain⟨y,a1⟩:∃y,vY b (l.E.getD h (0,0)) 1=y:=⟨_,rfl⟩;have hcon:=λa (E:X u.heap.size u a)=>kB (ek b O P Q R S T h (-1) zz zz l.E J zz zz a3 a4 zz a ((k.below E).E)) (vI Z);have hcon2:=λa (E:X u.heap.size u a)=>kB (ek b O P Q R S T h 1 zz zz l.E J zz zz a3 a4 zz a ((k.below E).E)) (vI a1);obtain⟨x0,x1,x2,x3,x4,x5,x6,x7,x8,x9,b5,b6,b7⟩:=aM s;exact bn u (λi=>i<4) (λf'=>(f' 4,f' 5,f' 6)=(.bool (decide (b.cf<x)),.bool (decide (b.cf<y)),.int .i64 0)) (aaK e1 j a2 s x8 hcon hcon2 rfl rfl hB) λf5 w5 hB k5 N=>wp_ret (C hB N (by
  unfold mO;rw[cd (by simp[K]),cd (by simp[z]),qNB,Z,a1]))
def lR:Ly:=match Tryz.f21.body with|some c=>c|_=>.skip
def Ur:Array Kp:=match lR with|.seq (.region _ ops _) _=>ops|_=> #[]
def Us:Array Kp:=match lR with|.seq _ (.seq (.seq (.region _ ops _) _) _)=>ops|_=> #[]
def Ut:Array Kp:=match lR with|.seq _ (.seq (.seq _ (.seq (.region _ ops _) _)) _)=>ops|_=> #[]
def Uu:Array Kp:=match lR with|.seq _ (.seq (.seq _ (.seq _ (.cond _ (.seq (.region _ ops _) _) _))) _)=>ops|_=> #[]
def Uv:Array Kp:=match lR with|.seq _ (.seq _ (.seq (.region _ ops _) _))=>ops|_=> #[]
def Uw:Array Kp:=match lR with|.seq _ (.seq _ (.seq _ (.seq (.seq (.region _ ops _) _) _)))=>ops|_=> #[]
def qR:Ly:=match lR with|.seq _ (.seq _ (.seq _ (.seq (.seq _ (.block _ (.loop c))) _)))=>c|_=>.skip
def Ux:Array Kp:=match qR with|.seq (.seq (.region _ ops _) _) _=>ops|_=> #[]
def Uy:Array Kp:=match qR with|.seq _ (.seq (.block _ (.region _ ops _)) _)=>ops|_=> #[]
def UC:Array Kp:=match qR with|.seq _ (.seq _ (.region _ ops _))=>ops|_=> #[]
def Vu:Array Kp:=match lR with|.seq _ (.seq _ (.seq _ (.seq _ (.seq (.region _ ops _) _))))=>ops|_=> #[]
def ES:lR=.seq (.region 0 Ur false) (.seq (.seq (.region 1 Us false) (.seq (.region 2 Ut false) (.cond (.tmp 10) (.seq (.region 3 Uu false) (.ret)) (.skip)))) (.seq (.region 4 Uv false) (.seq (.seq (.region 5 Uw false) (.block 0 (.loop qR))) (.seq (.region 9 Vu false) (.ret))))):=rfl
def Iw:qR=.seq (.seq (.region 6 Ux false) (.cond (.tmp 16) (.skip) (.exit 0))) (.seq (.block 1 (.region 8 Uy true)) (.region 7 UC false)):=rfl
def aaL(o:f 1=(g,0))(h5:f 5=uB)(h6:f 6=k)(n:g<u)(r:aK u g 31 b)(hc:∀a,X u u a->PH F 58 #[b.v,.int .i64 k,.int .i64 (-1)] a λe m=>e=.returned (.int .i64 x)/\X a a m)(hc2:∀a,X u u a->PH F 58 #[b.v,.int .i64 k,.int .i64 1] a λe m=>e=.returned (.int .i64 y)/\X a a m)(hB:X u u w):Ly.wp F (.region 8 Uy true) (aR (Rs 28 u f (λi=>i<7/\i≠5) λf'=>f' 5=.int .i64 ((max (max uB x) y)))) (fa 28 f) w:=by
 have æ:=0;exact xbD
def Vv{r x:Int}(h:(f 2,f 3)=(.int .i64 r,.int .i64 x)):(results Tryz.f21 (fa 28 f).tmps).run F w=.ok (.tuple #[.int .i64 r,.int .i64 x]) w:=by
 have e:(fa 28 f).tmps[2]?=Y (.int .i64 r):=by rw[ej zz];rw[show f 2=_ from eh (·.1) h]
 have a:(fa 28 f).tmps[3]?=Y (.int .i64 x):=by rw[ej zz];rw[show f 3=_ from eh (·.2) h]
 generalize(fa 28 f).tmps=A at e a;unfold results Tryz.f21;simp[e,a]
def IA{u w:H}{g:Nat}{b:aC}{l:bN}(s:aK u g 31 b)(a5:ay b l=0)(B:aI u b l)(e1:f 1=(g,0))(L:f 5=(0:Int))(c:f 6=.int .i64 (0:Nat))(hB:X u u w):
  Ly.wp F (.block 0 (.loop qR)) (λe a w'=>e=.normal/\∃f',a=fa 28 f'/\X u u w'/\f' 5=.int .i64 (qG b 0 l.E)) (fa 28 f) w:=by
 have ø:=0;exact ZM
theorem r7(b:aC)(l:bN)(w:H)(k:aI w b l):
  PH F 21 #[b.v] w (Tl (ve b l) w):=by
 refine gy 28 Tryz.func21 (c:=lR) rfl rfl λf A=>?_;have f0:f 0=b.v:=A _;clear A;rw[ES];refine wp_seq (wF (l:=[0,1,2]) rfl ?_);refine lV (d:=1) (.pointer (Y ⟨w.heap.size,0,I⟩)) rfl rfl zz wnn (B8 rfl (ag (t:=0) zz f0)) ?_;refine lV (d:=2) (.int .i64 0) rfl rfl zz wnn (bq (.inr rfl) rfl) ?_;refine lV (d:=3) (.int .i64 0) rfl rfl zz wnn (bq (.inr rfl) rfl) (lE ?_);have n:aK (w.alloc (aE b 31)) w 31 b:=Sp _ _;have m:X w w (w.alloc (aE b 31)):=(X.refl _ _).alloc (dj _) _;have O:(w.alloc (aE b 31)).heap.size=w.heap.size+1:=aa _ _;have k:=k.below m;have e1:ah (ah (ah f 1 (.pointer (Y (w.heap.size,0)))) 2 (.int .i64 0)) 3 (.int .i64 0) 1=.pointer (Y (w.heap.size,0)):=rfl;generalize ah (ah (ah f 1 (.pointer (Y ⟨w.heap.size,0,I⟩))) 2 (.int .i64 0)) 3 (.int .i64 0)=Z at e1|-;generalize w.alloc (aE b 31)=u at n m O k|-;have Q:(w:Nat)<u:=zz;generalize L:w.heap.size=g at e1 n Q;have hB:X u u u:=X.refl _ _;have y:∀{f' w'},X u u w'->∀{r x},(f' 2,f' 3)=(.int .i64 r,.int .i64 x)->ve b l=(r,x)->bodyPost F Tryz.f21 (Tl (ve b l) w) .ret (fa 28 f') w':=λhB r x h j=>by
  rw[j];exact bd (v:=.tuple #[.int .i64 r,.int .i64 x]) (Vv h) rfl ⟨rfl,L▸m.tn (hB.mono m.size)⟩
 obtain⟨r,j⟩:∃r,ay b l=r:=⟨_,rfl⟩;have hc:=λG (h:X u.heap.size u G)=>kB (mm b l G (k.below h)) (vI j);refine wp_seq (bn u (λi=>i<4) (λf'=>f' 4=.int .i64 r) rr λf2 w2 hB P R=>?_);have e1:=(P 1 zz).tn e1;clear hc;cases z:(r != 0);rotate_left
 .refine bn u (λi=>i<5) (λf'=>f' 10=.bool true) rr λf3 U hB o p=>wp_cond_true (ag zz p) ?_;have W:=(o 4 zz).tn R;have N:r≠0:=by simpa using z
  refine bn u (λi=>i<2) (λf'=>(f' 2,f' 3)=(.int .i64 0,.int .i64 r)) rr λJ V hB C q=>wp_ret ?_;exact y hB q (by unfold ve;rw[dE (by rw[j];exact N),j])
 have B:ay b l=0:=j.tn (by simpa using z);refine bn u (λi=>i<4) (λf'=>f' 10=.bool false) rr λf3 U hB o p=>wp_cond_false (ag zz p) (wp_skip ?_);have e1:=(o 1 zz).tn e1;refine bn u (λi=>i<4) (λf'=>f' 5=.int .i64 0) rr λJ V hB C q=>?_;have e1:=(C 1 zz).tn e1;refine wp_seq (bn u (λi=>i<6) (λf'=>f' 6=.int .i64 0) rr λf5 w5 hB E S=>?_);have e1:=(E 1 zz).tn e1;have s:=(E 5 zz).tn q;refine wp_mono (IA n B k e1 s S hB) λe a w6 K=>?_;obtain⟨rfl,f6,rfl,hB,s⟩:=K;exact bn u (λi=>i<2) (λf'=>(f' 2,f' 3)=(.int .i64 (qG b 0 l.E),.int .i64 0)) rr λf7 w7 hB k7 T=>wp_ret (y hB T (by unfold ve;rw[cd (by simp[B])]))
variable{A:Option Addr}{l:bN}
def eC:Ly:=match Tryz.f19.body with|some c=>c|_=>.skip
def Vw:Array Kp:=match eC with|.seq (.region _ ops _) _=>ops|_=> #[]
def Vx:Array Kp:=match eC with|.seq _ (.seq (.seq (.region _ ops _) _) _)=>ops|_=> #[]
def Vy:Array Kp:=match eC with|.seq _ (.seq (.seq _ (.seq (.region _ ops _) _)) _)=>ops|_=> #[]
def Vz:Array Kp:=match eC with|.seq _ (.seq (.seq _ (.seq _ (.cond _ (.seq (.region _ ops _) _) _))) _)=>ops|_=> #[]
def VA:Array Kp:=match eC with|.seq _ (.seq _ (.seq (.region _ ops _) _))=>ops|_=> #[]
def VB:Array Kp:=match eC with|.seq _ (.seq _ (.seq _ (.seq (.region _ ops _) _)))=>ops|_=> #[]
def VC:Array Kp:=match eC with|.seq _ (.seq _ (.seq _ (.seq _ (.seq (.seq (.region _ ops _) _) _))))=>ops|_=> #[]
def pK:Ly:=match eC with|.seq _ (.seq _ (.seq _ (.seq _ (.seq (.seq _ (.block _ (.loop c))) _))))=>c|_=>.skip
def Xq:Array Kp:=match pK with|.seq (.seq (.region _ ops _) _) _=>ops|_=> #[]
def Qt:Array Kp:=match pK with|.seq _ (.seq (.block _ (.seq (.region _ ops _) _)) _)=>ops|_=> #[]
def IB:Array Kp:=match pK with|.seq _ (.seq (.block _ (.seq _ (.cond _ (.seq (.region _ ops _) _) _))) _)=>ops|_=> #[]
def JF:Array Kp:=match pK with|.seq _ (.seq (.block _ (.seq _ (.cond _ (.seq _ (.seq (.region _ ops _) _)) _))) _)=>ops|_=> #[]
def QC:Array Kp:=match pK with|.seq _ (.seq (.block _ (.seq _ (.cond _ (.seq _ (.seq _ (.cond _ (.region _ ops _) _))) _))) _)=>ops|_=> #[]
def Xr:Array Kp:=match pK with|.seq _ (.seq _ (.region _ ops _))=>ops|_=> #[]
def QD:Array Kp:=match eC with|.seq _ (.seq _ (.seq _ (.seq _ (.seq _ (.seq (.region _ ops _) _)))))=>ops|_=> #[]
def E3:eC=.seq (.region 0 Vw false) (.seq (.seq (.region 1 Vx false) (.seq (.region 2 Vy false) (.cond (.tmp 12) (.seq (.region 3 Vz false) (.ret)) (.skip)))) (.seq (.region 4 VA false) (.seq (.region 5 VB false) (.seq (.seq (.region 6 VC false) (.block 0 (.loop pK))) (.seq (.region 13 QD false) (.ret)))))):=rfl
def JG:pK=.seq (.seq (.region 7 Xq false) (.cond (.tmp 18) (.skip) (.exit 0))) (.seq (.block 1 (.seq (.region 9 Qt true) (.cond (.tmp 36) (.seq (.region 10 IB false) (.seq (.region 11 JF true) (.cond (.tmp 57) (.region 12 QC false) (.skip)))) (.skip)))) (.region 8 Xr false)):=rfl
def aaJ(o:f 1=(g,0))(h8:f 8=k)(n:g<u)(r:aK u g 31 b)(x8:u (g,8)=Y (.int .i64 b.cf))(hc:∀a,X u u a->PH F 58 #[b.v,.int .i64 k,.int .i64 (-1)] a λe m=>e=.returned (.int .i64 x)/\X a a m)(hp:decide (b.cf<x)=true)(hB:X u u w):Ly.wp F (.region 9 Qt true) (aR (Rs 61 u f (λi=>i<9) λf'=>f' 36=.bool true)) (fa 61 f) w:=by
 have ø:=0;exact xbD
def aal(o:f 1=(g,0))(h8:f 8=k)(n:g<u)(r:aK u g 31 b)(x8:u (g,8)=Y (.int .i64 b.cf))(hc:∀a,X u u a->PH F 58 #[b.v,.int .i64 k,.int .i64 (-1)] a λe m=>e=.returned (.int .i64 x)/\X a a m)(hp:decide (b.cf<x)=false)(hc2:∀a,X u u a->PH F 58 #[b.v,.int .i64 k,.int .i64 1] a λe m=>e=.returned (.int .i64 y)/\X a a m)(hq:decide (b.cf<y)=q)(hB:X u u w):Ly.wp F (.region 9 Qt true) (aR (Rs 61 u f (λi=>i<9) λf'=>f' 36=.bool q)) (fa 61 f) w:=by
 have å:=0;exact xbD
def Xu{m c:Nat}{r x:Int}(h:(f 2,f 3,f 4)=(.slice A m c,.int .i64 r,.int .i64 x)):(results Tryz.f19 (fa 61 f).tmps).run F w=.ok (.tuple #[.slice A m c,.int .i64 r,.int .i64 x]) w:=by
 have e:(fa 61 f).tmps[2]?=Y (.slice A m c):=by rw[ej zz,show f 2=_ from eh (·.1) h]
 have a:(fa 61 f).tmps[3]?=Y (.int .i64 r):=by rw[ej zz,show f 3=_ from eh (·.2.1) h]
 have b:(fa 61 f).tmps[4]?=Y (.int .i64 x):=by rw[ej zz,show f 4=_ from eh (·.2.2) h]
 generalize(fa 61 f).tmps=A at e a b;unfold results Tryz.f19;simp[e,a,b]
theorem JH{Z:ae->M}{o:Kp}{x:ae}{a:Int}(b:o.op=.buildSlice 24 1 #[(0,x)])(c:Z x=.int .i64 a):(Hn Z o).run F w=.ok (.value (.slice (Y (w.heap.size,0)) 1 1)) (w.alloc (.cells #[.int .i64 a] 3)):=by
 unfold Hn;simp only[b,c,zM];go_simp
theorem J9{cv k B:Nat}{L:List Int}{Q:Exit->Act->H->Prop}(u:L.length<=1000)(b:w.ownsRow B 3 1 (.slice A L.length cv) L.length (L.map (M.int .i64)))(hB:B<=w.heap.size)(g:f 6=.slice A L.length cv)(h:f 8=k)
  (next:∀f' w' a c',(∀i,i<9->i≠6->f' i=f i)->f' 6=.slice a (L++[(k:Int)]).length c'->w'.ownsRow B 3 1 (.slice a (L++[(k:Int)]).length c') (L++[(k:Int)]).length ((L++[(k:Int)]).map (M.int .i64))->X B w w'->Q .normal (fa 61 f') w'):
  Ly.wp F (.region 10 IB false) Q (fa 61 f) w:=by
 obtain⟨i0,hi,r,o,j⟩:=info_parts vD;refine wF (l:=[0,1,2,3,4]) rfl ?_;refine lV (d:=37) (.slice A L.length cv) rfl rfl zz wnn (bq (.inl rfl) (ag zz g)) ?_;refine lV (d:=38) (.int .i64 k) rfl rfl zz wnn (bq (.inl rfl) (ag zz (nt h))) ?_;refine lV (d:=39) (.slice (Y ⟨w.heap.size,0,I⟩) 1 1) rfl rfl zz wnn (JH rfl (ag zz (au _ _ _))) ?_;rw[wpOps_cons];refine W6 (d:=40) (t:=24) (e:=3) (B:=B) (z:=.int .i64 0) (size:=1) (bytes:=8) rfl rfl kr hi r o j rfl zz (ft rfl) (b.alloc _) (ft rfl) (Sp _ _) rfl (by simp[M.oneCell']) (by unfold maxLen;omega) zz (by rw[aa];omega) rfl zz rfl (λv' w' c s v=>?_);obtain⟨a,c',p⟩:=tK c;subst p;refine lV (d:=6) (.slice a (L.length+1) c') rfl rfl zz wnn (bq (.inr rfl) (ag zz (au _ _ _))) (lE ?_);refine next _ w' a c' (λi hi m=>(cu _ _ m).tn (nk)) ((au _ _ _).tn ss) (by simpa using c) ?_;exact((X.refl _ _).alloc hB _).grown s (by rw[aa];omega) (λq n=>(b.lt q n).1)
def MM(e:ay b l=0)(hk:k<l.E.length){x y:Int}(f:vY b (l.E.getD k (0,0)) (-1)=x)(g:vY b (l.E.getD k (0,0)) 1=y):Ve b (l.E.getD k (0,0))=(decide (b.cf<x)||decide (b.cf<y)):=by
 obtain⟨-, c, -, d,-⟩:=bP e;obtain⟨m,n,o,p,q,r,s,t,a⟩:=wL c;obtain⟨h,i,u,v,j⟩:=qY d k hk;subst f g;rw[Bool.eq_iff_iff,MP a ⟨h,i,j⟩,nd,decide_eq_true_iff,decide_eq_true_iff]
def pL(u:H)(g:Nat)(b:aC)(l:bN)(k:Nat)(f:Nat->M)(w:H):Prop:=
 ∃A a,f 1=(g,0)/\f 6=.slice A (kL b l.E k).1.length a/\f 7=.int .i64 (kL b l.E k).2/\f 8=k/\X u u w/\w.ownsRow u.heap.size 3 1 (.slice A (kL b l.E k).1.length a) (kL b l.E k).1.length ((kL b l.E k).1.map (M.int .i64))
def MZ{U W:H}{g:Nat}(s:aK U g 31 b)(a5:ay b l=0)(B:aI U b l)(a1:pL U g b l 0 f W):
  Ly.wp F (.block 0 (.loop pK)) (λe a w'=>e=.normal/\∃f',a=fa 61 f'/\pL U g b l l.E.length f' w') (fa 61 f) W:=by
 have å:=0;exact ZM
theorem E5(b:aC)(l:bN)(w:H)(o:aI w b l):
  PH F 19 #[b.v] w (EN (AU b l) w):=by
 refine gy 61 Tryz.func19 (c:=eC) rfl rfl λf N=>?_;have f0:f 0=b.v:=N _;clear N;rw[E3];refine wp_seq (wF (l:=[0,1,2,3]) rfl ?_);refine lV (d:=1) (.pointer (Y ⟨w.heap.size,0,I⟩)) rfl rfl zz wnn (B8 rfl (ag (t:=0) zz f0)) ?_;refine lV (d:=2) (.slice I 0 0) rfl rfl zz wnn (bq (.inr rfl) rfl) ?_;refine lV (d:=3) (.int .i64 0) rfl rfl zz wnn (bq (.inr rfl) rfl) ?_;refine lV (d:=4) (.int .i64 0) rfl rfl zz wnn (bq (.inr rfl) rfl) (lE ?_);have y:aK (w.alloc (aE b 31)) w 31 b:=Sp _ _;have p:X w w (w.alloc (aE b 31)):=(X.refl _ _).alloc (dj _) _;have a5:(w.alloc (aE b 31)).heap.size=w.heap.size+1:=aa _ _;have o:=o.below p;have e1:ah (ah (ah (ah f 1 (.pointer (Y (w.heap.size,0)))) 2 (.slice I 0 0)) 3 (.int .i64 0)) 4 (.int .i64 0) 1=.pointer (Y (w.heap.size,0)):=rfl;generalize ah (ah (ah (ah f 1 (.pointer (Y ⟨w.heap.size,0,I⟩))) 2 (.slice I 0 0)) 3 (.int .i64 0)) 4 (.int .i64 0)=f1 at e1|-;generalize w.alloc (aE b 31)=u at y p a5 o|-;have a6:(w:Nat)<u:=zz;generalize O:w.heap.size=g at e1 y a6;have hB:X u u u:=X.refl _ _;have J:∀{f' w'},X u u w'->∀{A m c r x},(f' 2,f' 3,f' 4)=(.slice A m c,.int .i64 r,.int .i64 x)->∀{L:List Int},m=L.length->AU b l=(L,r,x)->w'.ownsRow u 3 1 (.slice A m c) m (L.map (M.int .i64))->bodyPost F Tryz.f19 (EN (AU b l) w) .ret (fa 61 f') w':=λ{f' w'} hB {A m c r x} h {L} a3 k q=>by
  subst a3;rw[k];exact bd (v:=.tuple #[.slice A L.length c,.int .i64 r,.int .i64 x]) (Xu h) rfl ⟨A,c,rfl,dy (by rw[O];omega) q,O▸p.tn (hB.mono p.size)⟩
 obtain⟨r,k⟩:∃r,ay b l=r:=⟨_,rfl⟩;have hc:=λT (h:X u.heap.size u T)=>kB (mm b l T (o.below h)) (vI k);refine wp_seq (bn u (λi=>i<5) (λf'=>f' 5=.int .i64 r) rr λf2 w2 hB k2 q2=>?_);have e1:=(k2 1 zz).tn e1;clear hc;cases K:(r != 0);rotate_left
 .refine bn u (λi=>i<6) (λf'=>f' 12=.bool true) rr λf3 w3 hB z C=>wp_cond_true (ag zz C) ?_;have e5:=(z 5 zz).tn q2;have a4:r≠0:=by simpa using K
  refine bn u (λi=>i<2) (λf'=>(f' 2,f' 3,f' 4)=(.slice I 0 0,.int .i64 0,.int .i64 r)) rr λW w4 hB Q q4=>wp_ret ?_;exact J hB q4 (L:=[]) rfl (by unfold AU;rw[dE (by rw[k];exact a4),k]) (H.ownsRow_nil _ _ _ _)
 have P:ay b l=0:=k.tn (by simpa using K);refine bn u (λi=>i<5) (λf'=>f' 12=.bool false) rr λf3 w3 hB z C=>wp_cond_false (ag zz C) (wp_skip ?_);have e1:=(z 1 zz).tn e1;refine bn u (λi=>i<5) (λf'=>f' 6=.slice I 0 0) rr λW w4 hB Q j=>?_;have e1:=(Q 1 zz).tn e1;refine bn u (λi=>i<7) (λf'=>f' 7=.int .i64 (-1)) rr λf5 w5 hB S n=>?_;have e1:=(S 1 zz).tn e1;have j:=(S 6 zz).tn j;refine wp_seq (bn u (λi=>i<8) (λf'=>f' 8=.int .i64 0) rr λf6 w6 hB B G=>?_);have e1:=(B 1 zz).tn e1;have j:=(B 6 zz).tn j;have n:=(B 7 zz).tn n;refine wp_mono (MZ y P o ⟨I,0,e1,j,n,G,hB,H.ownsRow_nil _ _ _ _⟩) λe a s a2=>?_;obtain⟨rfl,f7,rfl,A,V,e1,j,n,G,hB,q⟩:=a2;generalize Z:(kL b l.E l.E.length).1.length=U at j q;generalize a1:(kL b l.E l.E.length).2=R at n;have E:=hB;have hB:X s s s:=X.refl _ _;exact bn s (λi=>i<2) (λf'=>(f' 2,f' 3,f' 4)=(.slice A U V,.int .i64 R,.int .i64 0)) rr λf8 w8 hB k8 q8=>wp_ret (J (E.tn (hB.mono E.size)) q8 Z.symm (by unfold AU;rw[cd (by simp[P]),a1]) (rK q hB))
end Go.Proofs.YtfcgpihkimpkcaaGreatDoor
