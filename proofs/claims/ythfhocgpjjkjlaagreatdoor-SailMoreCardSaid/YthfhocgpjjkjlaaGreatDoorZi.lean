import Derived.Test.YthfhocgpjjkjlaaGreatDoorZh
import Derived.Test.YthfhocgpjjkjlaaGreatDoorChecked
import Derived.WalkKit
import Derived.WalkSpells
import Derived.WalkLawsBesides
import Derived.Lib.Hide
import Derived.Deep.QuietTactic
import Derived.BigQuiet
import Derived.IntWalk
import Derived.BigRegion
import Derived.RegionTactic
set_option maxRecDepth 100000
set_option maxHeartbeats 4000000
set_option linter.all false
noncomputable section
open Go.Proofs.Tryz renaming prog->F
open Go renaming World->H,Frame->Kf,TypeId->Lk,stepG->Lq,Value->M,Calls->PH,Program->Ps,Goroutine->QP,heap_alloc_old->QR,heap_alloc_new->Sp,FuncId->ba,bodyPost_ret->bd
open Go.RowKit renaming Below->Hd,Hid->PQ,Below->X
open Go.Lib renaming hid->Hm
open Option renaming none->I,some->Y
namespace Go.Co
open Go.Conc
variable{b j:Nat}{x:Nat×Nat×Nat}{P:Ps}{main:Bool}{Stop:(Nat->Prop)->(Nat->Prop)->QP->H->Prop}{T:P3}{V:Nat->Prop}{e0:Lk}{w:H}{ws:List (Nat×Nat×Nat)}
section
variable{hB:Base T V w e0}
def sr(V:Nat->Prop)(w:H)(x:Nat×Nat×Nat):Prop:=V x.1/\∃c e z,w.heap[x.1]?=Y (.cells c e z)/\∀j,j<x.2.2->∃v,c[x.2.1+j]?=Y v/\jU v
def R9(w:H)(x:Nat×Nat×Nat):Obj:=match w.heap[x.1]? with|some (.cells c e _)=>.cells (c.extract x.2.1 (x.2.1+x.2.2)) e (0,x.2.2)|_=>.cells #[] 0 (0,0)
def wK(T:P3)(V:Nat->Prop)(e0:Lk)(w:H)(ws:List (Nat×Nat×Nat)):H:= {gw T V e0 w with heap:=(gw T V e0 w).heap++(ws.map (R9 w)).toArray}
def qf:(wK T V e0 w ws).heap.size=w.heap.size+ws.length:=by simp[wK,dW]
def IX(h:b<w):(wK T V e0 w ws).heap[b]?=(gw T V e0 w).heap[b]?:=by
 unfold wK;dsimp only;rw[qRB (by rw[dW];exact h)]
def IY(h:ws[j]?=Y x):(wK T V e0 w ws).heap[w.heap.size+j]?=Y (R9 w x):=by
 unfold wK;dsimp only;rw[qSB (by rw[dW];omega),dW];simp[h]
def IZ{c:Array M}{e:Lk}{z:Nat×Nat}(h:w.heap[x.1]?=Y (.cells c e z)):R9 w x=.cells (c.extract x.2.1 (x.2.1+x.2.2)) e (0,x.2.2):=by
 unfold R9;rw[h]
def Bj(hB:Base T V w e0)(ws:List (Nat×Nat×Nat)):Ren:=
 {tO:=λb=>if b<w.heap.size then(gr hB) b else(ws[b-w.heap.size]?).map λx=>(x.1,x.2.1)
  cls:=λ_=>false
  tab:=T
  glob:=λg c=>⟨by
   have d:=hB.glob g c;subst d;have a:=hB.shown.lt;rw[qWB a];exact mH hB.shown,rfl⟩}
def Bl(h:b<w):(Bj hB ws) b=(gr hB) b:=qWB h
def I0(h:ws[j]?=Y x):(Bj hB ws) (w.heap.size+j)=Y (x.1,x.2.1):=by
 show(if w.heap.size+j<w.heap.size then _ else _)=_;rw[qVB zz,Nat.add_sub_cancel_left,h];rfl
def NT:(gr hB).le (Bj hB ws):=⟨λb x a=>(Bl (qb a).1).tn a,λ_ _ _=>rfl,rfl⟩
def qW{x:Nat×Nat}(a:(Bj hB ws) b=Y x):(b<w.heap.size/\(gr hB) b=Y x)\/∃j y,b=w.heap.size+j/\ws[j]?=Y y/\x=(y.1,y.2.1):=by
 by_cases h:b<w.heap.size
 .exact .inl ⟨h,(Bl h).symm.tn a⟩
 .right;have c:(if b<w.heap.size then(gr hB) b else(ws[b-w.heap.size]?).map λx=>(x.1,x.2.1))=Y x:=a;rw[qVB h]at c;obtain⟨y,d,h2⟩:=Option.map_eq_some_iff.1 c;exact⟨b-w.heap.size,y,zz,d,h2.symm⟩
def Sa(C:∀x∈ws,sr V w x):Mem T P (Bj hB ws) (w.heap.size+ws.length) (wK T V e0 w ws) w:=by
 have r:=NR (P:=P) (hB:=hB);have g:∀{j:Nat} {y:Nat×Nat×Nat},ws[j]?=Y y->sr V w y/\j<ws.length:=λh=>⟨C _ (List.mem_of_getElem? h),(List.getElem?_eq_some_iff.1 h).1⟩;refine⟨λb x a=>?_,λb n s a=>?_,by rw[qf];exact qN _,λb n s G a=>?_,λb o d=>?_,rfl⟩
 .rw[qf];rcases qW a with⟨h,-⟩|⟨j,y,rfl,h,-⟩
  .omega
  .have:=(g h).2;omega
 .rcases qW a with⟨-, h⟩|⟨j,y, -, h,e⟩
  .exact r.cod _ _ _ h
  .cases e;obtain⟨-, c,e,z,hc,-⟩:=(g h).1;exact(ec.1 hc).1
 .rcases qW a with⟨h,-⟩|⟨j,y,rfl,h,-⟩
  .omega
  .have:=(g h).2;omega
 .by_cases m:b<w.heap.size
  .rw[IX m]at d;obtain⟨n,s,E,p,h2,f,q⟩:=r.hr b o d;refine⟨n,s,E,(Bl m).tn p,h2,f.mono NT,λ_=>(q m).mono NT⟩
  .have a:=(ec.1 d).1;rw[qf]at a;obtain⟨j,rfl⟩:∃j,b=w.heap.size+j:=⟨b-w.heap.size,zz⟩;have k:=iv (l:=ws) (i:=j) zz;rw[IY k]at d;obtain⟨t,-⟩:=g k;generalize ws[j]=x at k d t;obtain⟨-, c,e,z,hc,B⟩:=t;rw[IZ hc]at d;cases d;have A:(c.extract x.2.1 (x.2.1+x.2.2)).size<=x.2.2:=by simp;omega
   have u:∀i v,(c.extract x.2.1 (x.2.1+x.2.2))[i]?=Y v->i<x.2.2/\c[i+x.2.1]?=Y v:=λi v hi=>by
    have m:=(ec.1 hi).1;refine⟨zz,?_⟩;rw[Array.getElem?_extract]at hi;split at hi
    .rw[Nat.add_comm];exact hi
    .cases hi
   refine⟨x.1,x.2.1,_,I0 k,hc,.plain (.cells (λi v hi=>?_) λi hi _ _=>⟨qT _,zz⟩),λ_=>.inl ⟨_,e,_,rfl,A⟩⟩;obtain⟨p,h2⟩:=u i v hi;obtain⟨v',f,q⟩:=B i p;rw[Nat.add_comm]at f;rw[h2]at f;cases f;exact⟨v,h2,q _⟩
def Sc{O:Nat->Prop}(g:∀x∈ws,sr V w x)(d:∀b,V b->b<w.heap.size):ir T P (w.heap.size+ws.length) V O w (Bj hB ws) (Bj hB ws) (wK T V e0 w ws) w V O:=by
 have f:=Sa (P:=P) (hB:=hB) g;have a:=Bi (P:=P) (hB:=hB) (O:=O) d;refine⟨f,.refl _,λb i s c=>?_,λb i s k c=>?_,a.hV,a.hO,d,qN _,rfl,rfl,rfl,λ_ _=>rfl,d⟩
 .rcases qW c with⟨-, h⟩|⟨j,y, -, h,e⟩
  .exact a.see _ _ _ h
  .cases e;exact(g _ (List.mem_of_getElem? h)).1
 .have:=f.dom _ _ c;rw[qf]at this;omega
def NU{N:Nat}{ρ0:Ren}{W0:H}{f:ba}{args eQ:Array M}{O0:Nat->Prop}{Rp:Ending->H->Prop}{c:Kf}{cs:List Kf}(z:∀f,T.has f=true->dX T P f=true)(a0:T.has f=true)
  (U:ir T P N V O0 w ρ0 ρ0 W0 w V O0)(a8:W0.drawn=w.drawn)(a4:KR (T.kind f) ρ0 args eQ)
  (hc:∀n,PH P f args (tp W0 n w.drawn) Rp)(a2:∀e W,Rp e W->∃v,e=.returned v)
  (a1:∀Z v a v' bj x O,Rp (.returned v) a->dM Z (T.ret f) v v'->ir T P N V O0 w ρ0 Z a bj x O->WalkE P main Stop x O (G (c.finish v') cs) bj):
  WalkE P main Stop V O0 (G (Kf.enter P f eQ .normal) (c::cs)) w:=by
 let Post:Kf->H->Prop:=λfr W=>fr.fn=f/\∃v,Rp (.returned v) W/\fr.leaving P W (.returned v)
 let s:LS:=⟨Kf.enter P f args .normal,[c0],W0⟩
 have A:oz P false Post s:=by
  intro n;obtain⟨e,a,fr,l,L,j,hl⟩:=hc n [c0];obtain⟨v,rfl⟩:=a2 _ _ l;rw[<- a8]at L;exact⟨n,λ_ _=>rfl,fr,a,steps_iff.1 L,⟨rfl,hl.1,hl.2.1⟩,j,v,l,hl⟩
 have B:=z f a0;have d:Nh T P N [] [] (c::cs,.normal) V O0 w ρ0 ρ0 s (Kf.enter P f eQ .normal) (c::cs) w V O0:=
  ⟨U,.bottom (co:=(c::cs,.normal)) (uG B a4) (by simp[s,Kf.enter]) (by simp[Kf.enter])⟩
 refine(lift (Stop:=λV O g bj=>WalkE P main Stop V O g bj) z (λ_=>rfl) (λZ eI a da bj V O d c4 b7=>?_) (kN A) d A).bind λV O g w h=>h;obtain⟨j,v,l,b6,a7,c5,fn,C,b'⟩:=b7;refine WalkE.step rfl λo b9=>?_;obtain⟨k0,c3,i,a5,-⟩:=d.stk.top;obtain⟨b3,a9, -, c6,b4⟩:=a5 rfl;subst b3 a9;have E:=d.m.rely b9;have b1:dX T P eI.fn=true:=by rw[j];exact B
 rcases K:(results fn eI.tmps).runT P a #[]with⟨r,es⟩;have b8:r=.ok v a:=by
  have:=Sem.runT_fst P (results fn eI.tmps) a #[];rw[K]at this;exact this.tn b'
 subst b8;obtain⟨m,v',b,y,hle,b0,c2,b5,p⟩:=E.mem.step (R:=λm=>dM m (T.ret eI.fn)) (λm hle c7 a3=>Iw a3 C b1 (i.tmps.mono hle)) K (λk q hk=>by have h:k<a.drawn-a.drawn:=hk;omega);have b2:=i.fn;have J:da.mode=.returning:=i.mode.tn b6;have a6:da.defers=[]:=by
  obtain⟨t,Q,h2⟩:=i.defers;rw[a7]at h2;cases h2;rw[Q];rfl
 have c1:Lq P main (G da (c::cs)) o=.go (G (c.finish v') cs) b (seen P da.fn y++#[]):=by
  have e1:Lq P main (G da (c::cs)) o=unwind P main da (c::cs) I o:=by simp only[Lq,G,J]
  rw[e1];simp only[unwind,a6,J,b2,C,b0];have:doReturn P main da (c::cs) I v' b=.go (G (c.finish v') cs) b #[]:=by
   have hk:da.kind=.normal:=b4;simp[doReturn,hk,G]
  rw[this];rfl
 obtain⟨V',u,a',S⟩:=E.next hle b5 (Does.mk p.frm (es:=seen P da.fn y++#[]) (by simpa using gQ p.evs) p.fresh);exact⟨_,b,_,V',u,c1,⟨_,_,rfl⟩,a',a1 m v a v' b V' u l (by rw[<- j];exact c2) S⟩
end
end Go.Co
namespace Go.Proofs.YthfhocgpjjkjlaaGreatDoor
open Go.RowKit
def bR{a b:Bool}(h:a=b):Ending.returned (.bool a)=.returned (.bool b):=by rw[h]
def aW{k:IntKind}{a b:Int}(h:a=b):Ending.returned (.int k a)=.returned (.int k b):=by rw[h]
def ax(n l h:Int):Bool:=decide (l<=n)&&decide (n<=h)
theorem eA(n l h:Int)(w:H):
  PH F 83 #[.int .i64 n,.int .i64 l,.int .i64 h] w λe w'=>e=.returned (.bool (ax n l h))/\w=w':=by
 go_enter Tryz.func83,Tryz.ntmps83;go_wp2;all_goals go_ret
 .exact⟨bR (by simp[ax, *]),rfl⟩
 .exact⟨bR (by simp[ax];omega),rfl⟩
def lF(lo hi l h:Int):Bool:=decide (l<=lo)&&decide (lo<=hi)&&decide (hi<=h)
theorem lG(lo hi l h:Int)(w:H):
  PH F 156 #[.agg #[.int .i64 lo,.int .i64 hi],.int .i64 l,.int .i64 h] w λe w'=>e=.returned (.bool (lF lo hi l h))/\X w w w':=by
 go_enter Tryz.func156,Tryz.ntmps156;go_wp2;all_goals go_ret
 .exact⟨bR (by simp[lF, *]),(X.refl _ _).alloc (qN _) _⟩
 .exact⟨bR (by simp[lF, *];omega),(X.refl _ _).alloc (qN _) _⟩
 .exact⟨bR (by simp[lF, *];omega),(X.refl _ _).alloc (qN _) _⟩
structure Sl where
 A:Option Addr
 n:Nat
 c:Nat
structure aC where
 S:Int
 D:Int
 L:Int
 lo:Int
 hi:Int
 C:Sl
 rf:Int
 rh:Int
 cf:Int
 ch:Int
 U:Sl
 E:Sl
 W:Sl
def aC.v(b:aC):M:=.agg #[.int .i64 b.S,.int .i64 b.D,.int .i64 b.L,.int .i64 b.lo,.int .i64 b.hi,.slice b.C.A b.C.n b.C.c,.int .i64 b.rf,.int .i64 b.rh,.int .i64 b.cf,.int .i64 b.ch,.slice b.U.A b.U.n b.U.c,.slice b.E.A b.E.n b.E.c,.slice b.W.A b.W.n b.W.c]
theorem fB(b:aC)(n:Int)(a: -1000<=b.S)(h2:b.S<=1000)(w:H):
  PH F 50 #[b.v,.int .i64 n] w λe w'=>e=.returned (.bool (ax n 0 (b.S-1)))/\X w w w':=by
 unfold aC.v;go_enter Tryz.func50,Tryz.ntmps50;go_wp2_with ((go_at_call 83;refine(eA _ _ _ _).mono ?_;rintro e w' ⟨rfl,rfl⟩));go_ret;exact⟨rfl,(X.refl _ _).alloc (qN _) _⟩
theorem oE(b:aC)(n:Int)(a:b.U.n<=1000)(w:H):
  PH F 41 #[b.v,.int .i64 n] w λe w'=>e=.returned (.bool (ax n 0 (b.U.n-1)))/\X w w w':=by
 unfold aC.v;go_enter Tryz.func41,Tryz.ntmps41;go_wp2_with ((go_at_call 83;refine(eA _ _ _ _).mono ?_;rintro e w' ⟨rfl,rfl⟩));go_ret;exact⟨rfl,(X.refl _ _).alloc (qN _) _⟩
theorem KW(b:aC)(n:Int)(a:b.E.n<=1000)(w:H):
  PH F 63 #[b.v,.int .i64 n] w λe w'=>e=.returned (.bool (ax n 0 (b.E.n-1)))/\X w w w':=by
 unfold aC.v;go_enter Tryz.func63,Tryz.ntmps63;go_wp2_with ((go_at_call 83;refine(eA _ _ _ _).mono ?_;rintro e w' ⟨rfl,rfl⟩));go_ret;exact⟨rfl,(X.refl _ _).alloc (qN _) _⟩
variable{d:Nat->Bool}{k:Nat}
def tJ(d:Nat->Bool):M:=.agg #[.bool (d 0),.bool (d 1),.bool (d 2),.bool (d 3),.bool (d 4),.bool (d 5),.bool (d 6),.bool (d 7),.bool (d 8),.bool (d 9),.bool (d 10),.bool (d 11)]
def ie(d:Nat->Bool)(k:Nat):List Int:=((List.range k).filter d).map λ(i:Nat)=>(i:Int)
def oG(h:d k=true):ie d (k+1)=ie d k++[(k:Int)]:=by simp[ie,List.range_succ,h]
def mV(h:d k=false):ie d (k+1)=ie d k:=by simp[ie,List.range_succ,h]
def kO(d:Nat->Bool)(k:Nat):(ie d k).length<=k:=by
 simp only[ie,lj];exact qO (nn _ _) ss
def vD:(F.info? 3).map (λi=>(i.zero,i.size,i.bytes))=Y (Y (.int .i64 0),1,8):=by kernel_rfl
def tK{w:H}{B e size n:Nat}{v:M}{xs:List M}(h:w.ownsRow B e size v n xs):∃A c,v=.slice A n c:=by
 rcases h.2 with⟨a,h2⟩|⟨g,b,d,a,_⟩
 .exact⟨I,0,by rw[a,h2]⟩
 .exact⟨_,_,a⟩
def Made(B e:Nat)(l:List M)(a:Ending)(w w':H):Prop:=∃A c,a=.returned (.slice A l.length c)/\w'.ownsRow B e 1 (.slice A l.length c) l.length l/\X B w w'
theorem xQ(d:Nat->Bool)(w:H):
  PH F 34 #[tJ d] w λe w'=>Made w 3 ((ie d 12).map (M.int .i64)) e w w':=by
 obtain⟨i0,hi,t,u,y⟩:=info_parts vD;unfold tJ;go_enter Tryz.func34,Tryz.ntmps34;go_wp2;go_loopw [3,7] (λv i wr=>∃(k:Nat) (a:Option Addr) (b:Nat),k<=12/\i=.int .i64 k/\v=.slice a (ie d k).length b/\wr.ownsRow w.heap.size 3 1 v (ie d k).length ((ie d k).map (M.int .i64))/\X w.heap.size w wr)
  (λ_ i _=>12-(intOf i).toNat)
 case atStart=>exact⟨0,I,0,qT _,rfl,rfl,H.ownsRow_nil _ _ _ _,(X.refl _ _).alloc (qN _) _⟩
 case round=>
  obtain⟨k,a,b,hk,rfl,rfl,g,f⟩:=hrel;have r:=f.size;have z:=kO d k;have j:k<12->∀w:H,(Instr.index 80 (.agg #[.bool (d 0),.bool (d 1),.bool (d 2),.bool (d 3),.bool (d 4),.bool (d 5),.bool (d 6),.bool (d 7),.bool (d 8),.bool (d 9),.bool (d 10),.bool (d 11)]) (.int .i64 k)).run F w=.ok (.bool (d k)) w:=by
   intro hk w;rcases(show k=0\/k=1\/k=2\/k=3\/k=4\/k=5\/k=6\/k=7\/k=8\/k=9\/k=10\/k=11 from zz)with rfl|rfl|rfl|rfl|rfl|rfl|rfl|rfl|rfl|rfl|rfl|rfl<;>kernel_rfl
  by_cases o:k<12
  .have l:=j o;clear j;go_wp2_with (at_builtin;refine wpList_append_own _ rfl _ _ 24 rfl w.heap.size 3 i0 (.int .i64 0) 1 8 Tryz.underlying24 hi t u y rfl dd _ _ _ rfl (g.alloc _) ⟨wr.heap.size,0,I⟩ 1 1 [.int .i64 k] rfl rfl (cell_one_new _ _ _) (λx l=>by simp at l;subst l;rfl) (by unfold maxLen;omega) zz so ?_;intro v' C m n B)
   .have h:d k=true:=by assumption
    have e1:=oG h;go_roundw
    case rel=>
     obtain⟨A,c,s⟩:=tK m;exact⟨k+1,A,c,zz,by go_num,by rw[s,e1];simp,by rw[e1];simpa using m,(f.alloc r _).grown n so (λq p=>(g.lt q p).1)⟩
    case measure=>simp[intOf];omega
   .have h:d k=false:=by assumption
    have e1:=mV h;go_roundw
    case rel=>exact⟨k+1,a,b,zz,by go_num,by rw[e1],by rw[e1];exact g,f⟩
    case measure=>simp[intOf];omega
  .clear j;obtain rfl:k=12:=zz;go_wp2;go_ret;exact⟨a,b,by simp,by simpa using g,f⟩
variable{w wr a:H}{b B i:Nat}{o:Obj}
def eC(w:H)(s:Sl)(l:List Int):Prop:=s.n=l.length/\l.length<=s.c/\l.length<=1000/\(0<l.length->∃b off,s.A=Y ⟨b,off,I⟩/\b<w.heap.size/\∀k,k<l.length->w (b,off+k)=Y (.int .i64 (l.getD k 0)))
def eC.below{w w':H}{s:Sl}{l:List Int}(h:eC w s l)(a:X w w w'):eC w' s l:=
 ⟨h.1,h.2.1,h.2.2.1,λc=>by
  obtain⟨b,off,d,h2,e⟩:=h.2.2.2 c;exact⟨b,off,d,qP h2 a.size,λk hk=>(a.cell (p:=⟨b,off+k,I⟩) h2).tn (e k hk)⟩⟩
def bS(S:Int):Option Int->List Int->Int
 | _,[]=>0
 | p,n::r=>if ax n 0 (S-1)=false then 6 else if(match p with|some x=>decide (n<=x)|none=>false)=true then 7 else bS S (Y n) r
def qh(l:List Int)(k:Nat):Option Int:=if k=0 then I else Y (l.getD (k-1) 0)
def vE(S:Int)(l:List Int)(k:Nat)(hk:k<l.length):bS S (qh l k) (l.drop k)=
  if ax (l.getD k 0) 0 (S-1)=false then 6 else if(decide (0<k)&&decide (l.getD k 0<=l.getD (k-1) 0))=true then 7 else bS S (qh l (k+1)) (l.drop (k+1)):=by
 rw[fx hk];have e:l.getD k 0=l[k]:=by simp[List.getD,iv hk]
 simp only[bS,<- e];rcases ln k with rfl|a
 .simp[qh]
 .have:k≠0:=zz;simp[qh,this,a]
def xR(S:Int)(l:List Int)(p:Option Int):bS S p (l.drop l.length)=0:=by simp[bS]
def aU{W w1:H}(a:X W.heap.size W w1):(∀b o,b<W.heap.size->w1.cell? ⟨b,o,I⟩=W.cell? ⟨b,o,I⟩)/\(∀b o,b<W.heap.size->w1.frozen? ⟨b,o,I⟩=W.frozen? ⟨b,o,I⟩):=
 ⟨λb o h=>a.cell h,λb o h=>a.frozen h⟩
def aE(b:aC)(t:Lk):Obj:=.cells #[.int .i64 b.S,.int .i64 b.D,.int .i64 b.L,.int .i64 b.lo,.int .i64 b.hi,.slice b.C.A b.C.n b.C.c,.int .i64 b.rf,.int .i64 b.rh,.int .i64 b.cf,.int .i64 b.ch,.slice b.U.A b.U.n b.U.c,.slice b.E.A b.E.n b.E.c,.slice b.W.A b.W.n b.W.c] t
abbrev Dg(b:aC):Obj:=aE b 75
def iw{b:aC}{t:Lk}(h:X (w.heap.size+1) (w.alloc (aE b t)) wr):
  wr.cell? ⟨w.heap.size,0,I⟩=Y (.int .i64 b.S)/\wr.cell? ⟨w.heap.size,1,I⟩=Y (.int .i64 b.D)/\wr.cell? ⟨w.heap.size,2,I⟩=Y (.int .i64 b.L)/\wr.cell? ⟨w.heap.size,3,I⟩=Y (.int .i64 b.lo)/\wr.cell? ⟨w.heap.size,4,I⟩=Y (.int .i64 b.hi)/\
  wr.cell? ⟨w.heap.size,5,I⟩=Y (.slice b.C.A b.C.n b.C.c)/\wr.cell? ⟨w.heap.size,6,I⟩=Y (.int .i64 b.rf)/\wr.cell? ⟨w.heap.size,7,I⟩=Y (.int .i64 b.rh)/\wr.cell? ⟨w.heap.size,8,I⟩=Y (.int .i64 b.cf)/\wr.cell? ⟨w.heap.size,9,I⟩=Y (.int .i64 b.ch)/\
  wr.cell? ⟨w.heap.size,10,I⟩=Y (.slice b.U.A b.U.n b.U.c)/\wr.cell? ⟨w.heap.size,11,I⟩=Y (.slice b.E.A b.E.n b.E.c)/\wr.cell? ⟨w.heap.size,12,I⟩=Y (.slice b.W.A b.W.n b.W.c):=by
 have key:∀i v,(#[.int .i64 b.S,.int .i64 b.D,.int .i64 b.L,.int .i64 b.lo,.int .i64 b.hi,.slice b.C.A b.C.n b.C.c,.int .i64 b.rf,.int .i64 b.rh,.int .i64 b.cf,.int .i64 b.ch,.slice b.U.A b.U.n b.U.c,.slice b.E.A b.E.n b.E.c,.slice b.W.A b.W.n b.W.c]:Array M)[i]?=Y v->wr.cell? ⟨w.heap.size,i,I⟩=Y v:=by
  intro i v a;rw[h.cell (p:=⟨w.heap.size,i,I⟩) (by show w.heap.size<w.heap.size+1;omega)];show(match(w.alloc (aE b t)).heap[w.heap.size]? with|some (.cells c _ _)=>c[i]?|_=>I)=Y v;rw[Sp];exact a
 refine⟨key _ _ rfl,key _ _ rfl,key _ _ rfl,key _ _ rfl,key _ _ rfl,key _ _ rfl,key _ _ rfl,key _ _ rfl,key _ _ rfl,key _ _ rfl,key _ _ rfl,key _ _ rfl,key _ _ rfl⟩
def below_drewN(h:X B a w)(n:Nat):X B a (w.drewN n):=⟨h.os,h.tape,h.output,h.size,h.block⟩
def lH(h:X B a w):X B a w.drew:=⟨h.os,h.tape,h.output,h.size,h.block⟩
def aa(w:H)(o:Obj):(w.alloc o).heap.size=w.heap.size+1:=by simp
def aP(h:X B a w)(hB:B<=a.heap.size)(o:Obj):X B a (w.alloc o):=h.alloc (qO hB h.size) o
def jH(h:X B a w)(hB:B<=b)(v:M):X B a (w.setCell (b,i) v):=h.setCell hB v
def jN(h:X (w.heap.size+1) (w.alloc o) wr)(a:b<w):wr (b,i)=w (b,i):=
 (h.cell (by show b<_;omega)).tn (H.cell?_alloc_lt w o ⟨b,i,I⟩ a)
def bT(h:X (w.heap.size+1) (w.alloc o) wr):X w w wr:=
 ((X.refl _ _).alloc (qN _) o).tn (h.mono (Nat.le_succ _))
theorem xS(b:aC)(z: -1000<=b.S)(h2:b.S<=1000)(s:Sl)(l:List Int)(w:H)(hl:eC w s l):
  PH F 111 #[b.v,.slice s.A s.n s.c] w λe w'=>e=.returned (.int .i64 (bS b.S I l))/\X w.heap.size w w':=by
 have p:=λn w=>fB b n z h2 w;obtain⟨A,O,c⟩:=s;obtain⟨rfl,J,N,r⟩:=hl;have v:PQ (0<l.length->∃b off,A=Y ⟨b,off,I⟩/\b<w.heap.size/\∀k,k<l.length->w.cell? ⟨b,off+k,I⟩=Y (.int .i64 (l.getD k 0))):=r;clear r;unfold aC.v at p|-;simp only at|-;go_enter Tryz.func111,Tryz.ntmps111;go_wp2;go_loopw [9] (λi wr=>∃k:Nat,k<=l.length/\i=.int .i64 k/\X (w.heap.size+1) (w.alloc (Dg b)) wr/\PQ (bS b.S I l=bS b.S (qh l k) (l.drop k))) (λi _=>l.length-(intOf i).toNat)
 case atStart=>exact⟨0,qT _,rfl,X.refl _ _,by simp[qh,PQ]⟩
 case round=>
  obtain⟨k,hk,rfl,a,g⟩:=hrel;have u:w.heap.size+1<=wr.heap.size:=by have:=a.size;rw[aa]at this;exact this
  by_cases t:k<l.length
  .have j:=vE b.S l k t;obtain⟨Q,R,V,W,Z,x5,x6,x7,x8,x9,S,T,U⟩:=iw a;obtain⟨m,off,rfl,q,o⟩:=v.out zz;have G:m<wr.heap.size:=zz;have B:wr.cell? ⟨m,off+k,I⟩=Y (.int .i64 (l.getD k 0)):=(jN a q).tn (o k t);have C:0<k->wr.cell? ⟨m,off+(k-1),I⟩=Y (.int .i64 (l.getD (k-1) 0)):=λE=>(jN a q).tn (o (k-1) zz);clear o;generalize l.getD k 0=x at j B;generalize l.getD (k-1) 0=y at j C;have h:=Hm j;clear j;go_wp2_with ((go_at_call 50;refine(p _ _).mono ?_;rintro e P ⟨rfl,f⟩;obtain⟨K,L⟩:=aU f))
   .have d:ax x 0 (b.S-1)=false:=by simpa using ‹(!ax x 0 (b.S-1))=true›
    go_ret;exact⟨aW (by rw[g.out,h.out,qWB d]),(bT a).tn (f.mono zz)⟩
   .have d:ax x 0 (b.S-1)=true:=by simpa using ‹(!ax x 0 (b.S-1))=false›
    go_ret;exact⟨aW (by rw[g.out,h.out,qVB (by simp[d]),qWB (by simp[*])]),(bT a).tn (f.mono zz)⟩
   .have d:ax x 0 (b.S-1)=true:=by simpa using ‹(!ax x 0 (b.S-1))=false›
    go_roundw
    case rel=>exact⟨k+1,zz,by go_num,a.tn (f.mono u),g.out.tn (h.out.tn (by rw[qVB (by simp[d]),qVB so]))⟩
    case measure=>simp[intOf];omega
   .have d:ax x 0 (b.S-1)=true:=by simpa using ‹(!ax x 0 (b.S-1))=false›
    go_roundw
    case rel=>exact⟨k+1,zz,by go_num,a.tn (f.mono u),g.out.tn (h.out.tn (by rw[qVB (by simp[d]),qVB so]))⟩
    case measure=>simp[intOf];omega
  .obtain rfl:k=l.length:=zz;go_wp2;go_ret;exact⟨aW (by rw[g.out,xR]),bT a⟩
def Iv(b:aC)(l:List Int):Int:=
 if ax b.S 4 12=true/\ax b.D 0 2=true/\ax b.L 1 4=true/\lF b.lo b.hi (-3) 3=true/\b.hi-b.lo<3 then bS b.S I l else 1
def qM{n l h:Int}:ax n l h=true↔l<=n/\n<=h:=by simp[ax]
def uJ{lo hi l h:Int}:lF lo hi l h=true↔l<=lo/\lo<=hi/\hi<=h:=by simp[lF,and_assoc]
def aY{w w':H}{o:Obj}(h:X (w.alloc o).heap.size (w.alloc o) w'):X w w w':=
 ((X.refl _ _).alloc (qN _) o).tn (h.mono (by rw[aa];omega))
def aZ{w:H}{s:Sl}{l:List Int}(h:eC w s l)(o:Obj):eC (w.alloc o) s l:=h.below ((X.refl _ _).alloc (qN _) o)
theorem KX(b:aC)(l:List Int)(w:H)(hl:eC w b.C l):
  PH F 151 #[b.v] w λe w'=>e=.returned (.int .i64 (Iv b l))/\X w w w':=by
 have m:=Hm hl;clear hl;have d:=λ(n: -1000<=b.S) (h2:b.S<=1000) (c:H) (h:eC c b.C l)=>xS b n h2 b.C l c h;by_cases hB:lF b.lo b.hi (-3) 3=true
 .obtain⟨t,u,v⟩:=uJ.1 hB;by_cases i:ax b.S 4 12=true
  .obtain⟨x,y⟩:=qM.1 i;by_cases j:ax b.D 0 2=true
   .by_cases k:ax b.L 1 4=true
    .unfold aC.v at d|-;go_enter Tryz.func151,Tryz.ntmps151;go_wp2_with (first|(go_at_call 83;refine(eA _ _ _ _).mono ?_;rintro e w' ⟨rfl,rfl⟩)|(go_at_call 156;refine(lG _ _ _ _ _).mono ?_;rintro e c ⟨rfl,a⟩;obtain⟨f,g⟩:=aU a)|(go_at_call 111;refine(d zz zz _ (aZ m.out _ |>.below a)).mono ?_;rintro e z ⟨rfl,s⟩))
     .go_ret;exact⟨aW (by rw[Iv,qVB zz]),aY a⟩
     .go_ret;exact⟨aW (by rw[Iv,qWB ⟨i,j,k,hB,zz⟩]),(aY a).tn (s.mono (by have h:=a.size;rw[aa]at h;omega))⟩
    .have q:ax b.L 1 4=false:=by simpa using k
     unfold aC.v at d|-;go_enter Tryz.func151,Tryz.ntmps151;go_wp2_with (first|(go_at_call 83;refine(eA _ _ _ _).mono ?_;rintro e w' ⟨rfl,rfl⟩)|(go_at_call 156;refine(lG _ _ _ _ _).mono ?_;rintro e c ⟨rfl,a⟩;obtain⟨f,g⟩:=aU a));go_ret;exact⟨aW (by rw[Iv,qVB (by simp[q])]),(X.refl _ _).alloc (qN _) _⟩
   .have p:ax b.D 0 2=false:=by simpa using j
    unfold aC.v at d|-;go_enter Tryz.func151,Tryz.ntmps151;go_wp2_with (first|(go_at_call 83;refine(eA _ _ _ _).mono ?_;rintro e w' ⟨rfl,rfl⟩)|(go_at_call 156;refine(lG _ _ _ _ _).mono ?_;rintro e c ⟨rfl,a⟩;obtain⟨f,g⟩:=aU a));go_ret;exact⟨aW (by rw[Iv,qVB (by simp[p])]),(X.refl _ _).alloc (qN _) _⟩
  .have r:ax b.S 4 12=false:=by simpa using i
   unfold aC.v at d|-;go_enter Tryz.func151,Tryz.ntmps151;go_wp2_with (first|(go_at_call 83;refine(eA _ _ _ _).mono ?_;rintro e w' ⟨rfl,rfl⟩)|(go_at_call 156;refine(lG _ _ _ _ _).mono ?_;rintro e c ⟨rfl,a⟩;obtain⟨f,g⟩:=aU a));go_ret;exact⟨aW (by rw[Iv,qVB (by simp[r])]),(X.refl _ _).alloc (qN _) _⟩
 .have o:lF b.lo b.hi (-3) 3=false:=by simpa using hB
  unfold aC.v at d|-;go_enter Tryz.func151,Tryz.ntmps151;go_wp2_with (first|(go_at_call 83;refine(eA _ _ _ _).mono ?_;rintro e w' ⟨rfl,rfl⟩)|(go_at_call 156;refine(lG _ _ _ _ _).mono ?_;rintro e c ⟨rfl,a⟩;obtain⟨f,g⟩:=aU a));all_goals go_ret
  all_goals exact⟨aW (by rw[Iv,qVB (by simp[o])]),by first|exact(X.refl _ _).alloc (qN _) _|exact aY a⟩
def cZ(b:aC):Int:=
 if ax b.rf 2 30=true/\ax b.rh 2 60=true/\ax b.cf 0 b.rf=true/\ax b.ch 1 60=true then(if b.rh<=b.ch then 7 else 0)else 1
theorem FQ(b:aC)(w:H):
  PH F 152 #[b.v] w λe w'=>e=.returned (.int .i64 (cZ b))/\X w w w':=by
 unfold aC.v;go_enter Tryz.func152,Tryz.ntmps152;go_wp2_with ((go_at_call 83;refine(eA _ _ _ _).mono ?_;rintro e w' ⟨rfl,rfl⟩));all_goals go_ret
 all_goals exact⟨aW (by simp_all[cZ]),(X.refl _ _).alloc (qN _) _⟩
def Cf(w:H)(s:Sl)(l:List (Int×Int)):Prop:=s.n=l.length/\l.length<=s.c/\l.length<=1000/\(0<l.length->∃b off,s.A=Y ⟨b,off,I⟩/\b<w.heap.size/\∀k,k<l.length->w (b,off+k*2)=Y (.int .i64 (l.getD k (0,0)).1)/\w (b,off+k*2+1)=Y (.int .i64 (l.getD k (0,0)).2))
def Cf.below{w w':H}{s:Sl}{l:List (Int×Int)}(h:Cf w s l)(a:X w w w'):Cf w' s l:=
 ⟨h.1,h.2.1,h.2.2.1,λd=>by
  obtain⟨b,off,e,h2,c⟩:=h.2.2.2 d;exact⟨b,off,e,qP h2 a.size,λk hk=>⟨(a.cell (p:=⟨b,off+k*2,I⟩) h2).tn (c k hk).1,(a.cell (p:=⟨b,off+k*2+1,I⟩) h2).tn (c k hk).2⟩⟩⟩
def nD(S:Int):List (Int×Int)->Int
 | []=>0
 | (a,h)::r=>if ax a 0 (S-1)=false then 6 else if ax h (-9) 9=false then 1 else nD S r
def fH(S:Int)(l:List (Int×Int)):Int:=if ax (l.length:Int) 1 4=true then nD S l else 2
def Al(S:Int)(l:List (Int×Int))(k:Nat)(hk:k<l.length):nD S (l.drop k)=
  if ax (l.getD k (0,0)).1 0 (S-1)=false then 6 else if ax (l.getD k (0,0)).2 (-9) 9=false then 1 else nD S (l.drop (k+1)):=by
 rw[fx hk];have e:l.getD k (0,0)=l[k]:=by simp[List.getD,iv hk]
 rw[e];rfl
theorem NV(b:aC)(J: -1000<=b.S)(h2:b.S<=1000)(l:List (Int×Int))(w:H)(hl:Cf w b.U l):
  PH F 153 #[b.v] w λe w'=>e=.returned (.int .i64 (fH b.S l))/\X w w w':=by
 obtain⟨S,D,L,lo,hi,⟨q,s,r⟩,rf,rh,cf,ch,⟨z,R,A⟩,⟨t,v,u⟩,⟨B,E,C⟩⟩:=b;have K:=λn w=>fB ⟨S,D,L,lo,hi,⟨q,s,r⟩,rf,rh,cf,ch,⟨z,R,A⟩,⟨t,v,u⟩,⟨B,E,C⟩⟩ n J h2 w;obtain⟨O,T,a7,m⟩:=hl;simp only[aC.v]at K O T m J h2|-;subst O;have Q:=Hm m;clear m;by_cases hF:ax (l.length:Int) 1 4=true
 .go_enter Tryz.func153,Tryz.ntmps153;go_wp2_with ((go_at_call 83;refine(eA _ _ _ _).mono ?_;rintro e w' ⟨rfl,rfl⟩));go_loopw [15] (λi wr=>∃k:Nat,k<=l.length/\i=.int .i64 k/\X (w.heap.size+1) (w.alloc (Dg ⟨S,D,L,lo,hi,⟨q,s,r⟩,rf,rh,cf,ch,⟨z,l.length,A⟩,⟨t,v,u⟩,⟨B,E,C⟩⟩)) wr/\PQ (nD S l=nD S (l.drop k))) (λi _=>l.length-(intOf i).toNat)
  case atStart=>exact⟨0,qT _,rfl,X.refl _ _,rfl⟩
  case round=>
   obtain⟨k,hk,rfl,a,f⟩:=hrel;have P:(w:Nat)+1<=wr:=by have:=a.size;rw[aa]at this;exact this
   have a8:(w:Nat)<wr:=P;by_cases p:k<l.length
   .have g:=Al S l k p
    (obtain⟨W,Z,x2,x3,x4,x5,x6,x7,x8,x9,a1,a2,a3⟩:=iw a;dsimp only at W Z x2 x3 x4 x5 x6 x7 x8 x9 a1 a2 a3)
    obtain⟨G,off,rfl,N,o⟩:=Q.out zz;have U:wr (G,off+k*2)=Y (.int .i64 (l.getD k (0,0)).1):=(jN a N).tn (o k p).1;have V:wr (G,off+k*2+1)=Y (.int .i64 (l.getD k (0,0)).2):=(jN a N).tn (o k p).2;clear o;generalize(l.getD k (0,0)).1=x at g U;generalize(l.getD k (0,0)).2=y at g V;have h:=Hm g;clear g;go_wp2_with (first|(go_at_call 50;refine(K _ _).mono ?_;rintro e w1 ⟨rfl,d⟩;obtain⟨a5,a6⟩:=aU d)|(go_at_call 83;refine(eA _ _ _ _).mono ?_;rintro e w' ⟨rfl,rfl⟩))
    .have c:ax x 0 (S-1)=false:=by simpa using ‹(!ax x 0 (S-1))=true›
     go_ret;exact⟨aW (by rw[fH,qWB hF,f.out,h.out,qWB c]),(bT a).tn ((aY d).mono zz)⟩
    .have c:ax x 0 (S-1)=true:=by simpa using ‹(!ax x 0 (S-1))=false›
     have j:ax y (-9) 9=false:=by simpa using ‹(!ax y (-9) 9)=true›
     go_ret;exact⟨aW (by rw[fH,qWB hF,f.out,h.out,qVB (by simp[c]),qWB j]),(bT a).tn ((aY d).mono zz)⟩
    .have c:ax x 0 (S-1)=true:=by simpa using ‹(!ax x 0 (S-1))=false›
     have j:ax y (-9) 9=true:=by simpa using ‹(!ax y (-9) 9)=false›
     go_roundw
     case rel=>exact⟨k+1,zz,by go_num,a.tn ((aY d).mono P),f.out.tn (h.out.tn (by rw[qVB (by simp[c]),qVB (by simp[j])]))⟩
     case measure=>simp[intOf];omega
   .obtain rfl:k=l.length:=zz;go_wp2;go_ret;exact⟨aW (by rw[fH,qWB hF,f.out];simp[nD]),bT a⟩
 .have a4:ax (l.length:Int) 1 4=false:=by simpa using hF
  go_enter Tryz.func153,Tryz.ntmps153;go_wp2_with ((go_at_call 83;refine(eA _ _ _ _).mono ?_;rintro e w' ⟨rfl,rfl⟩));go_ret;exact⟨aW (by rw[fH,qVB hF]),(X.refl _ _).alloc (qN _) _⟩
def nF(rf ch:Int):List (Int×Int)->Int
 | []=>0
 | (a,h)::r=>if(ax a (1-rf) (rf-1)&&ax h 0 60)=false then 1 else if ch<=h then 7 else nF rf ch r
def fT(rf ch:Int)(l:List (Int×Int)):Int:=if 3<l.length then 2 else nF rf ch l
def Am(rf ch:Int)(l:List (Int×Int))(k:Nat)(hk:k<l.length):nF rf ch (l.drop k)=
  if(ax (l.getD k (0,0)).1 (1-rf) (rf-1)&&ax (l.getD k (0,0)).2 0 60)=false then 1 else if ch<=(l.getD k (0,0)).2 then 7 else nF rf ch (l.drop (k+1)):=by
 rw[fx hk];have e:l.getD k (0,0)=l[k]:=by simp[List.getD,iv hk]
 rw[e];rfl
theorem NX(b:aC)(N:2<=b.rf)(h2:b.rf<=30)(l:List (Int×Int))(w:H)(hl:Cf w b.E l):
  PH F 154 #[b.v] w λe w'=>e=.returned (.int .i64 (fT b.rf b.ch l))/\X w w w':=by
 obtain⟨S,D,L,lo,hi,⟨s,u,t⟩,rf,rh,cf,ch,⟨B,E,C⟩,⟨v,a1,z⟩,⟨G,K,J⟩⟩:=b;obtain⟨q,O,a2,j⟩:=hl;simp only[aC.v]at q O j N h2|-;subst q;have A:=Hm j;clear j;by_cases hF:l.length<=3
 .go_enter Tryz.func154,Tryz.ntmps154;go_wp2;go_loopw [14] (λi wr=>∃k:Nat,k<=l.length/\i=.int .i64 k/\X (w.heap.size+1) (w.alloc (Dg ⟨S,D,L,lo,hi,⟨s,u,t⟩,rf,rh,cf,ch,⟨B,E,C⟩,⟨v,l.length,z⟩,⟨G,K,J⟩⟩)) wr/\PQ (nF rf ch l=nF rf ch (l.drop k))) (λi _=>l.length-(intOf i).toNat)
  case atStart=>exact⟨0,qT _,rfl,X.refl _ _,rfl⟩
  case round=>
   obtain⟨k,hk,rfl,a,c⟩:=hrel;have r:(w:Nat)+1<=wr:=by have:=a.size;rw[aa]at this;exact this
   have a3:(w:Nat)<wr:=r;by_cases n:k<l.length
   .have h:=Am rf ch l k n
    (obtain⟨R,T,Z,x3,x4,x5,x6,x7,x8,x9,U,V,W⟩:=iw a;dsimp only at R T Z x3 x4 x5 x6 x7 x8 x9 U V W)
    obtain⟨o,off,rfl,p,m⟩:=A.out zz;have P:wr (o,off+k*2)=Y (.int .i64 (l.getD k (0,0)).1):=(jN a p).tn (m k n).1;have Q:wr (o,off+k*2+1)=Y (.int .i64 (l.getD k (0,0)).2):=(jN a p).tn (m k n).2;clear m;generalize(l.getD k (0,0)).1=x at h P;generalize(l.getD k (0,0)).2=y at h Q;have d:=Hm h;clear h;cases f:ax x (1-rf) (rf-1)<;>cases g:ax y 0 60;all_goals go_wp2_with ((go_at_call 83;refine(eA _ _ _ _).mono ?_;rintro e w' ⟨rfl,rfl⟩))
    .go_ret;exact⟨aW (by rw[fT,qVB zz,c.out,d.out,qWB (by simp[f,g])]),(bT a).tn ((X.refl _ _).alloc zz _)⟩
    .go_ret;exact⟨aW (by rw[fT,qVB zz,c.out,d.out,qWB (by simp[f,g])]),(bT a).tn ((X.refl _ _).alloc zz _)⟩
    .go_ret;exact⟨aW (by rw[fT,qVB zz,c.out,d.out,qWB (by simp[f,g])]),(bT a).tn ((X.refl _ _).alloc zz _)⟩
    .go_ret;exact⟨aW (by rw[fT,qVB zz,c.out,d.out,qVB (by simp[f,g]),qWB (by assumption)]),(bT a).tn ((X.refl _ _).alloc zz _)⟩
    go_roundw
    case rel=>exact⟨k+1,zz,by go_num,a.tn ((X.refl _ _).alloc r _),c.out.tn (d.out.tn (by rw[qVB (by simp[f,g]),qVB zz]))⟩
    case measure=>simp[intOf];omega
   .obtain rfl:k=l.length:=zz;go_wp2;go_ret;exact⟨aW (by rw[fT,qVB zz,c.out];simp[nF]),bT a⟩
 .go_enter Tryz.func154,Tryz.ntmps154;go_wp2;go_ret;exact⟨aW (by rw[fT,qWB zz]),(X.refl _ _).alloc (qN _) _⟩
def fL(w:H)(s:Sl)(l:List (Int×Int×Bool)):Prop:=s.n=l.length/\l.length<=s.c/\l.length<=1000/\(0<l.length->∃b off,s.A=Y ⟨b,off,I⟩/\b<w.heap.size/\∀k,k<l.length->w (b,off+k*3)=Y (.int .i64 (l.getD k (0,0,false)).1)/\w (b,off+k*3+1)=Y (.int .i64 (l.getD k (0,0,false)).2.1)/\w (b,off+k*3+2)=Y (.bool (l.getD k (0,0,false)).2.2))
def fL.below{w w':H}{s:Sl}{l:List (Int×Int×Bool)}(h:fL w s l)(a:X w w w'):fL w' s l:=
 ⟨h.1,h.2.1,h.2.2.1,λd=>by
  obtain⟨b,off,e,h2,c⟩:=h.2.2.2 d;exact⟨b,off,e,qP h2 a.size,λk hk=>⟨(a.cell h2).tn (c k hk).1,(a.cell h2).tn (c k hk).2.1,(a.cell h2).tn (c k hk).2.2⟩⟩⟩
def qi(S n:Int):List (Int×Int×Bool)->Int
 | []=>0
 | (a,s,_)::r=>if(ax a 0 (n-1)&&ax s 0 (S-1))=false then 6 else qi S n r
def ki(S n:Int)(l:List (Int×Int×Bool)):Int:=if 4<l.length then 2 else qi S n l
def Dh(S n:Int)(l:List (Int×Int×Bool))(k:Nat)(hk:k<l.length):qi S n (l.drop k)=
  if(ax (l.getD k (0,0,false)).1 0 (n-1)&&ax (l.getD k (0,0,false)).2.1 0 (S-1))=false then 6 else qi S n (l.drop (k+1)):=by
 rw[fx hk];have e:l.getD k (0,0,false)=l[k]:=by simp[List.getD,iv hk]
 rw[e];rfl
theorem Dj(b:aC)(Q: -1000<=b.S)(h2:b.S<=1000)(R:b.U.n<=1000)(l:List (Int×Int×Bool))(w:H)(hl:fL w b.W l):
  PH F 155 #[b.v] w λe w'=>e=.returned (.int .i64 (ki b.S b.U.n l))/\X w w w':=by
 obtain⟨S,D,L,lo,hi,⟨r,t,s⟩,rf,rh,cf,ch,⟨B,c,C⟩,⟨u,A,v⟩,⟨E,a8,G⟩⟩:=b;obtain⟨V,a1,b2,P⟩:=hl;simp only at V;subst V;have T:=λn w=>fB ⟨S,D,L,lo,hi,⟨r,t,s⟩,rf,rh,cf,ch,⟨B,c,C⟩,⟨u,A,v⟩,⟨E,l.length,G⟩⟩ n Q h2 w;have U:=λn w=>oE ⟨S,D,L,lo,hi,⟨r,t,s⟩,rf,rh,cf,ch,⟨B,c,C⟩,⟨u,A,v⟩,⟨E,l.length,G⟩⟩ n R w;simp only[aC.v]at T U a1 P Q h2 R|-;have Z:=Hm P;clear P;by_cases hF:l.length<=4
 .go_enter Tryz.func155,Tryz.ntmps155;go_wp2;go_loopw [14] (λi wr=>∃k:Nat,k<=l.length/\i=.int .i64 k/\X (w.heap.size+1) (w.alloc (Dg ⟨S,D,L,lo,hi,⟨r,t,s⟩,rf,rh,cf,ch,⟨B,c,C⟩,⟨u,A,v⟩,⟨E,l.length,G⟩⟩)) wr/\PQ (qi S c l=qi S c (l.drop k))) (λi _=>l.length-(intOf i).toNat)
  case atStart=>exact⟨0,qT _,rfl,X.refl _ _,rfl⟩
  case round=>
   obtain⟨k,hk,rfl,a,f⟩:=hrel;have W:(w:Nat)+1<=wr:=by have:=a.size;rw[aa]at this;exact this
   have b3:(w:Nat)<wr:=W;by_cases p:k<l.length
   .have q:=Dh S c l k p
    (obtain⟨x0,x1,x2,x3,x4,x5,x6,x7,x8,x9,a5,a6,a7⟩:=iw a;dsimp only at x0 x1 x2 x3 x4 x5 x6 x7 x8 x9 a5 a6 a7)
    obtain⟨J,off,rfl,O,o⟩:=Z.out zz;have a2:wr (J,off+k*3)=Y (.int .i64 (l.getD k (0,0,false)).1):=(jN a O).tn (o k p).1;have a3:wr (J,off+k*3+1)=Y (.int .i64 (l.getD k (0,0,false)).2.1):=(jN a O).tn (o k p).2.1;have a4:wr (J,off+k*3+2)=Y (.bool (l.getD k (0,0,false)).2.2):=(jN a O).tn (o k p).2.2;clear o;generalize(l.getD k (0,0,false)).1=x at q a2;generalize(l.getD k (0,0,false)).2.1=y at q a3;generalize(l.getD k (0,0,false)).2.2=z at a4;have g:=Hm q;clear q;cases j:ax x 0 (c-1)<;>cases m:ax y 0 (S-1);all_goals go_wp2_with (first|(go_at_call 41;refine(U _ _).mono ?_;rintro e w1 ⟨rfl,d⟩;obtain⟨a9,a0⟩:=aU d)|(go_at_call 50;refine(T _ _).mono ?_;rintro e w2 ⟨rfl,K⟩;obtain⟨a',b1⟩:=aU K))
    .go_ret;exact⟨aW (by rw[ki,qVB zz,f.out,g.out,qWB (by simp[j,m])]),(bT a).tn ((aY d).mono zz)⟩
    .go_ret;exact⟨aW (by rw[ki,qVB zz,f.out,g.out,qWB (by simp[j,m])]),(bT a).tn ((aY d).mono zz)⟩
    .have N:=(aY d).tn (K.mono (by have h:=(aY d).size;omega));go_ret;exact⟨aW (by rw[ki,qVB zz,f.out,g.out,qWB (by simp[j,m])]),(bT a).tn (N.mono zz)⟩
    .have N:=(aY d).tn (K.mono (by have h:=(aY d).size;omega));go_roundw
     case rel=>exact⟨k+1,zz,by go_num,a.tn (N.mono W),f.out.tn (g.out.tn (by rw[qVB (by simp[j,m])]))⟩
     case measure=>simp[intOf];omega
   .obtain rfl:k=l.length:=zz;go_wp2;go_ret;exact⟨aW (by rw[ki,qVB zz,f.out];simp[qi]),bT a⟩
 .go_enter Tryz.func155,Tryz.ntmps155;go_wp2;go_ret;exact⟨aW (by rw[ki,qWB zz]),(X.refl _ _).alloc (qN _) _⟩
variable{w':H}{b:aC}
def aD(w:H):Prop:=0<w.heap.size/\w (0,0)=Y (.func (.func 151) #[] #[])/\w (0,1)=Y (.func (.func 152) #[] #[])/\w (0,2)=Y (.func (.func 153) #[] #[])/\w (0,3)=Y (.func (.func 154) #[] #[])/\w (0,4)=Y (.func (.func 155) #[] #[])
def aD.below(h:aD w)(b:X w w w'):aD w':=by
 obtain⟨a,c,h2,d,e,f⟩:=h;exact⟨qP a b.size,(b.cell a).tn c,(b.cell a).tn h2,(b.cell a).tn d,(b.cell a).tn e,(b.cell a).tn f⟩
structure pK where
 C:List Int
 U:List (Int×Int)
 E:List (Int×Int)
 W:List (Int×Int×Bool)
structure aI(w:H)(b:aC)(l:pK):Prop where
 C:eC w b.C l.C
 U:Cf w b.U l.U
 E:Cf w b.E l.E
 W:fL w b.W l.W
def aI.below{l:pK}(h:aI w b l)(a:X w w w'):aI w' b l:=⟨h.C.below a,h.U.below a,h.E.below a,h.W.below a⟩
def MZ(b:aC)(l:pK):Nat->Int
 | 0=>Iv b l.C
 | 1=>cZ b
 | 2=>fH b.S l.U
 | 3=>fT b.rf b.ch l.E
 | _=>ki b.S l.U.length l.W
def ay(b:aC)(l:pK):Int:=
 if Iv b l.C≠0 then Iv b l.C else if cZ b≠0 then cZ b else if fH b.S l.U≠0 then fH b.S l.U else if fT b.rf b.ch l.E≠0 then fT b.rf b.ch l.E else ki b.S l.U.length l.W
def cS{l:List Int}(h:Iv b l=0):4<=b.S/\b.S<=12/\0<=b.D/\b.D<=2/\1<=b.L/\b.L<=4/\ -3<=b.lo/\b.lo<=b.hi/\b.hi<=3/\b.hi-b.lo<3/\bS b.S I l=0:=by
 unfold Iv at h;split at h
 .rename_i a;simp only[qM,uJ]at a;obtain⟨⟨c,e⟩,⟨f,g⟩,⟨i,j⟩,⟨k,m,n⟩,d⟩:=a;exact⟨c,e,f,g,i,j,k,m,n,d,h⟩
 .omega
def wL(h:cZ b=0):2<=b.rf/\b.rf<=30/\2<=b.rh/\b.rh<=60/\0<=b.cf/\b.cf<=b.rf/\1<=b.ch/\b.ch<=60/\b.ch<b.rh:=by
 unfold cZ at h;split at h
 .rename_i a;simp only[qM]at a;split at h
  .omega
  .omega
 .omega
def UU{S:Int}{l:List (Int×Int)}(h:fH S l=0):1<=l.length/\l.length<=4:=by
 unfold fH at h;split at h
 .rename_i a;simp only[qM]at a;omega
 .omega
def Bn{l:pK}:MZ b l 4=ki b.S l.U.length l.W:=rfl
def tL{f:Nat->Int}{k:Nat}(h:∀j,j<k->f j=0)(b:f k=0):∀j,j<k+1->f j=0:=λj c=>by
 rcases Nat.lt_or_ge j k with a|a
 .exact h j a
 .have:j=k:=zz;rw[this];exact b
def qj{l:pK}:∀k,k<5->(∀j,j<k->MZ b l j=0)->MZ b l k≠0->ay b l=MZ b l k:=by
 intro k hk a c;unfold ay;rcases(show k=0\/k=1\/k=2\/k=3\/k=4 from zz)with rfl|rfl|rfl|rfl|rfl
 .rw[qWB (show Iv b l.C≠0 from c)];rfl
 .have e0:Iv b l.C=0:=a 0 zz;rw[qVB (by simp[e0]),qWB (show cZ b≠0 from c)];rfl
 .have e0:Iv b l.C=0:=a 0 zz;have e1:cZ b=0:=a 1 zz;rw[qVB (by simp[e0]),qVB (by simp[e1]),qWB (show fH b.S l.U≠0 from c)];rfl
 .have e0:Iv b l.C=0:=a 0 zz;have e1:cZ b=0:=a 1 zz;have d:fH b.S l.U=0:=a 2 zz;rw[qVB (by simp[e0]),qVB (by simp[e1]),qVB (by simp[d]),qWB (show fT b.rf b.ch l.E≠0 from c)];rfl
 .have e0:Iv b l.C=0:=a 0 zz;have e1:cZ b=0:=a 1 zz;have d:fH b.S l.U=0:=a 2 zz;have e:fT b.rf b.ch l.E=0:=a 3 zz;rw[qVB (by simp[e0]),qVB (by simp[e1]),qVB (by simp[d]),qVB (by simp[e])];rfl
def KY{l:pK}(a:∀j,j<5->MZ b l j=0):ay b l=0:=by
 have e0:Iv b l.C=0:=a 0 zz;have e1:cZ b=0:=a 1 zz;have c:fH b.S l.U=0:=a 2 zz;have d:fT b.rf b.ch l.E=0:=a 3 zz;have e:ki b.S l.U.length l.W=0:=a 4 zz;simp[ay,e0,e1,c,d,e]
def Ww{w wr:H}{b b':aC}{t:Lk}{l:pK}(h:aI w b l)(a:X (w.heap.size+1) (w.alloc (aE b' t)) wr):aI wr b l:=h.below (bT a)
theorem cG(b:aC)(l:pK)(w:H)(hl:aI w b l)(A:aD w):
  PH F 30 #[b.v] w λe w'=>e=.returned (.int .i64 (ay b l))/\X w w w':=by
 have G:=Hm hl;have L:=Hm A;obtain⟨g,N,O,P,Q,R⟩:=A;have B:b.U.n=l.U.length:=hl.U.1;have q:=Hm B;clear hl B;have c0:=λ(wr:H) (m:aI wr b l)=>KX b l.C wr m.C;have v:=λ(wr:H)=>FQ b wr;have x:=λ(wr:H) (m:aI wr b l) (o: -1000<=b.S) (p:b.S<=1000)=>NV b o p l.U wr m.U;have y:=λ(wr:H) (m:aI wr b l) (o:2<=b.rf) (p:b.rf<=30)=>NX b o p l.E wr m.E;have z:=λ(wr:H) (m:aI wr b l) (o: -1000<=b.S) (p:b.S<=1000) (J:b.U.n<=1000)=>Dj b o p J l.W wr m.W;have K:PQ (b.v=b.v):=rfl;simp only[aC.v]at c0 v x y z|-;go_enter Tryz.func30,Tryz.ntmps30;go_wp2;go_loopw [7] (λi wr=>∃k:Nat,k<=5/\i=.int .i64 k/\X (w.heap.size+1) (w.alloc (aE b 31)) wr/\PQ (∀j,j<k->MZ b l j=0)) (λi _=>5-(intOf i).toNat)
 case atStart=>exact⟨0,zz,rfl,X.refl _ _,λj U=>zz⟩
 case round=>
  obtain⟨k,hk,rfl,d,c⟩:=hrel;have n:(w:Nat)+1<=wr:=by have:=d.size;rw[aa]at this;exact this
  have V:(w:Nat)<wr:=n;obtain⟨Z,x1,x2,x3,x4,x5,x6,x7,x8,x9,a1,a2,a3⟩:=iw d;have hB:=Hm (Ww G.out d);rcases(show k=0\/k=1\/k=2\/k=3\/k=4\/k=5 from zz)with rfl|rfl|rfl|rfl|rfl|rfl
  .have t:∀w:H,(Instr.index 144 (.agg #[.func (.func 151) #[] #[],.func (.func 152) #[] #[],.func (.func 153) #[] #[],.func (.func 154) #[] #[],.func (.func 155) #[] #[]]) (.int .i64 0)).run F w=.ok (.func (.func 151) #[] #[]) w:=λ_=>by kernel_rfl
   go_wp2_with (go_at_call 151;refine(c0 _ hB.out).mono ?_;rintro e u ⟨rfl,a⟩;obtain⟨r,s⟩:=aU a)
   .have h:MZ b l 0≠0:=by simpa[MZ]using ‹(Iv b l.C != 0)=true›
    go_ret;exact⟨aW (qj 0 zz c.out h).symm,(bT d).tn (a.mono zz)⟩
   .have f:MZ b l 0=0:=by simpa[MZ]using ‹(Iv b l.C != 0)=false›
    go_roundw
    case rel=>exact⟨1,zz,by first|rfl|go_num,d.tn (a.mono n),tL c.out f⟩
    case measure=>simp[intOf]
  .have t:∀w:H,(Instr.index 144 (.agg #[.func (.func 151) #[] #[],.func (.func 152) #[] #[],.func (.func 153) #[] #[],.func (.func 154) #[] #[],.func (.func 155) #[] #[]]) (.int .i64 1)).run F w=.ok (.func (.func 152) #[] #[]) w:=λ_=>by kernel_rfl
   go_wp2_with (go_at_call 152;refine(v _).mono ?_;rintro e u ⟨rfl,a⟩;obtain⟨r,s⟩:=aU a)
   .have h:MZ b l 1≠0:=by simpa[MZ]using ‹(cZ b != 0)=true›
    go_ret;exact⟨aW (qj 1 zz c.out h).symm,(bT d).tn (a.mono zz)⟩
   .have f:MZ b l 1=0:=by simpa[MZ]using ‹(cZ b != 0)=false›
    go_roundw
    case rel=>exact⟨2,zz,by first|rfl|go_num,d.tn (a.mono n),tL c.out f⟩
    case measure=>simp[intOf]
  .have t:∀w:H,(Instr.index 144 (.agg #[.func (.func 151) #[] #[],.func (.func 152) #[] #[],.func (.func 153) #[] #[],.func (.func 154) #[] #[],.func (.func 155) #[] #[]]) (.int .i64 2)).run F w=.ok (.func (.func 153) #[] #[]) w:=λ_=>by kernel_rfl
   obtain⟨C,E,-⟩:=cS (c.out 0 zz);go_wp2_with (go_at_call 153;refine(x _ hB.out zz zz).mono ?_;rintro e u ⟨rfl,a⟩;obtain⟨r,s⟩:=aU a)
   .have h:MZ b l 2≠0:=by simpa[MZ]using ‹(fH b.S l.U != 0)=true›
    go_ret;exact⟨aW (qj 2 zz c.out h).symm,(bT d).tn (a.mono zz)⟩
   .have f:MZ b l 2=0:=by simpa[MZ]using ‹(fH b.S l.U != 0)=false›
    go_roundw
    case rel=>exact⟨3,zz,by first|rfl|go_num,d.tn (a.mono n),tL c.out f⟩
    case measure=>simp[intOf]
  .have t:∀w:H,(Instr.index 144 (.agg #[.func (.func 151) #[] #[],.func (.func 152) #[] #[],.func (.func 153) #[] #[],.func (.func 154) #[] #[],.func (.func 155) #[] #[]]) (.int .i64 3)).run F w=.ok (.func (.func 154) #[] #[]) w:=λ_=>by kernel_rfl
   obtain⟨C,E,-⟩:=wL (c.out 1 zz);go_wp2_with (go_at_call 154;refine(y _ hB.out zz zz).mono ?_;rintro e u ⟨rfl,a⟩;obtain⟨r,s⟩:=aU a)
   .have h:MZ b l 3≠0:=by simpa[MZ]using ‹(fT b.rf b.ch l.E != 0)=true›
    go_ret;exact⟨aW (qj 3 zz c.out h).symm,(bT d).tn (a.mono zz)⟩
   .have f:MZ b l 3=0:=by simpa[MZ]using ‹(fT b.rf b.ch l.E != 0)=false›
    go_roundw
    case rel=>exact⟨4,zz,by first|rfl|go_num,d.tn (a.mono n),tL c.out f⟩
    case measure=>simp[intOf]
  .have t:∀w:H,(Instr.index 144 (.agg #[.func (.func 151) #[] #[],.func (.func 152) #[] #[],.func (.func 153) #[] #[],.func (.func 154) #[] #[],.func (.func 155) #[] #[]]) (.int .i64 4)).run F w=.ok (.func (.func 155) #[] #[]) w:=λ_=>by kernel_rfl
   obtain⟨C,E,-⟩:=cS (c.out 0 zz);have W:b.U.n<=1000:=by have h2:=c.out 2 zz;have S:=q.out;have T:=UU h2;omega
   go_wp2_with (go_at_call 155;refine(z _ hB.out zz zz zz).mono ?_;rintro e u ⟨rfl,a⟩;obtain⟨r,s⟩:=aU a)
   .have h:MZ b l 4≠0:=by rw[Bn,<- q.out];simpa using ‹(ki b.S (b.U.n:Int) l.W != 0)=true›
    go_ret;exact⟨aW (qj 4 zz c.out h |>.trans (by rw[Bn,q.out])).symm,(bT d).tn (a.mono zz)⟩
   .have f:MZ b l 4=0:=by rw[Bn,<- q.out];simpa using ‹(ki b.S (b.U.n:Int) l.W != 0)=false›
    go_roundw
    case rel=>exact⟨5,zz,by first|rfl|go_num,d.tn (a.mono n),tL c.out f⟩
    case measure=>simp[intOf]
  .go_wp2;go_ret;exact⟨aW (KY c.out).symm,bT d⟩
variable{g:Nat}{t:Lk}{f:Nat->Bool}
def gN(sh:Int)(d:Nat->Bool):M:=.agg #[.int .i64 sh,.bool (d 0),.bool (d 1),.bool (d 2),.bool (d 3),.bool (d 4),.bool (d 5),.bool (d 6),.bool (d 7),.bool (d 8),.bool (d 9),.bool (d 10),.bool (d 11)]
def FT(S L step hi:Int)(n:Int):Bool:=decide (min ((n-(step+S/2)%S+S)%S) (S-(n-(step+S/2)%S+S)%S)<=hi/L)
def eT(S L sh:Int)(d:Nat->Bool)(p:Int×Int):Nat->Bool:=λn=>
 if p.2+sh<=0\/d p.1.toNat=true then false else decide ((n:Int)<S)&&FT S L p.1 (p.2+sh) n
def iB(w:H)(g:Nat)(t:Lk)(f:Nat->Bool):Prop:=∃cs:Array M,w.heap[g]?=Y (.cells cs t (0,0))/\cs.size=12/\∀i,i<12->cs[i]?=Y (.bool (f i))
def iB.cell(h:iB w g t f)(i:Nat)(hi:i<12):w (g,i)=Y (.bool (f i)):=by
 obtain⟨cs,a, -, b⟩:=h;rw[H.cell?,a];exact b i hi
def iB.free(h:iB w g t f)(i:Nat):w.frozen? (g,i)=false:=by
 obtain⟨cs,a, -,-⟩:=h;simp[H.frozen?,a]
def iB.set{f f':Nat->Bool}(h:iB w g t f){i:Nat}(hi:i<12){v:Bool}(d:f' i=v)(h2:∀j,j<12->j≠i->f' j=f j):iB (w.setCell (g,i) (.bool v)) g t f':=by
 obtain⟨cs,e1,a,c⟩:=h;refine⟨cs.setIfInBounds i (.bool v),by simp[H.setCell,nc,e1],by simpa using a,λj b=>?_⟩;by_cases e:i=j
 .subst e;simp[a,hi,d]
 .rw[jx e,c j b,h2 j b (λx=>e x.symm)]
def An(w:H)(b c a d:Obj):((((w.alloc b).alloc c).alloc a).alloc d).heap[w.heap.size+1+1]?=Y a:=by
 rw[QR _ _ (by simp only[aa];omega)];have:=Sp ((w.alloc b).alloc c) a;simp only[aa]at this;exact this
theorem qX(b:aC)(g1:4<=b.S)(g2:b.S<=12)(g3:1<=b.L)(g4:b.L<=4)(sh:Int)(g5: -3<=sh)(g6:sh<=3)(d:Nat->Bool)(h:Nat)(U:List (Int×Int))(R:h<U.length)
  (V:0<=(U.getD h (0,0)).1)(q:(U.getD h (0,0)).1<b.S)(W: -9<=(U.getD h (0,0)).2)(Z:(U.getD h (0,0)).2<=9)(w:H)(hl:Cf w b.U U):
  PH F 42 #[b.v,gN sh d,.int .i64 h] w λe w'=>e=.returned (tJ (eT b.S b.L sh d (U.getD h (0,0))))/\Hd w w w':=by
 obtain⟨S,D,L,lo,hi,⟨a',b2,b1⟩,rf,rh,cf,ch,⟨c5,c6,b8⟩,⟨b3,b5,b4⟩,⟨b9,b0,b'⟩⟩:=b;obtain⟨o,c3,d1,l⟩:=hl;simp only[aC.v]at o c3 l g1 g2 g3 g4 q|-;subst o;obtain⟨f,off,rfl,c9,Q⟩:=l zz;obtain⟨O,P⟩:=Q h R;clear Q l;generalize U.getD h (0,0)=p at V q W Z O P|-;obtain⟨x,y⟩:=p;simp only at V q W Z O P;obtain⟨k,rfl⟩:∃k:Nat,x=(k:Int):=⟨x.toNat,zz⟩;have c':(#[.int .i64 sh,.bool (d 0),.bool (d 1),.bool (d 2),.bool (d 3),.bool (d 4),.bool (d 5),.bool (d 6),.bool (d 7),.bool (d 8),.bool (d 9),.bool (d 10),.bool (d 11)]:Array M)[1+k]?=Y (.bool (d k)):=by
  rcases(show k=0\/k=1\/k=2\/k=3\/k=4\/k=5\/k=6\/k=7\/k=8\/k=9\/k=10\/k=11 from zz)with rfl|rfl|rfl|rfl|rfl|rfl|rfl|rfl|rfl|rfl|rfl|rfl<;>rfl
 have e1:f<w.heap.size+1:=zz;have e2:f<w.heap.size+2:=zz;have e3:f<w.heap.size+3:=zz;unfold gN;go_enter Tryz.func42,Tryz.ntmps42;go_wp2
 .have c:eT S L sh d (↑k,y)=λ_=>false:=by funext n;unfold eT;simp only[ll];rw[qWB ‹y+sh<=0\/d k=true›]
  rw[c];refine bd (v:=tJ λ_=>false) ?_ rfl ⟨rfl,?_⟩
  .simp[results,Tryz.results42,go_sem,tJ]
  .exact bt
 .go_quiet ((fail));have m0:0<=(↑k+S/2)%S:=Int.emod_nonneg _ zz;have m1:(↑k+S/2)%S<S:=Int.emod_lt_of_pos _ zz;go_wp2;generalize T:(↑k+S/2)%S=m at m0 m1|-;have b7:=Hm T;clear T;go_loopw [53] (λi wr=>∃n:Nat,(n:Int)<=S/\i=.int .i64 n/\Hd (w.heap.size+1) (w.alloc (Dg ⟨S,D,L,lo,hi,⟨a',b2,b1⟩,rf,rh,cf,ch,⟨Y ⟨f,off,I⟩,U.length,b8⟩,⟨b3,b5,b4⟩,⟨b9,b0,b'⟩⟩)) wr/\iB wr (w.heap.size+1+1) 80 (λi=>decide (i<n)&&FT S L k (y+sh) i)) (λi _=>S.toNat-(intOf i).toNat)
  case atStart=>
   refine⟨0,zz,rfl,?_,?_⟩
   .show Hd (w.heap.size+1) (w.alloc (aE _ 75)) _;simp only[aE];exact bt
   .refine⟨#[.bool false,.bool false,.bool false,.bool false,.bool false,.bool false,.bool false,.bool false,.bool false,.bool false,.bool false,.bool false],?_,rfl,λi hi=>?_⟩
    .exact An w _ _ _ _
    .rcases(show i=0\/i=1\/i=2\/i=3\/i=4\/i=5\/i=6\/i=7\/i=8\/i=9\/i=10\/i=11 from zz)with rfl|rfl|rfl|rfl|rfl|rfl|rfl|rfl|rfl|rfl|rfl|rfl<;>simp
  case round=>
   obtain⟨n,o,rfl,g,a⟩:=hrel;have c4:(w:Nat)+1<=wr:=by have:=g.size;rw[aa]at this;exact this
   have d3:(w:Nat)<wr:=c4;by_cases d2:(n:Int)<S
   ·(obtain⟨r,s,A,B,C,E,G,J,K,N,t,u,z⟩:=iw g;dsimp only at r s A B C E G J K N t u z)
    have c7:=a.cell n zz;have fa:=a.free n;have r0:0<=((n:Int)-m)%S:=Int.emod_nonneg _ zz;have r1:((n:Int)-m)%S<S:=Int.emod_lt_of_pos _ zz;go_wp2;go_roundw
    case rel=>
     refine⟨n+1,zz,by go_num,g.setCell ss _,a.set zz ?_ ?_⟩
     .simp only[FT,b7.out];simp;all_goals (generalize((n:Int)-m)%S=X;rw[Int.min_def];split<;>split<;>omega)
     .intro j _ hj;have:decide (j<n+1)=decide (j<n):=by simp;omega
      rw[this]
    case measure=>simp[intOf];omega
   .have c8:(n:Int)=S:=zz
    (obtain⟨r,s,A,B,C,E,G,J,K,N,t,u,z⟩:=iw g;dsimp only at r s A B C E G J K N t u z)
    have a0:=a.cell 0 zz;have a1:=a.cell 1 zz;have a2:=a.cell 2 zz;have a3:=a.cell 3 zz;have a4:=a.cell 4 zz;have a5:=a.cell 5 zz;have a6:=a.cell 6 zz;have a7:=a.cell 7 zz;have a8:=a.cell 8 zz;have a9:=a.cell 9 zz;have c1:=a.cell 10 zz;have c2:=a.cell 11 zz;have fr:=λi=>a.free i;have c:eT S L sh d (↑k,y)=λi=>decide (i<n)&&FT S L k (y+sh) i:=by
     funext i;unfold eT;simp only[ll];rw[qVB (by rename_i R _;simp;omega)];congr 1;simp;omega
    have b6:=Hm c;clear c;go_wp2;rw[b6.out];refine bd (v:=tJ λi=>decide (i<n)&&FT S L k (y+sh) i) ?_ rfl ⟨rfl,?_⟩
    .simp[results,Tryz.results42,go_sem,tJ,a0,a1,a2,a3,a4,a5,a6,a7,a8,a9,c1,c2]
    .exact bt
 .have c:eT S L sh d (↑k,y)=λ_=>false:=by funext n;exact qWB (Or.inl (show y+sh<=0 by with_reducible assumption))
  rw[c];refine bd (v:=tJ λ_=>false) ?_ rfl ⟨rfl,?_⟩
  .simp[results,Tryz.results42,go_sem,tJ]
  .exact bt
variable{sh:Int}{f':Nat->Bool}
def vl(w:H)(g:Nat)(t:Lk)(sh:Int)(f:Nat->Bool):Prop:=∃cs:Array M,w.heap[g]?=Y (.cells cs t (0,0))/\cs.size=13/\cs[0]?=Y (.int .i64 sh)/\∀i,i<12->cs[1+i]?=Y (.bool (f i))
def vl.cell(h:vl w g t sh f)(i:Nat)(hi:i<12):w (g,1+i)=Y (.bool (f i)):=by
 obtain⟨cs,a, -, -, b⟩:=h;rw[H.cell?,a];exact b i hi
def vl.cell0(h:vl w g t sh f):w (g,0)=Y (.int .i64 sh):=by
 obtain⟨cs,a, -, b,-⟩:=h;rw[H.cell?,a];exact b
def vl.free(h:vl w g t sh f)(i:Nat):w.frozen? (g,i)=false:=by
 obtain⟨cs,a, -, -,-⟩:=h;simp[H.frozen?,a]
def vl.set(h:vl w g t sh f){i:Nat}(hi:i<12){v:Bool}(d:f' i=v)(h2:∀j,j<12->j≠i->f' j=f j):vl (w.setCell (g,1+i) (.bool v)) g t sh f':=by
 obtain⟨cs,e1,a,e0,c⟩:=h;refine⟨cs.setIfInBounds (1+i) (.bool v),by simp[H.setCell,nc,e1],by simpa using a,?_,λj b=>?_⟩
 .rw[jx zz,e0]
 .by_cases e:i=j
  .subst e;simp[fc,a,d,show 1+i<13 by omega]
  .rw[jx zz,c j b,h2 j b (λx=>e x.symm)]
def vl.below{B:Nat}(h:vl w g t sh f)(b:X B w w')(c:g<B):vl w' g t sh f:=by
 obtain⟨cs,e1,a⟩:=h;exact⟨cs,(b.block g c).tn e1,a⟩
def jI{o1 o2 o3:Obj}(h:X (((w.alloc o1).alloc o2).alloc o3).heap.size (((w.alloc o1).alloc o2).alloc o3) w'):X w w w':=
 ((((X.refl _ _).alloc (qN _) o1).alloc (by simp only[aa];omega) o2).alloc (by simp only[aa];omega) o3).tn (h.mono (by simp only[aa];omega))
def vl.new(w:H)(t:Lk)(sh:Int)(f:Nat->Bool):vl (w.alloc (.cells #[.int .i64 sh,.bool (f 0),.bool (f 1),.bool (f 2),.bool (f 3),.bool (f 4),.bool (f 5),.bool (f 6),.bool (f 7),.bool (f 8),.bool (f 9),.bool (f 10),.bool (f 11)] t)) w t sh f:=
 ⟨_,Sp _ _,rfl,rfl,λi hi=>by
  rcases(show i=0\/i=1\/i=2\/i=3\/i=4\/i=5\/i=6\/i=7\/i=8\/i=9\/i=10\/i=11 from zz)with rfl|rfl|rfl|rfl|rfl|rfl|rfl|rfl|rfl|rfl|rfl|rfl<;>rfl⟩
def vl.new2(w:H)(a b:Obj)(t:Lk)(sh:Int)(f:Nat->Bool):vl (((w.alloc a).alloc b).alloc (.cells #[.int .i64 sh,.bool (f 0),.bool (f 1),.bool (f 2),.bool (f 3),.bool (f 4),.bool (f 5),.bool (f 6),.bool (f 7),.bool (f 8),.bool (f 9),.bool (f 10),.bool (f 11)] t)) (w.heap.size+1+1) t sh f:=by
 have:=vl.new ((w.alloc a).alloc b) t sh f;simp only[aa]at this;exact this
def vl.all(h:vl w g t sh f):w (g,0)=Y (.int .i64 sh)/\w (g,1)=Y (.bool (f 0))/\w (g,2)=Y (.bool (f 1))/\w (g,3)=Y (.bool (f 2))/\w (g,4)=Y (.bool (f 3))/\w (g,5)=Y (.bool (f 4))/\w (g,6)=Y (.bool (f 5))/\w (g,7)=Y (.bool (f 6))/\w (g,8)=Y (.bool (f 7))/\w (g,9)=Y (.bool (f 8))/\w (g,10)=Y (.bool (f 9))/\w (g,11)=Y (.bool (f 10))/\w (g,12)=Y (.bool (f 11)):=
 ⟨h.cell0,h.cell 0 zz,h.cell 1 zz,h.cell 2 zz,h.cell 3 zz,h.cell 4 zz,h.cell 5 zz,h.cell 6 zz,h.cell 7 zz,h.cell 8 zz,h.cell 9 zz,h.cell 10 zz,h.cell 11 zz⟩
def wM{S:Int}:∀{l:List Int} {p:Option Int},bS S p l=0->∀x∈l,0<=x/\x<S
 | [],_,_=>λx a=>by simp at a
 | n::r,p,h=>by
  have key:ax n 0 (S-1)=true/\bS S (Y n) r=0:=by
   by_cases b:ax n 0 (S-1)=false
   .cases p<;>(simp only[bS]at h;rw[qWB b]at h;omega)
   .refine⟨by simpa using b,?_⟩
    cases p with
    | none=>simp only[bS]at h;rw[qVB b,qVB ss]at h;exact h
    | some y=>
     simp only[bS]at h;rw[qVB b]at h;by_cases c:decide (n<=y)=true
     .rw[qWB c]at h;omega
     .rw[qVB c]at h;exact h
  intro x a;rcases dq.1 a with rfl|a
  .have:=qM.1 key.1;omega
  .exact wM key.2 x a
def r7(S sh:Int)(l:List Int):Int:=if ax sh (-3) 3=true then bS S I l else 1
def eM(l:List Int):Nat->Bool:=λn=>decide ((n:Int)∈l)
def mI:Nat->Bool:=λ_=>false
def NY(b:aC)(sh:Int)(l:List Int)(w:H)(e:Ending)(w':H):Prop:=e=.returned (.tuple #[if r7 b.S sh l=0 then gN sh (eM l)else gN 0 mI,.int .i64 (r7 b.S sh l)])/\X w w w'
theorem FU(b:aC)(E:4<=b.S)(h2:b.S<=12)(sh:Int)(s:Sl)(l:List Int)(w:H)(hl:eC w s l):
  PH F 82 #[b.v,.agg #[.int .i64 sh,.slice s.A s.n s.c]] w (NY b sh l w):=by
 have o:=λa (h:eC a s l)=>xS b zz zz s l a h;have B:=Hm hl;obtain⟨A,a0,c⟩:=s;obtain⟨rfl,T,a6,J⟩:=hl;have P:=Hm J;clear J;simp only at o T;by_cases u:ax sh (-3) 3=true
 .by_cases r:bS b.S I l=0
  .have N:=wM r;have HR:PQ (r7 b.S sh l=0):=by unfold r7;rw[qWB u];exact r
   have Q:=Hm N;clear N;unfold aC.v at o|-;go_enter Tryz.func82,Tryz.ntmps82;go_wp2_with (first|(go_at_call 83;refine(eA _ _ _ _).mono ?_;rintro e w' ⟨rfl,rfl⟩)|(go_at_call 111;refine(o _ (aZ (aZ (aZ B.out _) _) _)).mono ?_;rintro e a ⟨rfl,f⟩;obtain⟨G,L⟩:=aU f;have O:w.heap.size+1+1<a.heap.size:=(by have:=f.size;simp only[aa]at this;omega);have a2:w.heap.size+1<a.heap.size:=zz;have a3:w.heap.size<a.heap.size:=zz));go_loopw [29] (λi wr=>∃k:Nat,k<=l.length/\i=.int .i64 k/\X a.heap.size a wr/\vl wr a.heap.size 82 sh (eM (l.take k))) (λi _=>l.length-(intOf i).toNat)
   case atStart=>
    refine⟨0,zz,rfl,by exact bt,?_⟩;have e:eM (l.take 0)=mI:=by funext n;simp[eM,mI]
    rw[e];exact vl.new a 82 sh mI
   case round=>
    obtain⟨k,hk,rfl,q,m⟩:=hrel;have a9:(a:Nat)<=wr:=q.size;by_cases t:k<l.length
    .obtain⟨g,off,rfl,S,K⟩:=P.out zz;obtain⟨d,a1⟩:∃d:Nat,l.getD k 0=(d:Int)/\(d:Int)<b.S:=by
      have V:l.getD k 0∈l:=by simp[List.getD,iv t]
      have:=Q.out _ V;exact⟨(l.getD k 0).toNat,zz,zz⟩
     obtain⟨z,a'⟩:=a1;have a5:wr (g,off+k)=Y (.int .i64 d):=by
      rw[q.cell (p:=⟨g,off+k,I⟩) (by show g<a.heap.size;omega),f.cell (p:=⟨g,off+k,I⟩) (by simp only[aa];omega),<- z,<- K k t];rw[H.cell?_alloc_lt _ _ ⟨g,off+k,I⟩ (by simp only[aa];omega),H.cell?_alloc_lt _ _ ⟨g,off+k,I⟩ (by simp only[aa];omega),H.cell?_alloc_lt _ _ ⟨g,off+k,I⟩ S]
     have W:=λv Z f' E h2=>m.set (i:=d) (v:=v) (f':=f') Z E h2;have C:PQ (∀n:Nat,eM (l.take (k+1)) n=if n=d then true else eM (l.take k) n):=λn=>by
      rw[lh t];have:l[k]=(d:Int):=by rw[<- z];simp[List.getD,iv t]
      rw[this];by_cases e:n=d
      .subst e;simp[eM]
      .simp[eM,e,show¬(n:Int)=d by omega]
     have a4:=m.cell d zz;have fa:=m.free (1+d);clear z K W;go_wp2;go_roundw
     case rel=>exact⟨k+1,zz,by go_num,by exact bt,m.set zz (by rw[C.out,qWB rfl]) (λj _ U=>by rw[C.out,qVB U])⟩
     case measure=>simp[intOf];omega
    .obtain rfl:k=l.length:=zz;rw[List.take_length]at m;obtain⟨y0,y1,y2,y3,y4,y5,y6,y7,y8,y9,b1,b2,b3⟩:=m.all;have y:vl wr (w.heap.size+1+1) 82 0 mI:=((vl.new2 w _ _ 82 0 mI).below f (by simp only[aa];omega)).below q O;obtain⟨z0,z1,z2,z3,z4,z5,z6,z7,z8,z9,b4,b5,b6⟩:=y.all;have b7:=λi=>y.free i;have x:=Hm ((jI f).tn (q.mono zz));clear y f q m G L;go_wp2;refine bd (v:=.tuple #[gN sh (eM l),.int .i64 0]) ?_ rfl ⟨by rw[HR.out];rfl,?_⟩
     .simp[results,Tryz.results82,go_sem,gN, *]
     .have x:=x.out;exact bt
  .have HR:PQ (r7 b.S sh l=bS b.S I l):=by unfold r7;rw[qWB u];exact rfl
   have a7:(bS b.S I l != 0)=true:=by simpa using r
   have R:=Hm r;clear r;unfold aC.v at o|-;go_enter Tryz.func82,Tryz.ntmps82;go_wp2_with (first|(go_at_call 83;refine(eA _ _ _ _).mono ?_;rintro e w' ⟨rfl,rfl⟩)|(go_at_call 111;refine(o _ (aZ (aZ (aZ B.out _) _) _)).mono ?_;rintro e a ⟨rfl,f⟩;obtain⟨G,L⟩:=aU f;have O:w.heap.size+1+1<a.heap.size:=(by have:=f.size;simp only[aa]at this;omega);have a2:w.heap.size+1<a.heap.size:=zz;have a3:w.heap.size<a.heap.size:=zz));refine bd (v:=.tuple #[gN 0 mI,.int .i64 (bS b.S I l)]) ?_ rfl ⟨by rw[HR.out,qVB R.out],?_⟩
   .simp[results,Tryz.results82,go_sem,gN,mI, *]
   .have x:=jI f;exact bt
 .have a8:ax sh (-3) 3=false:=by simpa using u
  have HR:PQ (r7 b.S sh l=1):=by unfold r7;rw[qVB u];exact rfl
  unfold aC.v;go_enter Tryz.func82,Tryz.ntmps82;go_wp2_with ((go_at_call 83;refine(eA _ _ _ _).mono ?_;rintro e w' ⟨rfl,rfl⟩));refine bd (v:=.tuple #[gN 0 mI,.int .i64 1]) ?_ rfl ⟨by rw[HR.out];rfl,?_⟩
  .simp[results,Tryz.results82,go_sem,gN,mI, *]
  .exact bt
variable{l:pK}{w1 w2:H}{o1 o2 o3 o4:Obj}
def iy:Sl:=⟨I,0,0⟩
def bI:aC:=⟨0,0,0,0,0,iy,0,0,0,0,iy,iy,iy⟩
def aF(sh:Int)(s:Sl):M:=.agg #[.int .i64 sh,.slice s.A s.n s.c]
def NZ(b:aC)(l:pK)(sh:Int)(d:List Int)(w:H)(e:Ending)(w':H):Prop:=
 (if ay b l=0 then e=.returned (.tuple #[b.v,if r7 b.S sh d=0 then gN sh (eM d)else gN 0 mI,.int .i64 (r7 b.S sh d)])else e=.returned (.tuple #[bI.v,gN 0 mI,.int .i64 (ay b l)]))/\X w w w'
def bP(h:ay b l=0):Iv b l.C=0/\cZ b=0/\fH b.S l.U=0/\fT b.rf b.ch l.E=0/\ki b.S l.U.length l.W=0:=by
 unfold ay at h;by_cases a:Iv b l.C=0
 .by_cases c:cZ b=0
  .by_cases h2:fH b.S l.U=0
   .by_cases d:fT b.rf b.ch l.E=0
    .simp[a,c,h2,d]at h;exact⟨a,c,h2,d,h⟩
    .simp[a,c,h2,d]at h
   .simp[a,c,h2]at h
  .simp[a,c]at h
 .simp[a]at h
def aq(h:aI w b l)(o:Obj):aI (w.alloc o) b l:=h.below ((X.refl _ _).alloc (qN _) o)
def ai(h:aD w)(o:Obj):aD (w.alloc o):=h.below ((X.refl _ _).alloc (qN _) o)
def lI{w w':H}(h:X ((((w.alloc o1).alloc o2).alloc o3).alloc o4).heap.size ((((w.alloc o1).alloc o2).alloc o3).alloc o4) w'):X w w w':=
 (((((X.refl _ _).alloc (qN _) o1).alloc (by simp only[aa];omega) o2).alloc (by simp only[aa];omega) o3).alloc (by simp only[aa];omega) o4).tn (h.mono (by simp only[aa];omega))
def I2(a:X ((((w.alloc o1).alloc o2).alloc o3).alloc o4).heap.size ((((w.alloc o1).alloc o2).alloc o3).alloc o4) w1)(h2:X w1 w1 w2)(o:Obj):X (w.heap.size+1+1+1+1) ((((w.alloc o1).alloc o2).alloc o3).alloc o4) (w2.alloc o):=by
 simp only[aa]at a;have b:=a.size;simp only[aa]at b;exact(a.tn (h2.mono b)).alloc (qO b h2.size) o
def Sf(a:X ((((w.alloc o1).alloc o2).alloc o3).alloc o4).heap.size ((((w.alloc o1).alloc o2).alloc o3).alloc o4) w1)(h2:X w1 w1 w2)(o:Obj):X (w.heap.size+1) (w.alloc o1) (w2.alloc o):=
 ((((X.refl _ _).alloc (by simp only[aa];omega) o2).alloc (by simp only[aa];omega) o3).alloc (by simp only[aa];omega) o4).tn ((I2 a h2 o).mono zz)
def Sg(a:X ((((w.alloc o1).alloc o2).alloc o3).alloc o4).heap.size ((((w.alloc o1).alloc o2).alloc o3).alloc o4) w1)(h2:X w1 w1 w2)(o:Obj):X w w (w2.alloc o):=
 ((lI a).tn (h2.mono (lI a).size)).alloc (qO (lI a).size h2.size) o
def aK(w:H)(g:Nat)(t:Lk)(b:aC):Prop:=w.heap[g]?=Y (aE b t)
def Si{f:Nat->Bool}{sh:Int}(d:X ((((w.alloc o1).alloc o2).alloc (aE b 75)).alloc (.cells #[.int .i64 sh,.bool (f 0),.bool (f 1),.bool (f 2),.bool (f 3),.bool (f 4),.bool (f 5),.bool (f 6),.bool (f 7),.bool (f 8),.bool (f 9),.bool (f 10),.bool (f 11)] 82)).heap.size ((((w.alloc o1).alloc o2).alloc (aE b 75)).alloc (.cells #[.int .i64 sh,.bool (f 0),.bool (f 1),.bool (f 2),.bool (f 3),.bool (f 4),.bool (f 5),.bool (f 6),.bool (f 7),.bool (f 8),.bool (f 9),.bool (f 10),.bool (f 11)] 82)) w1)(h2:X w1 w1 w2)(o:Obj):
  aK (w2.alloc o) (w.heap.size+1+1) 75 b/\vl (w2.alloc o) (w.heap.size+1+1+1) 82 sh f:=by
 have a:=I2 d h2 o;refine⟨(a.block _ zz).tn (An w _ _ _ _),?_⟩;have c:=vl.new (((w.alloc o1).alloc o2).alloc (aE b 75)) 82 sh f;simp only[aa]at c;exact c.below a zz
def dx(h:aK w g t b):∀i,w.frozen? ⟨g,i,I⟩=false:=λi=>by
 unfold aK aE at h;simp[H.frozen?,h]
def aM(h:aK w g t b):
  w.cell? ⟨g,0,I⟩=Y (.int .i64 b.S)/\w.cell? ⟨g,1,I⟩=Y (.int .i64 b.D)/\w.cell? ⟨g,2,I⟩=Y (.int .i64 b.L)/\w.cell? ⟨g,3,I⟩=Y (.int .i64 b.lo)/\w.cell? ⟨g,4,I⟩=Y (.int .i64 b.hi)/\
  w.cell? ⟨g,5,I⟩=Y (.slice b.C.A b.C.n b.C.c)/\w.cell? ⟨g,6,I⟩=Y (.int .i64 b.rf)/\w.cell? ⟨g,7,I⟩=Y (.int .i64 b.rh)/\w.cell? ⟨g,8,I⟩=Y (.int .i64 b.cf)/\w.cell? ⟨g,9,I⟩=Y (.int .i64 b.ch)/\
  w.cell? ⟨g,10,I⟩=Y (.slice b.U.A b.U.n b.U.c)/\w.cell? ⟨g,11,I⟩=Y (.slice b.E.A b.E.n b.E.c)/\w.cell? ⟨g,12,I⟩=Y (.slice b.W.A b.W.n b.W.c):=by
 have key:∀i v,(#[.int .i64 b.S,.int .i64 b.D,.int .i64 b.L,.int .i64 b.lo,.int .i64 b.hi,.slice b.C.A b.C.n b.C.c,.int .i64 b.rf,.int .i64 b.rh,.int .i64 b.cf,.int .i64 b.ch,.slice b.U.A b.U.n b.U.c,.slice b.E.A b.E.n b.E.c,.slice b.W.A b.W.n b.W.c]:Array M)[i]?=Y v->w.cell? ⟨g,i,I⟩=Y v:=by
  intro i v a;unfold aK at h;rw[H.cell?,h];exact a
 refine⟨key _ _ rfl,key _ _ rfl,key _ _ rfl,key _ _ rfl,key _ _ rfl,key _ _ rfl,key _ _ rfl,key _ _ rfl,key _ _ rfl,key _ _ rfl,key _ _ rfl,key _ _ rfl,key _ _ rfl⟩
theorem sO(b:aC)(l:pK)(sh:Int)(s:Sl)(d:List Int)(w:H)(hl:aI w b l)(x:aD w)(z:eC w s d):
  PH F 40 #[b.v,aF sh s] w (NZ b l sh d w):=by
 have u:=Hm hl;have t:=Hm x;have E:=Hm z;clear hl x z;have k:=λw1 (L:aI w1 b l) (h2:aD w1)=>cG b l w1 L h2;by_cases c:ay b l=0
 .obtain⟨V,Z,-⟩:=cS (bP c).1;have j:∃ik f,(if r7 b.S sh d=0 then gN sh (eM d)else gN 0 mI)=gN ik f:=by
   by_cases h:r7 b.S sh d=0
   .exact⟨sh,eM d,by rw[qWB h]⟩
   .exact⟨0,mI,by rw[qVB h]⟩
  obtain⟨ik,f,j⟩:=j;have m:∀w1,eC w1 s d->PH F 82 #[b.v,.agg #[.int .i64 sh,.slice s.A s.n s.c]] w1 λe w'=>e=.returned (.tuple #[gN ik f,.int .i64 (r7 b.S sh d)])/\X w1 w1 w':=λw1 h=>
   (FU b V Z sh s d w1 h).mono λe w' P=>by
    obtain⟨C,U⟩:=P;rw[j]at C;exact⟨C,U⟩
  have K:=Hm j;have HR:=Hm c;clear j;simp only[c]at k;clear c;obtain⟨r,q⟩:∃r,r7 b.S sh d=r:=⟨_,rfl⟩;simp only[q]at m;have J:=Hm q;clear q;unfold aC.v at k m|-;unfold aF;unfold gN at m;go_enter Tryz.func40,Tryz.ntmps40;go_wp2_with (first|(go_at_call 30;refine(k _ (aq (aq (aq (aq u.out _) _) _) _) (ai (ai (ai (ai t.out _) _) _) _)).mono ?_;rintro e w1 ⟨rfl,a⟩;obtain⟨y,A⟩:=aU a;have Q:w.heap.size+1+1+1<w1.heap.size:=(by have:=a.size;simp only[aa]at this;omega);have R:w.heap.size+1+1<w1.heap.size:=zz;have S:w.heap.size+1<w1.heap.size:=zz;have T:w.heap.size<w1.heap.size:=zz)|(go_at_call 82;refine(m _ (E.out.below (lI a))).mono ?_;rintro e w2 ⟨rfl,g⟩;obtain⟨N,O⟩:=aU g;have a8:w1.heap.size<=w2.heap.size:=g.size;have a9:w.heap.size+1+1+1<w2.heap.size:=zz;have a':w.heap.size+1+1<w2.heap.size:=zz;have a0:w.heap.size+1<w2.heap.size:=zz;have b1:w.heap.size<w2.heap.size:=zz));have B:X (w.heap.size+1) (w.alloc (aE b 31)) (w2.alloc (.cells #[.int .i64 ik,.bool (f 0),.bool (f 1),.bool (f 2),.bool (f 3),.bool (f 4),.bool (f 5),.bool (f 6),.bool (f 7),.bool (f 8),.bool (f 9),.bool (f 10),.bool (f 11)] 82)):=Sf a g _;obtain⟨x0,x1,x2,x3,x4,x5,x6,x7,x8,x9,a1,a2,a3⟩:=iw B;have hk:=vl.new w2 82 ik f;obtain⟨y0,y1,y2,y3,y4,y5,y6,y7,y8,y9,a4,a5,a6⟩:=hk.all;obtain⟨o,n⟩:=Si (b:=bI) (f:=mI) (sh:=0) a g (.cells #[.int .i64 ik,.bool (f 0),.bool (f 1),.bool (f 2),.bool (f 3),.bool (f 4),.bool (f 5),.bool (f 6),.bool (f 7),.bool (f 8),.bool (f 9),.bool (f 10),.bool (f 11)] 82);have hB:=Sg a g (.cells #[.int .i64 ik,.bool (f 0),.bool (f 1),.bool (f 2),.bool (f 3),.bool (f 4),.bool (f 5),.bool (f 6),.bool (f 7),.bool (f 8),.bool (f 9),.bool (f 10),.bool (f 11)] 82);clear B hk y N A O;generalize(w2.alloc (.cells #[.int .i64 ik,.bool (f 0),.bool (f 1),.bool (f 2),.bool (f 3),.bool (f 4),.bool (f 5),.bool (f 6),.bool (f 7),.bool (f 8),.bool (f 9),.bool (f 10),.bool (f 11)] 82))=W at x0 x1 x2 x3 x4 x5 x6 x7 x8 x9 a1 a2 a3 y0 y1 y2 y3 y4 y5 y6 y7 y8 y9 a4 a5 a6 o n hB|-;obtain⟨z0,z1,z2,z3,z4,z5,z6,z7,z8,z9,b6,b7,b8⟩:=aM o;obtain⟨u0,u1,u2,u3,u4,u5,u6,u7,u8,u9,b2,b3,b4⟩:=n.all;have b9:=dx o;have b5:=λi=>n.free i;have p:=Hm hB;clear a g o n hB;go_region;go_wp2;refine bd (v:=.tuple #[b.v,gN ik f,.int .i64 r]) ?_ rfl ⟨by rw[qWB HR.out,K.out,J.out],?_⟩
  .simp[results,Tryz.results40,go_sem,gN,aC.v, *]
  .have p:=p.out;exact bt
 .have a7:(ay b l != 0)=true:=by simpa using c
  have G:=Hm c;clear c;unfold aC.v aF at*;go_enter Tryz.func40,Tryz.ntmps40;go_wp2_with (go_at_call 30;refine(k _ (aq (aq (aq (aq u.out _) _) _) _) (ai (ai (ai (ai t.out _) _) _) _)).mono ?_;rintro e w1 ⟨rfl,a⟩;obtain⟨y,A⟩:=aU a;have Q:w.heap.size+1+1+1<w1.heap.size:=(by have:=a.size;simp only[aa]at this;omega);have R:w.heap.size+1+1<w1.heap.size:=zz;have S:w.heap.size+1<w1.heap.size:=zz;have T:w.heap.size<w1.heap.size:=zz);refine bd (v:=.tuple #[bI.v,gN 0 mI,.int .i64 (ay b l)]) ?_ rfl ⟨by rw[qVB G.out],?_⟩
  .simp[results,Tryz.results40,go_sem,gN,bI,aC.v,iy,mI, *]
  .have p:=lI a;exact bt
variable{S:Int}
def N1:∀{l:List (Int×Int)},nD S l=0->∀p∈l,0<=p.1/\p.1<S/\ -9<=p.2/\p.2<=9
 | [],_=>λp c=>by simp at c
 | (a,h)::r,b=>by
  simp only[nD]at b;by_cases d:ax a 0 (S-1)=false
  .rw[qWB d]at b;omega
  .rw[qVB d]at b;by_cases h2:ax h (-9) 9=false
   .rw[qWB h2]at b;omega
   .rw[qVB h2]at b;intro p c;rcases dq.1 c with rfl|c
    .have e1:=qM.1 (by simpa using d:ax a 0 (S-1)=true);have e:=qM.1 (by simpa using h2:ax h (-9) 9=true);exact⟨e1.1,by show a<S;omega,e.1,e.2⟩
    .exact N1 b p c
def kP{l:List (Int×Int)}(h:fH S l=0)(k:Nat)(hk:k<l.length):0<=(l.getD k (0,0)).1/\(l.getD k (0,0)).1<S/\ -9<=(l.getD k (0,0)).2/\(l.getD k (0,0)).2<=9:=by
 unfold fH at h;split at h
 .exact N1 h _ (by simp[List.getD,iv hk])
 .omega
def tM{S sh:Int}{l:List Int}(h:r7 S sh l=0): -3<=sh/\sh<=3/\bS S I l=0:=by
 unfold r7 at h;split at h
 .rename_i a;have:=qM.1 a;exact⟨this.1,this.2,h⟩
 .omega
def dy{B B' e size n:Nat}{v:M}{xs:List M}(hB:B'<=B)(h:w.ownsRow B e size v n xs):w.ownsRow B' e size v n xs:=by
 refine⟨h.1,h.2.imp id ?_⟩;rintro⟨g,a,b,c,h2,d⟩;exact⟨g,a,b,c,qO hB h2,d⟩
def IA{o1 o2:Obj}(h:X ((w.alloc o1).alloc o2).heap.size ((w.alloc o1).alloc o2) w'):X w w w':=
 (((X.refl _ _).alloc (qN _) o1).alloc (by simp only[aa];omega) o2).tn (h.mono (by simp only[aa];omega))
def cT(b:aC)(l:pK)(sh:Int)(d:List Int)(a:Int):List Int×Int:=
 if ay b l≠0 then([],ay b l)else if r7 b.S sh d≠0 then([],r7 b.S sh d)else if ax a 0 (l.U.length-1)=false then([],6)
 else(ie (eT b.S b.L sh (eM d) (l.U.getD a.toNat (0,0))) 12,0)
def ji(B:Nat)(L:List Int)(r:Int)(w:H)(e:Ending)(w':H):Prop:=
 ∃A c,e=.returned (.tuple #[.slice A L.length c,.int .i64 r])/\w'.ownsRow B 3 1 (.slice A L.length c) L.length (L.map (M.int .i64))/\X B w w'
def ji.nil{r:Int}{e:Ending}(h:X B w w')(a:e=.returned (.tuple #[.slice I 0 0,.int .i64 r])):ji B [] r w e w':=⟨I,0,a,H.ownsRow_nil _ _ _ _,h⟩
theorem oH(b:aC)(l:pK)(sh:Int)(s:Sl)(d:List Int)(m:Int)(w:H)(hl:aI w b l)(S:aD w)(T:eC w s d):
  PH F 12 #[b.v,aF sh s,.int .i64 m] w λe w'=>ji w (cT b l sh d m).1 (cT b l sh d m).2 w e w':=by
 have z:=Hm hl;have K:=Hm S;have J:=Hm T;have n:=hl.U.1;have a8:=hl.U.2.2.1;clear hl S T;have g:=λa (r:aI a b l) (h2:aD a) (t:eC a s d)=>sO b l sh s d a r h2 t;by_cases i:ay b l=0
 .by_cases k:r7 b.S sh d=0
  .have g:∀a,aI a b l->aD a->eC a s d->PH F 40 #[b.v,aF sh s] a λe w'=>e=.returned (.tuple #[b.v,gN sh (eM d),.int .i64 0])/\X a a w':=λa r h2 t=>
    (g a r h2 t).mono λe w' C=>by
     obtain⟨q,G⟩:=C;rw[qWB i,qWB k,k]at q;exact⟨q,G⟩
   have x:=λa=>oE b m zz a;by_cases v:ax m 0 (b.U.n-1)=true
   .obtain⟨W,f2⟩:=qM.1 v;obtain⟨h,rfl⟩:∃h:Nat,m=(h:Int):=⟨m.toNat,zz⟩;have R:h<l.U.length:=zz;obtain⟨q1,q2,q3,q4⟩:=kP (bP i).2.2.1 h R;obtain⟨t1,t2,t3,t4,t5,t6,-⟩:=cS (bP i).1;obtain⟨v1,v2,-⟩:=tM k;have L:=λa (Z:Cf a b.U l.U)=>qX b t1 t2 t5 t6 sh v1 v2 (eM d) h l.U R q1 q2 q3 q4 a Z;have V:=λa=>xQ (eT b.S b.L sh (eM d) (l.U.getD h (0,0))) a;have p:PQ (cT b l sh d h=(ie (eT b.S b.L sh (eM d) (l.U.getD h (0,0))) 12,0)):=by
     unfold cT;rw[qVB (by simp[i]),qVB (by simp[k]),<- n,qVB (by simp[v])];exact rfl
    generalize a1:eT b.S b.L sh (eM d) (l.U.getD h (0,0))=D at L V p;clear a1;simp only[v]at x;have N:=Hm n;clear n W f2 v i k;unfold aC.v at g x L|-;unfold aF at g|-;unfold gN at g L;go_enter Tryz.func12,Tryz.ntmps12;go_wp2_with (first|(go_at_call 40;refine(g _ (aq (aq z.out _) _) (ai (ai K.out _) _) (aZ (aZ J.out _) _)).mono ?_;rintro e a ⟨rfl,j⟩;obtain⟨P,Q⟩:=aU j;have o:=IA j;have E:=o.size)|(go_at_call 41;refine(x _).mono ?_;rintro e w2 ⟨rfl,u⟩;obtain⟨a3,a4⟩:=aU u;have y:=o.tn ((IA u).mono E);have a6:=(IA u).size)|(go_at_call 42;refine(L _ (z.out.U.below y)).mono ?_;rintro e w3 ⟨rfl,O⟩;obtain⟨a9,a'⟩:=aU O)|(go_at_call 34;refine(V _).mono ?_;rintro e w4 ⟨A,c,rfl,a5,a2⟩));go_ret2;rw[p.out];have b1:=O.size;have a7:=y.size;refine⟨A,c,by simp,dy (B:=w3.heap.size) zz (by simpa using a5),?_⟩;exact(y.tn (O.mono a7)).tn (a2.mono zz)
   .have p:PQ (cT b l sh d m=([],6)):=by
     unfold cT;rw[qVB (by simp[i]),qVB (by simp[k]),<- n,qWB (by simpa using v)];exact rfl
    have U:ax m 0 (b.U.n-1)=false:=by simpa using v
    simp only[U]at x;have N:=Hm n;clear n v U i k;unfold aC.v at g x|-;unfold aF at g|-;unfold gN at g;go_enter Tryz.func12,Tryz.ntmps12;go_wp2_with (first|(go_at_call 40;refine(g _ (aq (aq z.out _) _) (ai (ai K.out _) _) (aZ (aZ J.out _) _)).mono ?_;rintro e a ⟨rfl,j⟩;obtain⟨P,Q⟩:=aU j;have o:=IA j;have E:=o.size)|(go_at_call 41;refine(x _).mono ?_;rintro e w2 ⟨rfl,u⟩;obtain⟨a3,a4⟩:=aU u;have y:=o.tn ((IA u).mono E);have a6:=(IA u).size));go_ret2;rw[p.out];exact ji.nil y rfl
  .have g:∃ik f,∀a,aI a b l->aD a->eC a s d->PH F 40 #[b.v,aF sh s] a λe w'=>e=.returned (.tuple #[b.v,gN ik f,.int .i64 (r7 b.S sh d)])/\X a a w':=⟨0,mI,λa r h2 t=>
    (g a r h2 t).mono λe w' C=>by
     obtain⟨q,G⟩:=C;rw[qWB i,qVB k]at q;exact⟨q,G⟩⟩
   obtain⟨ik,f,g⟩:=g;have p:PQ (cT b l sh d m=([],r7 b.S sh d)):=by
    unfold cT;rw[qVB (by simp[i]),qWB (by simpa using k)];exact rfl
   have R:(r7 b.S sh d != 0)=true:=by simpa using k
   have N:=Hm n;clear n i k;unfold aC.v at g|-;unfold aF at g|-;unfold gN at g;go_enter Tryz.func12,Tryz.ntmps12;go_wp2_with (first|(go_at_call 40;refine(g _ (aq (aq z.out _) _) (ai (ai K.out _) _) (aZ (aZ J.out _) _)).mono ?_;rintro e a ⟨rfl,j⟩;obtain⟨P,Q⟩:=aU j;have o:=IA j;have E:=o.size));go_ret2;rw[p.out];exact ji.nil (by exact bt) rfl
 .have g:∀a,aI a b l->aD a->eC a s d->PH F 40 #[b.v,aF sh s] a λe w'=>e=.returned (.tuple #[bI.v,gN 0 mI,.int .i64 (ay b l)])/\X a a w':=λa r h2 t=>
   (g a r h2 t).mono λe w' C=>by
    obtain⟨q,G⟩:=C;rw[qVB i]at q;exact⟨q,G⟩
  have p:PQ (cT b l sh d m=([],ay b l)):=by
   unfold cT;rw[qWB (by simpa using i)];exact rfl
  have a0:(ay b l != 0)=true:=by simpa using i
  have N:=Hm n;clear n i;unfold aC.v at g|-;unfold aF at g|-;unfold gN bI iy at g;simp only at g;go_enter Tryz.func12,Tryz.ntmps12;go_wp2_with (first|(go_at_call 40;refine(g _ (aq (aq z.out _) _) (ai (ai K.out _) _) (aZ (aZ J.out _) _)).mono ?_;rintro e a ⟨rfl,j⟩;obtain⟨P,Q⟩:=aU j;have o:=IA j;have E:=o.size));go_ret2;rw[p.out];exact ji.nil (by exact bt) rfl
def I6(rf rh ch:Int)(e:Int×Int)(a:Int):Int:=e.1*(rh-e.2)+(a*rf-e.1)*(ch-e.2)
def nJ(rf rh ch:Int)(e:Int×Int)(a:Int):Int:=max (I6 rf rh ch e a) (-I6 rf rh ch e a)
def sR{x y A B:Int}(d: -A<=x/\x<=A)(e: -B<=y/\y<=B)(b:0<=A): -(A*B)<=x*y/\x*y<=A*B:=by
 have hB:0<=B:=zz;have a:x.natAbs*y.natAbs<=A.natAbs*B.natAbs:=Nat.mul_le_mul zz zz;have h2:(x*y).natAbs<=(A*B).natAbs:=by rw[Int.natAbs_mul,Int.natAbs_mul];exact a
 have c:=Int.mul_nonneg b hB;omega
def WB{k:IntKind}{a b c d:Int}(h:a=c)(e:b=d):Ending.returned (.tuple #[.int k a,.int k b])=.returned (.tuple #[.int k c,.int k d]):=by rw[h,e]
theorem Dt(b:aC)(o:2<=b.rf)(q:b.rf<=30)(r:2<=b.rh)(s:b.rh<=60)(t:1<=b.ch)(u:b.ch<=60)(h:Nat)(a:Int)(s1: -1<=a)(s2:a<=1)(E:List (Int×Int))(z:h<E.length)
  (k: -30<=(E.getD h (0,0)).1)(l:(E.getD h (0,0)).1<=30)(m:0<=(E.getD h (0,0)).2)(n:(E.getD h (0,0)).2<=60)(w:H)(hl:Cf w b.E E):
  PH F 65 #[b.v,.int .i64 h,.int .i64 a] w λe w'=>e=.returned (.tuple #[.int .i64 (nJ b.rf b.rh b.ch (E.getD h (0,0)) a),.int .i64 (b.rh-(E.getD h (0,0)).2)])/\X w w w':=by
 obtain⟨S,D,L,lo,hi,⟨C,J,G⟩,rf,rh,cf,ch,⟨P,R,Q⟩,⟨K,O,N⟩,⟨T,V,U⟩⟩:=b;obtain⟨j,v,a1,c⟩:=hl;simp only[aC.v]at j v c o q r s t u|-;subst j;obtain⟨d,off,rfl,Z,i⟩:=c zz;obtain⟨f,g⟩:=i h z;clear i c;generalize E.getD h (0,0)=p at k l m n f g|-;obtain⟨x,y⟩:=p;simp only at k l m n f g;have e1:d<w.heap.size+1:=zz;have W:d<w.heap.size+2:=zz;obtain⟨m1,m2⟩:=sR (x:=x) (y:=rh-y) (A:=30) (B:=60) zz zz zz;obtain⟨m3,m4⟩:=sR (x:=a) (y:=rf) (A:=1) (B:=30) zz zz zz;obtain⟨m5,m6⟩:=sR (x:=a*rf-x) (y:=ch-y) (A:=60) (B:=60) zz zz zz;go_enter Tryz.func65,Tryz.ntmps65;go_wp2;all_goals go_ret2
 all_goals refine⟨WB ?_ rfl,by exact bt⟩
 all_goals simp only[nJ,I6]
 all_goals omega
def jC(b:aC)(e:Int×Int)(a:Int):Bool:=decide (b.cf*(b.rh-e.2)<nJ b.rf b.rh b.ch e a)
def Br{rf rh ch x y side:Int}(a:2<=rf)(b:rf<=30)(c:2<=rh)(d:rh<=60)(e:1<=ch)(f:ch<=60)(p: -1<=side)(s2:side<=1)(l: -30<=x)(m:x<=30)(n:0<=y)(o:y<=60):0<=nJ rf rh ch (x,y) side/\nJ rf rh ch (x,y) side<=6000:=by
 obtain⟨g,m2⟩:=sR (x:=x) (y:=rh-y) (A:=30) (B:=60) zz zz zz;obtain⟨h,i⟩:=sR (x:=side) (y:=rf) (A:=1) (B:=30) zz zz zz;obtain⟨j,k⟩:=sR (x:=side*rf-x) (y:=ch-y) (A:=60) (B:=60) zz zz zz;simp only[nJ,I6];omega
theorem N7(b:aC)(l:2<=b.rf)(m:b.rf<=30)(o:2<=b.rh)(p:b.rh<=60)(q:1<=b.ch)(r:b.ch<=60)(v:0<=b.cf)(z:b.cf<=30)(h:Nat)(a:Int)(u: -1<=a)(s2:a<=1)(E:List (Int×Int))(t:h<E.length)
  (g: -30<=(E.getD h (0,0)).1)(i:(E.getD h (0,0)).1<=30)(j:0<=(E.getD h (0,0)).2)(k:(E.getD h (0,0)).2<=60)(w:H)(hl:Cf w b.E E):
  PH F 64 #[b.v,.int .i64 h,.int .i64 a] w λe w'=>e=.returned (.bool (jC b (E.getD h (0,0)) a))/\X w w w':=by
 have c:=Dt b l m o p q r h a u s2 E t g i j k (w.alloc (aE b 75)) (hl.below ((X.refl _ _).alloc (qN _) _));clear hl t;have d:PQ (jC b (E.getD h (0,0)) a=decide (b.cf*(b.rh-(E.getD h (0,0)).2)<nJ b.rf b.rh b.ch (E.getD h (0,0)) a)):=rfl;have f:=Br l m o p q r u s2 g i j k;have e0:((E.getD h (0,0)).1,(E.getD h (0,0)).2)=E.getD h (0,0):=rfl;rw[e0]at f;clear e0;generalize nJ b.rf b.rh b.ch (E.getD h (0,0)) a=n at c f d;generalize(E.getD h (0,0)).2=y at c d j k;obtain⟨n1,K⟩:=f;obtain⟨J,m2⟩:=sR (x:=b.cf) (y:=b.rh-y) (A:=30) (B:=60) zz zz zz;clear g i;unfold aC.v at c|-;unfold aE at c;go_enter Tryz.func64,Tryz.ntmps64;go_wp2_with (go_at_call 65;refine c.mono ?_;rintro e L ⟨rfl,s⟩;obtain⟨C,G⟩:=aU s);go_ret;exact⟨bR d.out.symm,aY s⟩
end Go.Proofs.YthfhocgpjjkjlaaGreatDoor
