import Derived.Test.YthfhocgpjjkjlaaGreatDoorZc
import Derived.Conc.CrowdComm
import Derived.Conc.Beside
set_option maxRecDepth 100000
set_option maxHeartbeats 4000000
set_option linter.all false
noncomputable section
open Go renaming undef->D,World->H,stepG->Lq,Value->M,Program->Ps,Goroutine->QP,Trace->Th,MemOp->al,FuncId->ba
open Option renaming none->I,some->Y
namespace Go.Co
open Go.Conc
structure gJ where
 S:Type
 inv:S->H->Th->Prop
 rely:Nat->S->H->S->H->Prop
 num:S->Nat
 chan:S->Nat
 shut:S->Prop
 off:S->Nat->Option M
 up:S->Nat->Prop
 wait:S->Nat->Prop
 gone:S->Nat->Prop
 listens:S->Prop
 hand:S->Nat->S
def qx(i c s r:Nat)(a:ba)(b:String)(f2:ba)(d:String):Th:=
 #[{g:=i,fn:=a,pos:=b,act:=.send c s}, {g:=0,fn:=f2,pos:=d,act:=.recv c r 0}, {g:=i,fn:=a,pos:=b,act:=.sendDone c s}, {g:=0,fn:=f2,pos:=d,act:=.recvDone c r}]
structure pO(Q:gJ)(i:Nat)(wakes:Prop)(J σ':Q.S):Prop where
 up:∀j,j≠i->Q.up σ' j->Q.up J j\/wakes
 shut:Q.shut σ'->Q.shut J\/wakes
 gone:∀j,j≠i->(Q.gone σ' j↔Q.gone J j)
structure Laws(Q:gJ):Prop where
 refl:∀i J w,Q.rely i J w J w
 tn:∀i J w σ1 bj σ2 dv,Q.rely i J w σ1 bj->Q.rely i σ1 bj σ2 dv->Q.rely i J w σ2 dv
 at_rely:∀i J w d,Q.rely i J w J (w.at d)
 at_inv:∀J w t d,Q.inv J w t->Q.inv J (w.at d) t
 hand_num:∀J i,Q.num (Q.hand J i)=Q.num J
 hand_same:∀J i,pO Q i False J (Q.hand J i)
 hand_inv:∀J w t i v s r tm f1 p1 f2 p2,Q.inv J w t->Q.off J i=Y v->Q.listens J->¬Q.shut J->w.heap[Q.chan J]?=Y (.chan 0 #[] false s r tm)->0<i->i<Q.num J->
  Q.inv (Q.hand J i) (w.setChan (Q.chan J) 0 #[] false (s+1) (r+1) tm) (t++qx i (Q.chan J) s r f1 p1 f2 p2)
 hand_rely:∀J w t i v s r tm j,Q.inv J w t->Q.off J i=Y v->Q.listens J->w.heap[Q.chan J]?=Y (.chan 0 #[] false s r tm)->0<i->i<Q.num J->j≠i->0<j->j<Q.num J->Q.rely j J w (Q.hand J i) (w.setChan (Q.chan J) 0 #[] false (s+1) (r+1) tm)
 quit_inv:∀J w t i fn pos es,Q.inv J w t->0<i->i<Q.num J->Q.gone J i->(∀e∈es,Event.mute e=true)->Q.inv J w (t++al.ofEvents i fn pos es)
 live:∀J w t,Q.inv J w t->Q.listens J->¬Q.shut J->∃i,0<i/\i<Q.num J/\¬Q.gone J i/\(Q.wait J i->Q.up J i)
section
variable(Q:gJ)(P:Ps)(post:M->H->Prop)(i:Nat)
def zW(a:QP->Q.S->H->Th->Prop)(g:QP)(J:Q.S)(w:H)(t:Th):Prop:=
 ∃g' w' es σ',Lq P (i==0) g w=.go g' w' es/\(g'.status=.running\/g'.status=.finished)/\Q.num σ'=Q.num J/\Q.inv σ' w' (t++al.ofEvents i g.frame.fn g.frame.place es)/\
  (∀j,j≠i->j<Q.num J->Q.rely j J w σ' w')/\pO Q i (mayWake P g=true) J σ'/\a g' σ' w' (t++al.ofEvents i g.frame.fn g.frame.place es)
def lZ(a:QP->Q.S->H->Th->Prop)(g:QP)(J:Q.S)(w:H):Prop:=
 ∀σ1 bj t,Q.rely i J w σ1 bj->Q.inv σ1 bj t->zW Q P i a g σ1 bj t
def vN(a:QP->Q.S->H->Th->Prop)(g:QP)(J:Q.S)(w:H):Prop:=
 0<i/\∀σ1 bj t,Q.rely i J w σ1 bj->Q.inv σ1 bj t->Q.wait σ1 i/\(¬Q.up σ1 i->Lq P false g bj=.go {g with status:=.blocked} bj #[])/\(Q.up σ1 i->zW Q P i a g σ1 bj t)
def oU(c:Nat)(v z:M)(a:QP->Q.S->H->Th->Prop)(g:QP)(J:Q.S)(w:H):Prop:=
 0<i/\∀σ1 bj t,Q.rely i J w σ1 bj->Q.inv σ1 bj t->Q.chan σ1=c/\¬Q.shut σ1/\Q.off σ1 i=Y v/\(∃s r tm,bj.heap[c]?=Y (.chan 0 #[] false s r tm))/\
  Lq P false g bj=.comm g #[scase c v z] true .send bj #[]/\
  (Q.listens σ1->∀s r tm b d f2 e,bj.heap[c]?=Y (.chan 0 #[] false s r tm)->a (Conc.served g D) (Q.hand σ1 i) (bj.setChan c 0 #[] false (s+1) (r+1) tm) (t++qx i c s r b d f2 e))
def oV(c:Nat)(z:M)(ok:Bool)(a:QP->Q.S->H->Th->Prop)(g:QP)(J:Q.S)(w:H):Prop:=
 i=0/\∀σ1 bj t,Q.rely i J w σ1 bj->Q.inv σ1 bj t->Q.chan σ1=c/\Q.listens σ1/\Lq P true g bj=.comm g #[rcase c z] true (.recv ok) bj #[]/\
  (¬Q.shut σ1->(∃s r tm,bj.heap[c]?=Y (.chan 0 #[] false s r tm))/\∀j v,0<j->j<Q.num σ1->Q.off σ1 j=Y v->∀s r tm b d f2 e,bj.heap[c]?=Y (.chan 0 #[] false s r tm)->
   a (Conc.served g (recvd ok v true)) (Q.hand σ1 j) (bj.setChan c 0 #[] false (s+1) (r+1) tm) (t++qx j c s r b d f2 e))/\
  (Q.shut σ1->(∃s r tm,bj.heap[c]?=Y (.chan 0 #[] true s r tm))/\∃σ',Q.num σ'=Q.num σ1/\Q.inv σ' bj (t++#[{g:=0,fn:=g.frame.fn,pos:=g.frame.place,act:=.recvClosed c}])/\(∀j,0<j->j<Q.num σ1->Q.rely j σ1 bj σ' bj)/\pO Q 0 False σ1 σ'/\
   a (Conc.served g (recvd ok z false)) σ' bj (t++#[{g:=0,fn:=g.frame.fn,pos:=g.frame.place,act:=.recvClosed c}]))
def D4(g:QP)(J:Q.S)(w:H):Prop:=
 i=0/\∀σ1 bj t,Q.rely i J w σ1 bj->Q.inv σ1 bj t->∃v es,Lq P true g bj=.ended (.done v) bj es/\(∀a,¬Race a (t++al.ofEvents 0 g.frame.fn g.frame.place es))/\(t++al.ofEvents 0 g.frame.fn g.frame.place es).HandedOver/\
  (∀j,0<j->j<Q.num σ1->Q.gone σ1 j)/\post v bj
def rq(a:Nat->QP->Q.S->H->Prop)(b:QP->Q.S->H->Th->Prop)(g:QP)(J:Q.S)(w:H):Prop:=
 i=0/\∀σ1 bj t,Q.rely i J w σ1 bj->Q.inv σ1 bj t->∃g' child σ',Lq P true g bj=.spawn g' child bj #[]/\g'.status=.running/\child.status=.running/\Q.num σ'=Q.num σ1+1/\
  Q.inv σ' bj (t++#[{g:=0,fn:=g.frame.fn,pos:=g.frame.place,act:=.go (Q.num σ1)}, {g:=Q.num σ1,fn:=child.frame.fn,pos:=g.frame.place,act:=.start}])/\
  (∀j,0<j->j<Q.num σ1->Q.rely j σ1 bj σ' bj)/\(∀j,j<Q.num σ1->(Q.up σ' j->Q.up σ1 j)/\(Q.gone σ' j↔Q.gone σ1 j))/\(Q.shut σ'->Q.shut σ1)/\¬Q.gone σ' (Q.num σ1)/\a (Q.num σ1) (core child) σ' bj/\
  b g' σ' bj (t++#[{g:=0,fn:=g.frame.fn,pos:=g.frame.place,act:=.go (Q.num σ1)}, {g:=Q.num σ1,fn:=child.frame.fn,pos:=g.frame.place,act:=.start}])
end
def fD(Q:gJ)(P:Ps)(i:Nat)(R:QP->Q.S->H->Prop)(q?:Nat->Prop)(g:QP)(J:Q.S)(w:H)(t:Th):Prop:=
 (g.status=.running/\(0<i->¬Q.gone J i)/\R (core g) J w)\/(0<i/\Q.gone J i/\∃q,q? q/\QuitsD P q (Deaf t i) g)
def rP(Q:gJ)(P:Ps)(i:Nat):Rk->QP->Q.S->H->Prop
 | .mk a f,g,J,w=>
  lZ Q P i (fD Q P i (λg J w=>∃k:a,rP Q P i (f k) g J w) (λq=>∃k:a,f k=.ofNat q)) g J w\/
  vN Q P i (fD Q P i (λg J w=>∃k:a,rP Q P i (f k) g J w) (λq=>∃k:a,f k=.ofNat q)) g J w\/
  ∃c v z,oU Q P i c v z (fD Q P i (λg J w=>∃k:a,rP Q P i (f k) g J w) (λq=>∃k:a,f k=.ofNat q)) g J w
def sW(Q:gJ)(P:Ps)(post:M->H->Prop):Rk->QP->Q.S->H->Prop
 | .mk a f,g,J,w=>
  lZ Q P 0 (fD Q P 0 (λg J w=>∃k:a,sW Q P post (f k) g J w) (λ_=>False)) g J w\/
  rq Q P 0 (λn g J w=>∃r,rP Q P n r g J w) (fD Q P 0 (λg J w=>∃k:a,sW Q P post (f k) g J w) (λ_=>False)) g J w\/
  (∃c z ok,oV Q P 0 c z ok (fD Q P 0 (λg J w=>∃k:a,sW Q P post (f k) g J w) (λ_=>False)) g J w)\/
  D4 Q P post 0 g J w
def WG(n:Nat)(a b:Nat->Rk):Prop:=∃i,i<n/\Rk.lt (a i) (b i)/\∀j,j≠i->a j=b j
def OD(n:Nat):∀b:Nat->Rk,Acc (WG n) b:=by
 induction n with
 | zero=>exactλb=>⟨_,λa ⟨i,hi,_⟩=>mi hi (Nat.not_lt_zero _)⟩
 | succ n g=>
  have key:∀x:Rk,∀b:Nat->Rk,b n=x->Acc (WG (n+1)) b:=by
   intro x
   induction x using Rk.wf.induction with
   | _ x k=>
    intro b;have:=g b
    induction this with
    | intro b l j=>
     intro e;refine⟨_,λa ⟨i,hi,d,f⟩=>?_⟩;by_cases c:i=n
     .subst c;exact k (a i) (by rw[<- e];exact d) a rfl
     .exact j a ⟨i,zz,d,f⟩ (by rw[f n (λh=>c h.symm)];exact e)
  exactλb=>key (b n) b rfl
structure Mu where
 r0:Rk
 n:Nat
 r:Nat->Rk
 k:Nat
inductive LN:Mu->Mu->Prop
 | main {a b:Mu} (h:Rk.lt a.r0 b.r0):LN a b
 | work {a b:Mu} (h0:a.r0=b.r0) (hn:a.n=b.n) (h:WG b.n a.r b.r):LN a b
 | rest {a b:Mu} (h0:a.r0=b.r0) (hn:a.n=b.n) (hr:a.r=b.r) (h:a.k<b.k):LN a b
def Y9:WellFounded LN:=by
 have key:∀x:Rk,∀n (r:Nat->Rk) (k:Nat),Acc LN ⟨x,n,r,k⟩:=by
  intro x
  induction x using Rk.wf.induction with
  | _ x o=>
   intro n r;have:=OD n r
   induction this with
   | intro r g m=>
    intro k
    induction k using Nat.strongRecOn with
    | _ k l=>
     refine⟨_,λa h=>?_⟩;obtain⟨a0,i,ar,b⟩:=a
     cases h with
     | main h=>exact o a0 h i ar b
     | work c e h=>
      have d:=c;have f:=e;subst d f;exact m ar h b
     | rest c e g h=>
      have d:=c;have f:=e;have j:=g;subst d f j;exact l b h
 exact⟨λa=>key a.r0 a.n a.r a.k⟩
variable{i c j:Nat}{g x g':QP}{w w':H}{z:M}{ok:Bool}{r:Rk}{ι:Type}{Q:gJ}{P:Ps}{post:M->H->Prop}
abbrev RE(Q:gJ)(P:Ps)(i:Nat){ι:Type}(f:ι->Rk):QP->Q.S->H->Th->Prop:=fD Q P i (λg J w=>∃k:ι,rP Q P i (f k) g J w) (λq=>∃k:ι,f k=.ofNat q)
abbrev UY(Q:gJ)(P:Ps)(post:M->H->Prop){ι:Type}(f:ι->Rk):QP->Q.S->H->Th->Prop:=fD Q P 0 (λg J w=>∃k:ι,sW Q P post (f k) g J w) (λ_=>False)
def Za(Q:gJ)(P:Ps)(i:Nat)(r:Rk)(g:QP)(J:Q.S)(w:H):Prop:=
 (g.status=.running/\rP Q P i r (core g) J w)\/
 match r with
 | .mk _ f=>(g= {core g with status:=.blocked}/\vN Q P i (RE Q P i f) (core g) J w/\¬Q.up J i)\/∃c v z,g=parked (core g) #[scase c v z] .send/\oU Q P i c v z (RE Q P i f) (core g) J w
def l6(Q:gJ)(P:Ps)(post:M->H->Prop)(r:Rk)(g:QP)(J:Q.S)(w:H):Prop:=
 (g.status=.running/\sW Q P post r (core g) J w)\/
 match r with
 | .mk _ f=>∃c z ok,g=parked (core g) #[rcase c z] (.recv ok)/\oV Q P 0 c z ok (UY Q P post f) (core g) J w/\¬Q.shut J
def wR(Q:gJ)(P:Ps)(i:Nat)(r:Rk)(g:QP)(J:Q.S)(w:H)(t:Th):Prop:=
 (Q.gone J i/\∃q,r=.ofNat q/\QuitsD P q (Deaf t i) g)\/(¬Q.gone J i/\Za Q P i r g J w)
def lZ.rely(L:Laws Q){Nx:QP->Q.S->H->Th->Prop}{J σ':Q.S}(h:lZ Q P i Nx g J w)(b:Q.rely i J w σ' w'):lZ Q P i Nx g σ' w':=
 λσ1 bj t a h2=>h σ1 bj t (L.tn _ _ _ _ _ _ _ b a) h2
def vN.rely(L:Laws Q){Nx:QP->Q.S->H->Th->Prop}{J σ':Q.S}(h:vN Q P i Nx g J w)(b:Q.rely i J w σ' w'):vN Q P i Nx g σ' w':=
 ⟨h.1,λσ1 bj t a h2=>h.2 σ1 bj t (L.tn _ _ _ _ _ _ _ b a) h2⟩
def oU.rely(L:Laws Q){v z:M}{Nx:QP->Q.S->H->Th->Prop}{J σ':Q.S}(h:oU Q P i c v z Nx g J w)(b:Q.rely i J w σ' w'):oU Q P i c v z Nx g σ' w':=
 ⟨h.1,λσ1 bj t a h2=>h.2 σ1 bj t (L.tn _ _ _ _ _ _ _ b a) h2⟩
def oV.rely(L:Laws Q){Nx:QP->Q.S->H->Th->Prop}{J σ':Q.S}(h:oV Q P i c z ok Nx g J w)(b:Q.rely i J w σ' w'):oV Q P i c z ok Nx g σ' w':=
 ⟨h.1,λσ1 bj t a h2=>h.2 σ1 bj t (L.tn _ _ _ _ _ _ _ b a) h2⟩
def rq.rely(L:Laws Q){Ch:Nat->QP->Q.S->H->Prop}{Nx:QP->Q.S->H->Th->Prop}{J σ':Q.S}(h:rq Q P i Ch Nx g J w)(b:Q.rely i J w σ' w'):rq Q P i Ch Nx g σ' w':=
 ⟨h.1,λσ1 bj t a h2=>h.2 σ1 bj t (L.tn _ _ _ _ _ _ _ b a) h2⟩
def D4.rely(L:Laws Q){J σ':Q.S}(h:D4 Q P post i g J w)(b:Q.rely i J w σ' w'):D4 Q P post i g σ' w':=
 ⟨h.1,λσ1 bj t a h2=>h.2 σ1 bj t (L.tn _ _ _ _ _ _ _ b a) h2⟩
def rP.rely(L:Laws Q){J σ':Q.S}(h:rP Q P i r g J w)(a:Q.rely i J w σ' w'):rP Q P i r g σ' w':=by
 obtain⟨ι,f⟩:=r;rcases h with h|h|⟨c,v,z,h⟩
 .exact .inl (h.rely L a)
 .exact .inr (.inl (h.rely L a))
 .exact .inr (.inr ⟨c,v,z,h.rely L a⟩)
def sW.rely(L:Laws Q){J σ':Q.S}(h:sW Q P post r g J w)(a:Q.rely 0 J w σ' w'):sW Q P post r g σ' w':=by
 obtain⟨ι,f⟩:=r;rcases h with h|h|⟨c,z,ok,h⟩|h
 .exact .inl (h.rely L a)
 .exact .inr (.inl (h.rely L a))
 .exact .inr (.inr (.inl ⟨c,z,ok,h.rely L a⟩))
 .exact .inr (.inr (.inr (h.rely L a)))
def rP.semAt{f:ι->Rk}{J:Q.S}(h:vN Q P i (RE Q P i f) g J w):rP Q P i (.mk ι f) g J w:=.inr (.inl h)
def sW.WH{f:ι->Rk}{J:Q.S}(h:oV Q P 0 c z ok (UY Q P post f) g J w):sW Q P post (.mk ι f) g J w:=.inr (.inr (.inl ⟨c,z,ok,h⟩))
def gm(main:Bool)(w:H):Lq P main g w=Lq P main (core g) w:=stepG_same rfl rfl rfl w
def vO(g:QP)(cs:Array CommCase)(sh:CommShape):core (parked g cs sh)=core g:=rfl
def LO(g:QP):core (core g)=core g:=rfl
def deaf_quiet{t u:Th}(h:∀op∈u,op.act≠.mark .disable/\op.act≠.mark .enable):Deaf (t++u) j=Deaf t j:=by
 obtain⟨l⟩:=u;rw[Deaf_append]
 induction l generalizing t with
 | nil=>rfl
 | cons y l c=>
  have b:=h y ss;have e1:deafStep j (Deaf t j) y=Deaf t j:=by
   unfold deafStep;split
   .rename_i e;exact mi e b.1
   .rename_i e;exact mi e b.2
   .rfl
  rw[List.foldl_cons,e1];exact c (t:=t) λop a=>h op (by simp at a |-; exact .inr a)
def iS{i c s r:Nat}{f1 f2:ba}{p1 p2:String}:∀op∈qx i c s r f1 p1 f2 p2,op.act≠.mark .disable/\op.act≠.mark .enable:=by
 intro op a;simp only[qx,hZ,dq,fp,or_false]at a;rcases a with rfl|rfl|rfl|rfl<;>exact⟨by simp,by simp⟩
def wR.other(L:Laws Q){J σ':Q.S}{t t':Th}(h:wR Q P j r x J w t)(l:j≠i)(b:Q.rely j J w σ' w')(m:pO Q i (mayWake P g=true) J σ')(hi:Q.inv σ' w' t')
  (u:Deaf t' j=Deaf t j)(y:g'.status=.running\/g'.status=.finished):wR Q P j r (woken P g g' w' x) σ' w' t':=by
 rcases h with⟨k,q,h2,a⟩|⟨k,h⟩
 .exact .inl ⟨(m.gone j l).2 k,q,h2,by rw[woken_quitsD a,u];exact a⟩
 .refine .inr ⟨λh=>k ((m.gone j l).1 h),?_⟩;obtain⟨ι,f⟩:=r;rcases h with⟨h2,a⟩|⟨h2,a,o⟩|⟨c,v,z,h2,a⟩
  .exact .inl ⟨by rw[woken_run h2];exact h2,by rw[woken_run h2];exact a.rely L b⟩
  .by_cases d:mayWake P g=true
   .have e:woken P g g' w' x=core x:=by
     unfold woken;have:(mayWake P g&&g'.status != .blocked&&g'.status != .waiting)=true:=by
      rcases y with h|h<;>rw[d,h]<;>rfl
     rw[qWB this,h2];rfl
    exact .inl ⟨by rw[e];rfl,by rw[e,LO];exact .semAt (a.rely L b)⟩
   .have e:woken P g g' w' x=x:=by
     unfold woken;rw[qLB]at d;rw[d];rfl
    rw[e];exact .inr (.inl ⟨h2,a.rely L b,λh=>(m.up j l h).elim o d⟩)
  .have n:=a.rely L b;obtain⟨-, -, -, ⟨s,rr,tm,p⟩,-⟩:=n.2 σ' w' t' (L.refl _ _ _) hi;have e:woken P g g' w' x=x:=by rw[h2];exact woken_send_open g g' p
   rw[e];exact .inr (.inr ⟨c,v,z,h2,n⟩)
def wR.still(L:Laws Q){J σ':Q.S}{t t':Th}(h:wR Q P j r x J w t)(d:j≠i)(e:Q.rely j J w σ' w')(g:pO Q i False J σ')
  (l:Deaf t' j=Deaf t j):wR Q P j r x σ' w' t':=by
 rcases h with⟨b,q,h2,a⟩|⟨b,h⟩
 .exact .inl ⟨(g.gone j d).2 b,q,h2,by rw[l];exact a⟩
 .refine .inr ⟨λh=>b ((g.gone j d).1 h),?_⟩;obtain⟨ι,f⟩:=r;rcases h with⟨h2,a⟩|⟨h2,a,k⟩|⟨c,v,z,h2,a⟩
  .exact .inl ⟨h2,a.rely L e⟩
  .exact .inr (.inl ⟨h2,a.rely L e,λh=>(g.up j d h).elim k id⟩)
  .exact .inr (.inr ⟨c,v,z,h2,a.rely L e⟩)
def l6.other(L:Laws Q){J σ':Q.S}{t':Th}(h:l6 Q P post r x J w)(k:Q.rely 0 J w σ' w')(o:pO Q i (mayWake P g=true) J σ')(hi:Q.inv σ' w' t')
  (m:g'.status=.running\/g'.status=.finished):l6 Q P post r (woken P g g' w' x) σ' w':=by
 obtain⟨ι,f⟩:=r;rcases h with⟨h2,d⟩|⟨c,z,ok,h2,d,l⟩
 .exact .inl ⟨by rw[woken_run h2];exact h2,by rw[woken_run h2];exact d.rely L k⟩
 .have j:=d.rely L k;obtain⟨-, -, -, n,a⟩:=j.2 σ' w' t' (L.refl _ _ _) hi;by_cases b:Q.shut σ'
  .obtain⟨⟨s,rr,tm,a⟩,-⟩:=a b;have p:mayWake P g=true:=(o.shut b).resolve_left l;have e:woken P g g' w' x= {parked (core x) #[rcase c z] (.recv ok)with status:=.running}:=by
    unfold woken;have:(mayWake P g&&g'.status != .blocked&&g'.status != .waiting)=true:=by
     rcases m with h|h<;>rw[p,h]<;>rfl
    rw[qWB this];conv=>lhs;rw[h2]
    exact again_recv_closed a
   exact .inl ⟨by rw[e],by rw[e];exact .WH j⟩
  .obtain⟨⟨s,rr,tm,a⟩,-⟩:=n b;have e:woken P g g' w' x=x:=by rw[h2];exact woken_recv_open g g' a
   rw[e];exact .inr ⟨c,z,ok,h2,j,b⟩
def l6.still(L:Laws Q){J σ':Q.S}(h:l6 Q P post r x J w)(b:Q.rely 0 J w σ' w')(e:pO Q i False J σ'):l6 Q P post r x σ' w':=by
 obtain⟨ι,f⟩:=r;rcases h with⟨h2,a⟩|⟨c,z,ok,h2,a,d⟩
 .exact .inl ⟨h2,a.rely L b⟩
 .exact .inr ⟨c,z,ok,h2,a.rely L b,λh=>(e.shut h).elim d id⟩
def fD.jX{f:ι->Rk}{J:Q.S}{t:Th}(hi:0<i)(h:RE Q P i f g J w t):∃k:ι,wR Q P i (f k) g J w t:=by
 rcases h with⟨a,h2,k,b⟩|⟨-, a,q,⟨k,hk⟩,b⟩
 .exact⟨k,.inr ⟨h2 hi,.inl ⟨a,b⟩⟩⟩
 .exact⟨k,.inl ⟨a,q,hk,b⟩⟩
def fD.D5{f:ι->Rk}{J:Q.S}{t:Th}(h:UY Q P post f g J w t):∃k:ι,g.status=.running/\l6 Q P post (f k) g J w:=by
 rcases h with⟨a, -, k,b⟩|⟨h,-⟩
 .exact⟨k,a,.inl ⟨a,b⟩⟩
 .exact mi h (dj 0)
def wR.status{J:Q.S}{t:Th}(h:wR Q P i r g J w t):g.status=.running\/g.status=.blocked\/g.status=.finished:=by
 rcases h with⟨-, q, -, h⟩|⟨-, h⟩
 .rcases h.status with h|h
  .exact .inl h
  .exact .inr (.inr h)
 .obtain⟨ι,f⟩:=r;rcases h with⟨h,-⟩|⟨h,-⟩|⟨c,v,z,h,-⟩
  .exact .inl h
  .exact .inr (.inl (by rw[h]))
  .exact .inr (.inl (by rw[h];rfl))
def l6.status{J:Q.S}(h:l6 Q P post r g J w):g.status=.running\/g.status=.blocked:=by
 obtain⟨ι,f⟩:=r;rcases h with⟨h,-⟩|⟨c,z,ok,h,-⟩
 .exact .inl h
 .exact .inr (by rw[h];rfl)
variable{a:QP}{gs:Array QP}{μ:Mu}{sl:Option (Nat×Nat)}
def ru(gs:Array QP)(i:Nat):Nat:=match(gs[i]?).map (·.status)with|some GoStatus.running=>1|_=>0
def D6{f g:Nat->Nat}:∀{n:Nat},(∀j,j<n->f j<=g j)->(∃i,i<n/\f i<g i)->ConcN.sumTo n f<ConcN.sumTo n g
 | 0,_,⟨i,hi,_⟩=>mi hi (Nat.not_lt_zero _)
 | n+1,h,⟨i,hi,b⟩=>by
  have hle:ConcN.sumTo n f<=ConcN.sumTo n g:=by
   have:∀m,m<=n->ConcN.sumTo m f<=ConcN.sumTo m g:=by
    intro m e
    induction m with
    | zero=>exact qN _
    | succ m c=>have:=c zz;have:=h m zz;simp only[ConcN.sumTo];omega
   exact this n (qN _)
  simp only[ConcN.sumTo];by_cases a:i=n
  .subst a;omega
  .have:=D6 (n:=n) (λj d=>h j zz) ⟨i,zz,b⟩;have:=h n zz;omega
def yo(hi:gs[i]?=Y g)(d:g.status=.running)(b:g'.status=.blocked):ConcN.sumTo (gs.setIfInBounds i g').size (ru (gs.setIfInBounds i g'))<ConcN.sumTo gs.size (ru gs):=by
 have a:=(ec.1 hi).1;rw[show(gs.setIfInBounds i g').size=gs.size by simp];refine D6 (λj _=>?_) ⟨i,a,?_⟩
 .unfold ru;by_cases c:i=j
  .subst c;rw[Array.getElem?_setIfInBounds_self_of_lt a];simp[b]
  .rw[jx c];exact qN _
 .unfold ru;rw[Array.getElem?_setIfInBounds_self_of_lt a,hi];simp[b,d]
def WI(Q:gJ)(P:Ps)(post:M->H->Prop)(μ:Mu)(m:Machine)(t:Th):Prop:=
 ∃(gs:Array QP) (w:H) (sl:Option (Nat×Nat)) (J:Q.S) (a:QP),m=crowd gs w sl/\gs.size=Q.num J/\μ.n=gs.size/\Q.inv J w t/\gs[0]?=Y a/\l6 Q P post μ.r0 a J w/\
  (∀i g,0<i->gs[i]?=Y g->wR Q P i (μ.r i) g J w t)/\(a.status=.blocked->∀i g,0<i->gs[i]?=Y g->∀c v z,g≠parked (core g) #[scase c v z] .send)/\μ.k=ConcN.sumTo gs.size (ru gs)
def D7(Q:gJ)(P:Ps)(post:M->H->Prop)(μ:Mu)(m:Machine)(t:Th):Prop:=
 (∃o w ops,stepT P m=(.ended o w,ops)/\Good P post m o w (t++ops))\/∃m' ops a,stepT P m=(.next m',ops)/\LN a μ/\WI Q P post a m' (t++ops)
def tY{w':H}{c:Nat}{v z:M}(h:woken P g g' w' x=parked (core (woken P g g' w' x)) #[scase c v z] .send):x=parked (core x) #[scase c v z] .send:=by
 have key:woken P g g' w' x=x\/(woken P g g' w' x).status=.running:=by
  unfold woken;split
  .unfold QP.again;split
   .dsimp only;split
    .exact .inr rfl
    .exact .inl rfl
   .exact .inr rfl
   .exact .inr rfl
   .exact .inl rfl
  .exact .inl rfl
 rcases key with e|e
 .rw[e]at h;exact h
 .rw[h]at e;cases e
def jR{t:Th}(h:j≠i)(fn:ba)(pos:String)(es:Array Event):Deaf (t++al.ofEvents i fn pos es) j=Deaf t j:=
 Deaf_other t (λe=>h e.symm) (al.ofEvents i fn pos es) λop a=>by
  obtain⟨e,_,rfl⟩:=Go.Conc.mem_ofEvents a;rfl
def jY{f:QP->QP}(hi:i<gs.size)(h:((gs.map f).setIfInBounds i g')[j]?=Y x):(j=i/\x=g')\/(j≠i/\∃y,gs[j]?=Y y/\x=f y):=by
 by_cases a:i=j
 .subst a;rw[Array.getElem?_setIfInBounds_self_of_lt (by simpa using hi)]at h;exact .inl ⟨rfl,(km h).symm⟩
 .rw[jx a,mf]at h;obtain⟨y,b,rfl⟩:=Option.map_eq_some_iff.1 h;exact .inr ⟨λe=>a e.symm,y,b,rfl⟩
def jq(hi:i<gs.size)(h:(gs.setIfInBounds i g')[j]?=Y x):(j=i/\x=g')\/(j≠i/\gs[j]?=Y x):=by
 by_cases a:i=j
 .subst a;rw[Array.getElem?_setIfInBounds_self_of_lt hi]at h;exact .inl ⟨rfl,(km h).symm⟩
 .rw[jx a]at h;exact .inr ⟨λe=>a e.symm,h⟩
def Vx(L:Laws Q){J:Q.S}{t:Th}{m:Machine}(l:gs.size=Q.num J)(v:μ.n=gs.size)(c:gs[0]?=Y a)
  (p:∀i g,0<i->gs[i]?=Y g->wR Q P i (μ.r i) g J w t){f:ι->Rk}(B:μ.r0=.mk ι f)(o:zW Q P 0 (UY Q P post f) (core a) J w t)(u:stepT P m=runT P (crowd gs w sl) 0):D7 Q P post μ m t:=by
 obtain⟨g',w',es,σ',K,q,z,e,C,G,A⟩:=o;have j:=(ec.1 c).1;have N:Lq P (0==0) a w=.go g' w' es:=by rw[gm];exact K
 have E:=runT_crowd_go (P:=P) (sl:=sl) (i:=0) c N;obtain⟨k,r,s⟩:=fD.D5 A;refine .inr ⟨_,_,⟨f k,μ.n,μ.r,ConcN.sumTo ((gs.map (woken P a g' w')).setIfInBounds 0 g').size (ru ((gs.map (woken P a g' w')).setIfInBounds 0 g'))⟩,u.tn E,.main (by rw[B];exact Rk.xL f k),(gs.map (woken P a g' w')).setIfInBounds 0 g',w',sl,σ',g',rfl,by simp[l,z],by simp[v],e,by simp[j],s,λi x hi O=>?_,λd=>(by rw[r]at d;cases d),rfl⟩;rcases jY j O with⟨h,-⟩|⟨b,y,n,rfl⟩
 .omega
 .exact(p i y hi n).other L (i:=0) (g:=a) b (C i b (by rw[<- l];exact(ec.1 n).1)) G e (jR b _ _ _) q
def AE(L:Laws Q){J:Q.S}{t:Th}{m:Machine}(R:0<i)(hi:gs[i]?=Y g)(q:gs.size=Q.num J)(B:μ.n=gs.size)(s:gs[0]?=Y a)(u:l6 Q P post μ.r0 a J w)
  (N:∀i g,0<i->gs[i]?=Y g->wR Q P i (μ.r i) g J w t)(U:a.status=.blocked->∀i g,0<i->gs[i]?=Y g->∀c v z,g≠parked (core g) #[scase c v z] .send){f:ι->Rk}(Z:μ.r i=.mk ι f)(K:zW Q P i (RE Q P i f) (core g) J w t)(T:stepT P m=runT P (crowd gs w sl) i):D7 Q P post μ m t:=by
 obtain⟨g',w',es,σ',a2,l,V,o,E,G,W⟩:=K;have p:=(ec.1 hi).1;have S:=(ec.1 s).1;have a3:Lq P (i==0) g w=.go g' w' es:=by rw[gm];exact a2
 have a1:=runT_crowd_go (sl:=sl) (i:=i) hi a3;obtain⟨k,a4⟩:=fD.jX R W;have C:(0:Nat)≠i:=zz;refine .inr ⟨_,_,⟨μ.r0,μ.n,λj=>if j=i then f k else μ.r j,ConcN.sumTo ((gs.map (woken P g g' w')).setIfInBounds i g').size (ru ((gs.map (woken P g g' w')).setIfInBounds i g'))⟩,T.tn a1,
  .work rfl rfl ⟨i,by rw[B];exact p,by simp only[if_true,Z];exact Rk.xL f k,λj b=>by simp only[qVB b]⟩,(gs.map (woken P g g' w')).setIfInBounds i g',w',sl,σ',woken P g g' w' a,rfl,by simp[q,V],by simp[B],o,?_,
  u.other L (E 0 C (by rw[<- q];exact S)) G o l,λj x b r=>?_,λA j x b r c v z e=>?_,rfl⟩
 .rw[jx (λe=>C e.symm),mf,s];rfl
 .rcases jY p r with⟨rfl,rfl⟩|⟨d,y,n,rfl⟩
  .simp only[if_true];exact a4
  .simp only[qVB d];exact(N j y b n).other L d (E j d (by rw[<- q];exact(ec.1 n).1)) G o (jR d _ _ _) l
 .have O:a.status=.blocked:=by
   rcases u.status with h|h
   .rw[woken_run h,h]at A;cases A
   .exact h
  rcases jY p r with⟨rfl,rfl⟩|⟨d,y,n,rfl⟩
  .rw[e]at l;rcases l with h|h<;>cases h
  .exact U O j y b n c v z (tY e)
def LQ(L:Laws Q){J:Q.S}{t:Th}{m:Machine}(T:0<i)(hi:gs[i]?=Y g)(l:g.status=.running)(K:gs.size=Q.num J)(B:μ.n=gs.size)(N:Q.inv J w t)(r:gs[0]?=Y a)(s:l6 Q P post μ.r0 a J w)
  (O:∀i g,0<i->gs[i]?=Y g->wR Q P i (μ.r i) g J w t)(Z:a.status=.blocked->∀i g,0<i->gs[i]?=Y g->∀c v z,g≠parked (core g) #[scase c v z] .send)
  {q:Nat}(A:Q.gone J i)(a2:μ.r i=.ofNat q)(C:QuitsD P q (Deaf t i) g)(V:stepT P m=runT P (crowd gs w sl) i):D7 Q P post μ m t:=by
 have f:=(ec.1 hi).1;have a5:=(ec.1 r).1;have a1:(0:Nat)≠i:=zz;have U:(i==0)=false:=by simp;omega
 cases q with
 | zero=>rw[C.1]at l;cases l
 | succ q=>
  rcases C with⟨S,_⟩|⟨_,g',es,W,a4,E⟩
  .rw[S]at l;cases l
  have a3:=runT_crowd_go (sl:=sl) hi (by rw[U];exact a4 w);have d:=E.status;have n:=L.quit_inv J w t i g.frame.fn g.frame.place es N T (by rw[<- K];exact f) A W;have G:pO Q i (mayWake P g=true) J J:=⟨λ_ _ h=>.inl h,.inl,λ_ _=>il⟩;refine .inr ⟨_,_,⟨μ.r0,μ.n,λj=>if j=i then .ofNat q else μ.r j,ConcN.sumTo ((gs.map (woken P g g' w)).setIfInBounds i g').size (ru ((gs.map (woken P g g' w)).setIfInBounds i g'))⟩,V.tn a3,
   .work rfl rfl ⟨i,by rw[B];exact f,by simp only[if_true,a2];exact Rk.xL _ (),λj b=>by simp only[qVB b]⟩,(gs.map (woken P g g' w)).setIfInBounds i g',w,sl,J,woken P g g' w a,rfl,by simp[K],by simp[B],n,?_,
   s.other L (L.refl _ _ _) G n d,λj x b o=>?_,λu j x b o c v z e=>?_,rfl⟩
  .rw[jx (λe=>a1 e.symm),mf,r];rfl
  .rcases jY f o with⟨rfl,rfl⟩|⟨k,y,p,rfl⟩
   .simp only[if_true];exact .inl ⟨A,q,rfl,by rw[Deaf_own];exact E⟩
   .simp only[qVB k];exact(O j y b p).other L k (L.refl _ _ _) G n (jR k _ _ _) d
  .have R:a.status=.blocked:=by
    rcases s.status with h|h
    .rw[woken_run h,h]at u;cases u
    .exact h
   rcases jY f o with⟨rfl,rfl⟩|⟨k,y,p,rfl⟩
   .rw[e]at d;rcases d with h|h<;>cases h
   .exact Z R j y b p c v z (tY e)
def OE{J:Q.S}{t:Th}{m:Machine}(U:0<i)(hi:gs[i]?=Y g)(O:g.status=.running)(S:gs.size=Q.num J)(E:μ.n=gs.size)(q:Q.inv J w t)(p:gs[0]?=Y a)(r:l6 Q P post μ.r0 a J w)
  (u:∀i g,0<i->gs[i]?=Y g->wR Q P i (μ.r i) g J w t)(G:a.status=.blocked->∀i g,0<i->gs[i]?=Y g->∀c v z,g≠parked (core g) #[scase c v z] .send)(hk:μ.k=ConcN.sumTo gs.size (ru gs)){f:ι->Rk}(N:μ.r i=.mk ι f)(A:¬Q.gone J i)(s:vN Q P i (RE Q P i f) (core g) J w)(T:¬Q.up J i)(R:Lq P false (core g) w=.go {core g with status:=.blocked} w #[])(C:stepT P m=runT P (crowd gs w sl) i):D7 Q P post μ m t:=by
 have l:=(ec.1 hi).1;have L:(0:Nat)≠i:=zz;have B:(i==0)=false:=by simp;omega
 have n:=runT_crowd_go (sl:=sl) hi (by rw[B,gm];exact R);have o:woken P g {core g with status:=.blocked} w=id:=by
  funext x;unfold woken;have:(mayWake P g&&({core g with status:=.blocked}:QP).status != .blocked&&({core g with status:=.blocked}:QP).status != .waiting)=false:=by
   have:(({core g with status:=.blocked}:QP).status != .blocked)=false:=rfl;rw[this];simp
  rw[this];rfl
 rw[o,Array.map_id]at n;have k:t++al.ofEvents i g.frame.fn g.frame.place #[]=t:=by rw[show al.ofEvents i g.frame.fn g.frame.place #[]= #[]from rfl];exact Array.append_empty
 refine .inr ⟨_,_,⟨μ.r0,μ.n,μ.r,ConcN.sumTo (gs.setIfInBounds i {core g with status:=.blocked}).size (ru (gs.setIfInBounds i {core g with status:=.blocked}))⟩,C.tn n,.rest rfl rfl rfl (by rw[hk];exact yo hi O rfl),gs.setIfInBounds i {core g with status:=.blocked},w,sl,J,a,rfl,by simp[S],by simp[E],by rw[k];exact q,?_,r,λj x b d=>?_,λy j x b d c v z e=>?_,rfl⟩
 .rw[jx (λe=>L e.symm)];exact p
 .rw[k];rcases jq l d with⟨rfl,rfl⟩|⟨K,h⟩
  .show wR Q P j (μ.r j) _ J w t;rw[N];exact .inr ⟨A,.inr (.inl ⟨rfl,s,T⟩)⟩
  .exact u j x b h
 .rcases jq l d with⟨rfl,rfl⟩|⟨K,h⟩
  .have:=cd QP.offers e;cases this
  .exact G y j x b h c v z e
def GO(L:Laws Q){J:Q.S}{t:Th}{m:Machine}(o:gs.size=Q.num J)(O:Q.inv J w t)(A:gs[0]?=Y a)
  (S:∀i g,0<i->gs[i]?=Y g->wR Q P i (μ.r i) g J w t){f:ι->Rk}(a8:μ.r0=.mk ι f)(R:rq Q P 0 (λn g J w=>∃r,rP Q P n r g J w) (UY Q P post f) (core a) J w)(a2:stepT P m=runT P (crowd gs w sl) 0):D7 Q P post μ m t:=by
 obtain⟨g',child,σ',a',b2,U,a4,Z,u,y,b4,a3,⟨a0,T⟩,a5⟩:=R.2 J w t (L.refl _ _ _) O;have C:=(ec.1 A).1;have G:=runT_crowd_spawn (sl:=sl) A (show Lq P (0==0) a w=_ by rw[gm];exact a');obtain⟨k,W,a1⟩:=fD.D5 a5;have a7:((al.ofEvents 0 a.frame.fn a.frame.place #[]).push {g:=0,fn:=a.frame.fn,pos:=a.frame.place,act:=.go gs.size} |>.push {g:=gs.size,fn:=child.frame.fn,pos:=a.frame.place,act:=.start})=
   #[{g:=0,fn:=(core a).frame.fn,pos:=(core a).frame.place,act:=.go (Q.num J)}, {g:=Q.num J,fn:=child.frame.fn,pos:=(core a).frame.place,act:=.start}]:=by
  rw[o];rfl
 rw[a7]at G;have a9:((gs.setIfInBounds 0 g').push child)[0]?=Y g':=by
  rw[qPB];rw[qVB so];simp[C]
 refine .inr ⟨_,_,⟨f k,gs.size+1,λj=>if j=gs.size then a0 else μ.r j,ConcN.sumTo ((gs.setIfInBounds 0 g').push child).size (ru ((gs.setIfInBounds 0 g').push child))⟩,a2.tn G,.main (by rw[a8];exact Rk.xL f k),(gs.setIfInBounds 0 g').push child,w,sl,σ',g',rfl,by simp[o,a4],by simp,Z,a9,a1,λi x hi e=>?_,λB=>(by rw[W]at B;cases B),rfl⟩;rw[qPB]at e;by_cases l:i=(gs.setIfInBounds 0 g').size
 .rw[qWB l]at e;cases e;have s:i=gs.size:=by simpa using l
  subst s;simp only[if_true];rw[o];exact .inr ⟨a3,.inl ⟨U,T⟩⟩
 .rw[qVB l]at e;have s:i≠gs.size:=by simpa using l
  simp only[qVB s];rcases jq C e with⟨h,-⟩|⟨b3,K⟩
  .omega
  .have d:i<Q.num J:=by rw[<- o];exact(ec.1 K).1
   have a6:=S i x hi K;have V:Deaf (t++#[{g:=0,fn:=(core a).frame.fn,pos:=(core a).frame.place,act:=.go (Q.num J)}, {g:=Q.num J,fn:=child.frame.fn,pos:=(core a).frame.place,act:=.start}]) i=Deaf t i:=
    deaf_quiet λop E=>by
     simp only[hZ,dq,fp,or_false]at E;rcases E with rfl|rfl<;>exact⟨by simp,by simp⟩
   rcases a6 with⟨p,q,h2,b⟩|⟨p,h⟩
   .exact .inl ⟨(y i d).2.2 p,q,h2,by rw[V];exact b⟩
   .refine .inr ⟨λh=>p ((y i d).2.1 h),?_⟩;generalize μ.r i=b1 at h|-;obtain⟨κ,f'⟩:=b1;rcases h with⟨h2,b⟩|⟨h2,b,N⟩|⟨c,v,z,h2,b⟩
    .exact .inl ⟨h2,b.rely L (u i hi d)⟩
    .exact .inr (.inl ⟨h2,b.rely L (u i hi d),λh=>N ((y i d).1 h)⟩)
    .exact .inr (.inr ⟨c,v,z,h2,b.rely L (u i hi d)⟩)
variable{c':Nat}{v z':M}
def tZ(c:Nat)(b:Bool)(h:g= {core g with status:=.blocked}):offersAt g c b=[]:=by
 rw[h];rfl
def wR.WJ{J:Q.S}{t:Th}(h:wR Q P i r g J w t)(c:Nat):offersAt g c false=[]:=by
 rcases h with⟨-, q, -, h⟩|⟨-, h⟩
 .exact offersAt_of_not_blocked (by rcases h.status with h|h<;>rw[h]<;>simp) _ _
 .obtain⟨ι,f⟩:=r;rcases h with⟨h,-⟩|⟨h,-⟩|⟨c',v,z,h,-⟩
  .exact offersAt_of_not_blocked (by rw[h];simp) _ _
  .exact tZ _ _ h
  .rw[h];exact offersAt_parked_send' _ _ _ _ _ _
def wR.WK{J:Q.S}{t:Th}(h:wR Q P i r g J w t){c k:Nat}(hk:k∈offersAt g c true):k=0/\¬Q.gone J i/\∃(ι:Type) (f:ι->Rk) (v z:M),r=.mk ι f/\g=parked (core g) #[scase c v z] .send/\oU Q P i c v z (RE Q P i f) (core g) J w:=by
 rcases h with⟨-, q, -, h⟩|⟨b,h⟩
 .rw[offersAt_of_not_blocked (by rcases h.status with h|h<;>rw[h]<;>simp)]at hk;cases hk
 .obtain⟨ι,f⟩:=r;rcases h with⟨h,-⟩|⟨h,-⟩|⟨c',v,z,h,d⟩
  .rw[offersAt_of_not_blocked (by rw[h];simp)]at hk;cases hk
  .rw[tZ _ _ h]at hk;cases hk
  .rw[h,offersAt_parked_send]at hk;by_cases a:c'=c
   .subst a;rw[qWB rfl]at hk;exact⟨by simpa using hk,b,ι,f,v,z,rfl,h,d⟩
   .rw[qVB a]at hk;cases hk
def yp{v v' z z':M}{sh ik:CommShape}(h:parked g #[scase c v z] sh=parked g' #[scase c' v' z'] ik):c=c'/\v=v'/\z=z'/\sh=ik/\core g=core g':=by
 have a:=cd QP.offers h;have h2:=cd core h;simp only[parked,scase,fg,Prod.mk.injEq,Array.mk.injEq,np,CommCase.mk.injEq,M.chan.injEq,and_true]at a;obtain⟨⟨b,d,e⟩,f⟩:=a;exact⟨b,d,e,f,h2⟩
def D8{sh ik:CommShape}(h:parked g #[rcase c z] sh=parked g' #[rcase c' z'] ik):c=c'/\z=z'/\sh=ik/\core g=core g':=by
 have a:=cd QP.offers h;have h2:=cd core h;simp only[parked,rcase,fg,Prod.mk.injEq,Array.mk.injEq,np,CommCase.mk.injEq,M.chan.injEq,and_true,true_and]at a;obtain⟨⟨b,d⟩,e⟩:=a;exact⟨b,d,e,h2⟩
def LU(L:Laws Q){J:Q.S}{t:Th}{m:Machine}(C:gs.size=Q.num J)(b4:μ.n=gs.size)(K:Q.inv J w t)(G:gs[0]?=Y a)(c8:a.status=.running)
  (N:∀i g,0<i->gs[i]?=Y g->wR Q P i (μ.r i) g J w t)(hk:μ.k=ConcN.sumTo gs.size (ru gs)){f:ι->Rk}(b8:μ.r0=.mk ι f){ok:Bool}(a4:oV Q P 0 c z ok (UY Q P post f) (core a) J w)
  (b3:stepT P m=runT P (crowd gs w sl) 0):D7 Q P post μ m t:=by
 have y:=(ec.1 G).1;obtain⟨W,b1,e5,d8,c9⟩:=a4.2 J w t (L.refl _ _ _) K;have b':Lq P (0==0) a w=.comm (core a) #[rcase c z] true (.recv ok) w #[]:=by rw[gm];exact e5
 have b7:∀j k,(j,k)∈partners (gs.setIfInBounds 0 ph) c true->k=0/\j≠0/\¬Q.gone J j/\∃b,gs[j]?=Y b/\∃(E:Type) (f':E->Rk) (v z':M),μ.r j=.mk E f'/\b=parked (core b) #[scase c v z'] .send/\oU Q P j c v z' (RE Q P j f') (core b) J w:=by
  intro j k a8;obtain⟨x,l,a0⟩:=mem_partners.1 a8;rcases getElem?_stand gs 0 j x l with⟨-, rfl⟩|⟨a7,l⟩
  .rw[offersAt_ph]at a0;cases a0
  .obtain⟨u,h2,h3⟩:=(N j x zz l).WK a0;exact⟨u,a7,h2,x,l,h3⟩
 by_cases B:Q.shut J
 ·
  obtain⟨⟨s,r,tm,R⟩,σ',d6,Z,e1,e3,c5⟩:=c9 B;have A:partners (gs.setIfInBounds 0 ph) c true=[]:=by
   refine List.eq_nil_iff_forall_not_mem.2 λp A=>?_;obtain⟨-, -, -, b, -, E,f',v,z', -, -, b9⟩:=b7 p.1 p.2 A;exact(b9.2 J w t (L.refl _ _ _) K).2.1 B
  have o:=crowd_recv_closed (P:=P) (sl:=sl) (i:=0) G b' R A;rw[finishComm_recv]at o;obtain⟨k,a5,b2⟩:=fD.D5 c5;have b6:al.ofEvents 0 a.frame.fn a.frame.place #[]++#[({g:=0,fn:=(core a).frame.fn,pos:=(core a).frame.place,act:=.recvClosed c}:al)]= #[{g:=0,fn:=(core a).frame.fn,pos:=(core a).frame.place,act:=.recvClosed c}]:=rfl;rw[b6]at o;have d1:∀i,Deaf (t++#[({g:=0,fn:=(core a).frame.fn,pos:=(core a).frame.place,act:=.recvClosed c}:al)]) i=Deaf t i:=λi=>deaf_quiet λop c6=>by
   simp only[hZ,dq,fp,or_false]at c6;subst c6;exact⟨by simp,by simp⟩
  refine .inr ⟨_,_,⟨f k,μ.n,μ.r,_⟩,b3.tn o,.main (by rw[b8];exact Rk.xL f k),gs.setIfInBounds 0 (Conc.served (core a) (recvd ok z false)),w,sl,σ',_,rfl,by simp[C,d6],by simp[b4],Z,by simp[y],b2,λi x hi l=>?_,λO=>(by rw[a5]at O;cases O),rfl⟩;rcases jq y l with⟨h,-⟩|⟨S,n⟩
  .omega
  .exact(N i x hi n).still L (i:=0) S (e1 i hi (by rw[<- C];exact(ec.1 n).1)) e3 (d1 i)
 .obtain⟨⟨s,r,tm,R⟩,c5⟩:=d8 B;by_cases A:partners (gs.setIfInBounds 0 ph) c true=[]
  ·
   have o:=crowd_waits (P:=P) (sl:=sl) (i:=0) G b' (λe8 U=>by
    simp only[hZ,q8A]at U;subst U;exact ways_recv_none R A)
   have c1:t++al.ofEvents 0 a.frame.fn a.frame.place #[]=t:=by rw[show al.ofEvents 0 a.frame.fn a.frame.place #[]= #[]from rfl];exact Array.append_empty
   refine .inr ⟨_,_,⟨μ.r0,μ.n,μ.r,ConcN.sumTo (gs.setIfInBounds 0 (parked (core a) #[rcase c z] (.recv ok))).size (ru (gs.setIfInBounds 0 (parked (core a) #[rcase c z] (.recv ok))))⟩,b3.tn o,.rest rfl rfl rfl (by rw[hk];exact yo G c8 rfl),gs.setIfInBounds 0 (parked (core a) #[rcase c z] (.recv ok)),w,sl,J,parked (core a) #[rcase c z] (.recv ok),rfl,by simp[C],by simp[b4],by rw[c1];exact K,by simp[y],?_,λi x hi l=>?_,λ_ i x hi l c' v z' e=>?_,rfl⟩
   .show l6 Q P post μ.r0 _ J w;rw[b8];exact .inr ⟨c,z,ok,rfl,a4,B⟩
   .rw[c1];rcases jq y l with⟨h,-⟩|⟨S,n⟩
    .omega
    .exact N i x hi n
   .rcases jq y l with⟨h,-⟩|⟨S,n⟩
    .omega
    .have d7:=N i x hi n;have U:c'=c:=by
      rcases d7 with⟨-, q, -, h⟩|⟨-, h⟩
      .rcases h.status with h|h<;>rw[e]at h<;>cases h
      .generalize μ.r i=e7 at h;obtain⟨E,f'⟩:=e7;rcases h with⟨h,-⟩|⟨h,-⟩|⟨c2,v2,z2,h,b9⟩
       .rw[e]at h;cases h
       .rw[e]at h;have:=cd QP.offers h;cases this
       .have u:=yp (e.symm.tn h);rw[u.1,<- (b9.2 J w t (L.refl _ _ _) K).1,W]
     have:(i,0)∈partners (gs.setIfInBounds 0 ph) c true:=by
      refine mem_partners.2 ⟨x,by rw[jx (λe=>S e.symm)];exact n,?_⟩;rw[e,offersAt_parked_send,qWB U];simp
     rw[A]at this;cases this
  ·
   obtain⟨j,b,a3,f3,f2,d,a7,a6,o⟩:=crowd_recv_meets_some G b' R A (λj k a8=>by
    obtain⟨u,h2, -, b,h3,E,f',v,z', -, h4,-⟩:=b7 j k a8;exact⟨u,h2,core b,v,z',.send,by rw[<- h4];exact h3⟩)
   have d':(j,0)∈partners (gs.setIfInBounds 0 ph) c true:=by
    refine mem_partners.2 ⟨_,by rw[jx (λe=>a7 e.symm)];exact a6,?_⟩;rw[offersAt_parked_send,qWB rfl];simp
   obtain⟨-, -, e0,e9,c4,E,f',v,z',f1,d0,b0⟩:=b7 j 0 d';rw[a6]at c4;obtain rfl:=km c4;obtain⟨-, rfl,rfl,rfl,-⟩:=yp d0;rw[vO]at b0;have a9:=(ec.1 a6).1;have a1:0<j:=zz;have a':j<Q.num J:=by rw[<- C];exact a9
   have T:=L.at_inv J w t d K;have V:=R;obtain⟨-, -, b5, -, -, e4⟩:=b0.2 J (w.at d) t (L.at_rely _ _ _ _) T;obtain⟨-, -, -, d9,-⟩:=a4.2 J (w.at d) t (L.at_rely _ _ _ _) T;obtain⟨-, e2⟩:=d9 B;have N0:=e2 j a3 a1 a' b5 s r tm b.frame.fn b.frame.place a.frame.fn a.frame.place V;have c7:=e4 b1 s r tm b.frame.fn b.frame.place a.frame.fn a.frame.place V;have Z:=L.hand_inv J (w.at d) t j a3 s r tm b.frame.fn b.frame.place a.frame.fn a.frame.place T b5 b1 B (by rw[W];exact V) a1 a';have c3:=λi d3 d2 d4=>L.hand_rely J (w.at d) t j a3 s r tm i T b5 b1 (by rw[W];exact V) a1 a' d3 d2 d4;rw[W]at Z c3;obtain⟨k,a5,b2⟩:=fD.D5 N0;obtain⟨k',e6⟩:=fD.jX a1 c7;have b6:al.ofEvents 0 a.frame.fn a.frame.place #[]++#[({g:=j,fn:=b.frame.fn,pos:=b.frame.place,act:=.send c s}:al), {g:=0,fn:=(core a).frame.fn,pos:=(core a).frame.place,act:=.recv c r 0},
     {g:=j,fn:=b.frame.fn,pos:=b.frame.place,act:=.sendDone c s}, {g:=0,fn:=(core a).frame.fn,pos:=(core a).frame.place,act:=.recvDone c r}]=qx j c s r b.frame.fn b.frame.place a.frame.fn a.frame.place:=rfl
   rw[b6,finishComm_recv,finishComm_send]at o;have e':j<(gs.setIfInBounds j (Conc.served b D)).size:=by simpa using a9
   have d5:0<(gs.setIfInBounds j (Conc.served b D)).size:=by simpa using y
   refine .inr ⟨_,_,⟨f k,μ.n,λi=>if i=j then f' k' else μ.r i,_⟩,b3.tn o,.main (by rw[b8];exact Rk.xL f k),(gs.setIfInBounds j (Conc.served b D)).setIfInBounds 0 (Conc.served (core a) (recvd ok a3 true)),_,sl,Q.hand J j,_,rfl,by simp[C,L.hand_num],by simp[b4],Z,by simp[y],b2,λi x hi l=>?_,λO=>(by rw[a5]at O;cases O),rfl⟩;rcases jq d5 l with⟨h,-⟩|⟨S,l⟩
   .omega
   rcases jq a9 l with⟨rfl,rfl⟩|⟨a2,n⟩
   .simp only[if_true];exact e6
   .simp only[qVB a2];have u:=(N i x hi n).still L (i:=j) (t':=t) (σ':=J) (w':=w.at d) a2 (L.at_rely _ _ _ _) ⟨λ_ _ h=>.inl h,.inl,λ_ _=>il⟩ rfl;exact u.still L (i:=j) a2 (c3 i a2 hi (by rw[<- C];exact(ec.1 n).1)) (L.hand_same J j) (deaf_quiet iS)
def LV(L:Laws Q){J:Q.S}{t:Th}{m:Machine}(R:0<i)(hi:gs[i]?=Y g)(d4:g.status=.running)(U:gs.size=Q.num J)(b5:μ.n=gs.size)(E:Q.inv J w t)(y:gs[0]?=Y a)(K:l6 Q P post μ.r0 a J w)
  (a1:∀i g,0<i->gs[i]?=Y g->wR Q P i (μ.r i) g J w t)(hk:μ.k=ConcN.sumTo gs.size (ru gs)){f:ι->Rk}(d2:μ.r i=.mk ι f)(b0:¬Q.gone J i)(Z:oU Q P i c v z (RE Q P i f) (core g) J w)(b4:stepT P m=runT P (crowd gs w sl) i):D7 Q P post μ m t:=by
 have a6:=(ec.1 hi).1;have b3:=(ec.1 y).1;have S:(0:Nat)≠i:=zz;have c1:(i==0)=false:=by simp;omega
 have a3:i<Q.num J:=by rw[<- U];exact a6
 obtain⟨O,b7, -, ⟨s,r,tm,a2⟩,d6,-⟩:=Z.2 J w t (L.refl _ _ _) E;have b8:Lq P (i==0) g w=.comm (core g) #[scase c v z] true .send w #[]:=by rw[c1,gm];exact d6
 have b6:∀j k,(j,k)∈partners (gs.setIfInBounds i ph) c false->k=0/\j=0/\∃(u:Type) (f0:u->Rk) (p:M) (ok:Bool),μ.r0=.mk u f0/\a=parked (core a) #[rcase c p] (.recv ok)/\oV Q P 0 c p ok (UY Q P post f0) (core a) J w:=by
  intro j k a4;obtain⟨x,n,l⟩:=mem_partners.1 a4;rcases getElem?_stand gs i j x n with⟨-, rfl⟩|⟨b2,n⟩
  .rw[offersAt_ph]at l;cases l
  .rcases ln j with rfl|o
   .rw[y]at n;obtain rfl:=km n;generalize μ.r0=r0 at K|-;obtain⟨u,f0⟩:=r0;rcases K with⟨h,-⟩|⟨c0,p,ok,h,A,-⟩
    .rw[offersAt_of_not_blocked (by rw[h];simp)]at l;cases l
    .rw[h,offersAt_parked_recv]at l;by_cases q:c0=c
     .subst q;rw[qWB rfl]at l;exact⟨by simpa using l,rfl,u,f0,p,ok,rfl,h,A⟩
     .rw[qVB q]at l;cases l
   .rw[(a1 j x o n).WJ]at l;cases l
 by_cases a8:partners (gs.setIfInBounds i ph) c false=[]
 .have T:=crowd_waits (P:=P) (sl:=sl) (i:=i) hi b8 (λd8 q=>by
   simp only[hZ,q8A]at q;subst q;exact ways_send_none a2 ss a8)
  have a':t++al.ofEvents i g.frame.fn g.frame.place #[]=t:=by rw[show al.ofEvents i g.frame.fn g.frame.place #[]= #[]from rfl];exact Array.append_empty
  have b':a.status≠.blocked:=by
   intro B;have a9:=K;generalize μ.r0=r0 at a9;obtain⟨u,f0⟩:=r0;rcases a9 with⟨h,-⟩|⟨c0,p,ok,h,A,-⟩
   .rw[h]at B;cases B
   .have q:c0=c:=by rw[<- (A.2 J w t (L.refl _ _ _) E).1,O]
    have:(0,0)∈partners (gs.setIfInBounds i ph) c false:=by
     refine mem_partners.2 ⟨a,by rw[jx (λe=>S e.symm)];exact y,?_⟩;rw[h,offersAt_parked_recv,qWB q];simp
    rw[a8]at this;cases this
  refine .inr ⟨_,_,⟨μ.r0,μ.n,μ.r,ConcN.sumTo (gs.setIfInBounds i (parked (core g) #[scase c v z] .send)).size (ru (gs.setIfInBounds i (parked (core g) #[scase c v z] .send)))⟩,b4.tn T,.rest rfl rfl rfl (by rw[hk];exact yo hi d4 rfl),gs.setIfInBounds i (parked (core g) #[scase c v z] .send),w,sl,J,a,rfl,by simp[U],by simp[b5],by rw[a'];exact E,?_,K,λj x o n=>?_,λB=>mi B b',rfl⟩
  .rw[jx (λe=>S e.symm)];exact y
  .rw[a'];rcases jq a6 n with⟨rfl,rfl⟩|⟨C,V⟩
   .show wR Q P j (μ.r j) _ J w t;rw[d2];exact .inr ⟨b0,.inr (.inr ⟨c,v,z,rfl,Z⟩)⟩
   .exact a1 j x o V
 .obtain⟨j,b,e1,d0,d,b2,o,T⟩:=crowd_send_meets_some (P:=P) (sl:=sl) (i:=i) hi b8 a2 a8 (λj k a4=>by
   obtain⟨W,rfl,u,f0,p,ok, -, h,-⟩:=b6 j k a4;exact⟨W,S,core a,p,.recv ok,by rw[<- h];exact y⟩)
  have c9:(j,0)∈partners (gs.setIfInBounds i ph) c false:=by
   refine mem_partners.2 ⟨_,by rw[jx (λe=>b2 e.symm)];exact o,?_⟩;rw[offersAt_parked_recv]
   .rw[qWB rfl];simp
  obtain⟨-, rfl,u,f0,p,ok,d1,c',A⟩:=b6 j 0 c9;rw[y]at o;obtain rfl:=km o;obtain⟨-, rfl,rfl,-⟩:=D8 c';rw[vO]at A;have G:=L.at_inv J w t d E;have N:=a2;obtain⟨-, -, a7, -, -, d5⟩:=Z.2 J (w.at d) t (L.at_rely _ _ _ _) G;obtain⟨-, a5, -, c7,-⟩:=A.2 J (w.at d) t (L.at_rely _ _ _ _) G;obtain⟨-, d3⟩:=c7 b7;have N0:=d3 i v R a3 a7 s r tm g.frame.fn g.frame.place b.frame.fn b.frame.place N;have b9:=d5 a5 s r tm g.frame.fn g.frame.place b.frame.fn b.frame.place N;have b1:=L.hand_inv J (w.at d) t i v s r tm g.frame.fn g.frame.place b.frame.fn b.frame.place G a7 a5 b7 (by rw[O];exact N) R a3;have a0:=λj c2 c3 c4=>L.hand_rely J (w.at d) t i v s r tm j G a7 a5 (by rw[O];exact N) R a3 c2 c3 c4;rw[O]at b1 a0;obtain⟨k,d9,c6⟩:=fD.D5 N0;obtain⟨k',d7⟩:=fD.jX R b9;have c8:al.ofEvents i g.frame.fn g.frame.place #[]++#[({g:=i,fn:=(core g).frame.fn,pos:=(core g).frame.place,act:=.send c s}:al), {g:=0,fn:=b.frame.fn,pos:=b.frame.place,act:=.recv c r 0},
    {g:=i,fn:=(core g).frame.fn,pos:=(core g).frame.place,act:=.sendDone c s}, {g:=0,fn:=b.frame.fn,pos:=b.frame.place,act:=.recvDone c r}]=qx i c s r g.frame.fn g.frame.place b.frame.fn b.frame.place:=rfl
  rw[c8,finishComm_recv,finishComm_send]at T;have c5:i<(gs.setIfInBounds 0 (Conc.served b (recvd ok v true))).size:=by simpa using a6
  refine .inr ⟨_,_,⟨f0 k,μ.n,λj=>if j=i then f k' else μ.r j,_⟩,b4.tn T,.main (by rw[d1];exact Rk.xL f0 k),(gs.setIfInBounds 0 (Conc.served b (recvd ok v true))).setIfInBounds i (Conc.served (core g) D),_,sl,Q.hand J i,Conc.served b (recvd ok v true),rfl,by simp[U,L.hand_num],by simp[b5],b1,?_,c6,λj x o n=>?_,λB=>(by have h:=B;cases h),rfl⟩
  .rw[jx (λe=>S e.symm)];simp[b3]
  .rcases jq c5 n with⟨rfl,rfl⟩|⟨C,n⟩
   .simp only[if_true];exact d7
   rcases jq b3 n with⟨h,-⟩|⟨d',V⟩
   .omega
   .simp only[qVB C];have W:=(a1 j x o V).still L (t':=t) (σ':=J) (w':=w.at d) C (L.at_rely _ _ _ _) ⟨λ_ _ h=>.inl h,.inl,λ_ _=>il⟩ rfl;exact W.still L (i:=i) C (a0 j C o (by rw[<- U];exact(ec.1 V).1)) (L.hand_same J i) (deaf_quiet iS)
def LW(L:Laws Q)(μ:Mu)(m:Machine)(t:Th)(h:WI Q P post μ m t):D7 Q P post μ m t:=by
 obtain⟨gs,w,sl,J,a,rfl,n,s,K,b,N,T,E,hk⟩:=h;have a6:∀g∈gs,awake g:=by
  intro g k;obtain⟨i,hi,rfl⟩:=Array.mem_iff_getElem.1 k;rcases ln i with rfl|r
  .have:gs[0]=a:=by simpa[fi hi]using b
   rw[this];exact awake_of (N.status.imp id .inl)
  .exact awake_of (T i _ r (fi hi)).status
 have b6:∃(i:Nat) (g:QP),gs[i]?=Y g/\g.status=.running:=by
  rcases N.status with a5|a4
  .exact⟨0,a,b,a5⟩
  .have C:=N;generalize μ.r0=W at C;obtain⟨ι,f⟩:=W;rcases C with⟨h,-⟩|⟨c,z,ok,h,a3,b9⟩
   .exact⟨0,a,b,h⟩
   .obtain⟨-, a0,-⟩:=a3.2 J w t (L.refl _ _ _) K;obtain⟨i,a1,a',O,G⟩:=L.live J w t K a0 b9;have b1:i<gs.size:=by rw[n];exact a'
    have hi:=fi b1;refine⟨i,_,hi,?_⟩;rcases T i _ a1 hi with⟨B,-⟩|⟨-, hl⟩
    .exact mi B O
    .generalize μ.r i=Z at hl;obtain⟨κ,f'⟩:=Z;rcases hl with⟨h,-⟩|⟨h,b8,b3⟩|⟨c',v,z',h,-⟩
     .exact h
     .exact mi (G (b8.2 J w t (L.refl _ _ _) K).1) b3
     .exact mi h (E a4 i _ a1 hi c' v z')
 obtain⟨i,g,d,b0,hi,k,p⟩:=crowd_pick (P:=P) (w:=w) (sl:=sl) a6 b6;have o:=L.at_inv J w t d K;have u:=N.still L (i:=1) (σ':=J) (w':=w.at d) (L.at_rely _ _ _ _) ⟨λ_ _ h=>.inl h,.inl,λ_ _=>il⟩;have l:∀i g,0<i->gs[i]?=Y g->wR Q P i (μ.r i) g J (w.at d) t:=λi g B h2=>(T i g B h2).still L (i:=i+1) zz (L.at_rely _ _ _ _) ⟨λ_ _ h=>.inl h,.inl,λ_ _=>il⟩ rfl;rcases ln i with rfl|r
 .rw[b]at hi;obtain rfl:=km hi;have C:=u;generalize V:μ.r0=W at C;obtain⟨ι,f⟩:=W;have S:sW Q P post (.mk ι f) (core a) J (w.at d):=by
   rcases C with⟨-, h⟩|⟨c,z,ok,h,-⟩
   .exact h
   .rw[h]at k;cases k
  rcases S with h|h|⟨c,z,ok,h⟩|h
  .exact Vx L n s b l V (h J _ t (L.refl _ _ _) o) p
  .exact GO L n o b l V h p
  .exact LU L n s o b k l hk V h p
  ·
   obtain⟨v,es,a8,a7,b4,a9,b5⟩:=h.2 J _ t (L.refl _ _ _) o;have b7:=runT_many_ended (P:=P) (sl:=b0) (i:=0) b (show Lq P (0==0) a (w.at d)=.ended (.done v) (w.at d) es by rw[gm];exact a8);have a2:∀j x,0<j->gs[j]?=Y x->∃q,QuitsD P q (Deaf t j) x:=by
    intro j x y A;rcases l j x y A with⟨-, q, -, h⟩|⟨h,-⟩
    .exact⟨q,h⟩
    .exact mi (a9 j y (by rw[<- n];exact(ec.1 A).1)) h
   refine .inl ⟨_,_,_,p.tn b7,v,rfl,b5,a7,b4,⟨λx A=>?_,rfl⟩,λj x A y=>?_⟩
   .obtain⟨j,y⟩:=List.mem_iff_getElem?.1 A;rw[List.getElem?_drop]at y;obtain⟨q,U⟩:=a2 (1+j) x zz (by simpa[crowd]using y);exact⟨_,U.leaves⟩
   .obtain⟨q,U⟩:=a2 j x zz A;refine⟨q,?_⟩;have e:(t++al.ofEvents 0 a.frame.fn a.frame.place es).deaf j (t++al.ofEvents 0 a.frame.fn a.frame.place es).size=Deaf t j:=jR zz _ _ _;rw[e];exact U.hears _
 .rcases l i g r hi with⟨B,q,h2,h3⟩|⟨O,hl⟩
  .exact LQ L r hi k n s o b u l E B h2 h3 p
  .generalize R:μ.r i=Z at hl;obtain⟨κ,f⟩:=Z;have S:rP Q P i (.mk κ f) (core g) J (w.at d):=by
    rcases hl with⟨-, h⟩|⟨h,-⟩|⟨c',v,z',h,-⟩
    .exact h
    .rw[h]at k;cases k
    .rw[h]at k;cases k
   rcases S with h|h|⟨c,v,z,h⟩
   .exact AE L r hi n s b u l E R (h J _ t (L.refl _ _ _) o) p
   .obtain⟨-, b2,b'⟩:=h.2 J _ t (L.refl _ _ _) o;by_cases G:Q.up J i
    .exact AE L r hi n s b u l E R (b' G) p
    .exact OE r hi k n s o b u l E hk R O h G (b2 G) p
   .exact LV L r hi k n s o b u l hk R O h p
def OF(L:Laws Q){μ:Mu}:∀{m:Machine} {t:Th},WI Q P post μ m t->
  ∃n last o w t',runNT P (n+1) m t=(.ended o w,t')/\runN P n m=.next last/\step P last=.ended o w/\Good P post last o w t':=by
 induction μ using Y9.induction with
 | _ μ j=>
  intro m t e;rcases LW L μ m t e with⟨o,w,ops,a,g⟩|⟨m',ops,k,a,h,f⟩
  .refine⟨0,m,o,w,t++ops,?_,rfl,?_,g⟩
   .simp[runNT,a]
   .simp[step,a]
  .obtain⟨n,last,o,w,t',b,h2,c,d⟩:=j k h f;have i:step P m=.next m':=by simp[step,a]
   refine⟨n+1,last,o,w,t',?_,?_,c,d⟩
   .rw[<- b];show runNT P ((n+1)+1) m t=_;conv=>lhs;rw[runNT]
    rw[a]
   .rw[<- h2];conv=>lhs;rw[runN]
    rw[i]
def Vy(L:Laws Q){a:QP}{J:Q.S}(j:Q.num J=1)(d:Q.inv J w #[])(b:a.status=.running)(e:core a=a)(h:∃r,sW Q P post r a J w):
  ∃n last o w' t',runNT P (n+1) (crowd #[a] w I) #[]=(.ended o w',t')/\runN P n (crowd #[a] w I)=.next last/\step P last=.ended o w'/\Good P post last o w' t':=by
 obtain⟨r,h⟩:=h;refine OF L (μ:=⟨r,1,λ_=>default,ConcN.sumTo 1 (ru #[a])⟩) ⟨#[a],w,I,J,a,rfl,by simp[j],rfl,d,rfl,.inl ⟨b,by rw[e];exact h⟩,λi g hi f=>?_,λc=>(by rw[b]at c;cases c),rfl⟩;have:i<1:=by simpa using(ec.1 f).1
 omega
def bZ(Q:gJ)(P:Ps)(i:Nat)(g:QP)(J:Q.S)(w:H):Prop:=∃r,rP Q P i r g J w
def aQ(Q:gJ)(P:Ps)(post:M->H->Prop)(g:QP)(J:Q.S)(w:H):Prop:=∃r,sW Q P post r g J w
abbrev SJ(Q:gJ)(P:Ps)(i:Nat):QP->Q.S->H->Th->Prop:=fD Q P i (bZ Q P i) (λ_=>True)
abbrev SK(Q:gJ)(P:Ps)(post:M->H->Prop):QP->Q.S->H->Th->Prop:=fD Q P 0 (aQ Q P post) (λ_=>False)
open Classical in
noncomputable def OG(Q:gJ)(P:Ps)(i:Nat):(QP×Q.S×H) ⊕ Nat->Rk
 | .inl x=>if h:bZ Q P i x.1 x.2.1 x.2.2 then h.choose else default
 | .inr q=>.ofNat q
open Classical in
noncomputable def OH(Q:gJ)(P:Ps)(post:M->H->Prop):(QP×Q.S×H)->Rk:=λx=>if h:aQ Q P post x.1 x.2.1 x.2.2 then h.choose else default
def SL{J:Q.S}(h:bZ Q P i g J w):∃k,rP Q P i (OG Q P i k) g J w:=by
 refine⟨.inl (g,J,w),?_⟩;show rP Q P i (open Classical in if h:bZ Q P i g J w then h.choose else default) g J w;rw[dif_pos h];exact h.choose_spec
def SM{J:Q.S}(h:aQ Q P post g J w):∃k,sW Q P post (OH Q P post k) g J w:=by
 refine⟨(g,J,w),?_⟩;show sW Q P post (open Classical in if h:aQ Q P post g J w then h.choose else default) g J w;rw[dif_pos h];exact h.choose_spec
def GP{J:Q.S}{t:Th}(h:SJ Q P i g J w t):RE Q P i (OG Q P i) g J w t:=by
 rcases h with⟨a,h2,b⟩|⟨a,h2,q, -, b⟩
 .exact .inl ⟨a,h2,SL b⟩
 .exact .inr ⟨a,h2,q,⟨.inr q,rfl⟩,b⟩
def BB{J:Q.S}{t:Th}(h:SK Q P post g J w t):UY Q P post (OH Q P post) g J w t:=by
 rcases h with⟨a,h2,b⟩|⟨a,-⟩
 .exact .inl ⟨a,h2,SM b⟩
 .exact mi a (dj 0)
def zW.imp{Nx Nx':QP->Q.S->H->Th->Prop}(j:∀g J w t,Nx g J w t->Nx' g J w t){J:Q.S}{t:Th}(h:zW Q P i Nx g J w t):zW Q P i Nx' g J w t:=by
 obtain⟨g',w',es,σ',a,h2,b,c,d,e,f⟩:=h;exact⟨g',w',es,σ',a,h2,b,c,d,e,j _ _ _ _ f⟩
def bZ.own{J:Q.S}(h:lZ Q P i (SJ Q P i) g J w):bZ Q P i g J w:=
 ⟨.mk _ (OG Q P i),.inl λσ1 bj t a h2=>(h σ1 bj t a h2).imp λ_ _ _ _=>GP⟩
def bZ.sem{J:Q.S}(h:vN Q P i (SJ Q P i) g J w):bZ Q P i g J w:=
 ⟨.mk _ (OG Q P i),.inr (.inl ⟨h.1,λσ1 bj t a h2=>⟨(h.2 σ1 bj t a h2).1,(h.2 σ1 bj t a h2).2.1,λb=>((h.2 σ1 bj t a h2).2.2 b).imp λ_ _ _ _=>GP⟩⟩)⟩
def bZ.send{v z:M}{J:Q.S}(h:oU Q P i c v z (SJ Q P i) g J w):bZ Q P i g J w:=
 ⟨.mk _ (OG Q P i),.inr (.inr ⟨c,v,z,h.1,λσ1 bj t k h2=>by
  obtain⟨a,b,c,d,e,f⟩:=h.2 σ1 bj t k h2;exact⟨a,b,c,d,e,λhl s r tm j m f2 n l=>GP (f hl s r tm j m f2 n l)⟩⟩)⟩
def aQ.own{J:Q.S}(h:lZ Q P 0 (SK Q P post) g J w):aQ Q P post g J w:=
 ⟨.mk _ (OH Q P post),.inl λσ1 bj t a h2=>(h σ1 bj t a h2).imp λ_ _ _ _=>BB⟩
def aQ.spawn{J:Q.S}(h:rq Q P 0 (bZ Q P) (SK Q P post) g J w):aQ Q P post g J w:=
 ⟨.mk _ (OH Q P post),.inr (.inl ⟨h.1,λσ1 bj t n h2=>by
  obtain⟨g',child,σ',a,d,e,f,i,j,k,l,m,b,c⟩:=h.2 σ1 bj t n h2;exact⟨g',child,σ',a,d,e,f,i,j,k,l,m,b,BB c⟩⟩)⟩
def aQ.recv{ok:Bool}{J:Q.S}(h:oV Q P 0 c z ok (SK Q P post) g J w):aQ Q P post g J w:=
 ⟨.mk _ (OH Q P post),.inr (.inr (.inl ⟨c,z,ok,h.1,λσ1 bj t q h2=>by
  obtain⟨e,f,i,b,d⟩:=h.2 σ1 bj t q h2;refine⟨e,f,i,λa=>⟨(b a).1,λj v x y A s r tm p B f2 C u=>BB ((b a).2 j v x y A s r tm p B f2 C u)⟩,λa=>⟨(d a).1,?_⟩⟩;obtain⟨σ',k,l,m,n,o⟩:=(d a).2;exact⟨σ',k,l,m,n,BB o⟩⟩))⟩
def aQ.ends{J:Q.S}(h:D4 Q P post 0 g J w):aQ Q P post g J w:=
 ⟨.mk Unit (λ_=>default),.inr (.inr (.inr h))⟩
end Go.Co
