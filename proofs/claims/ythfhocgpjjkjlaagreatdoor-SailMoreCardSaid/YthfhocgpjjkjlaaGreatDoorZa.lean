import Derived.Test.YthfhocgpjjkjlaaGreatDoorAa
import Derived.CallsIn
import Derived.Conc.Own
import Derived.Conc.Events
import Derived.Conc.Neutral
set_option maxRecDepth 100000
set_option maxHeartbeats 4000000
set_option linter.all false
noncomputable section
open Option renaming some->Ax,none->I,some->Y
open Go renaming World->Cl,World->H,TypeId->Lk,Code->Ly,Value->M,Program->Ps,resolve->ab,Operand->ae,MemOp->al,FuncId->ba
namespace Go.Co
variable{τ τ':Nat->Question->Nat}{d d' n m:Nat}{α β:Type}{P:Ps}{w:H}{o:Obj}
def tp(w:H)(τ:Nat->Question->Nat)(d:Nat):H:= {w with tape:=τ,drawn:=d}
def zB(τ:Nat->Question->Nat)(d:Nat)(τ':Nat->Question->Nat)(d' n:Nat):Prop:=∀k q,k<n->τ (d+k) q=τ' (d'+k) q
def zB.le(h:zB τ d τ' d' n)(a:m<=n):zB τ d τ' d' m:=λk q hk=>h k q zz
def zB.tail(h:zB τ d τ' d' (m+n)):zB τ (d+m) τ' (d'+m) n:=λk q hk=>by
 have:=h (m+k) q zz;rwa[<- Nat.add_assoc,<- Nat.add_assoc]at this
def zB.head(h:zB τ d τ' d' n)(a:0<n)(q:Question):τ d q=τ' d' q:=h 0 q a
@[simp] def AZ (w:H) (τ:Nat->Question->Nat) (d:Nat):(tp w τ d).heap=w.heap:=rfl
@[simp] def A0 (w:H) (τ:Nat->Question->Nat) (d:Nat):(tp w τ d).tape=τ:=rfl
@[simp] def xj (w:H) (τ:Nat->Question->Nat) (d:Nat):(tp w τ d).drawn=d:=rfl
@[simp] def YR (w:H) (τ:Nat->Question->Nat) (d:Nat):(tp w τ d).os=w.os:=rfl
def RJ(w:H):tp w w.tape w.drawn=w:=rfl
end Go.Co
open Go in
open Go.Co in
variable{w:H} in
def Go.Result.world{α:Type}:Result α->Cl
 | .ok _ w=>w
 | .halt _ w=>w
namespace Go.Co
variable{τ τ':Nat->Question->Nat}{d d' n m:Nat}{α β:Type}{P:Ps}{w:H}{o:Obj}
end Go.Co
open Go in
open Go.Co in
variable{w:H} in
def Go.Result.tp{α:Type}(r:Result α)(τ:Nat->Question->Nat)(d:Nat):Result α:=
 match r with
 | .ok a w=>.ok a (Co.tp w τ d)
 | .halt h w=>.halt h (Co.tp w τ d)
namespace Go.Co
variable{τ τ':Nat->Question->Nat}{d d' n m:Nat}{α β:Type}{P:Ps}{w:H}{o:Obj}
def Dead:Halt->Prop
 | .stuck _=>True
 | .unsupported (.noEntry _)=>True
 | _=>False
def Cw:Halt->Prop
 | .blocked|.waiting|.goexit|.exit _|.fatal _|.throw _|.unsupported (.initOrder _)=>False
 | _=>True
end Go.Co
open Go in
open Go.Co in
def Go.Obj.fJ:Obj->Prop
 | .pending .. | .view .. | .deferred (Ax (_::_))=>False
 | _=>True
namespace Go.Co
variable{τ τ':Nat->Question->Nat}{d d' n m:Nat}{α β:Type}{P:Ps}{w:H}{o:Obj}
def aB{α:Type}(P:Ps):Sem α->Prop
 | .pure _=>True
 | .load _ _ k=>∀v,aB P (k v)
 | .store _ _ _ k=>aB P k
 | .new o k=>o.fJ/\∀n,aB P (k n)
 | .shape _ k=>∀s,aB P (k s)
 | .freeze _ _ k=>aB P k
 | .frozen _ k=>∀b,aB P (k b)
 | .getObj _ k=>∀o,aB P (k o)
 | .setObj _ o k=>o.fJ/\aB P k
 | .choose _ k=>∀n,aB P (k n)
 | .sys _ k=>(∃h,k .wouldBlock=.halt h/\Dead h)/\∀r,aB P (k r)
 | .program k=>aB P (k P)
 | .mark _ k=>aB P k
 | .halt h=>Cw h
def vm{s:Sem α}{f:α->Sem β}(d:aB P s)(e:∀a,aB P (f a)):aB P (s.bind f):=by
 induction s with
 | pure a=>exact e a
 | load m a k b=>exactλv=>b v (d v)
 | store m a v k b=>exact b d
 | new o k b=>exact⟨d.1,λn=>b n (d.2 n)⟩
 | shape r k b=>exactλn=>b n (d n)
 | freeze a n k b=>exact b d
 | frozen a k b=>exactλn=>b n (d n)
 | getObj r k b=>exactλn=>b n (d n)
 | setObj r o k b=>exact⟨d.1,b d.2⟩
 | choose q k b=>exactλn=>b n (d n)
 | sys c k b=>exact⟨d.1.imp λg h=>⟨by show(k .wouldBlock).bind f=_;rw[h.1];rfl,h.2⟩,λr=>b r (d.2 r)⟩
 | program k b=>exact b P d
 | mark m k b=>exact b d
 | halt h=>exact d
def bL{s:Sem α}{f:α->Sem β}(c:aB P s)(b:∀a,aB P (f a)):aB P (s>>=f):=vm c b
def Ad{s:Sem α}(f:α->β)(a:aB P s):aB P (Functor.map f s):=vm a λ_=>trivial
def rT(P:Ps)(w:H)(a:Addr)(v:M)(b:Bool)(τ:Nat->Question->Nat)(d:Nat):
  (tp w τ d).farStore P a v b=(w.farStore P a v b).map λx=>(tp x.1 τ d,x.2):=by
 unfold H.farStore;simp only[AZ];split
 .rename_i at_ u h;have e:(tp w τ d).viewStore P at_ u a v b=(w.viewStore P at_ u a v b).map λx=>(tp x.1 τ d,x.2):=by
   unfold H.viewStore;have e0:(tp w τ d).seen P at_ u a b=w.seen P at_ u a b:=rfl;rw[e0];simp only[bind,Except.bind,pure,Except.pure,Except.map];repeat' (first|rfl|split)
  rw[e];cases w.viewStore P at_ u a v b<;>rfl
 .rfl
def rU(P:Ps)(w:H)(a:Addr)(b:Bool)(τ:Nat->Question->Nat)(d:Nat):(tp w τ d).farLoad P a b=w.farLoad P a b:=rfl
def Cx(x:Ask α):∀w:H,∃n,(w.ask x).2.drawn=w.drawn+n/\(w.ask x).2.tape=w.tape/\
  ∀τ d,zB w.tape w.drawn τ d n->(tp w τ d).ask x=((w.ask x).1,tp (w.ask x).2 τ (d+n)):=by
 induction x with
 | done a=>intro w;exact⟨0,rfl,rfl,λτ d _=>rfl⟩
 | ask g range k j=>
  intro w;obtain⟨q,i⟩:∃q:Question,∀w:H,w.ask (.ask g range k)=if q.forced=true then w.ask (k 0)else H.ask {w with drawn:=w.drawn+1} (k (q.cut (w.tape w.drawn q))):=⟨_,λw=>by rw[H.ask]⟩;by_cases h:q.forced=true
  .obtain⟨n,c,h2,f⟩:=j 0 w;have e:∀w:H,w.ask (.ask g range k)=w.ask (k 0):=λw=>by rw[i,qWB h]
   simp only[e];exact⟨n,c,h2,λτ d b=>by rw[f τ d b]⟩
  .have e:∀w:H,w.ask (.ask g range k)=H.ask {w with drawn:=w.drawn+1} (k (q.cut (w.tape w.drawn q))):=λw=>by rw[i,qVB h]
   obtain⟨n,c,h2,f⟩:=j (q.cut (w.tape w.drawn q)) {w with drawn:=w.drawn+1};simp only[e];refine⟨1+n,by rw[c,Nat.add_assoc],h2,λτ d b=>?_⟩;have l:=b.head zz q;have:=f τ (d+1) b.tail;simp only[A0,xj,<- l];rw[<- Nat.add_assoc];exact this
end Go.Co
open Go in
open Go.Co in
def Go.Result.told{α:Type}:Result α->Prop
 | .halt h _=>¬Dead h
 | .ok _ _=>True
namespace Go.Co
variable{τ τ':Nat->Question->Nat}{d d' n m:Nat}{α β:Type}{P:Ps}{w:H}{o:Obj}
def Nl(c:Sys)(w:H)(e:(w.sys c).1≠.wouldBlock):∃n,(w.sys c).2.drawn=w.drawn+n/\(w.sys c).2.tape=w.tape/\
  ∀τ d,zB w.tape w.drawn τ d n->(tp w τ d).sys c=((w.sys c).1,tp (w.sys c).2 τ (d+n)):=by
 obtain⟨n,f,h2,g⟩:=Cx (Kernel.perform c w.os) w;unfold H.sys at e|-;simp only[YR];generalize i:w.ask (Kernel.perform c w.os)=r at f h2 g e|-;obtain⟨⟨a,os⟩,w'⟩:=r;by_cases b:a=.wouldBlock
 .subst b;exact mi rfl e
 .refine⟨n,?_,?_,λτ d h=>?_⟩
  .cases a<;>first|exact mi rfl b|exact f
  .cases a<;>first|exact mi rfl b|exact h2
  .rw[g τ d h];cases a<;>first|exact mi rfl b|rfl
def Ke{s:Sem α}(g:aB P s):∀(w:H) (es:Array Event),(s.runT P w es).1.told->∃n,(s.runT P w es).1.world.drawn=w.drawn+n/\(s.runT P w es).1.world.tape=w.tape/\
  ∀τ d,zB w.tape w.drawn τ d n->s.runT P (tp w τ d) es=((s.runT P w es).1.tp τ (d+n),(s.runT P w es).2):=by
 induction s with
 | pure a=>exactλw es _=>⟨0,rfl,rfl,λτ d _=>rfl⟩
 | load m a k f=>
  intro w es b;have u:∀τ d,(tp w τ d).cell? a=w.cell? a:=λ_ _=>rfl
  cases h:w.cell? a with
  | some v=>
   obtain⟨n,j,h2,i⟩:=f v (g v) w (es.push ⟨.cell a,false,m==.atomic⟩) (by simpa only[Sem.runT,h]using b);refine⟨n,by simpa only[Sem.runT,h]using j,by simpa only[Sem.runT,h]using h2,λτ d t=>?_⟩;simpa only[Sem.runT,u,h]using i τ d t
  | none=>
   cases p:w.farLoad P a (m==.atomic)with
   | ok r=>
    obtain⟨v,l⟩:=r;obtain⟨n,j,h2,i⟩:=f v (g v) w (es++l.toArray.map (⟨.cell ·, false,m==.atomic⟩)) (by simpa only[Sem.runT,h,p]using b);refine⟨n,by simpa only[Sem.runT,h,p]using j,by simpa only[Sem.runT,h,p]using h2,λτ d t=>?_⟩;simpa only[Sem.runT,u,h,rU,p]using i τ d t
   | error e=>exact⟨0,by simp only[Sem.runT,h,p];rfl,by simp only[Sem.runT,h,p];rfl,λτ d _=>by simp only[Sem.runT,u,h,rU,p];rfl⟩
 | store m a v k f=>
  intro w es b;have u:∀τ d,(tp w τ d).cell? a=w.cell? a:=λ_ _=>rfl;have N:∀τ d,(tp w τ d).frozen? a=w.frozen? a:=λ_ _=>rfl;have O:∀τ d,(tp w τ d).setCell a v=tp (w.setCell a v) τ d:=λ_ _=>rfl
  have main:∀(y:∀cs,v≠.agg cs) (z:∀cs,v≠.tuple cs),∀(X:H),(Sem.store m a v k).runT P X es=match X.cell? a with
    | some _=>if X.frozen? a then(.halt (.unsupported (.unsafePointer "a write to bytes that a string shares")) X,es)else k.runT P (X.setCell a v) (es.push ⟨.cell a,true,m==.atomic⟩)
    | none=>match X.farStore P a v (m==.atomic)with
     | .ok (w,Q)=>k.runT P w (es++Q.toArray.map (⟨.cell ·, true,m==.atomic⟩))
     | .error h=>(.halt h X,es):=by
   intro y z X;cases v<;>first|rfl|exact mi rfl (y _)|exact mi rfl (z _)
  by_cases y:∃cs,v=.agg cs
  .obtain⟨cs,rfl⟩:=y;exact⟨0,rfl,rfl,λτ d _=>rfl⟩
  by_cases z:∃cs,v=.tuple cs
  .obtain⟨cs,rfl⟩:=z;exact⟨0,rfl,rfl,λτ d _=>rfl⟩
  have main:=main (λcs e=>y ⟨cs,e⟩) (λcs e=>z ⟨cs,e⟩);simp only[main,u,N,O,rT]at b|-
  cases h:w.cell? a with
  | some x=>
   simp only[h]at b|-;by_cases C:w.frozen? a=true
   .simp only[C,if_true];exact⟨0,rfl,rfl,λτ d _=>rfl⟩
   .rw[qLB]at C;simp only[C,lO,if_false]at b|-;exact f g (w.setCell a v) (es.push ⟨.cell a,true,m==.atomic⟩) b
  | none=>
   simp only[h]at b|-
   cases p:w.farStore P a v (m==.atomic)with
   | error e=>exact⟨0,rfl,rfl,λτ d _=>rfl⟩
   | ok r=>
    obtain⟨w',l⟩:=r;have K:w'.drawn=w.drawn/\w'.tape=w.tape:=by
     have:=rT P w a v (m==.atomic) w.tape w.drawn;rw[RJ,p]at this;simp only[Except.map,Except.ok.injEq,Prod.mk.injEq,and_true]at this;rw[this];exact⟨rfl,rfl⟩
    obtain⟨n,j,h2,i⟩:=f g w' (es++l.toArray.map (⟨.cell ·, true,m==.atomic⟩)) (by simpa only[p]using b);rw[K.1]at j i;rw[K.2]at h2 i;exact⟨n,j,h2,i⟩
 | new o k f=>
  intro w es b;exact f w.heap.size (g.2 _) {w with heap:=w.heap.push o} es b
 | shape r k f=>exactλw es b=>f (w.shape? r) (g _) w es b
 | freeze a n k f=>
  intro w es b;have L:∀τ d,(tp w τ d).freeze a n=tp (w.freeze a n) τ d:=λτ d=>by unfold H.freeze;split<;>rfl
  have A:(w.freeze a n).drawn=w.drawn/\(w.freeze a n).tape=w.tape:=by unfold H.freeze;split<;>exact⟨rfl,rfl⟩
  obtain⟨m,j,h2,i⟩:=f g (w.freeze a n) es b;rw[A.1]at j i;rw[A.2]at h2 i;exact⟨m,j,h2,λτ d t=>by show k.runT P ((tp w τ d).freeze a n) es=_;rw[L];exact i τ d t⟩
 | frozen a k f=>exactλw es b=>f (w.frozen? a) (g _) w es b
 | getObj r k f=>
  intro w es b;simp only[Sem.runT,AZ]at b|-;split at b
  .exact⟨0,rfl,rfl,λτ d _=>rfl⟩
  .rename_i o _ h;exact f o (g _) w _ b
  .exact⟨0,rfl,rfl,λτ d _=>rfl⟩
 | setObj r o k f=>
  intro w es b;simp only[Sem.runT,AZ]at b|-;split at b
  .exact⟨0,rfl,rfl,λτ d _=>rfl⟩
  .exact f g.2 {w with heap:=w.heap.setIfInBounds r o} _ b
  .exact⟨0,rfl,rfl,λτ d _=>rfl⟩
 | choose q k f=>
  intro w es b;simp only[Sem.runT,A0,xj]at b|-;by_cases p:q.forced=true
  .simp only[p,if_true]at b|-;exact f 0 (g _) w es b
  .simp only[p]at b|-;obtain⟨n,j,h2,i⟩:=f (q.cut (w.tape w.drawn q)) (g _) {w with drawn:=w.drawn+1} es b;refine⟨1+n,by rw[<- Nat.add_assoc];exact j,h2,λτ d t=>?_⟩;rw[<- t.head zz q,<- Nat.add_assoc];exact i τ (d+1) t.tail
 | sys c k f=>
  intro w es b;by_cases J:(w.sys c).1=.wouldBlock
  .obtain⟨R,hk,A⟩:=g.1;simp only[Sem.runT,J,hk]at b;exact mi A b
  .obtain⟨n,j,h2,i⟩:=Nl c w J;obtain⟨m,E,G,B⟩:=f (w.sys c).1 (g.2 _) (w.sys c).2 (es.push ⟨.output,true,false⟩) b;rw[j]at E B;rw[h2]at G B;refine⟨n+m,by rw[<- Nat.add_assoc];exact E,G,λτ d t=>?_⟩;show(k ((tp w τ d).sys c).1).runT P ((tp w τ d).sys c).2 _=_;rw[i τ d (t.le zz),<- Nat.add_assoc];exact B τ (d+n) t.tail
 | program k f=>exactλw es b=>f P g w es b
 | mark m k f=>exactλw es b=>f g w _ b
 | halt h=>exactλw es _=>⟨0,rfl,rfl,λτ d _=>rfl⟩
end Go.Co
open Go in
open Go.Co in
variable{o:Obj} in
def Go.World.fJ(w:Cl):Prop:=∀(b:Nat) (o:Obj),w.heap[b]?=Ax o->o.fJ
namespace Go.Co
variable{τ τ':Nat->Question->Nat}{d d' n m:Nat}{α β:Type}{P:Ps}{w:H}{o:Obj}
def vn(h:w.fJ)(a:Addr)(d:String):Cw (w.noCell a d):=by
 unfold H.noCell;split
 .rename_i c e b;exact h _ _ b
 .exact qYB
 .exact qYB
def A7(h:w.fJ)(a:Addr)(b:Bool):∃x,w.farLoad P a b=.error x/\Cw x:=by
 unfold H.farLoad;split
 .rename_i at_ u c;exact(h _ _ c).elim
 .exact⟨_,rfl,vn h _ _⟩
def zH(h:w.fJ)(a:Addr)(v:M)(b:Bool):∃x,w.farStore P a v b=.error x/\Cw x:=by
 unfold H.farStore;split
 .rename_i at_ u c;exact(h _ _ c).elim
 .exact⟨_,rfl,vn h _ _⟩
def Xp(h:w.fJ)(k:Nat)(f:Obj->Obj)(c:∀o,o.fJ->(f o).fJ):({w with heap:=w.heap.modify k f}:H).fJ:=by
 intro b o a;simp only[nc]at a;split at a
 .obtain⟨x,d,rfl⟩:=Option.map_eq_some_iff.1 a;exact c _ (h _ _ d)
 .exact h _ _ a
def A8(h:w.fJ)(a:Addr)(v:M):(w.setCell a v).fJ:=by
 unfold H.setCell;refine Xp h _ _ λo b=>?_;split<;>first|exact qYB|exact b
def Cy(h:w.fJ)(a:Addr)(n:Nat):(w.freeze a n).fJ:=by
 unfold H.freeze;split
 .exact h
 .refine Xp h _ _ λo b=>?_;split<;>first|exact qYB|exact b
def Kg(h:w.fJ)(c:o.fJ):({w with heap:=w.heap.push o}:H).fJ:=by
 intro b x a;simp only[qPB]at a;split at a
 .cases a;exact c
 .exact h _ _ a
def Nn(h:w.fJ)(r:Nat)(c:o.fJ):({w with heap:=w.heap.setIfInBounds r o}:H).fJ:=by
 intro b x a;simp only[fc]at a;split at a
 .split at a
  .cases a;exact c
  .cases a
 .exact h _ _ a
def No(x:Ask α):∀w:H,(w.ask x).2.heap=w.heap:=by
 induction x with
 | done a=>intro w;rfl
 | ask c range k b=>
  intro w;rw[H.ask];split
  .exact b _ _
  .exact b _ _
def Np(c:Sys)(w:H):(w.sys c).2.heap=w.heap:=by
 have e1:=No (Kernel.perform c w.os) w;unfold H.sys;generalize w.ask (Kernel.perform c w.os)=r at e1;obtain⟨⟨x,os⟩,w'⟩:=r;cases x<;>first|rfl|exact e1
def E8{s:Sem α}(g:aB P s):∀(w:H) (es:Array Event),w.fJ->(s.runT P w es).1.world.fJ/\∀h w',(s.runT P w es).1=.halt h w'->Cw h:=by
 induction s with
 | pure a=>exactλw es d=>⟨d,λh w' e=>by cases e⟩
 | load m a k f=>
  intro w es d
  cases h:w.cell? a with
  | some v=>simp only[Sem.runT,h];exact f v (g v) _ _ d
  | none=>
   obtain⟨x,l,p⟩:=A7 (P:=P) d a (m==.atomic);simp only[Sem.runT,h,l];exact⟨d,λh w' e=>by cases e;exact p⟩
 | store m a v k f=>
  intro w es d
  have main:∀(i:∀cs,v≠.agg cs) (j:∀cs,v≠.tuple cs),∀(X:H),(Sem.store m a v k).runT P X es=match X.cell? a with
    | some _=>if X.frozen? a then(.halt (.unsupported (.unsafePointer "a write to bytes that a string shares")) X,es)else k.runT P (X.setCell a v) (es.push ⟨.cell a,true,m==.atomic⟩)
    | none=>match X.farStore P a v (m==.atomic)with
     | .ok (w,u)=>k.runT P w (es++u.toArray.map (⟨.cell ·, true,m==.atomic⟩))
     | .error h=>(.halt h X,es):=by
   intro i j X;cases v<;>first|rfl|exact mi rfl (i _)|exact mi rfl (j _)
  by_cases i:∃cs,v=.agg cs
  .obtain⟨cs,rfl⟩:=i;exact⟨d,λh w' e=>by cases e;exact qYB⟩
  by_cases j:∃cs,v=.tuple cs
  .obtain⟨cs,rfl⟩:=j;exact⟨d,λh w' e=>by cases e;exact qYB⟩
  rw[main (λcs e=>i ⟨cs,e⟩) (λcs e=>j ⟨cs,e⟩)]
  cases h:w.cell? a with
  | some x=>
   dsimp only;split
   .exact⟨d,λh w' e=>by cases e;exact qYB⟩
   .exact f g _ _ (A8 d _ _)
  | none=>
   obtain⟨x,l,p⟩:=zH (P:=P) d a v (m==.atomic);rw[l];exact⟨d,λh w' e=>by cases e;exact p⟩
 | new o k f=>exactλw es d=>f _ (g.2 _) _ _ (Kg d g.1)
 | shape r k f=>exactλw es d=>f _ (g _) _ _ d
 | freeze a n k f=>exactλw es d=>f g _ _ (Cy d _ _)
 | frozen a k f=>exactλw es d=>f _ (g _) _ _ d
 | getObj r k f=>
  intro w es d;simp only[Sem.runT];split
  .exact⟨d,λh w' e=>by cases e;exact qYB⟩
  .exact f _ (g _) _ _ d
  .exact⟨d,λh w' e=>by cases e;exact qYB⟩
 | setObj r o k f=>
  intro w es d;simp only[Sem.runT];split
  .exact⟨d,λh w' e=>by cases e;exact qYB⟩
  .exact f g.2 _ _ (Nn d _ g.1)
  .exact⟨d,λh w' e=>by cases e;exact qYB⟩
 | choose q k f=>
  intro w es d;simp only[Sem.runT];split
  .exact f _ (g _) _ _ d
  .exact f _ (g _) _ _ d
 | sys c k f=>
  intro w es d;refine f _ (g.2 _) _ _ ?_;intro b o t;rw[Np]at t;exact d b o t
 | program k f=>exactλw es d=>f P g _ _ d
 | mark m k f=>exactλw es d=>f g _ _ d
 | halt h=>exactλw es d=>⟨d,λh w' e=>by cases e;exact g⟩
@[simp] def aaR (a:α):aB P (pure a:Sem α):=qYB
@[simp] def aaX (f:α->β) (s:Sem α) (h:aB P s):aB P (Functor.map f s):=Ad f h
def fK{c:Prop}[Decidable c]{a b:Sem α}(d:aB P a)(e:aB P b):aB P (if c then a else b):=by
 by_cases h:c
 .rw[qWB h];exact d
 .rw[qVB h];exact e
def fY(f:α->β->Sem (ForInStep β))(c:∀a b,aB P (f a b)):∀(l:List α) (b:β),aB P (forIn l b f)
 | [],b=>by simp
 | a::l,b=>by
  rw[List.forIn_cons];refine bL (c a b) λr=>?_
  cases r with
  | done b=>exact qYB
  | yield b=>exact fY f c l b
def iL{f:α->β->Sem (ForInStep β)}{l:List α}{b:β}(c:∀a b,aB P (f a b)):aB P (forIn l b f):=fY f c l b
def ig{f:α->β->Sem (ForInStep β)}{l:Array α}{b:β}(c:∀a b,aB P (f a b)):aB P (forIn l b f):=by
 rw[<- Array.forIn_toList];exact fY f c _ b
def ij{f:Nat->β->Sem (ForInStep β)}{l:Std.Legacy.Range}{b:β}(c:∀a b,aB P (f a b)):aB P (forIn l b f):=by
 rw[Std.Legacy.Range.forIn_eq_forIn_range'];exact fY f c _ b
def je{f:β->α->Sem β}(c:∀b a,aB P (f b a)):∀{l:List α} {b:β},aB P (l.foldlM f b)
 | [],b=>by simp
 | a::l,b=>by
  rw[List.foldlM_cons];exact bL (c b a) λr=>je c
def pR{f:α->Sem β}(b:∀a,aB P (f a)):∀{l:List α},aB P (l.mapM f)
 | []=>by simp
 | a::l=>by
  rw[List.mapM_cons];exact bL (b a) λr=>bL (pR b) λ_=>trivial
def kZ{f:α->Sem β}{l:Array α}(b:∀a,aB P (f a)):aB P (l.mapM f):=by
 rw[Array.mapM_eq_mapM_toList];exact Ad _ (pR b)
@[simp] def RL (a:Addr) (m:Mode):aB P (Go.load a m):=by
 unfold Go.load;exact ns
@[simp] def Nq (a:Addr) (v:M) (m:Mode):aB P (Go.store a v m):=by
 unfold Go.store;exact ns
def E7(a:o.fJ):aB P (Go.newObj o):=⟨a,λ_=>trivial⟩
@[simp] def YS (r:Nat):aB P (Go.shape r):=by
 unfold Go.shape;exact ns
@[simp] def YC (a:Addr):aB P (Go.frozen a):=by
 unfold Go.frozen;exact ns
@[simp] def YD (r:Nat):aB P (Go.getObj r):=by
 unfold Go.getObj;exact ns
def iW(r:Nat)(a:o.fJ):aB P (Go.setObj r o):=⟨a,qYB⟩
@[simp] def YE (q:Question):aB P (Go.choose q):=by
 unfold Go.choose;exact ns
@[simp] def VX (bytes:Nat):aB P (Go.askRoom bytes):=by
 unfold Go.askRoom;exact ns
@[simp] def VY (v:M):aB P (Go.goPanic v:Sem α):=by
 unfold Go.goPanic;exact ns
@[simp] def YF (r:Nat):aB P (Go.viewAt r):=by
 unfold Go.viewAt;exact ns
@[simp] def UI (r:Nat):aB P (Go.numberAt r):=by
 unfold Go.numberAt;exact ns
@[simp] def UJ (a:Addr) (b:Bool):aB P (Go.asNumber a b):=by
 unfold Go.asNumber;exact ns
@[simp] def M5 (n:Addr):aB P (Go.behindNumber n):=by
 unfold Go.behindNumber;exact ns
@[simp] def YG (a:Addr):aB P (Go.noView a):=by
 unfold Go.noView;exact ns
@[simp] def Kh (a:Addr):aB P (Go.markStringish a):=by
 unfold Go.markStringish;exact ns
@[simp] def RM (a:Addr):aB P (Go.stringish a):=by
 unfold Go.stringish;exact ns
@[simp] def UK (a b:Addr):aB P (Go.mayBeOne a b):=by
 unfold Go.mayBeOne;exact ns
@[simp] def UL (a b:Addr):aB P (Go.sameAddr a b):=by
 unfold Go.sameAddr;exact ns
@[simp] def Nr (a:Option Addr) (b:Option Addr):aB P (Go.samePointer a b):=by
 unfold Go.samePointer;exact ns
@[simp] def UM (t:Lk):aB P (Go.typeInfo t):=by
 unfold Go.typeInfo;exact ns
@[simp] def Rv (t:Lk):aB P (Go.underlying t):=by
 unfold Go.underlying;exact ns
@[simp] def VZ (t:Lk):aB P (Go.typeStr t):=by
 unfold Go.typeStr;exact ns
@[simp] def RN (t:Lk):aB P (Go.zeroValue t):=by
 unfold Go.zeroValue;exact ns
@[simp] def YH (t:Lk):aB P (Go.sizeOf t):=by
 unfold Go.sizeOf;exact ns
@[simp] def YT (t:Lk):aB P (Go.isAgg t):=by
 unfold Go.isAgg;exact ns
@[simp] def Ki (a:Addr) (n:Nat):∀(i:Nat) (b:Array M),aB P (Go.loadCellsFrom a i n b):=by
 induction n with
 | zero=>exactλ_ _=>trivial
 | succ n c=>exactλi b=>bL (RL _ _) λv=>c _ _
@[simp] def RO (a:Addr) (n:Nat):aB P (Go.loadCells a n):=by
 unfold Go.loadCells;exact ns
@[simp] def ZF (a:Addr) (vs:List M):∀i:Nat,aB P (Go.storeCells a vs i):=by
 induction vs with
 | nil=>exactλ_=>trivial
 | cons v vs b=>exactλi=>bL (Nq _ _ _) λ_=>b _
@[simp] def Wd (t:Lk) (a:Addr):aB P (Go.loadVar t a):=by
 unfold Go.loadVar;exact ns
@[simp] def UN (t:Lk) (a:Addr) (v:M):aB P (Go.storeVar t a v):=by
 unfold Go.storeVar;exact ns
@[simp] def YI (a:Lk) (cells:Array M):aB P (Go.newRow a cells):=by
 unfold Go.newRow;exact ns
@[simp] def YJ (t:Lk) (v:M):aB P (Go.newVar t v):=by
 unfold Go.newVar;exact ns
@[simp] def YK (t:Lk):aB P (Go.elemOf t):=by
 unfold Go.elemOf;exact ns
@[simp] def aaS (t:Lk) (cs:Array M) (off:Nat):aB P (Go.part t cs off):=by
 unfold Go.part;exact ns
@[simp] def M6 (e:RuntimeError):aB P (Go.runtimePanic e:Sem α):=by
 unfold Go.runtimePanic;exact ns
@[simp] def Ns (k:IntKind) (x y:Int) (code:BoundsCode):aB P (Go.boundsPanic k x y code:Sem α):=by
 unfold Go.boundsPanic;exact ns
@[simp] def We (a:M):aB P (Go.asIntOf a):=by
 unfold Go.asIntOf;exact ns
@[simp] def YU (v:M):aB P (Go.asInt v):=by
 unfold Go.asInt;exact ns
@[simp] def YL (a:M):aB P (Go.asBool a):=by
 unfold Go.asBool;exact ns
@[simp] def YM (a:M):aB P (Go.asAddr a):=by
 unfold Go.asAddr;exact ns
@[simp] def YN (a:Addr):aB P (Go.byteOf a):=by
 unfold Go.byteOf;exact ns
@[simp] def YO (base:Addr) (cells bytes:Nat):aB P (Go.partAt base cells bytes):=by
 unfold Go.partAt;exact ns
@[simp] def Rx (a:Addr) (f:Field):aB P (Go.fieldPlace a f):=by
 unfold Go.fieldPlace;exact ns
@[simp] def Cg (a b) (args:Array M):aB P (Go.Builtin.unsafeAdd_ a b args):=by
 unfold Go.Builtin.unsafeAdd_;rcases args with⟨_|⟨x,_|⟨y,_|⟨z,_|⟨u,l⟩⟩⟩⟩⟩
 all_goals (try exact qYB)
 all_goals (cases x<;>(try cases y)<;>(try exact qYB)<;>(try (cases z<;>try exact qYB)))
 all_goals (exact ns)
@[simp] def Cz (b:FloatKind) (a:Nat) (dst:FloatKind):aB P (Go.Conv.floatToFloat b a dst):=by
 unfold Go.Conv.floatToFloat;exact ns
@[simp] def Kj (op:BinOp) (k:FloatKind) (x y:Nat):aB P (Go.Op.floatArith op k x y):=by
 unfold Go.Op.floatArith;exact ns
@[simp] def Nt (op:BinOp) (k:FloatKind) (x y:Nat):aB P (Go.Op.floatCmp op k x y):=by
 unfold Go.Op.floatCmp;exact ns
@[simp] def IC.Ry (op:BinOp) (k:FloatKind) (x y:Nat):aB P (Go.Op.Complex.arith op k x y):=by
 unfold Go.Op.Complex.arith;exact ns
@[simp] def IC.RP (a:FloatKind) (x:Nat) (dst:FloatKind):aB P (Go.Op.Complex.conv a x dst):=by
 unfold Go.Op.Complex.conv;exact ns
@[simp] def IC.M7 (a b c d:Nat):aB P (Go.Op.Complex.product a b c d):=by
 unfold Go.Op.Complex.product;exact ns
@[simp] def IC.ID (e a b c d:Nat):aB P (Go.Op.Complex.corrected e a b c d):=by
 unfold Go.Op.Complex.corrected;exact ns
@[simp] def IC.Kk (a b c d:Nat):aB P (Go.Op.Complex.quotient a b c d):=by
 unfold Go.Op.Complex.quotient;exact ns
@[simp] def M8 (op:BinOp) (k:FloatKind) (b a d c:Nat):aB P (Go.Op.complexOp op k b a d c):=by
 unfold Go.Op.complexOp;exact ns
@[simp] def M9 (a b:Addr):aB P (Go.Op.twoPlaces a b):=by
 unfold Go.Op.twoPlaces;exact ns
@[simp] def ZH (k:IntKind) (a b:Addr):aB P (Go.Op.addrSub k a b):=by
 unfold Go.Op.addrSub;exact ns
@[simp] def RA (op:BinOp) (a b:Addr):aB P (Go.Op.addrCmp op a b):=by
 unfold Go.Op.addrCmp;exact ns
@[simp] def RB (k:IntKind) (a:Addr) (n:Int):aB P (Go.Op.addrMod k a n):=by
 unfold Go.Op.addrMod;exact ns
@[simp] def Wh (n:Nat):∀(t:Lk) (x y:M),aB P (Go.Op.equalIn n t x y):=by
 induction n with
 | zero=>intro t x y;unfold Go.Op.equalIn;exact qYB
 | succ n a=>
  intro t x y;unfold Go.Op.equalIn;repeat' (first|exact a _|exact a _ _|exact a _ _ _|(first|assumption|exact qYB|exact E7 qYB|exact iW _ qYB|(simp;done)|apply bL|apply fK|intro _|apply iL|apply ig|apply ij|apply kZ|apply je|dsimp only|split))
@[simp] def UO (t:Lk) (x y:M):aB P (Go.Op.equal t x y):=by
 unfold Go.Op.equal;exact ns
@[simp] def RQ (n:Nat):∀(t:Lk) (x y:M),aB P (Go.Op.eqGuardIn n t x y):=by
 induction n with
 | zero=>intro t x y;unfold Go.Op.eqGuardIn;exact qYB
 | succ n a=>
  intro t x y;unfold Go.Op.eqGuardIn;repeat' (first|exact a _|exact a _ _|exact a _ _ _|(first|assumption|exact qYB|exact E7 qYB|exact iW _ qYB|(simp;done)|apply bL|apply fK|intro _|apply iL|apply ig|apply ij|apply kZ|apply je|dsimp only|split))
@[simp] def RR (op:BinOp) (x y:Int):aB P (Go.Op.intCmp op x y):=by
 unfold Go.Op.intCmp;exact ns
@[simp] def RS (op:BinOp) (k:IntKind) (x y:Int):aB P (Go.Op.intDiv op k x y):=by
 unfold Go.Op.intDiv;exact ns
@[simp] def UP (op:BinOp) (k:IntKind) (x:Int) (a:IntKind) (y:Int):aB P (Go.Op.shift op k x a y):=by
 unfold Go.Op.shift;exact ns
@[simp] def Nu (op:BinOp) (x y:ByteArray):aB P (Go.Op.stringOp op x y):=by
 unfold Go.Op.stringOp;exact ns
@[simp] def UQ (op:UnOp) (x:M):aB P (Go.Op.unary op x):=by
 unfold Go.Op.unary;exact ns
@[simp] def Fj (x:M) (y:Nat) (code:BoundsCode):aB P (Go.Instr.sliceBound x y code):=by
 unfold Go.Instr.sliceBound;exact ns
@[simp] def CB (c:Bool) (d a:Nat) (e b f:Option M):aB P (Go.Instr.sliceBounds c d a e b f):=by
 unfold Go.Instr.sliceBounds;exact ns
@[simp] def Nv (d:Lk) (x:M) (b a c:Option M):aB P (Go.Instr.slice d x b a c):=by
 unfold Go.Instr.slice;exact ns
@[simp] def IE (a:M):aB P (Go.Instr.sureAddr a):=by
 unfold Go.Instr.sureAddr;exact ns
@[simp] def Na (t:Lk) (addr:M):aB P (Go.Instr.loadAt t addr):=by
 unfold Go.Instr.loadAt;exact ns
@[simp] def Kl (t:Lk) (addr val:M):aB P (Go.Instr.storeAt t addr val):=by
 unfold Go.Instr.storeAt;exact ns
@[simp] def Km (s:Lk) (addr:M) (a:Nat):aB P (Go.Instr.fieldAt s addr a):=by
 unfold Go.Instr.fieldAt;exact ns
@[simp] def Ko (t:Lk) (x a:M):aB P (Go.Instr.indexAt t x a):=by
 unfold Go.Instr.indexAt;exact ns
@[simp] def Kq (t:Lk) (x:M) (b a c:Option M):aB P (Go.Instr.sliceAt t x b a c):=by
 unfold Go.Instr.sliceAt;exact ns
@[simp] def ach (a:Lk) (heap:Bool) (old:M):aB P (Go.Instr.alloc a heap old):=by
 unfold Go.Instr.alloc;exact ns
@[simp] def RU (a:Lk) (v:M):aB P (Go.Instr.box a v):=by
 unfold Go.Instr.box;exact ns
@[simp] def Ny (t:Lk) (a:Array (Nat×M)):aB P (Go.Instr.build t a):=by
 unfold Go.Instr.build;exact ns
@[simp] def Fo (t:Lk) (a:Nat) (b:Array (Nat×M)):aB P (Go.Instr.buildSlice t a b):=by
 unfold Go.Instr.buildSlice;exact ns
@[simp] def Ks (tuple:M) (a:Nat):aB P (Go.Instr.extract tuple a):=by
 unfold Go.Instr.extract;exact ns
@[simp] def acj (b:Lk) (x a:M):aB P (Go.Instr.index b x a):=by
 unfold Go.Instr.index;exact ns
@[simp] def UR (e:Bool) (n:Nat):∀(t:Lk) (v:M),aB P (Go.Instr.checkKey e n t v):=by
 induction n with
 | zero=>intro t v;unfold Go.Instr.checkKey;exact qYB
 | succ n a=>
  intro t v;unfold Go.Instr.checkKey;repeat' (first|exact a _|exact a _ _|exact a _ _ _|(first|assumption|exact qYB|exact E7 qYB|exact iW _ qYB|(simp;done)|apply bL|apply fK|intro _|apply iL|apply ig|apply ij|apply kZ|apply je|dsimp only|split))
@[simp] def rM (t:Lk) (k:M) (l:List MapEntry):∀i:Nat,aB P (Go.Instr.findAsking t k l i):=by
 induction l with
 | nil=>intro i;unfold Go.Instr.findAsking;exact qYB
 | cons e l a=>
  intro i;unfold Go.Instr.findAsking;repeat' (first|exact a _|exact a _ _|exact a _ _ _|(first|assumption|exact qYB|exact E7 qYB|exact iW _ qYB|(simp;done)|apply bL|apply fK|intro _|apply iL|apply ig|apply ij|apply kZ|apply je|dsimp only|split))
@[simp] def Kt (a:Lk) (k:M) (es:List MapEntry):aB P (Go.Instr.findKey a k es):=by
 unfold Go.Instr.findKey;refine bL ss λ_=>?_;split
 .exact qYB
 .exact rM _ _ _ _
@[simp] def Nb (c:Lk) (x b:M) (a:Bool):aB P (Go.Instr.lookup c x b a):=by
 unfold Go.Instr.lookup;exact ns
@[simp] def IF (fn:Fn) (first a:Array M):aB P (Go.Instr.makeFunc fn first a):=by
 unfold Go.Instr.makeFunc;exact ns
@[simp] def Ku (t:Lk) (a:Option M):aB P (Go.Instr.makeMap t a):=by
 unfold Go.Instr.makeMap;exact ns
@[simp] def Ci (old new:M):aB P (Go.Instr.keyThatStays old new):=by
 unfold Go.Instr.keyThatStays;exact ns
@[simp] def IG (a:Lk) (map key:M):aB P (Go.Instr.mapEntry a map key):=by
 unfold Go.Instr.mapEntry;exact ns
@[simp] def Fp (a:Lk) (map b value:M):aB P (Go.Instr.entryStore a map b value):=by
 unfold Go.Instr.entryStore;exact ns
@[simp] def Cj (x:M):aB P (Go.Conv.bytesToString x):=by
 unfold Go.Conv.bytesToString;exact ns
@[simp] def zI (b:FloatKind) (re a:Nat) (dst:FloatKind):aB P (Go.Conv.complexToComplex b re a dst):=by
 unfold Go.Conv.complexToComplex;exact ns
@[simp] def Fy (b:FloatKind) (a:Nat) (dst:IntKind):aB P (Go.Conv.floatToInt b a dst):=by
 unfold Go.Conv.floatToInt;exact ns
@[simp] def Ck (x:M):aB P (Go.Conv.runesToString x):=by
 unfold Go.Conv.runesToString;exact ns
@[simp] def Cm (a:Lk) (s:ByteArray):aB P (Go.Conv.stringToBytes a s):=by
 unfold Go.Conv.stringToBytes;exact ns
@[simp] def Cp (a:Lk) (s:ByteArray):aB P (Go.Conv.stringToRunes a s):=by
 unfold Go.Conv.stringToRunes;exact ns
@[simp] def Cq (a:Addr) (cells:Nat):aB P (Go.Builtin.holdsCells a cells):=by
 unfold Go.Builtin.holdsCells;exact ns
@[simp] def Fq (size a n:Nat) (base:Option Addr) (x:M):aB P (Go.Builtin.mayShare size a n base x):=by
 unfold Go.Builtin.mayShare;exact ns
@[simp] def Kv (a:M):aB P (Go.Builtin.lenOf a):=by
 unfold Go.Builtin.lenOf;exact ns
@[simp] def Cr (size n:Nat) (a:M):aB P (Go.Builtin.firstCells size n a):=by
 unfold Go.Builtin.firstCells;exact ns
@[simp] def sG (argTypes:Array Lk) (a:Lk) (args:Array M):aB P (Go.Builtin.append_ argTypes a args):=by
 unfold Go.Builtin.append_;exact ns
@[simp] def II (argTypes:Array Lk) (a:Lk) (args:Array M):aB P (Go.Builtin.clear_ argTypes a args):=by
 unfold Go.Builtin.clear_;exact ns
@[simp] def wu (argTypes:Array Lk) (a:Lk) (args:Array M):aB P (Go.Builtin.len_ argTypes a args):=by
 unfold Go.Builtin.len_;exact ns
@[simp] def Nc (a:M) (b:M):aB P (Go.Builtin.max2 a b):=by
 unfold Go.Builtin.max2;exact ns
@[simp] def wA (a:Array Lk) (b:Lk) (args:Array M):aB P (Go.Builtin.max_ a b args):=by
 unfold Go.Builtin.max_;exact ns
@[simp] def Nd (a:M) (b:M):aB P (Go.Builtin.min2 a b):=by
 unfold Go.Builtin.min2;exact ns
@[simp] def wB (a:Array Lk) (b:Lk) (args:Array M):aB P (Go.Builtin.min_ a b args):=by
 unfold Go.Builtin.min_;exact ns
@[simp] def NA (t:Lk) (x y:M):aB P (Go.movedNumber t x y):=by
 unfold Go.movedNumber;exact ns
@[simp] def Nf (t:Lk) (x y:M):aB P (Go.movedPointer t x y):=by
 unfold Go.movedPointer;exact ns
@[simp] def Wi (op:BinOp) (t:Lk) (x y:ae) (a b:M):aB P (Go.eqGuard op t x y a b):=by
 unfold Go.eqGuard;exact ns
@[simp] def YV (op:BinOp) (a:Lk) (x y:M):aB P (Go.binOp op a x y):=by
 unfold Go.binOp;exact ns
def ng{t:Lk}{f:TypeDesc->Sem α}(h:∀d,P.underlying t=Y d->aB P (f d)):aB P (underlying t>>=f):=by
 show aB P ((match P.underlying t with|some d=>(pure d:Sem TypeDesc)|none=>stuck "no such type").bind f)
 cases a:P.underlying t with
 | none=>exact qYB
 | some d=>exact h d a
def Fz{src dst:Lk}(x:M)(c:P.underlying src≠Y .unsafePointer)(h2:P.underlying dst≠Y .unsafePointer):aB P (Go.convert src dst x):=by
 unfold Go.convert;refine ng λa d=>ng λb e=>?_;split
 all_goals first
  | (exfalso;first|exact c (by assumption)|exact h2 (by assumption);done)
  | (exact ns)
variable{a a':Addr}{v v' x y:M}{xs ys:Array M}{i s:Nat}{o':Obj}
inductive Kd
 | val
 | addr
 | addrM
 | clo (k:Nat)
 | junk
 deriving DecidableEq
structure P3 where
 has:ba->Bool
 kind:ba->Nat->Kd
 ar:ba->Nat
 ret:ba->Kd
 mar:Nat
 glob:Nat->Bool
 rdm:Bool
 rest:Ly:=.skip
structure Ren where
 tO:Nat->Option (Nat×Nat)
 cls:Nat->Bool
 tab:P3
 glob:∀g,tab.glob g=true->tO g=Y (g,0)/\cls g=false
instance:CoeFun Ren (λ_=>Nat->Option (Nat×Nat)):=⟨Ren.tO⟩
structure Ren.le(Z ρ':Ren):Prop where
 at_:∀b x,Z b=Y x->ρ' b=Y x
 cls:∀b x,Z b=Y x->ρ'.cls b=Z.cls b
 tab:ρ'.tab=Z.tab
def AR(Z:Ren)(a a':Addr):Prop:=a.spot=I/\a'.spot=I/\∃s,Z a.block=Y (a'.block,s)/\a'.off=a.off+s/\Z.cls a.block=false
inductive Wj(Z:Ren):Fn->Fn->Prop
 | func (f:ba) (hh:Z.tab.has f=true) (h:Z.tab.ret f=.val):Wj Z (.func f) (.func f)
 | yield {l l':Nat} (h:Z l=Y (l',0)):Wj Z (.yield l) (.yield l')
inductive dM(Z:Ren):Kd->M->M->Prop
 | bool {p:Kd} (b:Bool):dM Z p (.bool b) (.bool b)
 | int {p:Kd} (k:IntKind) (n:Int):dM Z p (.int k n) (.int k n)
 | string {p:Kd} (s:ByteArray):dM Z p (.string s) (.string s)
 | nilPtr:dM Z .addr (.pointer I) (.pointer I)
 | ptr {a a':Addr} (h:AR Z a a'):dM Z .addr (.pointer (Y a)) (.pointer (Y a'))
 | ptrM {b b':Nat} (h:Z b=Y (b',0)) (hc:Z.cls b=true):dM Z .addrM (.pointer (Y ⟨b,0,I⟩)) (.pointer (Y ⟨b',0,I⟩))
 | nilSlice {p:Kd} (l c:Nat):dM Z p (.slice I l c) (.slice I l c)
 | slice {p:Kd} {a a':Addr} (l c:Nat) (h:AR Z a a'):dM Z p (.slice (Y a) l c) (.slice (Y a') l c)
 | nilMap {p:Kd}:dM Z p (.map I) (.map I)
 | map {p:Kd} {r r':Nat} (h:Z r=Y (r',0)):dM Z p (.map (Y r)) (.map (Y r'))
 | nilChan {p:Kd}:dM Z p (.chan I) (.chan I)
 | func {p:Kd} {fn fn':Fn} {xs xs' ys ys':Array M} (h:Wj Z fn fn') (s1:xs.size=xs'.size) (h1:∀(i:Nat) (x y:M),xs[i]?=Y x->xs'[i]?=Y y->dM Z .val x y)
   (s2:ys.size=ys'.size) (h2:∀(i:Nat) (x y:M),ys[i]?=Y x->ys'[i]?=Y y->dM Z .val x y):dM Z p (.func fn xs ys) (.func fn' xs' ys')
 | clo {k:Nat} {f:ba} {ys ys':Array M} (hh:Z.tab.has f=true) (hr:Z.tab.ret f=.val) (hk:Z.tab.ar f=k) (s2:ys.size=ys'.size)
   (h2:∀(i:Nat) (x y:M),ys[i]?=Y x->ys'[i]?=Y y->dM Z (Z.tab.kind f (k+i)) x y):dM Z (.clo k) (.func (.func f) #[] ys) (.func (.func f) #[] ys')
 | nilFunc {p:Kd}:dM Z p .nilFunc .nilFunc
 | iface {p:Kd} (t:Lk) {v v':M} (h:dM Z .val v v'):dM Z p (.iface t v) (.iface t v')
 | nilIface {p:Kd}:dM Z p .nilIface .nilIface
 | agg {p:Kd} {xs ys:Array M} (s:xs.size=ys.size) (h:∀(i:Nat) (x y:M),xs[i]?=Y x->ys[i]?=Y y->dM Z .val x y):dM Z p (.agg xs) (.agg ys)
 | tuple {p:Kd} {xs ys:Array M} (s:xs.size=ys.size) (h:∀(i:Nat) (x y:M),xs[i]?=Y x->ys[i]?=Y y->dM Z .val x y):dM Z p (.tuple xs) (.tuple ys)
 | junk {v v':M}:dM Z .junk v v'
abbrev VR(Z:Ren)(v v':M):Prop:=dM Z .val v v'
abbrev SR(Z:Ren)(v v':M):Prop:=dM Z .addr v v'
def eH(Z:Ren)(p:Kd)(xs ys:Array M):Prop:=xs.size=ys.size/\∀(i:Nat) (x y:M),xs[i]?=Y x->ys[i]?=Y y->dM Z p x y
abbrev pM(Z:Ren)(xs ys:Array M):Prop:=eH Z .val xs ys
def AR.mono{Z ρ':Ren}(h:Z.le ρ')(r:AR Z a a'):AR ρ' a a':=let⟨h1,h2,s,h3,h4,h5⟩:=r;⟨h1,h2,s,h.at_ _ _ h3,h4,(h.cls _ _ h3).tn h5⟩
def Wj.mono{Z ρ':Ren}(h:Z.le ρ'){f f':Fn}(r:Wj Z f f'):Wj ρ' f f':=by
 cases r with
 | func f a b=>exact .func f (by rw[h.tab];exact a) (by rw[h.tab];exact b)
 | yield hl=>exact .yield (h.at_ _ _ hl)
def dM.mono{Z ρ':Ren}(h:Z.le ρ'){p:Kd}(r:dM Z p v v'):dM ρ' p v v':=by
 induction r with
 | bool b=>exact .bool b
 | int k n=>exact .int k n
 | string s=>exact .string s
 | nilPtr=>exact .nilPtr
 | ptr d=>exact .ptr (d.mono h)
 | ptrM hb g=>exact .ptrM (h.at_ _ _ hb) ((h.cls _ _ hb).tn g)
 | nilSlice l c=>exact .nilSlice l c
 | slice l c d=>exact .slice l c (d.mono h)
 | nilMap=>exact .nilMap
 | map e=>exact .map (h.at_ _ _ e)
 | nilChan=>exact .nilChan
 | func i s1 _ s2 _ m f=>exact .func (i.mono h) s1 m s2 f
 | clo j e hk s2 _ f=>exact .clo (by rw[h.tab];exact j) (by rw[h.tab];exact e) (by rw[h.tab];exact hk) s2 (by rw[h.tab];exact f)
 | nilFunc=>exact .nilFunc
 | iface t _ a=>exact .iface t a
 | nilIface=>exact .nilIface
 | agg s _ a=>exact .agg s a
 | tuple s _ a=>exact .tuple s a
 | junk=>exact .junk
def dM.up{Z:Ren}{p:Kd}(r:VR Z v v'):dM Z p v v':=by
 cases r with
 | bool b=>exact .bool b
 | int k n=>exact .int k n
 | string s=>exact .string s
 | nilSlice l c=>exact .nilSlice l c
 | slice l c d=>exact .slice l c d
 | nilMap=>exact .nilMap
 | map f=>exact .map f
 | nilChan=>exact .nilChan
 | func e s1 a s2 h2=>exact .func e s1 a s2 h2
 | nilFunc=>exact .nilFunc
 | iface t h=>exact .iface t h
 | nilIface=>exact .nilIface
 | agg s h=>exact .agg s h
 | tuple s h=>exact .tuple s h
def eH.mono{Z ρ':Ren}(h:Z.le ρ'){p:Kd}(r:eH Z p xs ys):eH ρ' p xs ys:=⟨r.1,λi x y a b=>(r.2 i x y a b).mono h⟩
def dM.IJ{Z:Ren}{p:Kd}(h:pM Z xs ys):dM Z p (.agg xs) (.agg ys):=.agg h.1 h.2
def dM.Rq{Z:Ren}{p:Kd}(h:pM Z xs ys):dM Z p (.tuple xs) (.tuple ys):=.tuple h.1 h.2
def dM.funcOf{Z:Ren}{p:Kd}{fn fn':Fn}{xs xs' ys ys':Array M}(h:Wj Z fn fn')(a:pM Z xs xs')(h2:pM Z ys ys'):dM Z p (.func fn xs ys) (.func fn' xs' ys'):=.func h a.1 a.2 h2.1 h2.2
section
variable{Z:Ren}{p:Kd}
def eH.nil:eH Z p #[] #[]:=⟨rfl,λi x y h=>by simp at h⟩
def eH.get(h:eH Z p xs ys)(a:xs[i]?=Y x):∃y,ys[i]?=Y y/\dM Z p x y:=by
 have hi:i<xs.size:=(ec.1 a).1;have c:i<ys.size:=by rw[<- h.1];exact hi
 have b:ys[i]?=Y ys[i]:=fi c;exact⟨_,b,h.2 i x _ a b⟩
def eH.none(h:eH Z p xs ys)(a:xs[i]?=I):ys[i]?=I:=by
 rw[Array.getElem?_eq_none_iff]at a|-;rw[<- h.1];exact a
def eH.push(h:eH Z p xs ys)(r:dM Z p x y):eH Z p (xs.push x) (ys.push y):=by
 refine⟨by simp[h.1],λi a b c d=>?_⟩;rw[qPB]at c d;by_cases hi:i=xs.size
 .rw[qWB hi]at c;rw[qWB (by rw[<- h.1];exact hi)]at d;cases c;cases d;exact r
 .rw[qVB hi]at c;rw[qVB (by rw[<- h.1];exact hi)]at d;exact h.2 i a b c d
def eH.append(h:eH Z p xs ys){us vs:Array M}(r:eH Z p us vs):eH Z p (xs++us) (ys++vs):=by
 refine⟨by simp[h.1,r.1],λi a b c d=>?_⟩;rw[Array.getElem?_append]at c d;by_cases hi:i<xs.size
 .rw[qWB hi]at c;rw[qWB (by rw[<- h.1];exact hi)]at d;exact h.2 i a b c d
 .rw[qVB hi]at c;rw[qVB (by rw[<- h.1];exact hi),<- h.1]at d;exact r.2 _ a b c d
def eH.set(h:eH Z p xs ys)(i:Nat)(r:dM Z p x y):eH Z p (xs.setIfInBounds i x) (ys.setIfInBounds i y):=by
 refine⟨by simp[h.1],λj a b c d=>?_⟩;rw[fc]at c d;by_cases hi:i=j
 .rw[qWB hi]at c d;by_cases e:i<xs.size
  .rw[qWB e]at c;rw[qWB (by rw[<- h.1];exact e)]at d;cases c;cases d;exact r
  .rw[qVB e]at c;cases c
 .rw[qVB hi]at c d;exact h.2 j a b c d
def eH.extract(h:eH Z p xs ys)(i j:Nat):eH Z p (xs.extract i j) (ys.extract i j):=by
 refine⟨by simp[h.1],λk a b c d=>?_⟩;rw[Array.getElem?_extract]at c d;split at c
 .split at d
  .exact h.2 _ a b c d
  .cases d
 .cases c
def eH.cellsOf(h:VR Z v v'):pM Z v.cells v'.cells:=by
 have one:=eH.nil.push h
 cases h with
 | agg s h=>exact⟨s,h⟩
 | _=>exact one
def eH.ofFn{n:Nat}{f g:Nat->M}(h:∀i,i<n->dM Z p (f i) (g i)):eH Z p ((Array.range n).map f) ((Array.range n).map g):=by
 refine⟨by simp,λi a b c d=>?_⟩;simp only[mf,Array.getElem?_range]at c d;by_cases hi:i<n
 .simp only[hi,if_true,ky,fg]at c d;rw[<- c,<- d];exact h i hi
 .simp[hi]at c
def eH.mapOf{l:Array α}{f g:α->M}(h:∀a∈l,dM Z p (f a) (g a)):eH Z p (l.map f) (l.map g):=by
 refine⟨by simp,λi a b c d=>?_⟩;simp only[mf,Option.map_eq_some_iff]at c d;obtain⟨x,e,rfl⟩:=c;obtain⟨y,j,rfl⟩:=d;rw[e]at j;cases j;exact h x (kq e)
end
def AR.add{Z:Ren}(h:AR Z a a')(n:Nat):AR Z (a.add n) (a'.add n):=by
 obtain⟨d,h2,s,b,e,c⟩:=h;unfold Addr.add;split
 .exact⟨d,h2,s,b,e,c⟩
 .exact⟨rfl,rfl,s,b,by show a'.off+n=a.off+n+s;omega,c⟩
structure Ok where
 code:ba->Ly->Prop
def KR(a:Nat->Kd)(Z:Ren)(xs ys:Array M):Prop:=xs.size=ys.size/\∀(i:Nat) (x y:M),xs[i]?=Y x->ys[i]?=Y y->dM Z (a i) x y
def KR.mono{κ:Nat->Kd}{Z ρ':Ren}(h:Z.le ρ')(r:KR κ Z xs ys):KR κ ρ' xs ys:=⟨r.1,λi x y a b=>(r.2 i x y a b).mono h⟩
structure LR(ok:Ok)(Z:Ren)(l l':Loop):Prop where
 state:l'.state=l.state
 pending:l'.pending=l.pending
 pendOk:∀c,l.pending=Y c->c=.ret\/∃id,c=.exit id
 fn:l'.fn=l.fn
 tmps:KR (Z.tab.kind l.fn) Z l.tmps l'.tmps
 params:l'.params=l.params
 assign:l'.assign=l.assign
 body:l'.body=l.body
 assignOk:ok.code l.fn l.assign
 bodyOk:ok.code l.fn l.body
 defers:Z l.defers=Y (l'.defers,0)
inductive OR(ok:Ok)(Z:Ren):Nat->Obj->Obj->Prop
 | cells {s:Nat} {c c':Array M} {e:Lk} {z z':Nat×Nat} (h:∀(i:Nat) (v:M),c[i]?=Y v->∃v',c'[i+s]?=Y v'/\VR Z v v')
   (hf:∀i,i<c.size->z'.1<=i+s->i+s<z'.2->z.1<=i/\i<z.2):OR ok Z s (.cells c e z) (.cells c' e z')
 | map {es eJ:Array MapEntry} {k:Nat} (hs:es.size=eJ.size) (h:∀(i:Nat) (x y:MapEntry),es[i]?=Y x->eJ[i]?=Y y->VR Z x.key y.key/\VR Z x.val y.val/\x.born=y.born):OR ok Z 0 (.map es k) (.map eJ k)
 | loop {l l':Loop} (h:LR ok Z l l'):OR ok Z 0 (.loop l) (.loop l')
 | none:OR ok Z 0 (.deferred I) (.deferred I)
 | nil:OR ok Z 0 (.deferred (Y [])) (.deferred (Y []))
def LR.mono{ok:Ok}{Z ρ':Ren}(h:Z.le ρ'){l l':Loop}(r:LR ok Z l l'):LR ok ρ' l l':=
 ⟨r.state,r.pending,r.pendOk,r.fn,by rw[h.tab];exact r.tmps.mono h,r.params,r.assign,r.body,r.assignOk,r.bodyOk,h.at_ _ _ r.defers⟩
def OR.mono{ok:Ok}{Z ρ':Ren}(h:Z.le ρ')(r:OR ok Z s o o'):OR ok ρ' s o o':=by
 cases r with
 | cells d e=>exact .cells (λi v g=>let⟨v',h1,h2⟩:=d i v g;⟨v',h1,h2.mono h⟩) e
 | map f he=>exact .map f λi x y j k=>let⟨a,b,c⟩:=he i x y j k;⟨a.mono h,b.mono h,c⟩
 | loop hl=>exact .loop (hl.mono h)
 | none=>exact .none
 | nil=>exact .nil
inductive OC(ok:Ok)(Z:Ren):Bool->Nat->Obj->Obj->Prop
 | plain {s:Nat} {o o':Obj} (h:OR ok Z s o o'):OC ok Z false s o o'
 | clo {e:Lk} {v v':M} (h:dM Z (.clo Z.tab.mar) v v'):OC ok Z true 0 (.cells #[v] e (0,0)) (.cells #[v'] e (0,0))
def OC.mono{ok:Ok}{Z ρ':Ren}(h:Z.le ρ'){c:Bool}(r:OC ok Z c s o o'):OC ok ρ' c s o o':=by
 cases r with
 | plain a=>exact .plain (a.mono h)
 | clo b=>exact .clo (by rw[h.tab];exact b.mono h)
def Shut(Z:Ren)(o:Obj):Prop:=(∃c e hi,o=.cells c e (0,hi)/\c.size<=hi)\/(Z.tab.rdm=true/\∃es k,o=.map es k)
def Shut.mono{Z ρ':Ren}(h:Z.le ρ')(s:Shut Z o):Shut ρ' o:=s.imp id λx=>⟨by rw[h.tab];exact x.1,x.2⟩
def HR(ok:Ok)(Z:Ren)(N:Nat)(W w:H):Prop:=
 ∀b o,W.heap[b]?=Y o->∃a s o',Z b=Y (a,s)/\w.heap[a]?=Y o'/\OC ok Z (Z.cls b) s o o'/\(b<N->Shut Z o)
def HR.plain{ok:Ok}{Z:Ren}{N:Nat}{W w:H}(h:HR ok Z N W w){b:Nat}(g:W.heap[b]?=Y o)(f:Z.cls b=false):
  ∃a s o',Z b=Y (a,s)/\w.heap[a]?=Y o'/\OR ok Z s o o'/\(b<N->Shut Z o):=by
 obtain⟨a,s,o',d,h2,c,e⟩:=h b o g;rw[f]at c
 cases c with
 | plain c=>exact⟨a,s,o',d,h2,c,e⟩
def Sep(Z:Ren)(N:Nat):Prop:=∀b a s,N<=b->Z b=Y (a,s)->s=0/\∀c s',Z c=Y (a,s')->c=b
def US(Z:Ren)(N:Nat)(e:Event):Prop:=
 match e.loc with
 | .cell a=>e.sync=false/\a.spot=I/\∃b s,Z b=Y (a.block,s)/\(e.write=true->N<=b)
 | .obj r=>e.sync=false/\∃b,Z b=Y (r,0)/\(e.write=true->N<=b)
 | .mark m=>Conc.Neutral m
 | _=>False
structure Kw(Z:Ren)(N:Nat)(W w W1 bj:H):Prop where
 size:W.heap.size<=W1.heap.size
 size':bj.heap.size+W.heap.size=w.heap.size+W1.heap.size
 drawn:W.drawn<=W1.drawn
 drawn':bj.drawn+W.drawn=w.drawn+W1.drawn
 tape:W1.tape=W.tape
 tape':bj.tape=w.tape
 os:bj.os=w.os
 output:bj.output=w.output
 eff:∀b',b'<w.heap.size->(∀b s,N<=b->Z b≠Y (b',s))->bj.heap[b']?=w.heap[b']?
def Told(Z:Ren)(W w a:H):Prop:=
 (∀k,W.heap.size+k<a.heap.size->Z (W.heap.size+k)=Y (w.heap.size+k,0)/\Z.cls (W.heap.size+k)=false)/\zB W.tape W.drawn w.tape w.drawn (a.drawn-W.drawn)
def mO{α β:Type}(P:Ps)(ok:Ok)(Z:Ren)(N:Nat)(R:α->β->Prop)(s:Sem α)(s':Sem β):Prop:=
 ∀(W w:H) (es d:Array Event) (a:α) (c:H) (g:Array Event),N<=W.heap.size->HR ok Z N W w->s.runT P W es=(.ok a c,g)->Told Z W w c->
  ∃b bj f,s'.runT P w d=(.ok b bj,d++f)/\R a b/\HR ok Z N c bj/\Kw Z N W w c bj/\∀e∈f,US Z N e
def Ky{P:Ps}(s:Sem α):∀(w:H) (es:Array Event) (a:α) (bj:H) (f:Array Event),s.runT P w es=(.ok a bj,f)->(w:Nat)<=bj/\w.drawn<=bj.drawn:=by
 induction s with
 | pure a=>intro w es b bj f h;cases h;exact⟨qN _,qN _⟩
 | load m a k d=>
  intro w es b bj f h;simp only[Sem.runT]at h;split at h
  .exact d _ _ _ _ _ _ h
  .split at h
   .exact d _ _ _ _ _ _ h
   .cases h
 | store m a v k d=>
  intro w es b bj f h
  have main:∀(j:∀cs,v≠.agg cs) (l:∀cs,v≠.tuple cs),(Sem.store m a v k).runT P w es=match w.cell? a with
    | some _=>if w.frozen? a then(.halt (.unsupported (.unsafePointer "a write to bytes that a string shares")) w,es)else k.runT P (w.setCell a v) (es.push ⟨.cell a,true,m==.atomic⟩)
    | none=>match w.farStore P a v (m==.atomic)with
     | .ok (w,u)=>k.runT P w (es++u.toArray.map (⟨.cell ·, true,m==.atomic⟩))
     | .error h=>(.halt h w,es):=by
   intro j l;cases v<;>first|rfl|exact mi rfl (j _)|exact mi rfl (l _)
  by_cases j:∃cs,v=.agg cs
  .obtain⟨cs,rfl⟩:=j;cases h
  by_cases l:∃cs,v=.tuple cs
  .obtain⟨cs,rfl⟩:=l;cases h
  rw[main (λcs e=>j ⟨cs,e⟩) (λcs e=>l ⟨cs,e⟩)]at h;split at h
  .split at h
   .cases h
   .have:=d _ _ _ _ _ h;simpa[H.setCell]using this
  .split at h
   .rename_i w' u g;have e:w'.heap.size=w.heap.size/\w'.drawn=w.drawn:=by
     unfold H.farStore at g;split at g
     .split at g
      .rename_i r i;cases g;unfold H.viewStore at i;simp only[bind,Except.bind,pure,Except.pure]at i;repeat' (first|(cases i;done)|(cases i;exact⟨by simp,rfl⟩)|split at i)
      .cases g
     .cases g
    have:=d _ _ _ _ _ h;rw[e.1,e.2]at this;exact this
   .cases h
 | new o k d=>
  intro w es b bj f h;have:=d _ _ _ _ _ _ h;simp only[qQB]at this;exact⟨zz,this.2⟩
 | shape r k d=>exactλw es b bj f h=>d _ _ _ _ _ _ h
 | freeze a n k d=>
  intro w es b bj f h;have:=d _ _ _ _ _ h;unfold H.freeze at this;split at this<;>simpa using this
 | frozen a k d=>exactλw es b bj f h=>d _ _ _ _ _ _ h
 | getObj r k d=>
  intro w es b bj f h;simp only[Sem.runT]at h;split at h
  .cases h
  .exact d _ _ _ _ _ _ h
  .cases h
 | setObj r o k d=>
  intro w es b bj f h;simp only[Sem.runT]at h;split at h
  .cases h
  .have:=d _ _ _ _ _ h;simpa using this
  .cases h
 | choose q k d=>
  intro w es b bj f h;simp only[Sem.runT]at h;split at h
  .exact d _ _ _ _ _ _ h
  .have:=d _ _ _ _ _ _ h;exact⟨this.1,by have:=this.2;simp only at this;omega⟩
 | sys c k d=>
  intro w es b bj f h;have:=d _ _ _ _ _ _ h;obtain⟨n,p, -,-⟩:=Cx (Kernel.perform c w.os) w;have t:(w.sys c).2.heap=w.heap/\w.drawn<=(w.sys c).2.drawn:=by
   have y:∀{α:Type} (x:Ask α) (w:H),(w.ask x).2.heap=w.heap:=by
    intro α x
    induction x with
    | done a=>intro w;rfl
    | ask z range k d=>
     intro w;rw[H.ask];split
     .exact d _ _
     .exact d _ _
   have e1:=y (Kernel.perform c w.os) w;unfold H.sys;generalize w.ask (Kernel.perform c w.os)=r at p e1;obtain⟨⟨x,os⟩,w'⟩:=r;cases x<;>first|exact⟨rfl,qN _⟩|exact⟨e1,by show w.drawn<=w'.drawn;simp only at p;omega⟩
  rw[t.1]at this;exact⟨this.1,qO t.2 this.2⟩
 | program k d=>exactλw es b bj f h=>d _ _ _ _ _ _ h
 | mark m k d=>exactλw es b bj f h=>d _ _ _ _ _ h
 | halt h=>intro w es b bj f h;cases h
variable{W W1 bj W2:H}{r r' N:Nat}{ok:Ok}{Z:Ren}{γ δ:Type}
section
def Kw.refl(W w:H):Kw Z N W w W w:=⟨qN _,rfl,qN _,rfl,rfl,rfl,rfl,rfl,λ_ _ _=>rfl⟩
def Kw.tn{W w W1 bj W2 dv:H}(h:Kw Z N W w W1 bj)(k:Kw Z N W1 bj W2 dv):Kw Z N W w W2 dv:=
 ⟨qO h.size k.size,by have:=h.size';have:=k.size';have:=h.size;have:=k.size;omega,qO h.drawn k.drawn,
  by have:=h.drawn';have:=k.drawn';have:=h.drawn;have:=k.drawn;omega,k.tape.tn h.tape,k.tape'.tn h.tape',k.os.tn h.os,k.output.tn h.output,
  λa c b=>(k.eff a (by have:=h.size';have:=h.size;omega) b).tn (h.eff a c b)⟩
variable{R:α->β->Prop}{R':γ->δ->Prop}
def mO.mono{R2:α->β->Prop}{s:Sem α}{s':Sem β}(h:mO P ok Z N R s s')(g:∀a b,R a b->R2 a b):mO P ok Z N R2 s s':=
 λW w es c a W1 d f e i j=>let⟨b,bj,evs,h1,h2,h3⟩:=h W w es c a W1 d f e i j;⟨b,bj,evs,h1,g _ _ h2,h3⟩
def bM{a:α}{b:β}(h:R a b):mO P ok Z N R (Sem.pure a) (Sem.pure b):=by
 intro W w es e a' W1 f g c d _;cases d;exact⟨b,w, #[],by rw[Array.append_empty];rfl,h,c,.refl _ _,by simp⟩
def aj{a:α}{b:β}(h:R a b):mO P ok Z N R (pure a:Sem α) (pure b):=bM h
def xk{h:Halt}{s':Sem β}:mO P ok Z N R (Sem.halt h) s':=by
 intro W w es b a' W1 c e d a _;cases a
def Told.left(h:Told Z W w W2)(b:(W1:Nat)<=W2)(a:W1.drawn<=W2.drawn):Told Z W w W1:=
 ⟨λk hk=>h.1 k zz,h.2.le zz⟩
def Told.right(h:Told Z W w W2)(f:Kw Z N W w W1 bj)(c:W1.drawn<=W2.drawn):Told Z W1 bj W2:=by
 have d:=f.size;have e:=f.size';have a:=f.drawn;have b:=f.drawn';refine⟨λk hk=>?_,?_⟩
 .have:=h.1 (W1.heap.size-W.heap.size+k) zz;rw[show W.heap.size+(W1.heap.size-W.heap.size+k)=W1.heap.size+k by omega,show w.heap.size+(W1.heap.size-W.heap.size+k)=bj.heap.size+k by omega]at this;exact this
 .rw[f.tape,f.tape',show W1.drawn=W.drawn+(W1.drawn-W.drawn) by omega,show bj.drawn=w.drawn+(W1.drawn-W.drawn) by omega];refine zB.tail (h.2.le ?_);omega
def ni{s:Sem α}{s':Sem β}{f:α->Sem γ}{f':β->Sem δ}(J:mO P ok Z N R s s')(G:∀a b,R a b->mO P ok Z N R' (f a) (f' b)):
  mO P ok Z N R' (s.bind f) (s'.bind f'):=by
 intro W w es l c W1 q n E g p;rw[Sem.runT_bind']at g
 cases o:s.runT P W es with
 | mk r em=>
  rw[o]at g
  cases r with
  | halt h j=>cases g
  | ok a j=>
   simp only at g;have m2:=Ky _ _ _ _ _ _ g;obtain⟨b,K,m,A,h2,B,k,C⟩:=J W w es l a j em n E o (p.left m2.1 m2.2);obtain⟨d,bj,t,u,v,x,y,z⟩:=G a b h2 j K em (l++m) c W1 q (qO n k.size) B g (p.right k m2.2);refine⟨d,bj,m++t,?_,v,x,k.tn y,λe i=>?_⟩
   .rw[Sem.runT_bind',A];simp only[u,Array.append_assoc]
   .rcases q9A.1 i with i|i
    .exact C e i
    .exact z e i
def af{s:Sem α}{s':Sem β}{f:α->Sem γ}{f':β->Sem δ}(d:mO P ok Z N R s s')(c:∀a b,R a b->mO P ok Z N R' (f a) (f' b)):
  mO P ok Z N R' (s>>=f) (s'>>=f'):=ni d c
def RV{f:α->γ}{f':β->δ}{s:Sem α}{s':Sem β}(d:mO P ok Z N R s s')(c:∀a b,R a b->R' (f a) (f' b)):
  mO P ok Z N R' (Functor.map f s) (Functor.map f' s'):=ni d λa b h=>bM (c a b h)
def HR.cell(h:HR ok Z N W w)(r:AR Z a a')(b:W.cell? a=Y v):∃v',w.cell? a'=Y v'/\VR Z v v':=by
 obtain⟨g,h2,s,i,j,k⟩:=r;unfold H.cell? at b|-
 cases c:W.heap[a.block]? with
 | none=>simp[c]at b
 | some o=>
  obtain⟨p,s',o',d,e,f,-⟩:=h.plain c k;rw[i]at d;cases d;rw[c]at b
  cases f with
  | cells l q=>
   simp only[g,Option.isSome_none,lO,if_false]at b;obtain⟨v',m,n⟩:=l _ _ b;exact⟨v',by simp only[e,h2,Option.isSome_none,lO,if_false,j];exact m,n⟩
  | _=>cases b
def HR.Wk(h:HR ok Z N W w)(r:AR Z a a')(n:W.cell? a=I)(b:Bool):∃e,W.farLoad P a b=.error e:=by
 obtain⟨k,h2,s,l,m,d⟩:=r;unfold H.farLoad
 cases f:W.heap[a.block]? with
 | none=>exact⟨_,rfl⟩
 | some o=>
  obtain⟨g,s',o',i,j,c,-⟩:=h.plain f d;cases c<;>exact⟨_,rfl⟩
def HR.CC(h:HR ok Z N W w)(r:AR Z a a')(v:M)(b:Bool):∃e,W.farStore P a v b=.error e:=by
 obtain⟨k,h2,s,l,m,d⟩:=r;unfold H.farStore
 cases f:W.heap[a.block]? with
 | none=>exact⟨_,rfl⟩
 | some o=>
  obtain⟨g,s',o',i,j,c,-⟩:=h.plain f d;cases c<;>exact⟨_,rfl⟩
def CF(r:AR Z a a'):mO P ok Z N (VR Z) (load a) (load a'):=by
 intro W w es j v W1 k l d b m;simp only[load,Sem.runT]at b;split at b
 .rename_i x f;cases b;obtain⟨v',g,h2⟩:=d.cell r f;refine⟨v',w, #[⟨.cell a',false,false⟩],?_,h2,d,.refl _ _,λe c=>?_⟩
  .simp only[load,Sem.runT,g];rfl
  .simp only[hZ,q8A]at c;subst c;obtain⟨_,h,s,i,_⟩:=r;exact⟨rfl,h,_,s,i,λx=>by cases x⟩
 .rename_i f;obtain⟨e,c⟩:=d.Wk r f (Mode.plain==.atomic);rw[c]at b;cases b
def HR.own(h:HR ok Z N W w)(b:W.cell? a=Y v)(d:W.frozen? a=false):N<=a.block:=by
 refine q6A λi=>?_;unfold H.cell? at b;unfold H.frozen? at d
 cases f:W.heap[a.block]? with
 | none=>simp[f]at b
 | some o=>
  obtain⟨j,s',o',l,m,n,g⟩:=h _ _ f;rw[f]at b d;rcases g i with⟨c,e,hi,rfl,p⟩|⟨-, es,k,rfl⟩
  .simp only at b d;split at b
   .cases b
   .have:=(ec.1 b).1;simp only[Bool.and_eq_false_iff,decide_eq_false_iff_not]at d;omega
  .cases b
def heap_setCell(w:H)(a:Addr)(v:M)(b:Nat):(w.setCell a v).heap[b]?=
  if a.block=b then(w.heap[b]?).map λo=>match o with|.cells c e z=>.cells (if a.spot.isSome then c else c.setIfInBounds a.off v) e z|o=>o else w.heap[b]?:=by
 unfold H.setCell;simp only[nc];rfl
def HR.set(h:HR ok Z N W w)(L:Sep Z N)(r:AR Z a a')(Q:VR Z v v')(J:N<=a.block):HR ok Z N (W.setCell a v) (w.setCell a' v'):=by
 obtain⟨G,h2,s,l,T,C⟩:=r;obtain⟨rfl,O⟩:=L _ _ _ J l;intro b o f;rw[heap_setCell]at f;by_cases g:a.block=b
 .rw[qWB g]at f
  cases t:W.heap[b]? with
  | none=>rw[t]at f;cases f
  | some V=>
   rw[t]at f;obtain⟨A,s',o',m,k,q,B⟩:=h.plain t (g▸C);have p:∀{s:Nat} {x y:Obj},OR ok Z s x y->OC ok Z (Z.cls b) s x y:=λh=>by rw[<- g,C];exact .plain h
   rw[<- g,l]at m;cases m;have n:b<N->False:=λd=>zz;simp only[ky,fg]at f
   cases q with
   | @cells _ c c' e z S E K=>
    simp only[G,Option.isSome_none,lO,if_false]at f;subst f;refine⟨a'.block,0,.cells (c'.setIfInBounds a'.off v') e S,by rw[<- g];exact l,?_,p (.cells ?_ ?_),λd=>(n d).elim⟩
    .rw[heap_setCell,qWB rfl,k];simp[h2]
    .intro i x j;rw[fc]at j;by_cases hi:a.off=i
     .rw[qWB hi]at j;by_cases d:a.off<c.size
      .rw[qWB d]at j;cases j;obtain⟨y,u,-⟩:=E a.off _ (fi d);have U:=(ec.1 u).1;exact⟨v',by rw[fc,qWB zz,qWB zz],Q⟩
      .rw[qVB d]at j;cases j
     .rw[qVB hi]at j;obtain⟨y,u,R⟩:=E i x j;exact⟨y,by rw[fc,qVB zz];exact u,R⟩
    .intro i hi;exact K i (by simpa using hi)
   | map P hm=>subst f;exact⟨a'.block,0,_,by rw[<- g];exact l,by rw[heap_setCell,qWB rfl,k];rfl,p (.map P hm),λd=>(n d).elim⟩
   | loop hl=>subst f;exact⟨a'.block,0,_,by rw[<- g];exact l,by rw[heap_setCell,qWB rfl,k];rfl,p (.loop hl),λd=>(n d).elim⟩
   | none=>subst f;exact⟨a'.block,0,_,by rw[<- g];exact l,by rw[heap_setCell,qWB rfl,k];rfl,p (.none),λd=>(n d).elim⟩
   | nil=>subst f;exact⟨a'.block,0,_,by rw[<- g];exact l,by rw[heap_setCell,qWB rfl,k];rfl,p (.nil),λd=>(n d).elim⟩
 .rw[qVB g]at f;obtain⟨A,s',o',m,k,q,B⟩:=h b o f;refine⟨A,s',o',m,?_,q,B⟩;rw[heap_setCell,qVB]
  .exact k
  .intro e;subst e;exact g (O _ _ m).symm
def Kz(t:Sep Z N)(r:AR Z a a')(p:VR Z v v'):mO P ok Z N (λ_ _=>True) (store a v) (store a' v'):=by
 intro W w es a1 u W1 a2 a3 i b a7
 have main:∀(v:M) (f:∀cs,v≠.agg cs) (g:∀cs,v≠.tuple cs) (a:Addr) (W:H) (es:Array Event),(store a v).runT P W es=match W.cell? a with
   | some _=>if W.frozen? a then(.halt (.unsupported (.unsafePointer "a write to bytes that a string shares")) W,es)else(.ok () (W.setCell a v),es.push ⟨.cell a,true,false⟩)
   | none=>match W.farStore P a v false with
    | .ok (W,U)=>(.ok () W,es++U.toArray.map (⟨.cell ·, true,false⟩))
    | .error h=>(.halt h W,es):=by
  intro v f g a W es;cases v<;>first|rfl|exact mi rfl (f _)|exact mi rfl (g _)
 by_cases f:∃cs,v=.agg cs
 .obtain⟨cs,rfl⟩:=f;cases b
 by_cases g:∃cs,v=.tuple cs
 .obtain⟨cs,rfl⟩:=g;cases b
 rw[main v (λcs e=>f ⟨cs,e⟩) (λcs e=>g ⟨cs,e⟩)]at b;have O:∀cs,v'≠.agg cs:=λcs e=>by subst e;cases p;exact f ⟨_,rfl⟩
 have Q:∀cs,v'≠.tuple cs:=λcs e=>by subst e;cases p;exact g ⟨_,rfl⟩
 split at b
 .rename_i x d;split at b
  .cases b
  .rename_i j;rw[qLB]at j;cases b;have m:=i.own d j;obtain⟨y,R,a8⟩:=i.cell r d;have T:=r;obtain⟨E,h2,s,k,h4,G⟩:=r;obtain⟨rfl,a6⟩:=t _ _ _ m k;have S:w.frozen? a'=false:=by
    unfold H.frozen? at j|-;unfold H.cell? at d
    cases n:W.heap[a.block]? with
    | none=>simp[n]at d
    | some o=>
     obtain⟨A,s',o',q,B,C,-⟩:=i.plain n G;rw[k]at q;cases q;rw[n]at j d;rw[B]
     cases C with
     | @cells _ c c' e z V a5 J=>
      simp only[E,Option.isSome_none,lO,if_false]at d;have K:=(ec.1 d).1;obtain⟨z1,z2⟩:=z;obtain⟨a9,a0⟩:=V;simp only[Bool.and_eq_false_iff,decide_eq_false_iff_not]at j|-;have:=J a.off K;simp only at this;omega
     | _=>rfl
   refine⟨(),w.setCell a' v', #[⟨.cell a',true,false⟩],?_,qYB,i.set t T p m,⟨?_,?_,qN _,rfl,rfl,rfl,rfl,rfl,?_⟩,λe l=>?_⟩
   .rw[main v' O Q,R];simp only[S];rfl
   .simp[H.setCell]
   .simp[H.setCell];try omega
   .intro A a4 L;rw[heap_setCell,qVB];intro e;subst e;exact L _ _ m k
   .simp only[hZ,q8A]at l;subst l;exact⟨rfl,h2,_,_,k,λ_=>m⟩
 .obtain⟨e,l⟩:=i.CC r v false;rw[l]at b;cases b
def HR.push(h:HR ok Z N W w)(k:OC ok Z (Z.cls W) 0 o o')(l:Z W.heap.size=Y (w.heap.size,0))(m:N<=W.heap.size):
  HR ok Z N {W with heap:=W.heap.push o} {w with heap:=w.heap.push o' }:=by
 intro b x a;simp only[qPB]at a;by_cases c:b=W.heap.size
 .rw[qWB c]at a;cases a;subst c;exact⟨w.heap.size,0,o',l,by simp,k,λj=>zz⟩
 .rw[qVB c]at a;obtain⟨e,s',y,f,d,g,i⟩:=h b x a;have j:=(ec.1 d).1;exact⟨e,s',y,f,by simp only[qPB];rw[qVB zz];exact d,g,i⟩
def wI(b:OR ok Z 0 o o'):mO P ok Z N (λn n'=>Z n=Y (n',0)/\Z.cls n=false) (newObj o) (newObj o'):=by
 intro W w es i n W1 j d c e f;cases e;have a:=f.1 0 ss;simp only[Nat.add_zero]at a;have g:=a.1;replace b:OC ok Z (Z.cls W.heap.size) 0 o o':=by rw[a.2];exact .plain b
 refine⟨w.heap.size, {w with heap:=w.heap.push o' }, #[],by rw[Array.append_empty];rfl,a,c.push b g d,⟨by simp,by simp;omega,qN _,rfl,rfl,rfl,rfl,rfl,?_⟩,by simp⟩;intro h k _;simp only[qPB];rw[qVB zz]
def sH(q:Question):mO P ok Z N (λa b:Nat=>a=b) (choose q) (choose q):=by
 intro W w es h n W1 i j e c g;simp only[choose,Sem.runT]at c;split at c
 .rename_i d;cases c;exact⟨0,w, #[],by simp only[choose,Sem.runT,d,if_true,Array.append_empty],rfl,e,.refl _ _,by simp⟩
 .rename_i d;cases c;have f:=g.2.head ss q;refine⟨q.cut (W.tape W.drawn q), {w with drawn:=w.drawn+1}, #[],?_,rfl,e,⟨qN _,rfl,by simp,by simp;omega,rfl,rfl,rfl,rfl,λ_ _ _=>rfl⟩,by simp⟩;simp only[choose,Sem.runT,d,f,Array.append_empty];rfl
def jS:mO P ok Z N (λp q=>p=P/\q=P) program program:=by
 intro W w es c n W1 d e a b f;cases b;exact⟨P,w, #[],by rw[Array.append_empty];rfl,⟨rfl,rfl⟩,a,.refl _ _,by simp⟩
def xm:mO P ok Z N (λ_ _=>True) (mark .noRoom) (mark .noRoom):=by
 intro W w es d n W1 f g b c h;cases c;refine⟨(),w, #[⟨.mark .noRoom,false,true⟩],rfl,qYB,b,.refl _ _,λe a=>?_⟩;simp only[hZ,q8A]at a;subst a;exact rfl
def OC.own{c:Bool}{s:Nat}(h:OC ok Z c s o o')(a:∀c e z,o≠.cells c e z):c=false/\OR ok Z s o o':=by
 cases h with
 | plain h=>exact⟨rfl,h⟩
 | clo h=>exact mi rfl (a _ _ _)
def gP(l:Z r=Y (r',0)):mO P ok Z N (λo o'=>OR ok Z 0 o o'/\(∀c e z,o≠.cells c e z)/\(N<=r\/(Z.tab.rdm=true/\∃es k,o=.map es k))) (getObj r) (getObj r'):=by
 intro W w es g o W1 y A j d B;simp only[getObj,Sem.runT]at d;split at d
 .cases d
 .rename_i x f u;cases d;obtain⟨v,s',o',i,m,b,n⟩:=j _ _ u;obtain⟨-, b⟩:=b.own λc e z a=>f _ _ _ a;rw[l]at i;cases i;have s:N<=r\/(Z.tab.rdm=true/\∃es k,o=.map es k):=by
   by_cases q:r<N
   .rcases n q with⟨c,e,hi,rfl,-⟩|h
    .exact mi rfl (f _ _ _)
    .exact .inr h
   .exact .inl zz
  have t:(getObj r').runT P w g=(.ok o' w,g++#[⟨.obj r',false,o'.isChan⟩]):=by
   simp only[getObj,Sem.runT,m];cases b<;>first|rfl|exact mi rfl (f _ _ _)
  have p:o'.isChan=false:=by cases b<;>rfl
  refine⟨o',w,_,t,⟨b,λc e z a=>f _ _ _ a,s⟩,j,.refl _ _,λe a=>?_⟩;simp only[hZ,q8A]at a;subst a;exact⟨p,r,l,λh=>by cases h⟩
 .cases d
def jG(G:Sep Z N)(d:Z r=Y (r',0))(k:N<=r)(t:OR ok Z 0 o o')(U:∀c e z,o≠.cells c e z):mO P ok Z N (λ_ _=>True) (setObj r o) (setObj r' o'):=by
 intro W w es l u W1 R T p f V;simp only[setObj,Sem.runT]at f;split at f
 .cases f
 .rename_i x s K;cases f;obtain⟨i,s',x',m,n,j,S⟩:=p _ _ K;obtain⟨B,j⟩:=j.own λc e z h=>s _ _ _ h;rw[d]at m;cases m;obtain⟨-, J⟩:=G _ _ _ k d;have A:o'.isChan=false:=by cases t<;>rfl
  have E:(setObj r' o').runT P w l=(.ok () {w with heap:=w.heap.setIfInBounds r' o' },l++#[⟨.obj r',true,o'.isChan⟩]):=by
   simp only[setObj,Sem.runT,n];cases j<;>first|rfl|exact mi rfl (s _ _ _)
  refine⟨(),_,_,E,qYB,?_,⟨by simp,by simp only[mn],qN _,rfl,rfl,rfl,rfl,rfl,?_⟩,λe h=>?_⟩
  .intro b y a;simp only[fc]at a;by_cases g:r=b
   .subst g;rw[qWB rfl]at a;split at a
    .cases a;have q:=(ec.1 n).1;exact⟨r',0,o',d,by simp[q],by rw[B];exact .plain t,λq=>zz⟩
    .cases a
   .rw[qVB g]at a;obtain⟨i,s',y',v,L,O,Q⟩:=p b y a;refine⟨i,s',y',v,?_,O,Q⟩;simp only[fc];rw[qVB]
    .exact L
    .intro e;subst e;exact g (J _ _ v).symm
  .intro i g C;simp only[fc];rw[qVB];intro e;subst e;exact C _ _ k d
  .simp only[hZ,q8A]at h;subst h;exact⟨A,r,d,λ_=>k⟩
 .cases f
end
variable{t:Lk}{x':M}
def Calm{α:Type}(P:Ps)(Q:α->Prop):Sem α->Prop
 | .pure a=>Q a
 | .choose _ k=>∀n,Calm P Q (k n)
 | .program k=>Calm P Q (k P)
 | .mark m k=>m=.noRoom/\Calm P Q k
 | .halt _=>True
 | _=>False
def sI{Q:α->Prop}{Q':β->Prop}{s:Sem α}{f:α->Sem β}(b:Calm P Q s)(e:∀a,Q a->Calm P Q' (f a)):Calm P Q' (s.bind f):=by
 induction s with
 | pure a=>exact e a b
 | choose q k d=>exactλn=>d n (b n)
 | program k d=>exact d P b
 | mark m k d=>exact⟨b.1,d b.2⟩
 | halt h=>trivial
 | load m a k d=>exact b.elim
 | store m a v k d=>exact b.elim
 | new o k d=>exact b.elim
 | shape r k d=>exact b.elim
 | freeze a n k d=>exact b.elim
 | frozen a k d=>exact b.elim
 | getObj r k d=>exact b.elim
 | setObj r o k d=>exact b.elim
 | sys c k d=>exact b.elim
def bO{Q:α->Prop}{Q':β->Prop}{s:Sem α}{f:α->Sem β}(c:Calm P Q s)(b:∀a,Q a->Calm P Q' (f a)):Calm P Q' (s>>=f):=sI c b
def xo{Q:α->Prop}{c:Prop}[Decidable c]{a b:Sem α}(d:c->Calm P Q a)(e:¬c->Calm P Q b):Calm P Q (if c then a else b):=by
 by_cases h:c
 .rw[qWB h];exact d h
 .rw[qVB h];exact e h
def Ae{Q:α->Prop}{a:α}(h:Q a):Calm P Q (pure a:Sem α):=h
def CG(q:Question):Calm P (λ_=>True) (choose q):=λ_=>trivial
def tB:Calm P (λp=>p=P) program:=rfl
def gv(t:Lk):Calm P (λd=>P.underlying t=Y d) (underlying t):=by
 unfold underlying;refine bO tB λp a=>?_;subst a;split
 .rename_i d h;exact h
 .exact qYB
def eF(t:Lk):Calm P (λi=>P.info? t=Y i) (typeInfo t):=by
 unfold typeInfo;refine bO tB λp a=>?_;subst a;split
 .rename_i d h;exact h
 .exact qYB
def j6(t:Lk):Calm P (λn=>∃i,P.info? t=Y i/\n=i.size) (sizeOf t):=bO (eF t) λi hi=>⟨i,hi,rfl⟩
def FA(t:Lk):Calm P (λ_=>True) (isAgg t):=by
 unfold isAgg;refine bO (gv t) λd _=>?_;split<;>exact qYB
def xp(t:Lk):Calm P (λv=>∃i,P.info? t=Y i/\i.zero=Y v) (zeroValue t):=by
 unfold zeroValue;refine bO (eF t) λi hi=>?_;split
 .rename_i v h;exact⟨i,hi,h⟩
 .exact qYB
def iP{Q:α->Prop}(m:String):Calm P Q (runtimePanic (.error m)):=qYB
def iF{Q:α->Prop}:Calm P Q (runtimePanic .nilDeref:Sem α):=qYB
def iX{Q:α->Prop}(k:IntKind)(x y:Int)(c:BoundsCode):Calm P Q (boundsPanic k x y c:Sem α):=by
 unfold boundsPanic;dsimp only;split
 .refine bO (Q:=λ_=>True) (sI (CG _) λ_ _=>trivial) λb _=>?_;exact qYB
 .exact qYB
def cJ{Q:α->Prop}{s:Sem α}(h:Calm P Q s):mO P ok Z N (λa b=>a=b/\Q a) s s:=by
 induction s with
 | pure a=>exact bM ⟨rfl,h⟩
 | choose q k d=>exact ni (sH q) λa b e=>by subst e;exact d a (h a)
 | program k d=>exact ni jS λa b e=>by obtain⟨rfl,rfl⟩:=e;exact d _ h
 | mark m k d=>
  obtain⟨rfl,h⟩:=h;exact ni xm λ_ _ _=>d h
 | halt h=>exact xk
 | load m a k d=>exact h.elim
 | store m a v k d=>exact h.elim
 | new o k d=>exact h.elim
 | shape r k d=>exact h.elim
 | freeze a n k d=>exact h.elim
 | frozen a k d=>exact h.elim
 | getObj r k d=>exact h.elim
 | setObj r o k d=>exact h.elim
 | sys c k d=>exact h.elim
def aO(t:Lk):mO P ok Z N (λa b=>a=b/\P.underlying t=Y a) (underlying t) (underlying t):=cJ (gv t)
def cY(t:Lk):mO P ok Z N (λa b=>a=b/\∃i,P.info? t=Y i/\a=i.size) (sizeOf t) (sizeOf t):=cJ (j6 t)
def Af(t:Lk):mO P ok Z N (λa b:Bool=>a=b) (isAgg t) (isAgg t):=(cJ (FA t)).mono λ_ _ h=>h.1
def cQ{R:α->β->Prop}{s:Sem α}{s':Sem β}(h:Calm P (λ_=>False) s):mO P ok Z N R s s':=by
 intro W w es d a c e g f i j;obtain⟨b,bj,k,_,h2,_⟩:=cJ h W w es d a c e g f i j;exact h2.2.elim
def aA{R:α->β->Prop}{why:String}{s':Sem β}:mO P ok Z N R (stuck why) s':=xk
def cF{R:α->β->Prop}{u:Unsupported}{s':Sem β}:mO P ok Z N R (unsupported u) s':=xk
def mB(r:VR Z v v'):mO P ok Z N (λa b=>a=b/\v=.int a.1 a.2/\v'=.int a.1 a.2) (asIntOf v) (asIntOf v'):=by
 cases r with
 | int k n=>exact bM ⟨rfl,rfl,rfl⟩
 | _=>exact aA
def KA(r:VR Z v v'):mO P ok Z N (λa b=>a=b) (asInt v) (asInt v'):=af (mB r) λa b h=>by obtain⟨rfl,_⟩:=h;exact bM rfl
def sJ(r:VR Z v v'):mO P ok Z N (λa b=>a=b) (asBool v) (asBool v'):=by
 cases r with
 | bool b=>exact bM rfl
 | _=>exact aA
def FB(r:SR Z v v'):mO P ok Z N (AR Z) (asAddr v) (asAddr v'):=by
 cases r with
 | ptr h=>exact bM h
 | nilPtr=>exact cQ iF
 | _=>exact aA
def kM(r:SR Z v v'):mO P ok Z N (AR Z) (Instr.sureAddr v) (Instr.sureAddr v'):=by
 cases r with
 | ptr h=>exact bM h
 | _=>exact aA
def ld(t:Lk)(r:pM Z xs ys)(off:Nat):mO P ok Z N (VR Z) (part t xs off) (part t ys off):=by
 unfold part;refine af (Af t) λa b e=>?_;subst e;split
 .refine af (cY t) λn m h=>?_;obtain⟨rfl,_⟩:=h;exact bM (.IJ (r.extract _ _))
 .cases c:xs[off]? with
  | none=>exact aA
  | some x=>
   obtain⟨y,d,f⟩:=r.get c;rw[d];exact bM f
def mC(r:AR Z a a'):∀(n i:Nat) {xs ys:Array M},pM Z xs ys->mO P ok Z N (pM Z) (loadCellsFrom a i n xs) (loadCellsFrom a' i n ys)
 | 0,i,xs,ys,h=>bM h
 | n+1,i,xs,ys,h=>af (CF (r.add i)) λ_ _ b=>mC r n (i+1) (h.push b)
def rV(r:AR Z a a')(n:Nat):mO P ok Z N (pM Z) (loadCells a n) (loadCells a' n):=mC r n 0 .nil
def vt(t:Lk)(r:AR Z a a'):mO P ok Z N (VR Z) (loadVar t a) (loadVar t a'):=by
 unfold loadVar;refine af (Af t) λx y e=>?_;subst e;split
 .refine af (cY t) λn m h=>?_;obtain⟨rfl,_⟩:=h;exact af (rV r _) λ_ _ h=>bM (.IJ h)
 .exact CF r
def pS(c:Sep Z N)(r:AR Z a a'):∀(vs b:List M) (i:Nat),vs.length=b.length->(∀(j:Nat) (x y:M),vs[j]?=Y x->b[j]?=Y y->VR Z x y)->
  mO P ok Z N (λ_ _=>True) (storeCells a vs i) (storeCells a' b i)
 | [],[],i,_,_=>bM qYB
 | v::vs,v'::b,i,hl,h=>by
  refine af (Kz c (r.add i) (h 0 v v' rfl rfl)) λ_ _ _=>?_;exact pS c r vs b (i+1) (by simpa using hl) λj x y d e=>h (j+1) x y (by simpa using d) (by simpa using e)
def j7(b:Sep Z N)(r:AR Z a a')(h:pM Z xs ys):mO P ok Z N (λ_ _=>True) (storeCells a xs.toList) (storeCells a' ys.toList):=
 pS b r _ _ 0 (by simpa using h.1) λj x y c d=>h.2 j x y (by simpa using c) (by simpa using d)
def Ba(d:Sep Z N)(t:Lk)(r:AR Z a a')(e:VR Z v v'):mO P ok Z N (λ_ _=>True) (storeVar t a v) (storeVar t a' v'):=by
 unfold storeVar;refine af (cY t) λn m h=>?_;obtain⟨rfl,_⟩:=h;have c:=eH.cellsOf e;by_cases b:v.cells.size≠n
 .rw[qWB b];exact cQ (bO (Q:=λ_=>False) qYB λ_ h=>h.elim)
 .rw[qVB b,qVB (by rw[<- c.1];exact b)];exact j7 d r c
def OR.row(h:pM Z xs ys)(e:Lk):OR ok Z 0 (.cells xs e) (.cells ys e):=
 .cells (λi x a=>by obtain⟨y,b,r⟩:=h.get a;exact⟨y,by simpa using b,r⟩) (λi _ _ h2=>by simp at h2)
def om(e:Lk)(h:pM Z xs ys):mO P ok Z N (AR Z) (newRow e xs) (newRow e ys):=
 af (wI (OR.row h e)) λn n' a=>bM ⟨rfl,rfl,0,a.1,rfl,a.2⟩
def xq(t:Lk)(a:VR Z v v'):mO P ok Z N (AR Z) (newVar t v) (newVar t v'):=om t (eH.cellsOf a)
def pU(P:Ps)(t:Lk):Prop:=∀i v,P.info? t=Y i->i.zero=Y v->∀Z:Ren,VR Z v v
def fu(d:pU P t):mO P ok Z N (VR Z) (zeroValue t) (zeroValue t):=
 (cJ (xp t)).mono λa b h=>by obtain⟨rfl,i,c,h2⟩:=h;exact d i _ c h2 Z
def sK(t:Lk)(r:SR Z v v'):mO P ok Z N (VR Z) (Instr.loadAt t v) (Instr.loadAt t v'):=af (kM r) λ_ _ h=>vt t h
def CH(a:Sep Z N)(t:Lk)(r:SR Z v v')(b:VR Z x x'):mO P ok Z N (λ_ _=>True) (Instr.storeAt t v x) (Instr.storeAt t v' x'):=
 af (kM r) λ_ _ h=>Ba a t h b
def IK(P:Ps)(s:Lk)(n:Nat):Prop:=∀a f i,P.underlying s=Y (.struct a)->a[n]?=Y f->P.info? f.type=Y i->i.size≠0
def CI{s:Lk}{n:Nat}(g:IK P s n)(r:SR Z v v'):mO P ok Z N (SR Z) (Instr.fieldAt s v n) (Instr.fieldAt s v' n):=by
 unfold Instr.fieldAt;refine af (aO s) λd d' h=>?_;obtain⟨rfl,e⟩:=h;split
 .rename_i b;split
  .rename_i f j;refine af (kM r) λa a' k=>?_;refine af ?_ λx y h=>bM (.ptr h);unfold fieldPlace;refine af (cY f.type) λn m h=>?_;obtain⟨rfl,i,c,rfl⟩:=h;rw[qVB (g b f i e j c),qVB (g b f i e j c)];exact bM (k.add _)
  .exact aA
 .exact aA
def CJ(t:Lk)(r:SR Z v v')(g:VR Z x x'):mO P ok Z N (SR Z) (Instr.indexAt t v x) (Instr.indexAt t v' x'):=by
 unfold Instr.indexAt;refine af (mB g) λp q h=>?_;obtain⟨rfl,_,_⟩:=h;obtain⟨k,i⟩:=p;refine af (aO t) λd d' h=>?_;obtain⟨rfl,j⟩:=h;dsimp only
 cases d with
 | array n e=>
  refine af (kM r) λa a' b=>?_;refine af (R:=λp q=>p=(Y a,n,e)/\q=(Y a',n,e)) (aj ⟨rfl,rfl⟩) λp q h=>?_;obtain⟨rfl,rfl⟩:=h;refine af (aO t) λd d' f=>?_;obtain⟨rfl,_⟩:=f;dsimp only;split
  .refine af (cY _) λn m h=>?_;obtain⟨rfl,_⟩:=h;exact bM (.ptr (b.add _))
  .repeat' (first|exact cF|exact cQ (iX _ _ _ _)|split)
 | slice e=>
  cases r with
  | nilSlice l c=>
   refine cQ ?_;exact bO (Ae rfl) λp h=>by subst h;exact bO (gv t) λ_ _=>iX _ _ _ _
  | @slice _ a a' l c b=>
   refine af (R:=λp q=>p=(Y a,l,e)/\q=(Y a',l,e)) (aj ⟨rfl,rfl⟩) λp q h=>?_;obtain⟨rfl,rfl⟩:=h;refine af (aO t) λd d' f=>?_;obtain⟨rfl,_⟩:=f;dsimp only;split
   .refine af (cY _) λn m h=>?_;obtain⟨rfl,_⟩:=h;exact bM (.ptr (b.add _))
   .repeat' (first|exact cF|exact cQ (iX _ _ _ _)|split)
  | _=>exact cQ (bO (Q:=λ_=>False) qYB λ_ h=>h.elim)
 | _=>exact cQ (bO (Q:=λ_=>False) qYB λ_ h=>h.elim)
def KC(t:Lk)(r:VR Z v v')(b:VR Z x x'):mO P ok Z N (VR Z) (Instr.index t v x) (Instr.index t v' x'):=by
 unfold Instr.index;refine af (mB b) λp q h=>?_;obtain⟨rfl,_,_⟩:=h;obtain⟨k,i⟩:=p;refine af (aO t) λd d' h=>?_;obtain⟨rfl,c⟩:=h
 cases d with
 | array n e=>
  cases r with
  | agg s h=>
   dsimp only;split
   .refine af (cY _) λn m a=>?_;obtain⟨rfl,_⟩:=a;exact ld _ ⟨s,h⟩ _
   .exact cQ (iX _ _ _ _)
  | _=>exact aA
 | string=>
  cases r with
  | string s=>
   dsimp only;split
   .exact bM (.int _ _)
   .exact cQ (iX _ _ _ _)
  | _=>exact aA
 | _=>exact aA
def KD(c:pU P t):mO P ok Z N (SR Z) (Instr.alloc t true (.tuple #[])) (Instr.alloc t true (.tuple #[])):=by
 unfold Instr.alloc;exact af (fu c) λz d h=>af (xq t h) λa a' b=>bM (.ptr b)
def RX(t:Lk)(r:VR Z v v'):mO P ok Z N (SR Z) (Instr.box t v) (Instr.box t v'):=af (xq t r) λa a' b=>bM (.ptr b)
def CK(r:VR Z v v')(i:Nat):mO P ok Z N (VR Z) (Instr.extract v i) (Instr.extract v' i):=by
 unfold Instr.extract
 cases r with
 | @tuple _ xs ys s h=>
  dsimp only
  cases a:xs[i]? with
  | none=>exact aA
  | some x=>
   obtain⟨y,b,c⟩:=eH.get ⟨s,h⟩ a;rw[b];exact bM c
 | _=>exact aA
variable{β':Type}
def mQ{R:β->β'->Prop}{f:α->β->Sem (ForInStep β)}{f':α->β'->Sem (ForInStep β')}
  :
  ∀(l:List α) (_:∀a∈l,∀b c,R b c->mO P ok Z N (λx y=>(∃u v,x=.done u/\y=.done v/\R u v)\/∃u v,x=.yield u/\y=.yield v/\R u v) (f a b) (f' a c)) (b:β) (c:β'),R b c->mO P ok Z N R (forIn l b f) (forIn l c f')
 | [],_,b,c,h=>by simp only[List.forIn_nil];exact aj h
 | a::l,e,b,c,h=>by
  rw[List.forIn_cons,List.forIn_cons];refine af (e a ss b c h) λx y i=>?_;rcases i with⟨u,v,rfl,rfl,d⟩|⟨u,v,rfl,rfl,d⟩
  .exact aj d
  .exact mQ l (λa g=>e a (by simp[g])) u v d
def pV{R:β->β'->Prop}{f:α->β->Sem (ForInStep β)}{f':α->β'->Sem (ForInStep β')}(l:Array α){b:β}{b':β'}(h:R b b')
  (d:∀a∈l,∀b b',R b b'->mO P ok Z N (λx y=>(∃u v,x=.done u/\y=.done v/\R u v)\/∃u v,x=.yield u/\y=.yield v/\R u v) (f a b) (f' a b')):mO P ok Z N R (forIn l b f) (forIn l b' f'):=by
 rw[<- Array.forIn_toList,<- Array.forIn_toList];exact mQ _ (λa c=>d a (by simpa using c)) _ _ h
def pW{R:β->β'->Prop}{f:Nat->β->Sem (ForInStep β)}{f':Nat->β'->Sem (ForInStep β')}(l:Std.Legacy.Range){b:β}{b':β'}(h:R b b')
  (c:∀a b b',R b b'->mO P ok Z N (λx y=>(∃u v,x=.done u/\y=.done v/\R u v)\/∃u v,x=.yield u/\y=.yield v/\R u v) (f a b) (f' a b')):mO P ok Z N R (forIn l b f) (forIn l b' f'):=by
 rw[Std.Legacy.Range.forIn_eq_forIn_range',Std.Legacy.Range.forIn_eq_forIn_range'];exact mQ _ (λa _=>c a) _ _ h
def eqType(P:Ps):Nat->Lk->Bool
 | 0,_=>false
 | n+1,t=>match P.underlying t with
  | some .bool|some (.int _)|some .string|some (.slice _)|some (.map ..)|some (.func ..)=>true
  | some (.struct a)=>a.all λf=>eqType P n f.type
  | some (.array _ e)=>eqType P n e
  | _=>false
def Bb{t:Lk}{k:IntKind}(f:P.underlying t=Y (.int k)){x x' y y':M}(g:VR Z x x')(e:VR Z y y')(d:Nat):
  mO P ok Z N (λa b:Bool=>a=b) (Op.equalIn (d+1) t x y) (Op.equalIn (d+1) t x' y'):=by
 unfold Op.equalIn;refine af (aO t) λa b h=>?_;obtain⟨rfl,c⟩:=h;rw[f]at c;cases c
 cases g with
 | int k1 n1=>
  cases e with
  | int i j=>
   dsimp only;split
   .exact aj rfl
   .exact aA
  | _=>exact(by first|exact aA|exact cF)
 | _=>cases e<;>first|exact aA|exact cF
def vu(d:Nat):∀(n:Nat) {t:Lk} (_:eqType P n t=true) {x w y y':M} (_:VR Z x w) (_:VR Z y y'),mO P ok Z N (λa b:Bool=>a=b) (Op.equalIn d t x y) (Op.equalIn d t w y'):=by
 induction d with
 | zero=>intro n t o x w y y' r j;unfold Op.equalIn;exact cF
 | succ d E=>
  intro n t o x w y y' r j
  cases n with
  | zero=>cases o
  | succ n=>
  cases m:P.underlying t with
  | none=>simp only[eqType,m]at o;cases o
  | some desc=>
   cases desc with
   | int k=>exact Bb m r j d
   | bool=>
    unfold Op.equalIn;refine af (aO t) λa b h=>?_;obtain⟨rfl,g⟩:=h;rw[m]at g;cases g
    cases r with
    | bool a=>cases j with
     | bool b=>exact aj rfl
     | _=>exact aA
    | _=>cases j<;>exact aA
   | string=>
    unfold Op.equalIn;refine af (aO t) λa b h=>?_;obtain⟨rfl,g⟩:=h;rw[m]at g;cases g
    cases r with
    | string a=>cases j with
     | string b=>exact aj rfl
     | _=>exact aA
    | _=>cases j<;>exact aA
   | slice e=>
    unfold Op.equalIn;refine af (aO t) λa b h=>?_;obtain⟨rfl,g⟩:=h;rw[m]at g;cases g;cases r<;>cases j<;>first|exact aj rfl|exact aA
   | map k e=>
    unfold Op.equalIn;refine af (aO t) λa b h=>?_;obtain⟨rfl,g⟩:=h;rw[m]at g;cases g;cases r<;>cases j<;>first|exact aj rfl|exact aA
   | func a b c=>
    unfold Op.equalIn;refine af (aO t) λa b h=>?_;obtain⟨rfl,g⟩:=h;rw[m]at g;cases g;cases r<;>cases j<;>first|exact aj rfl|exact aA
   | struct J=>
    simp only[eqType,m,kj]at o;unfold Op.equalIn;refine af (aO t) λa b h=>?_;obtain⟨rfl,g⟩:=h;rw[m]at g;cases g
    cases r with
    | @agg _ xs S s h=>cases j with
     | @agg _ T U s2 h2=>
      dsimp only;refine af jS λp q L=>?_;obtain⟨rfl,rfl⟩:=L;split
      .exact cQ (bO (Q:=λ_=>False) qYB λ_ h=>h.elim)
      .refine af (R:=λu v=>u=v) (pV J rfl λf K b G e=>?_) λu v e=>?_
       .split
        .refine af (ld _ ⟨s,h⟩ _) λu O A=>af (ld _ ⟨s2,h2⟩ _) λv v' B=>af (E n (o f K) A B) λz V C=>?_;subst C;split
         .exact aj (.inl ⟨_,_,rfl,rfl,rfl⟩)
         .exact aj (.inr ⟨_,_,rfl,rfl,rfl⟩)
        .exact aj (.inr ⟨_,_,rfl,rfl,rfl⟩)
       .subst e;split<;>exact aj rfl
     | _=>exact aA
    | _=>cases j<;>exact aA
   | array l e=>
    simp only[eqType,m]at o;unfold Op.equalIn;refine af (aO t) λa b h=>?_;obtain⟨rfl,g⟩:=h;rw[m]at g;cases g
    cases r with
    | @agg _ xs S s h=>cases j with
     | @agg _ T U s2 h2=>
      dsimp only;refine af (cY e) λk k' hk=>?_;obtain⟨rfl,_⟩:=hk;refine af (R:=λu v=>u=v) (pW _ rfl λi b G e=>?_) λu v e=>?_
      .refine af (ld _ ⟨s,h⟩ _) λu O A=>af (ld _ ⟨s2,h2⟩ _) λv v' B=>af (E n o A B) λz V C=>?_;subst C;split
       .exact aj (.inl ⟨_,_,rfl,rfl,rfl⟩)
       .exact aj (.inr ⟨_,_,rfl,rfl,rfl⟩)
      .subst e;split<;>exact aj rfl
     | _=>exact aA
    | _=>cases j<;>exact aA
   | _=>simp only[eqType,m]at o;cases o
def TO(v:M):Prop:=∀Z:Ren,VR Z v v
def nj(k:IntKind)(n:Int):TO (.int k n):=λ_=>.int k n
def xu(b:Bool):TO (.bool b):=λ_=>.bool b
def Bc(b:ByteArray):TO (.string b):=λ_=>.string b
def rW(op:BinOp)(k:IntKind)(x y:Int):Calm P TO (Op.intArith op k x y):=by
 unfold Op.intArith;split<;>first|exact nj _ _|exact qYB
def CM(op:BinOp)(k:IntKind)(x y:Int):Calm P TO (Op.intDiv op k x y):=by
 unfold Op.intDiv;repeat' (first|exact nj _ _|exact qYB|split)
def tD(op:BinOp)(k:IntKind)(x y:Int):Calm P TO (Op.intBits op k x y):=by
 unfold Op.intBits;repeat' (first|exact nj _ _|exact qYB|split)
def CN(op:BinOp)(x y:Int):Calm P TO (Op.intCmp op x y):=by
 unfold Op.intCmp;split<;>first|exact xu _|exact qYB
def xw(op:BinOp)(k:IntKind)(x:Int)(a:IntKind)(y:Int):Calm P TO (Op.shift op k x a y):=by
 unfold Op.shift;repeat' (first|exact nj _ _|exact qYB|split)
def mR(op:BinOp)(x y:ByteArray):Calm P TO (Op.stringOp op x y):=by
 unfold Op.stringOp;repeat' (first|exact Bc _|exact xu _|exact qYB|split)
def zJ(k:IntKind)(n:Int):Calm P TO (Conv.intToInt k n):=by
 unfold Conv.intToInt;repeat' (first|exact nj _ _|exact qYB|split)
def CO(P:Ps)(op:BinOp)(t:Lk):Bool:=match op with
 | .eql|.neq=>eqType P 6 t && !P.eqGuardType P.depth t
 | _=>true
def pX(op:BinOp)(t:Lk)(k k':IntKind)(a b:Int):Calm P TO (binOp op t (.int k a) (.int k' b)):=by
 have h:(op=.shl\/op=.shr)\/(op≠.shl/\op≠.shr):=by cases op<;>simp
 rcases h with(rfl|rfl)|⟨h1,h2⟩
 .unfold binOp;exact xw _ _ _ _ _
 .unfold binOp;exact xw _ _ _ _ _
 .unfold binOp;cases op<;>first|exact mi rfl h1|exact mi rfl h2|(dsimp only;refine xo (λ_=>trivial) λ_=>?_;first|exact rW _ _ _ _|exact CM _ _ _ _|exact tD _ _ _ _|exact CN _ _ _)
def TP(op:BinOp)(t:Lk)(a b:ByteArray):Calm P TO (binOp op t (.string a) (.string b)):=by
 unfold binOp;cases op<;>exact mR _ _ _
def KE{op:BinOp}{t:Lk}(i:CO P op t=true){x x' y y':M}(f:VR Z x x')(d:VR Z y y'):mO P ok Z N (VR Z) (binOp op t x y) (binOp op t x' y'):=by
 by_cases c:op=.eql\/op=.neq
 .have j:eqType P 6 t=true:=by
   rcases c with rfl|rfl<;>(simp only[CO,du]at i;exact i.1)
  have g:=vu (P:=P) (ok:=ok) (N:=N) Op.maxDepth 6 j f d;rcases c with rfl|rfl
  .cases f<;>cases d<;>first
    | (unfold binOp;exact af g λa b e=>by subst e;exact bM (.bool _))
    | exact(cJ (pX _ _ _ _ _ _)).mono λa b h=>by obtain⟨rfl,h⟩:=h;exact h Z
    | exact(cJ (TP _ _ _ _)).mono λa b h=>by obtain⟨rfl,h⟩:=h;exact h Z
  .cases f<;>cases d<;>first
    | (unfold binOp;exact af g λa b e=>by subst e;exact bM (.bool _))
    | exact(cJ (pX _ _ _ _ _ _)).mono λa b h=>by obtain⟨rfl,h⟩:=h;exact h Z
    | exact(cJ (TP _ _ _ _)).mono λa b h=>by obtain⟨rfl,h⟩:=h;exact h Z
 .simp only[not_or]at c
  cases f with
  | int k n=>cases d with
   | int k' n'=>exact(cJ (pX _ _ _ _ _ _)).mono λa b h=>by obtain⟨rfl,h⟩:=h;exact h Z
   | _=>cases op<;>first|exact mi rfl c.1|exact mi rfl c.2|(unfold binOp;first|exact aA|exact cF)
  | string s=>cases d with
   | string s'=>exact(cJ (TP _ _ _ _)).mono λa b h=>by obtain⟨rfl,h⟩:=h;exact h Z
   | _=>cases op<;>first|exact mi rfl c.1|exact mi rfl c.2|(unfold binOp;first|exact aA|exact cF)
  | _=>cases d<;>cases op<;>first|exact mi rfl c.1|exact mi rfl c.2|(unfold binOp;first|exact aA|exact cF)
variable{l':List (Nat×M)}{ps ps':Array (Nat×M)}{lo lo' hi hi':Option M}
def CP{op:BinOp}{a b:ae}(e:CO P op t=true){x x' y y':M}(k:VR Z x x')(g:VR Z y y'):mO P ok Z N (λ_ _=>True) (eqGuard op t a b x y) (eqGuard op t a b x' y'):=by
 have j:(op=.eql\/op=.neq)->P.eqGuardType P.depth t=false/\eqType P 6 t=true:=by
  rintro(rfl|rfl)<;>(simp only[CO,du,Bool.not_eq_true']at e;exact⟨e.2,e.1⟩)
 by_cases c:op=.eql\/op=.neq
 .obtain⟨i,h2⟩:=j c;have key:mO P ok Z N (λ_ _=>True) (eqGuard .eql t a b x y) (eqGuard .eql t a b x' y')->mO P ok Z N (λ_ _=>True) (eqGuard op t a b x y) (eqGuard op t a b x' y'):=by
   rcases c with rfl|rfl
   .exact id
   .exact id
  refine key ?_;unfold eqGuard;simp only[Bool.not_true,lO,if_false]
  cases k with
  | nilIface=>cases g with
   | nilIface=>
    refine(cJ (Q:=λ_=>True) ?_).mono λ_ _ _=>trivial;refine xo (λ_=>trivial) λ_=>?_;refine bO (Q:=λ_=>True) ?_ λb _=>?_
    .unfold Op.maxDepth Op.eqGuardIn;refine bO (gv t) λd _=>?_;split<;>first|exact qYB|(simp_all;done)
    .exact xo (λ_=>trivial) λ_=>trivial
   | _=>exact aj qYB
  | agg s h=>cases g with
   | agg s' l=>
    refine af jS λp q f=>?_;obtain⟨rfl,rfl⟩:=f;refine af jS λp m f=>?_;obtain⟨rfl,rfl⟩:=f;rw[qWB (by rw[i];rfl)];rw[qWB (by rw[i];rfl)];exact aj qYB
   | _=>exact aj qYB
  | _=>cases g<;>exact aj qYB
 .simp only[not_or]at c;unfold eqGuard;cases op<;>first|exact mi rfl c.1|exact mi rfl c.2|exact aj qYB
def KF(op:UnOp)(c:VR Z x x'):mO P ok Z N (VR Z) (Op.unary op x) (Op.unary op x'):=by
 cases c with
 | int k n=>
  refine(cJ (Q:=TO) ?_).mono λa b h=>by obtain⟨rfl,h⟩:=h;exact h Z
  unfold Op.unary;cases op
  .exact rW _ _ _ _
  .exact tD _ _ _ _
  .exact qYB
  .exact qYB
 | bool b=>cases op<;>first|exact bM (.bool _)|exact aA
 | _=>cases op<;>exact aA
def xx(P:Ps)(a dst:Lk):Bool:=match P.underlying a,P.underlying dst with
 | some (.int _),Y (.int _)=>true
 | _,_=>false
def CQ{src dst:Lk}(d:xx P src dst=true)(g:VR Z x x'):mO P ok Z N (VR Z) (convert src dst x) (convert src dst x'):=by
 unfold xx at d;split at d
 .rename_i j k f e;unfold convert;refine af (aO src) λa b h=>?_;obtain⟨rfl,c⟩:=h;rw[f]at c;cases c;refine af (aO dst) λa b h=>?_;obtain⟨rfl,c⟩:=h;rw[e]at c;cases c
  cases g with
  | int k' n=>exact(cJ (zJ _ _)).mono λa b h=>by obtain⟨rfl,h⟩:=h;exact h Z
  | _=>exact cF
 .cases d
def PR(Z:Ren)(l l':List (Nat×M)):Prop:=l.map (·.1)=l'.map (·.1)/\pM Z (l.map (·.2)).toArray (l'.map (·.2)).toArray
def PR.cons{i:Nat}{l l':List (Nat×M)}(h:PR Z ((i,v)::l) l'):∃v' d,l'=(i,v')::d/\VR Z v v'/\PR Z l d:=by
 obtain⟨c,h2⟩:=h
 cases l' with
 | nil=>simp at c
 | cons x r=>
  obtain⟨j,v'⟩:=x;simp only[zM,np]at c;obtain⟨rfl,c⟩:=c;refine⟨v',r,rfl,h2.2 0 v v' ss ss,c,⟨by simpa using h2.1,λk a b e f=>h2.2 (k+1) a b (by simpa using e) (by simpa using f)⟩⟩
def PR.NB(h:PR Z [] l'):l'=[]:=by
 have:=h.1
 cases l' with
 | nil=>rfl
 | cons x r=>simp at this
def KG{xs ys:Array M}(r:pM Z xs ys)(off:Nat):∀(l l':List M) (k:Nat),l.length=l'.length->(∀(i:Nat) (x y:M),l[i]?=Y x->l'[i]?=Y y->VR Z x y)->
  pM Z ((l.zipIdx k).foldl (λcs (p:M×Nat)=>cs.setIfInBounds (off+p.2) p.1) xs) ((l'.zipIdx k).foldl (λcs (p:M×Nat)=>cs.setIfInBounds (off+p.2) p.1) ys):=by
 intro l
 induction l generalizing xs ys with
 | nil=>intro l' k hl h;cases l' with|nil=>exact r|cons=>simp at hl
 | cons a l e=>
  intro l' k hl h
  cases l' with
  | nil=>simp at hl
  | cons b l'=>
   simp only[List.zipIdx_cons,List.foldl_cons];exact e (r.set _ (h 0 a b rfl rfl)) l' (k+1) (by simpa using hl) λi x y c d=>h (i+1) x y (by simpa using c) (by simpa using d)
def E3(b:Nat->Option (Nat×Nat)):∀(l l':List (Nat×M)) {xs c:Array M},pM Z xs c->PR Z l l'->∀{d:Array M},Instr.fill b xs l=Y d->∃g,Instr.fill b c l'=Y g/\pM Z d g
 | [],l',xs,c,r,h,d,a=>by
  have:=h.NB;subst this;simp only[Instr.fill,fg]at a|-;subst a;exact⟨_,rfl,r⟩
 | (i,v)::l,l',xs,c,r,h,d,a=>by
  obtain⟨v',o,rfl,q,k⟩:=h.cons;have e:=eH.cellsOf q;simp only[Instr.fill]at a|-
  cases f:b i with
  | none=>rw[f]at a;cases a
  | some p=>
   obtain⟨off,size⟩:=p;rw[f]at a;simp only at a|-;split at a
   .cases a
   .rename_i j;rw[qVB (by rw[<- e.1,<- r.1];exact j)];refine E3 b l o ?_ k a;have:=KG r off v.cells.toList v'.cells.toList 0 (by simpa using e.1) λi x y m n=>e.2 i x y (by simpa using m) (by simpa using n);rw[<- Array.foldl_toList,<- Array.foldl_toList,Array.toList_zipIdx,Array.toList_zipIdx];exact this
def rX{f:α->Sem β}(b:∀a,Calm P (λ_=>True) (f a)):∀l:List α,Calm P (λ_=>True) (l.mapM f)
 | []=>by simp only[List.mapM_nil];exact qYB
 | a::l=>by
  rw[List.mapM_cons];exact bO (b a) λ_ _=>bO (rX b l) λ_ _=>trivial
def KH{f:α->Sem β}(b:∀a,Calm P (λ_=>True) (f a))(l:Array α):Calm P (λ_=>True) (l.mapM f):=by
 rw[Array.mapM_eq_mapM_toList];exact sI (rX b _) λ_ _=>trivial
def KI(l:pU P t)(h:PR Z ps.toList ps'.toList):mO P ok Z N (VR Z) (Instr.build t ps) (Instr.build t ps'):=by
 unfold Instr.build;refine af (fu l) λz s o=>?_;refine af (aO t) λa b c=>?_;obtain⟨rfl,_⟩:=c;have j:=eH.cellsOf o;split
 .rename_i i _;have k:Calm P (λ_=>True) (i.mapM λf=>do pure (f.offset,<- sizeOf f.type)):=KH (λf=>bO (j6 _) λ_ _=>Ae qYB) i;refine af (R:=Eq) ((cJ k).mono λ_ _ h=>h.1) λq r e=>?_;subst e;split
  .rename_i cs d;obtain⟨p,g,ru⟩:=E3 _ _ _ j h d;rw[g];exact bM (.IJ ru)
  .exact aA
 .refine af (cY _) λn m c=>?_;obtain⟨rfl,_⟩:=c;split
  .rename_i cs d;obtain⟨p,g,ru⟩:=E3 _ _ _ j h d;rw[g];exact bM (.IJ ru)
  .exact aA
 .exact aA
def spread{zs us:Array M}(r:pM Z zs us)(n:Nat):pM Z ((Array.range n).map (zs[· % zs.size]!)) ((Array.range n).map (us[· % us.size]!)):=by
 refine eH.ofFn λi _=>?_;rw[<- r.1]
 cases a:zs[i%zs.size]? with
 | none=>
  have b:=r.none a;rw[getElem!_def,getElem!_def,a,b];exact .bool false
 | some x=>
  obtain⟨y,b,c⟩:=r.get a;rw[getElem!_def,getElem!_def,a,b];exact c
def xy(l:∀e,P.underlying t=Y (.slice e)->pU P e){len:Nat}(h:PR Z ps.toList ps'.toList):mO P ok Z N (VR Z) (Instr.buildSlice t len ps) (Instr.buildSlice t len ps'):=by
 unfold Instr.buildSlice;refine af (aO t) λa b c=>?_;obtain⟨rfl,k⟩:=c
 cases a with
 | slice e=>
  dsimp only;refine af (cY _) λn m c=>?_;obtain⟨rfl,_⟩:=c;split
  .exact cQ (bO (Q:=λ_=>False) qYB λ_ h=>h.elim)
  .split
   .refine af (R:=λa b=>a= #[]/\b= #[]) (aj ⟨rfl,rfl⟩) λq p c=>?_;obtain⟨rfl,rfl⟩:=c;split
    .rename_i cs f;obtain⟨vs,g,i⟩:=E3 _ _ _ (spread eH.nil _) h f;rw[g];exact af (om e i) λa j d=>aj (.slice _ _ d)
    .exact aA
   .refine af (fu (l e k)) λz s o=>?_;refine af (R:=pM Z) (aj (eH.cellsOf o)) λq p r=>?_;split
    .rename_i cs f;obtain⟨vs,g,i⟩:=E3 _ _ _ (spread r _) h f;rw[g];exact af (om e i) λa j d=>aj (.slice _ _ d)
    .exact aA
 | _=>exact aA
def lB(d:VR Z x x')(y:Nat)(c:BoundsCode):mO P ok Z N (λa b:Nat=>a=b) (Instr.sliceBound x y c) (Instr.sliceBound x' y c):=by
 unfold Instr.sliceBound;refine af (mB d) λp q h=>?_;obtain⟨rfl,_,_⟩:=h;dsimp only;split
 .exact aj rfl
 .exact cQ (iX _ _ _ _)
def YW(Z:Ren)(a b:Option M):Prop:=(a=I/\b=I)\/∃x y,a=Y x/\b=Y y/\VR Z x y
def j8(g:Bool)(i f:Nat)(c:YW Z lo lo')(d:YW Z hi hi'):mO P ok Z N (λa b:Nat×Nat×Nat=>a=b) (Instr.sliceBounds g i f lo hi I) (Instr.sliceBounds g i f lo' hi' I):=by
 unfold Instr.sliceBounds;refine af (aj rfl) λm m' e=>?_;subst e;rcases d with⟨rfl,rfl⟩|⟨x,y,rfl,rfl,d⟩
 .refine af (aj rfl) λh j e=>?_;subst e;rcases c with⟨rfl,rfl⟩|⟨x,y,rfl,rfl,c⟩
  .exact af (aj rfl) λ_ _ e=>by subst e;exact aj rfl
  .exact af (lB c _ _) λ_ _ e=>by subst e;exact aj rfl
 .refine af (lB d _ _) λh j e=>?_;subst e;rcases c with⟨rfl,rfl⟩|⟨x,y,rfl,rfl,c⟩
  .exact af (aj rfl) λ_ _ e=>by subst e;exact aj rfl
  .exact af (lB c _ _) λ_ _ e=>by subst e;exact aj rfl
def CS(t:Lk){v v':M}(r:SR Z v v')(g:YW Z lo lo')(i:YW Z hi hi')(o:∀n e,P.underlying t≠Y (.array n e))(k:∀e,P.underlying t≠Y (.pointer e)):
  mO P ok Z N (VR Z) (Instr.sliceAt t v lo hi I) (Instr.sliceAt t v' lo' hi' I):=by
 unfold Instr.sliceAt;refine af (aO t) λa b h=>?_;obtain⟨rfl,f⟩:=h;have tail:mO P ok Z N (VR Z) (Instr.slice t v lo hi I) (Instr.slice t v' lo' hi' I):=by
  unfold Instr.slice;refine af (aO t) λa b h=>?_;obtain⟨rfl,f⟩:=h
  cases a with
  | string=>cases r with
   | string s=>
    dsimp only[Option.isSome_none];refine af (j8 _ _ _ g i) λp q e=>?_;subst e;exact aj (.string _)
   | _=>exact aA
  | slice e=>cases r with
   | nilSlice l c=>
    refine af (j8 _ _ _ g i) λp q e=>?_;subst e;refine af (cY _) λn m d=>?_;obtain⟨rfl,_⟩:=d;obtain⟨l,h,m⟩:=p;dsimp only;split<;>exact aj (.nilSlice _ _)
   | slice l c j=>
    refine af (j8 _ _ _ g i) λp q e=>?_;subst e;refine af (cY _) λn m d=>?_;obtain⟨rfl,_⟩:=d;obtain⟨l,h,m⟩:=p;dsimp only;split
    .exact aj (.slice _ _ j)
    .exact aj (.slice _ _ (j.add _))
   | _=>exact aA
  | pointer e=>exact mi f (k e)
  | _=>exact aA
 cases a with
 | array n e=>exact mi f (o n e)
 | _=>exact tail
variable{ts:Array Lk}{y':M}
def RY(r:pM Z xs ys):mO P ok Z N (VR Z) (Builtin.len_ ts t xs) (Builtin.len_ ts t ys):=by
 unfold Builtin.len_
 cases m:ts[0]? with
 | none=>exact aA
 | some u=>
  cases h2:xs[0]? with
  | none=>exact aA
  | some x=>
   obtain⟨y,l,c⟩:=r.get h2;rw[l];dsimp only;refine af (aO u) λa b h=>?_;obtain⟨rfl,q⟩:=h
   cases a with
   | string=>cases c<;>first|exact aj (.int _ _)|exact aA
   | array n e=>exact aj (.int _ _)
   | pointer e=>
    refine af (aO e) λa b h=>?_;obtain⟨rfl,_⟩:=h;cases a<;>first|exact aj (.int _ _)|exact aA
   | slice e=>cases c<;>first|exact aj (.int _ _)|exact aA
   | map k e=>cases c with
    | nilMap=>exact aj (.int _ _)
    | map i=>
     refine af (gP i) λo s f=>?_;obtain⟨f,g,p⟩:=f
     cases f with
     | map j he=>dsimp only;rw[j];exact aj (.int _ _)
     | cells _ _=>exact mi rfl (g _ _ _)
     | _=>exact aA
    | _=>exact aA
   | chan d e=>cases c<;>first|exact aj (.int _ _)|exact aA
   | _=>cases c<;>exact aA
def NC(d:VR Z x x')(c:VR Z y y'):mO P ok Z N (VR Z) (Builtin.min2 x y) (Builtin.min2 x' y'):=by
 cases d with
 | int k n=>cases c with
  | int k' n'=>exact aj (.int _ _)
  | _=>exact aA
 | string s=>cases c with
  | string s'=>
   refine af (R:=λa b=>a=b/\TO a) (cJ (mR _ _ _)) λa b h=>?_;obtain⟨rfl,h⟩:=h;refine af (sJ (h Z)) λa b e=>?_;subst e;split<;>exact aj (.string _)
  | _=>exact aA
 | _=>cases c<;>exact aA
def ND(d:VR Z x x')(c:VR Z y y'):mO P ok Z N (VR Z) (Builtin.max2 x y) (Builtin.max2 x' y'):=by
 cases d with
 | int k n=>cases c with
  | int k' n'=>exact aj (.int _ _)
  | _=>exact aA
 | string s=>cases c with
  | string s'=>
   refine af (R:=λa b=>a=b/\TO a) (cJ (mR _ _ _)) λa b h=>?_;obtain⟨rfl,h⟩:=h;refine af (sJ (h Z)) λa b e=>?_;subst e;split<;>exact aj (.string _)
  | _=>exact aA
 | _=>cases c<;>exact aA
def sL{f f':M->M->Sem M}(c:∀x x' y y',VR Z x x'->VR Z y y'->mO P ok Z N (VR Z) (f x y) (f' x' y')):∀(l b:List M) (x x':M),VR Z x x'->l.length=b.length->
  (∀(i:Nat) (x y:M),l[i]?=Y x->b[i]?=Y y->VR Z x y)->mO P ok Z N (VR Z) (l.foldlM f x) (b.foldlM f' x')
 | [],[],x,x',r,_,_=>by simp only[List.foldlM_nil];exact aj r
 | a::l,d::b,x,x',r,hl,h=>by
  rw[List.foldlM_cons,List.foldlM_cons];exact af (c _ _ _ _ r (h 0 a d rfl rfl)) λu k e=>sL c l b u k e (by simpa using hl) λi x y g j=>h (i+1) x y (by simpa using g) (by simpa using j)
def RZ(r:pM Z xs ys):mO P ok Z N (VR Z) (Builtin.min_ ts t xs) (Builtin.min_ ts t ys):=by
 obtain⟨l⟩:=xs;obtain⟨d⟩:=ys;unfold Builtin.min_
 cases l with
 | nil=>exact aA
 | cons a l=>cases d with
  | nil=>have:=r.1;simp at this
  | cons e d=>
   exact sL (λ_ _ _ _ b c=>NC b c) l d a e (r.2 0 a e ss ss) (by simpa using r.1) λi x y b c=>r.2 (i+1) x y (by simpa using b) (by simpa using c)
def R1(r:pM Z xs ys):mO P ok Z N (VR Z) (Builtin.max_ ts t xs) (Builtin.max_ ts t ys):=by
 obtain⟨l⟩:=xs;obtain⟨d⟩:=ys;unfold Builtin.max_
 cases l with
 | nil=>exact aA
 | cons a l=>cases d with
  | nil=>have:=r.1;simp at this
  | cons e d=>
   exact sL (λ_ _ _ _ b c=>ND b c) l d a e (r.2 0 a e ss ss) (by simpa using r.1) λi x y b c=>r.2 (i+1) x y (by simpa using b) (by simpa using c)
def CV(n:Nat):mO P ok Z N (λ_ _=>True) (askRoom n) (askRoom n):=by
 unfold askRoom;split
 .exact xm
 .exact aj qYB
def Ag(r:VR Z x x'):mO P ok Z N (λa b:Nat=>a=b) (Builtin.lenOf x) (Builtin.lenOf x'):=by
 cases r<;>first|exact aj rfl|exact aA
def jf(size n:Nat)(r:VR Z x x'):mO P ok Z N (pM Z) (Builtin.firstCells size n x) (Builtin.firstCells size n x'):=by
 cases r with
 | nilSlice l c=>exact aj eH.nil
 | slice l c h=>exact rV h _
 | string s=>exact aj ⟨rfl,λi a b d e=>by rw[d]at e;cases e;simp only[mf,Option.map_eq_some_iff]at d;obtain⟨z,_,rfl⟩:=d;exact .int _ _⟩
 | _=>exact aA
def Up{zs us:Array M}(r:pM Z zs us)(n:Nat):pM Z (Builtin.zeroCells zs n) (Builtin.zeroCells us n):=by
 unfold Builtin.zeroCells;rw[<- r.1];have:=spread r (n*zs.size);rw[<- r.1]at this;exact this
def xA{α:Type}(P:Ps)(s:Sem α):Prop:=∀W es a b c,s.runT P W es≠(.ok a b,c)
def iQ{s:Sem α}{f:α->Sem β}(h:∀a,xA P (f a)):xA P (s>>=f):=by
 intro W es a g i c;change (s.bind f).runT P W es=_ at c;rw[Sem.runT_bind']at c
 cases e:s.runT P W es with
 | mk r em=>
  rw[e]at c
  cases r with
  | halt h d=>cases c
  | ok b d=>exact h b _ _ _ _ _ c
def mD{s:Sem α}{f:α->Sem β}(h:xA P s):xA P (s>>=f):=by
 intro W es a g i c;change (s.bind f).runT P W es=_ at c;rw[Sem.runT_bind']at c
 cases d:s.runT P W es with
 | mk r em=>
  rw[d]at c
  cases r with
  | halt h e=>cases c
  | ok b e=>exact h _ _ _ _ _ d
def fZ(h:Halt):xA P (Sem.halt h:Sem α):=by intro W es a c d b;cases b
def ga{s:Sem α}(h:Calm P (λ_=>False) s):xA P s:=by
 induction s with
 | pure a=>exact h.elim
 | choose q k b=>exact iQ (s:=choose q) λa=>b a (h a)
 | program k b=>intro W es a c d e;exact b P h W es a c d e
 | mark m k b=>exact iQ (s:=mark m) (f:=λ_=>k) λ_=>b h.2
 | halt h=>exact fZ _
 | _=>exact h.elim
def cm{R:α->β->Prop}{s:Sem α}{s':Sem β}(h:xA P s):mO P ok Z N R s s':=
 λW w es d a c e g f b i=>mi b (h _ _ _ _ _)
def FC(B:Sep Z N){t u e:Lk}(C:ts[0]?=Y t)(G:ts[1]?=Y u)(E:P.underlying t=Y (.slice e))(m:∀k,P.underlying u≠Y (.int k))(L:pU P e)(r:pM Z xs ys){ty:Lk}:mO P ok Z N (VR Z) (Builtin.append_ ts ty xs) (Builtin.append_ ts ty ys):=by
 unfold Builtin.append_;rw[C]
 cases y:xs[0]? with
 | none=>exact aA
 | some x0=>
  obtain⟨y0,J,O⟩:=r.get y;rw[J]
  cases h2:xs[1]? with
  | none=>exact aA
  | some V=>
   obtain⟨W,K,j⟩:=r.get h2;rw[K];dsimp only;refine af (aO t) λa b h=>?_;obtain⟨rfl,s⟩:=h;rw[E]at s;cases s;dsimp only;rw[G];have grow:∀{l c n size:Nat} {v v':M},VR Z v v'->mO P ok Z N (VR Z)
     (do
      let newCap<-choose (Question.appendCap (l+n) c e)
      let i<-typeInfo e
      askRoom (newCap*i.bytes)
      let old<-Builtin.firstCells size l v
      let new<-Builtin.firstCells size n V
      let z<-zeroValue e
      let a<-newRow e (old++new++Builtin.zeroCells z.cells (newCap-(l+n)))
      pure (M.slice (Y a) (l+n) newCap))
     (do
      let newCap<-choose (Question.appendCap (l+n) c e)
      let i<-typeInfo e
      askRoom (newCap*i.bytes)
      let old<-Builtin.firstCells size l v'
      let new<-Builtin.firstCells size n W
      let z<-zeroValue e
      let a<-newRow e (old++new++Builtin.zeroCells z.cells (newCap-(l+n)))
      pure (M.slice (Y a) (l+n) newCap)):=by
    intro l c n size v v' S;refine af (sH _) λk k' e1=>?_;subst e1;refine af ((cJ (eF e)).mono λ_ _ h=>h.1) λi q e1=>?_;subst e1;refine af (CV _) λ_ _ _=>?_;refine af (jf _ _ S) λo o' A=>?_;refine af (jf _ _ j) λw w' p=>?_;refine af (fu L) λz x T=>?_;refine af (om e ((A.append p).append (Up (eH.cellsOf T) _))) λa a' f=>?_;exact aj (.slice _ _ f)
   cases O with
   | nilSlice l c=>
    dsimp only;refine af (cY e) λsize U h=>?_;obtain⟨rfl,_⟩:=h;refine af (aO u) λd d' h=>?_;obtain⟨rfl,g⟩:=h;refine af (R:=λa b=>a=false/\b=false) (aj ⟨by cases d<;>first|rfl|exact mi g (m _),by cases d<;>first|rfl|exact mi g (m _)⟩) λz x h=>?_;obtain⟨rfl,rfl⟩:=h;simp only[lO,if_false,Bool.not_false,if_true,false_or];refine af (Ag j) λn n' e1=>?_;subst e1;split
    .refine af (jf _ _ j) λw w' p=>?_;exact aj (.nilSlice _ _)
    .refine af ((cJ (eF e)).mono λ_ _ h=>h.1) λi q e1=>?_;subst e1;split
     .exact cm (ga (bO (Q:=λ_=>False) (iP _) λ_ h=>h.elim))
     .refine af ((cJ (eF e)).mono λ_ _ h=>h.1) λi q e1=>?_;subst e1;split
      .exact cm (mD (iQ λb=>by split<;>first|exact fZ _|exact iQ λ_=>fZ _))
      .exact grow (.nilSlice _ _)
   | slice l c f=>
    dsimp only;refine af (cY e) λsize U h=>?_;obtain⟨rfl,_⟩:=h;refine af (aO u) λd d' h=>?_;obtain⟨rfl,g⟩:=h;refine af (R:=λa b=>a=false/\b=false) (aj ⟨by cases d<;>first|rfl|exact mi g (m _),by cases d<;>first|rfl|exact mi g (m _)⟩) λz x h=>?_;obtain⟨rfl,rfl⟩:=h;simp only[lO,if_false,Bool.not_false,if_true,false_or];refine af (Ag j) λn n' e1=>?_;subst e1;split
    .refine af (jf _ _ j) λw w' p=>?_;refine af (j7 B (f.add _) p) λ_ _ _=>?_;exact aj (.slice _ _ f)
    .refine af ((cJ (eF e)).mono λ_ _ h=>h.1) λi q e1=>?_;subst e1;split
     .exact cm (ga (bO (Q:=λ_=>False) (iP _) λ_ h=>h.elim))
     .refine af ((cJ (eF e)).mono λ_ _ h=>h.1) λi q e1=>?_;subst e1;split
      .exact cm (mD (iQ λb=>by split<;>first|exact fZ _|exact iQ λ_=>fZ _))
      .exact grow (.slice _ _ f)
   | _=>exact aA
end Go.Co
