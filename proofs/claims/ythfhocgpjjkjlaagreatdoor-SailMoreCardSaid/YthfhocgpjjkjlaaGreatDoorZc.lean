import Derived.Test.YthfhocgpjjkjlaaGreatDoorZb
set_option maxRecDepth 100000
set_option maxHeartbeats 4000000
set_option linter.all false
noncomputable section
open Go renaming undef->D,World->H,execOp->Hn,Frame->Kf,TypeId->Lk,stepG->Lq,Code->Ly,Value->M,Calls->PH,Program->Ps,Goroutine->QP,resolve->ab,Operand->ae,MemOp->al,yielded->aw,FuncId->ba
open Option renaming none->Fl,none->I,some->Y
namespace Go.Co
open Go.Conc
variable{fr da:Kf}{cs dp:List Kf}{P:Ps}{T:P3}{Z:Ren}{N:Nat}{k:List Item}{W w:H}
section
variable{ds:List Deferred}{co:List Kf×CallKind}
def jT.congr{S S':H->GStep}(h:jT W S)(e:∀w,S' w=S w):jT W S':=by
 have:S'=S:=funext e;rw[this];exact h
def mU{fr da c c':Kf}(b:jA T P Z k ds co fr (c::cs) da dp)(v:M)(a:H):jT a (λw=>doReturn P true fr (c::cs) I v w):=by
 cases b with
 | bottom h hb e=>exact .still (g:=G (c0.finish v) []) (es:= #[]) λw=>by simp[doReturn,h.early.1,G]
 | push h hk d hw f=>exact .still (g:=G (c.finish v) cs) (es:= #[]) λw=>by simp[doReturn,h.early.1,G]
def KS(a1:Mem T P Z N W w)(L:jA T P Z k ds co fr cs da dp)(a6:∀f,T.has f=true->dX T P f=true)
  (b5:∀n,zB W.tape W.drawn w.tape w.drawn n)(E:cs=[c0]->fr.mode=.returning->fr.defers≠[]):jT W (λW=>Lq P true (G fr cs) W):=by
 obtain⟨k0,d0,A,e6,e7,e'⟩:=L.top;rcases A.live with a4|⟨a0,e0⟩
 .have e1:(λW=>Lq P true (G fr cs) W)=λW=>Lq.exec P true true fr cs I W:=funext λw=>by simp only[Lq,G,a4]
  rw[e1];obtain⟨t,f2,c1⟩:=A.todo;have tO:∀{td:List Item} {S:H->GStep},(∀w,S w=.go (G {fr with todo:=td} cs) w #[])->jT W S:=λh=>.still h;have leave:∀(j:Option Ly) {S:H->GStep},(fr.roundOf=I->(∃eI,∀w,S w=.go (G eI cs) w #[])\/∃o,∀w,S w=.ended o w #[])->
    (∀l,fr.roundOf=Y l->∀W,S W=(GStep.after (seen P fr.fn ((Instr.endRound l j).runT P W #[]).2) (match((Instr.endRound l j).runT P W #[]).1 with
    | .ok v w=>doReturn P true fr cs I v w
    | .halt _ w=>.ended (.stuck "range over a function: no such loop" (fr.pos P)) w)))->jT W S:=by
   intro j S g1 g2
   cases z:fr.roundOf with
   | none=>
    rcases g1 z with⟨eI,h⟩|⟨o,h⟩
    .exact .still h
    .exact .ended ⟨_,_,_,h W⟩
   | some l=>
    refine .sem (P:=P) (C8 l j) (f:=seen P fr.fn) (K:=λv w=>doReturn P true fr cs I v w) (λa s es _ w bj u=>?_) (λa s es _=>?_) λh s es u eI fw Q e p=>?_
    .rw[g2 l z,u]
    .cases cs with
     | nil=>exact mi rfl L.ne
     | cons c cs=>exact mU (c':=c) L a s
    .rw[g2 l z,u]at p;cases p
  generalize m:fr.todo=td at c1
  cases c1 with
  | nil=>
   refine leave I (λz=>.inl ⟨{fr with mode:=.returning},λw=>?_⟩) λl z w=>?_
   .simp only[Lq.exec,m,z];rfl
   .simp only[Lq.exec,m,z];rfl
  | @cons _ _ rest f4 J d7=>
   cases J with
   | inBlock id=>exact tO λw=>by simp only[Lq.exec,m];rfl
   | inLoop C=>exact tO λw=>by simp only[Lq.exec,m];rfl
   | inScope C=>exact tO λw=>by simp only[Lq.exec,m];rfl
   | inRangeFunc hl=>exact .ended ⟨_,_,_,by simp only[Lq.exec,m];rfl⟩
   | beginRound=>
    have e2:(λW=>Lq.exec P true true fr cs I W)=λW=>Lq.apply P true fr cs I (do fr.roundOf.elim (stuck "beginRound: no round") Instr.beginRound;pure .skip) W:=funext λw=>by simp only[Lq.exec,m]
    rw[e2];have d4:aB P (do fr.roundOf.elim (stuck "beginRound: no round") Instr.beginRound;pure .skip:Sem Next):=by
     cases fr.roundOf with
     | none=>exact qYB
     | some l=>exact bL (sj l) λ_=>trivial
    refine sM a4 A.early.1 d4 a1.fJ λa s es h=>?_;have a7:(do fr.roundOf.elim (stuck "beginRound: no round") Instr.beginRound;pure .skip:Sem Next)=(fr.roundOf.elim (stuck "beginRound: no round") Instr.beginRound).bind λ_=>(Sem.pure Next.skip:Sem Next):=rfl;rw[a7,Sem.runT_bind']at h;split at h
    .cases h;trivial
    .cases h
   | @endRangeFunc l l' hl=>
    refine .sem (P:=P) (xI l) (f:=seen P fr.fn) (K:=λ(d8:Option Ly) w=>.go (G {fr with todo:=(d8.map Item.code).toList++rest} cs) w) (λa s es _ w bj u=>?_) (λa s es _=>.still (g:=G {fr with todo:=(a.map Item.code).toList++rest} cs) (es:= #[]) λ_=>rfl) λh s es u eI fw Q e p=>?_
    .simp only[Lq.exec,m,u];rfl
    .simp only[Lq.exec,m,u]at p
     cases h with
     | panic v=>
      simp only[GStep.after,GStep.go.injEq]at p;obtain⟨p,-⟩:=p;have:eI=fr.raise [{v,recovered:=false}]:=by have:=cd QP.frame p;exact this.symm
      refine⟨[{v,recovered:=false}],?_⟩;rw[this];unfold Kf.raise;rw[a4]
     | _=>cases p
   | @inRegion ops todo d5=>
    cases todo with
    | nil=>exact tO λw=>by simp only[Lq.exec,m];rfl
    | cons i rs=>
     by_cases O:((ops[i]?).map (Region.wanted · (aw ops fr.tmps))).getD false=true
     .cases b4:ops[i]? with
      | none=>rw[b4]at O;cases O
      | some o=>
       have a3:eX T P (T.kind fr.fn) o=true:=by
        exact xE d5 b4
       have d3:∀c,o.op≠.defer c:=by
        intro c C;unfold eX at a3;rw[C]at a3;cases a3
       have e2:(λW=>Lq.exec P true true fr cs I W)=λW=>Lq.apply P true fr cs I (Hn fr.eval o) W:=funext λw=>by
        simp only[Lq.exec,m,O,if_true];unfold Lq.oper;have:fr.oper?=Y o:=by unfold Kf.oper?;rw[m];exact b4
        rw[this];dsimp only;split
        .rename_i l c E h2;exact mi h2 (d3 c)
        .rfl
       rw[e2];refine sM a4 A.early.1 (IS a1.tab a6 A.zL a3) a1.fJ λa s es h=>?_;by_cases b7:∃t,o.op=.alloc t
       .obtain⟨t,E⟩:=b7;obtain⟨dst,op,ty,pos,c4,c7⟩:=o;dsimp only at E;subst E;have a7:Hn fr.eval ⟨dst,.alloc t,ty,pos,c4,c7⟩=(Instr.alloc t true (.tuple #[])).bind λv=>(Sem.pure (Next.value v):Sem Next):=rfl;rw[a7,Sem.runT_bind']at h;split at h
        .cases h;trivial
        .cases h
       .obtain⟨B,b,bj,c6,_,_,J,_⟩:=a1.step (R:=λB=>xF (C3 T P) (T.kind fr.fn) o.dst B) (λB hle p U=>C6 p U a6 (A.mono hle).zL a3 λt d E _ _=>b7 ⟨t,E⟩) h (b5 _);exact J.plain
     .exact .still (g:=G (fr.finish D) cs) (es:= #[]) λw=>by simp only[Lq.exec,m,O];rfl
   | @cut c c' hcut=>
    cases hcut with
    | stop=>exact .ended ⟨.unsupported _ (fr.pos P),W, #[],by simp only[Lq.exec,m];rfl⟩
    | deadzz h=>exact .ended ⟨.unsupported _ (fr.pos P),W, #[],by simp only[Lq.exec,m];rfl⟩
    | seqLzz b8 h=>exact tO λw=>by simp only[Lq.exec,m];rfl
    | @seqR a b b' b8 h=>exact tO λw=>by simp only[Lq.exec,m];rfl
    | @condL c a a' b b8 a7 h=>
     cases a5:fr.eval c with
     | bool q=>exact tO (td:=.code (if q then a else b)::rest) λw=>by simp only[Lq.exec,m,a5];rfl
     | _=>exact .ended ⟨.stuck "cond: bool expected" (fr.pos P),W, #[],by simp only[Lq.exec,m,a5]⟩
   | @code c C=>
    cases c with
    | skip=>exact tO λw=>by simp only[Lq.exec,m];rfl
    | label l=>exact tO λw=>by simp only[Lq.exec,m];rfl
    | refuse f5=>exact .ended ⟨.unsupported _ (fr.pos P),W, #[],by simp only[Lq.exec,m];rfl⟩
    | goto l=>cases C
    | seq a b=>exact tO λw=>by simp only[Lq.exec,m];rfl
    | block id b=>exact tO λw=>by simp only[Lq.exec,m];rfl
    | loop b=>exact tO λw=>by simp only[Lq.exec,m];rfl
    | scope b=>exact tO λw=>by simp only[Lq.exec,m];rfl
    | cond c a b=>
     cases a5:fr.eval c with
     | bool q=>exact tO (td:=.code (if q then a else b)::rest) λw=>by simp only[Lq.exec,m,a5];rfl
     | _=>exact .ended ⟨.stuck "cond: bool expected" (fr.pos P),W, #[],by simp only[Lq.exec,m,a5]⟩
    | ret=>
     refine leave (Y .ret) (λz=>.inl ⟨{fr with mode:=.returning},λw=>?_⟩) λl z w=>?_
     .simp only[Lq.exec,m,z];rfl
     .simp only[Lq.exec,m,z];rfl
    | exit id=>
     cases b1:exitTo id rest with
     | some d9=>exact tO (td:=d9) λw=>by simp only[Lq.exec,m,b1,Option.elim];rfl
     | none=>
      refine leave (Y (.exit id)) (λz=>.inr ⟨.stuck "exit, goto: no such block or label" (fr.pos P),λw=>?_⟩) λl z w=>?_
      .simp only[Lq.exec,m,b1,z,Option.elim];rfl
      .simp only[Lq.exec,m,b1,z,Option.elim];rfl
    | region id ops draw=>
     cases draw with
     | false=>exact tO (td:=.inRegion ops (List.range ops.size)::rest) λw=>by simp only[Lq.exec,m,Bool.not_false,if_true];rfl
     | true=>
      have b9:∀w:H,Lq.exec P true true fr cs I w=.go (G {fr with todo:=.inRegion ops (Region.schedule (P.follows .mixedOrders) ops ((Question.order fr.fn id).cut (w.tape w.drawn (.order fr.fn id))))::rest} cs) {w with drawn:=w.drawn+1} #[]:=λw=>by
       simp only[Lq.exec,m];rfl
      intro eI fw s es p _;dsimp only at p;rw[b9]at p;simp only[GStep.go.injEq]at p;obtain⟨E,rfl,rfl⟩:=p;refine⟨1,rfl,rfl,λτ d O=>?_⟩;dsimp only;rw[b9,<- E];simp only[A0,xj];rw[<- O.head zz (.order fr.fn id)];rfl
    | rangeFunc f c3 a b=>
     simp only[ez,du]at C;have d6:∀(fr:Kf) (l:Nat),(do let d<-ab fr.eval {callee:=.value f,args:= #[.const (.func (.yield l) #[] #[])],argTypes:= #[]} 0;invoke d.target d.args:Sem Next)=
       (do let d<-Deferred.ofValue (fr.eval f) #[.func (.yield l) #[] #[]];invoke d.target d.args):=λfr l=>by simp[ab,Kf.eval]
     have d2:∀(fr:Kf) (td:List Item) (df:List Deferred),({fr with todo:=td,defers:=df}:Kf).eval f=fr.eval f:=λfr td df=>by cases f<;>rfl
     refine .sem (P:=P) (Bf fr.fn fr.tmps c3 a b fr.roundOf) (f:=seen P fr.fn) (K:=λ(x:Nat×List Deferred) w=>Lq.apply P true {fr with todo:=.inRangeFunc x.1::rest,defers:=x.2++fr.defers} cs I
      (do let d<-Deferred.ofValue (fr.eval f) #[.func (.yield x.1) #[] #[]];invoke d.target d.args) w) (λx s es _ w bj u=>?_) (λx s es z=>?_) λh s es u eI fw Q e p=>?_
     .simp only[Lq.exec,m,u,d6,d2]
     .obtain⟨B,y,bj,c6,hle,f1,⟨hl,e9⟩,a9,a8⟩:=a1.step (R:=λB (x y:Nat×List Deferred)=>B x.1=Y (y.1,0)/\L2 (FK B) x.2 y.2)
       (λB hle p U=>sk (by rw[U];exact A.tmps.mono hle) c3 C.1.2 C.2 (A.round.mono hle)) z (b5 _)
      have c9:∀f,B.tab.has f=true->dX T P f=true:=by rw[a9.tab];exact a6
      have c2:=bQ a9.tab (A.mono hle).zL C.1.1;have d1:pM B #[.func (.yield x.1) #[] #[]] #[.func (.yield y.1) #[] #[]]:=eH.nil.push (.funcOf (.yield hl) .nil .nil);refine sM (fr:= {fr with todo:=.inRangeFunc x.1::rest,defers:=x.2++fr.defers}) a4 A.early.1 (Uu c9 c2 (λh=>by cases h) _) a9.fJ λa2 Q e5 c8=>?_;obtain⟨b6,b2,e3,e4,_,_,J,_⟩:=a9.step (R:=λb6=>xF (C3 T P) (T.kind fr.fn) I b6) (λb6 b0 p U=>mS (by rw[U];exact a6) (c2.mono b0) (d1.mono b0) (.inr rfl)) c8 (Ak b5 a8.frm _);exact J.plain
     .simp only[Lq.exec,m,u]at p;cases p
 .have e1:(λW=>Lq P true (G fr cs) W)=λW=>unwind P true fr cs I W:=funext λw=>by simp only[Lq,G,a0]
  rw[e1];obtain⟨t,e8,a8⟩:=A.defers;generalize V:fr.defers=df at a8
  cases a8 with
  | @cons d d' l l' J d7=>
   cases J with
   | @mk r r' f3=>
    refine .sem (P:=P) (j9 r) (f:=seen P fr.fn) (K:=λ(c5:List Deferred) w=>.go (G {fr with defers:=c5++l} cs) w) (λa s es _ w bj u=>?_) (λa s es _=>.still (g:=G {fr with defers:=a++l} cs) (es:= #[]) λ_=>rfl) λh s es u eI fw Q e p=>?_
    .simp only[unwind,V,u];rfl
    .simp only[unwind,V,u]at p;cases p
  | nil=>
   cases cs with
   | nil=>exact mi rfl L.ne
   | cons c cs=>
    cases b3:P.funcs[fr.fn]? with
    | none=>exact(mU (c':=c) L (fr.tmps.getD 0 D) W).congr λw=>by simp only[unwind,V,a0,b3]
    | some fn=>
     refine .sem (P:=P) (FM fn fr.tmps) (f:=seen P fr.fn) (K:=λv w=>doReturn P true fr (c::cs) I v w) (λa s es _ w bj u=>?_) (λa s es _=>mU (c':=c) L a s) λh s es u eI fw Q e p=>?_
     .simp only[unwind,V,a0,b3,u]
     .simp only[unwind,V,a0,b3,u]at p;cases h<;>cases p
end
variable{V V' O:Nat->Prop}{bj w':H}{g:QP}{es:Array Event}{piece main:Bool}{Post:Kf->H->Prop}{Stop:(Nat->Prop)->(Nat->Prop)->QP->H->Prop}
inductive Rk:Type 1
 | mk (ι:Type) (f:ι->Rk):Rk
def Rk.lt(a b:Rk):Prop:=∃(c:Type) (f:c->Rk) (i:c),b=.mk c f/\a=f i
def Rk.wf:WellFounded Rk.lt:=⟨λr=>by
 induction r with
 | mk c f b=>
  refine⟨_,λa h=>?_⟩;obtain⟨d,g,i,e,rfl⟩:=h;cases e;exact b i⟩
def Rk.xL{ι:Type}(f:ι->Rk)(i:ι):Rk.lt (f i) (.mk ι f):=⟨_,_,i,rfl,rfl⟩
instance:Inhabited Rk:=⟨.mk Empty (λx=>x.elim)⟩
def Rk.ofNat:Nat->Rk
 | 0=>.mk Empty (λx=>x.elim)
 | n+1=>.mk Unit (λ_=>Rk.ofNat n)
structure aH(V:Nat->Prop)(w bj:H):Prop where
 tape:bj.tape=w.tape
 os:bj.os=w.os
 output:bj.output=w.output
 size:w.heap.size<=bj.heap.size
 keep:∀b,V b->bj.heap[b]?=w.heap[b]?
def aH.refl(V:Nat->Prop)(w:H):aH V w w:=⟨rfl,rfl,rfl,qN _,λ_ _=>rfl⟩
def aH.tn{a b c:H}(h:aH V a b)(k:aH V b c):aH V a c:=
 ⟨k.tape.tn h.tape,k.os.tn h.os,k.output.tn h.output,qO h.size k.size,λx d=>(k.keep x d).tn (h.keep x d)⟩
def aH.mono(a:∀b,V b->V' b)(h:aH V' w bj):aH V w bj:=⟨h.tape,h.os,h.output,h.size,λb c=>h.keep b (a b c)⟩
def Ng(V O:Nat->Prop)(e:Event):Prop:=
 match e.loc with
 | .cell a=>e.sync=false/\V a.block/\(e.write=true->O a.block)
 | .obj r=>e.sync=false/\V r/\(e.write=true->O r)
 | .mark m=>Neutral m
 | _=>False
def Ng.mono{V O V' O':Nat->Prop}(c:∀b,V b->V' b)(a:∀b,O b->O' b){e:Event}(h:Ng V O e):Ng V' O' e:=by
 unfold Ng at h|-;split at h
 .exact⟨h.1,c _ h.2.1,λx=>a _ (h.2.2 x)⟩
 .exact⟨h.1,c _ h.2.1,λx=>a _ (h.2.2 x)⟩
 .exact h
 .exact h.elim
structure IT(V O:Nat->Prop)(w w':H)(es:Array Event)(V' O':Nat->Prop):Prop where
 tape:w'.tape=w.tape
 os:w'.os=w.os
 output:w'.output=w.output
 size:w.heap.size<=w'.heap.size
 keep:∀b,b<w.heap.size->¬O b->w'.heap[b]?=w.heap[b]?
 see:∀b,V' b↔V b\/(w.heap.size<=b/\b<w'.heap.size)
 own:∀b,O' b↔O b\/(w.heap.size<=b/\b<w'.heap.size)
 evs:∀e∈es,Ng V' O' e
def Walk(P:Ps)(main:Bool)(Stop:(Nat->Prop)->(Nat->Prop)->QP->H->Prop):Rk->(Nat->Prop)->(Nat->Prop)->QP->H->Prop
 | .mk b f,V,O,g,w=>(∀bj,aH V w bj->Stop V O g bj)\/(g.status=.running/\∀bj,aH V w bj->∃g' w' es V' a,∃i:b,Lq P main g bj=.go g' w' es/\(∃fr cs,g'=G fr cs)/\IT V O bj w' es V' a/\Walk P main Stop (f i) V' a g' w')
def WalkE(P:Ps)(main:Bool)(Stop:(Nat->Prop)->(Nat->Prop)->QP->H->Prop)(V O:Nat->Prop)(g:QP)(w:H):Prop:=∃r,Walk P main Stop r V O g w
def WalkE.stop(h:∀bj,aH V w bj->Stop V O g bj):WalkE P main Stop V O g w:=⟨.mk Unit λ_=>default,.inl h⟩
def WalkE.step(i:g.status=.running)(h:∀bj,aH V w bj->∃g' w' es V' a,Lq P main g bj=.go g' w' es/\(∃fr cs,g'=G fr cs)/\IT V O bj w' es V' a/\WalkE P main Stop V' a g' w'):
  WalkE P main Stop V O g w:=by
 have f:∀bj:H,∃r:Rk,aH V w bj->∃g' w' es V' a,Lq P main g bj=.go g' w' es/\(∃fr cs,g'=G fr cs)/\IT V O bj w' es V' a/\Walk P main Stop r V' a g' w':=by
  intro bj;by_cases b:aH V w bj
  .obtain⟨g',w',es,V',a,d,c,h2,r,e⟩:=h bj b;exact⟨r,λ_=>⟨g',w',es,V',a,d,c,h2,e⟩⟩
  .exact⟨default,λx=>mi x b⟩
 refine⟨.mk H λbj=>(f bj).choose,.inr ⟨i,λbj b=>?_⟩⟩;obtain⟨g',w',es,V',a,d,c,h2,e⟩:=(f bj).choose_spec b;exact⟨g',w',es,V',a,bj,d,c,h2,e⟩
def WalkE.rely(h:WalkE P main Stop V O g w)(c:aH V w bj):WalkE P main Stop V O g bj:=by
 obtain⟨⟨e,f⟩,h⟩:=h;refine⟨.mk e f,?_⟩;rcases h with h|⟨d,h⟩
 .exact .inl λa b=>h a (c.tn b)
 .exact .inr ⟨d,λa b=>h a (c.tn b)⟩
def Db{α:Type}{r:α->α->Prop}{a:α}(h:¬Acc r a):∃f:Nat->α,f 0=a/\∀n,r (f (n+1)) (f n):=by
 have next:∀x: {x:α // ¬Acc r x},∃y: {x:α // ¬Acc r x},r y.1 x.1:=by
  intro x;refine Classical.byContradiction λb=>x.2 ⟨_,λy c=>?_⟩;exact Classical.byContradiction λd=>b ⟨⟨y,d⟩,c⟩
 let g:Nat-> {x:α // ¬Acc r x}:=λn=>Nat.rec ⟨a,h⟩ (λ_ x=>(next x).choose) n
 exact⟨λn=>(g n).1,rfl,λn=>(next (g n)).choose_spec⟩
structure LS where
 fr:Kf
 cs:List Kf
 w:H
def LS.tp(s:LS)(a:Nat->Question->Nat):LS:=⟨s.fr,s.cs,Co.tp s.w a s.w.drawn⟩
def LS.m(s:LS):Machine:=lone s.fr s.cs s.w
def lD(h:lone fr cs w=lone da dp w'):fr=da/\cs=dp/\w=w':=by
 simp[lone]at h;exact⟨h.2.1,h.2.2,h.1⟩
def Ts(piece:Bool)(fr:Kf)(cs:List Kf):Prop:=
 cs=[c0]/\match piece with
  | true=>fr.mode=.run/\(fr.todo=[]\/fr.todo=[.code (.refuse "cut")])
  | false=>fr.mode=.returning/\fr.defers=[]
def oz(P:Ps)(piece:Bool)(Post:Kf->H->Prop)(s:LS):Prop:=
 ∀c:Nat->Question->Nat,∃b:Nat->Question->Nat,(∀k q,b (s.w.drawn+k) q=c (s.w.drawn+k) q)/\∃eI a,StepsIn (λ_=>True) P (s.tp b).m (lone eI [c0] a)/\Ts piece eI [c0]/\Post eI a
def uH(P:Ps)(piece:Bool)(s' s:LS):Prop:=
 ¬Ts piece s.fr s.cs/\(∀a,jT (s.tp a).w λW=>Lq P true (G s.fr s.cs) W)/\(∀ch,s'.fr.mode≠.panicking ch)/\∃a es,Lq P true (G s.fr s.cs) (s.tp a).w=.go (G s'.fr s'.cs) s'.w es
def kU(h:Lq P true (G fr cs) w=.go (G da dp) w' es):step P (lone fr cs w)=.next (lone da dp w'):=by
 apply step_lone_go;have a:Lq P true {frame:=fr,callers:=cs,status:=.running,dying:=I} w=.go {frame:=da,callers:=dp,status:=.running,dying:=I} w' es:=h;rw[a];rfl
def nw{o:Outcome}(h:Lq P true (G fr cs) w=.ended o w' es):step P (lone fr cs w)=.ended o w':=by
 apply step_lone_ended;have a:Lq P true {frame:=fr,callers:=cs,status:=.running,dying:=I} w=.ended o w' es:=h;rw[a];rfl
def uH.on{s' s:LS}(h:uH P piece s' s):∃(n:Nat) (b:Nat->Question->Nat),s'.w.drawn=s.w.drawn+n/\∀a:Nat->Question->Nat,(∀k q,k<n->b (s.w.drawn+k) q=a (s.w.drawn+k) q)->∃es,Lq P true (G s.fr s.cs) (s.tp a).w=.go (G s'.fr s'.cs) (s'.tp a).w es:=by
 obtain⟨-, i,f,b,es,g⟩:=h;obtain⟨n,c,h2,d⟩:=i b _ _ _ _ g f;refine⟨n,b,c,λa j=>⟨es,?_⟩⟩;have:=d a s.w.drawn (λk q hk=>j k q hk);have e:=c;show Lq P true (G s.fr s.cs) (tp (tp s.w b s.w.drawn) a s.w.drawn)=.go (G s'.fr s'.cs) (tp s'.w a s'.w.drawn) es;rw[e];exact this
def kN{s:LS}(h:oz P piece Post s):Acc (uH P piece) s:=by
 refine Classical.byContradiction λB=>?_;obtain⟨f,t,l⟩:=Db B;have g:=λn=>(l n).on;let m:=λn=>(g n).choose
 let J:=λn=>(g n).choose_spec.choose
 have j:∀n,(f (n+1)).w.drawn=(f n).w.drawn+m n:=λn=>(g n).choose_spec.choose_spec.1;have E:∀(n:Nat) (a:Nat->Question->Nat),(∀k q,k<m n->J n ((f n).w.drawn+k) q=a ((f n).w.drawn+k) q)->∃es,Lq P true (G (f n).fr (f n).cs) ((f n).tp a).w=.go (G (f (n+1)).fr (f (n+1)).cs) ((f (n+1)).tp a).w es:=λn=>(g n).choose_spec.choose_spec.2;have mono:∀n k,(f n).w.drawn<=(f (n+k)).w.drawn:=by
  intro n k
  induction k with
  | zero=>exact qN _
  | succ k o=>have:=j (n+k);rw[<- Nat.add_assoc];omega
 let lim:Nat->Question->Nat:=λx q=>open Classical in if b:∃n,(f n).w.drawn<=x/\x<(f n).w.drawn+m n then J b.choose x q else 0
 have z:∀n x q,(f n).w.drawn<=x->x<(f n).w.drawn+m n->lim x q=J n x q:=by
  intro n x q i h2;have b:∃n,(f n).w.drawn<=x/\x<(f n).w.drawn+m n:=⟨n,i,h2⟩;have e:b.choose=n:=by
   have u:=b.choose_spec;generalize b.choose=n' at u;rcases Nat.lt_trichotomy n' n with A|rfl|A
   .have:=mono (n'+1) (n-(n'+1));rw[show n'+1+(n-(n'+1))=n by omega]at this;have:=j n';omega
   .rfl
   .have:=mono (n+1) (n'-(n+1));rw[show n+1+(n'-(n+1))=n' by omega]at this;have:=j n;omega
  show(open Classical in if b:∃n,(f n).w.drawn<=x/\x<(f n).w.drawn+m n then J b.choose x q else 0)=_;rw[dif_pos b,e]
 subst t;obtain⟨a,K,eI,p,C,v,-⟩:=h lim;have y:∀n,∃es,Lq P true (G (f n).fr (f n).cs) ((f n).tp a).w=.go (G (f (n+1)).fr (f (n+1)).cs) ((f (n+1)).tp a).w es:=by
  intro n;refine E n a λk q hk=>?_;have i:=mono 0 n;rw[kx]at i;rw[show(f n).w.drawn+k=(f 0).w.drawn+((f n).w.drawn-(f 0).w.drawn+k) by omega,K,show(f 0).w.drawn+((f n).w.drawn-(f 0).w.drawn+k)=(f n).w.drawn+k by omega];exact(z n _ q zz zz).symm
 have key:∀{m m':Machine},StepsIn (λ_=>True) P m m'->∀n,m=((f n).tp a).m->m'=lone eI [c0] p->False:=by
  intro m m' c
  induction c with
  | refl m=>
   intro n e d;rw[e]at d;obtain⟨e1,r,-⟩:=lD d;refine(l n).1 ?_;rw[show(f n).fr=eI from e1,show(f n).cs=[c0]from r];exact v
  | head _ c _ o=>
   intro n e d;obtain⟨es,w⟩:=y n;rw[e]at c;have:=kU w;rw[show step P ((f n).tp a).m=.next ((f (n+1)).tp a).m from this]at c;cases c;exact o (n+1) rfl d
 exact key C 0 rfl rfl
def oz.on{s s':LS}(h:oz P piece Post s)(f:uH P piece s' s):oz P piece Post s':=by
 intro y;obtain⟨n,J,r,w⟩:=f.on;obtain⟨a,l,eI,b,v,e,u⟩:=h (λx q=>if x<s.w.drawn+n then J x q else y x q);obtain⟨es,p⟩:=w a λk q hk=>by rw[l,qWB zz]
 refine⟨a,λk q=>?_,eI,b,?_,e,u⟩
 .have:=l (n+k) q;rw[<- Nat.add_assoc,<- r]at this;rw[this,qVB zz]
 .have t:=kU p;have c:StepsIn (λ_=>True) P (lone s.fr s.cs (s.tp a).w) (lone eI [c0] b):=v;generalize g:lone s.fr s.cs (s.tp a).w=m at c;generalize i:lone eI [c0] b=m' at c
  cases c with
  | refl=>
   rw[<- g]at i;obtain⟨e1,o,-⟩:=lD i;have j:=f.1;rw[<- e1,<- o]at j;exact mi e j
  | head _ d h2=>
   rw[<- g,t]at d;cases d;exact h2
variable{W1 w0:H}{eI:Kf}{ρ0:Ren}{V0 O0:Nat->Prop}{s:LS}
section
variable{ds:List Deferred}{co:List Kf×CallKind}
def R6{I:Machine->Prop}{m':Machine}(a:StepsIn I P (lone c0 [] W) m'){fw:List Kf}(e:m'=lone eI fw W1):fw=[]:=by
 cases a with
 | refl=>exact(lD e).2.1.symm
 | head _ h _=>
  obtain⟨y,this⟩:∃y,step P (lone c0 [] W)=.ended y W:=⟨_,nw rfl⟩;rw[this]at h;cases h
def tI{I:Machine->Prop}{m m':Machine}(t:StepsIn I P m m'):∀{fr eI:Kf} {W W1:H},m=lone fr [c0] W->fr.mode=.returning->fr.kind=.normal->(∀d∈fr.defers,∃r,d.target=.collected r)->W.fJ->m'=lone eI [c0] W1->
  eI.mode=.returning/\(fr.defers=[]->eI=fr/\W1=W):=by
 induction t with
 | refl m=>
  intro fr eI W W1 e i hk j k f;rw[e]at f;obtain⟨rfl, -, rfl⟩:=lD f;exact⟨i,λ_=>⟨rfl,rfl⟩⟩
 | @head m z m2 _ c u w=>
  intro fr eI W W1 e i hk j k f;subst e;have e1:Lq P true (G fr [c0]) W=unwind P true fr [c0] Fl W:=by simp only[Lq,G,i]
  cases g:fr.defers with
  | cons d l=>
   obtain⟨r,b⟩:=j d (by rw[g];simp);obtain⟨A,ar⟩:=d;dsimp only at b;subst b;rcases b:(Instr.takeDeferred r).runT P W #[]with⟨n,es⟩;have q:=E8 (j9 (P:=P) r) W #[] k;rw[b]at q
   cases n with
   | halt x a=>
    have:Lq P true (G fr [c0]) W=.ended (.stuck "the deferred calls of a range-over-func loop have been taken" (fr.pos P)) a (seen P fr.fn es++#[]):=by
     rw[e1];simp only[unwind,g,b];rfl
    rw[nw this]at c;cases c
   | ok x a=>
    obtain rfl:=mF k b;have:Lq P true (G fr [c0]) W=.go (G {fr with defers:=l} [c0]) a (seen P fr.fn es++#[]):=by
     rw[e1];simp only[unwind,g,b];rfl
    rw[kU this]at c;cases c;exact⟨(w (fr:= {fr with defers:=l}) rfl i hk (λd s=>j d (by rw[g];exact List.mem_cons_of_mem _ s)) q.1 f).1,λh=>by cases h⟩
  | nil=>
   have key:(∃o a es,Lq P true (G fr [c0]) W=.ended o a es)\/∃a es,Lq P true (G fr [c0]) W=.go (G c0 []) a es:=by
    have p:∀v W,doReturn P true fr [c0] Fl v W=.go (G c0 []) W #[]:=λv W=>by simp only[doReturn,hk];rfl
    rw[e1];simp only[unwind,g,i]
    cases y:P.funcs[fr.fn]? with
    | none=>exact .inr ⟨_,_,p _ _⟩
    | some fn=>
     dsimp only;rcases b:(results fn fr.tmps).runT P W #[]with⟨n,es⟩
     cases n with
     | halt x a=>cases x<;>exact .inl ⟨_,_,_,rfl⟩
     | ok v a=>
      dsimp only;rw[p];exact .inr ⟨_,_,rfl⟩
   rcases key with⟨o,a,es,h⟩|⟨a,es,h⟩
   .rw[nw h]at c;cases c
   .rw[kU h]at c;cases c;cases R6 u f
def FP{I:Machine->Prop}(a:StepsIn I P (lone fr [c0] W) (lone eI [c0] W1))(i:fr.mode=.run)(l:fr.todo=[])(j:fr.roundOf=Fl)(hk:fr.kind=.normal)
  (h:∀d∈fr.defers,∃r,d.target=.collected r)(k:W.fJ)(g:eI.mode=.run):eI=fr/\W1=W:=by
 generalize b:lone fr [c0] W=m at a;generalize c:lone eI [c0] W1=m' at a
 cases a with
 | refl=>
  obtain⟨e1, -, f⟩:=lD (b.tn c.symm);exact⟨e1.symm,f.symm⟩
 | head _ e n=>
  have:Lq P true (G fr [c0]) W=.go (G {fr with mode:=.returning} [c0]) W #[]:=by
   simp only[Lq,G,i,Lq.exec,l,j];rfl
  rw[<- b,kU this]at e;cases e;have:=(tI n rfl rfl hk h k c.symm).1;rw[g]at this;cases this
def Mem.rely(h:Mem T P Z N W w)(g:∀b a s,Z b=Y (a,s)->V a)(d:aH V w bj):Mem T P Z N W bj:=
 ⟨h.dom,λb a s i=>qP (h.cod b a s i) d.size,h.hN,h.sep,λb o j=>by
  obtain⟨a,s,k,c,h2,e,f⟩:=h.hr b o j;exact⟨a,s,k,c,(d.keep a (g _ _ _ c)).tn h2,e,f⟩,h.tab⟩
def Mem.tp(h:Mem T P Z N W w)(a:Nat->Question->Nat)(d:Nat):Mem T P Z N (Co.tp W a d) w:=⟨h.dom,h.cod,h.hN,h.sep,h.hr,h.tab⟩
def Mem.Xw(h:Mem T P Z N W w)(a:Nat->Question->Nat)(d:Nat):Mem T P Z N W (Co.tp w a d):=⟨h.dom,h.cod,h.hN,h.sep,h.hr,h.tab⟩
structure ir(T:P3)(P:Ps)(N:Nat)(V0 O0:Nat->Prop)(w0:H)(ρ0 Z:Ren)(W w:H)(V O:Nat->Prop):Prop where
 mem:Mem T P Z N W w
 le:ρ0.le Z
 see:∀b b' s,Z b=Y (b',s)->V b'
 own:∀b b' s,N<=b->Z b=Y (b',s)->O b'/\w0.heap.size<=b'
 hV:∀b,V b↔V0 b\/(V b/\O b/\w0.heap.size<=b)
 hO:∀b,O b↔O0 b\/(V b/\O b/\w0.heap.size<=b)
 cX:∀b,V0 b->b<w0.heap.size
 size:w0.heap.size<=w.heap.size
 tape:w.tape=w0.tape
 os:w.os=w0.os
 output:w.output=w0.output
 keep:∀b,V0 b->w.heap[b]?=w0.heap[b]?
 vb:∀b,V b->b<w.heap.size
def ir.tp(h:ir T P N V0 O0 w0 ρ0 Z W w V O)(a:Nat->Question->Nat)(d:Nat):ir T P N V0 O0 w0 ρ0 Z (Co.tp W a d) w V O:=
 ⟨h.mem.tp _ _,h.le,h.see,h.own,h.hV,h.hO,h.cX,h.size,h.tape,h.os,h.output,h.keep,h.vb⟩
def ir.rely(h:ir T P N V0 O0 w0 ρ0 Z W w V O)(a:aH V w bj):ir T P N V0 O0 w0 ρ0 Z W bj V O:=
 ⟨h.mem.rely h.see a,h.le,h.see,h.own,h.hV,h.hO,h.cX,qO h.size a.size,a.tape.tn h.tape,a.os.tn h.os,a.output.tn h.output,λb c=>(a.keep b ((h.hV b).2 (.inl c))).tn (h.keep b c),λb c=>qP (h.vb b c) a.size⟩
def ir.next{w0 bj dv:H}{ρ0 Z ρ':Ren}{W W2:H}{eJ:Array Event}(d:ir T P N V0 O0 w0 ρ0 Z W bj V O)(hle:Z.le ρ')(v:Mem T P ρ' N W2 dv)(g:Does ρ' N W bj W2 dv eJ):
  ∃V' i,IT V O bj dv eJ V' i/\ir T P N V0 O0 w0 ρ0 ρ' W2 dv V' i:=by
 have G:=g.frm.size';have J:=g.frm.size;have p:(bj:Nat)<=dv:=zz;have old:∀b c x,ρ' b=Y (c,x)->c<bj.heap.size->Z b=Y (c,x):=by
  intro b c x f q;have z:=g.fresh b c x f q;obtain⟨E,L,K,u,-⟩:=d.mem.hr b _ (fi z);have:=hle.at_ _ _ u;rw[f]at this;cases this;exact u
 have w:∀b c x,ρ' b=Y (c,x)->Z b=Y (c,x)\/(bj.heap.size<=c/\c<dv.heap.size):=by
  intro b c x f;by_cases q:c<bj.heap.size
  .exact .inl (old b c x f q)
  .exact .inr ⟨zz,v.cod _ _ _ f⟩
 let V':Nat->Prop:=λb=>V b\/(bj.heap.size<=b/\b<dv.heap.size)
 let i:Nat->Prop:=λb=>O b\/(bj.heap.size<=b/\b<dv.heap.size)
 have t:=λb c x f=>(w b c x f).imp (d.see b c x) id;have m:∀b c x,N<=b->ρ' b=Y (c,x)->i c/\w0.heap.size<=c:=λb c x k f=>by
  rcases w b c x f with h|h
  .have:=d.own b c x k h;exact⟨.inl this.1,this.2⟩
  .exact⟨.inr h,qO d.size h.1⟩
 have B:∀b,b<bj.heap.size->¬O b->dv.heap[b]?=bj.heap[b]?:=λb f y=>g.frm.eff b f λb0 x k o=>y (d.own b0 b x k (old b0 b x o f)).1;refine⟨V',i,⟨g.frm.tape',g.frm.os,g.frm.output,p,B,λb=>il,λb=>il,λe A=>?_⟩,⟨v,d.le.tn hle,t,m,λb=>?_,λb=>?_,d.cX,qO d.size p,g.frm.tape'.tn d.tape,g.frm.os.tn d.os,g.frm.output.tn d.output,λb f=>?_,λb f=>f.elim (λh=>qP (d.vb b h) p) (·.2)⟩⟩
 .have:=g.evs e A;obtain⟨C,wr,Q⟩:=e
  cases C with
  | cell a=>
   obtain⟨l,h2,b,x,j,n⟩:=this;exact⟨l,t _ _ _ j,λs=>(m _ _ _ (n s) j).1⟩
  | obj r=>
   obtain⟨l,b,j,n⟩:=this;exact⟨l,t _ _ _ j,λs=>(m _ _ _ (n s) j).1⟩
  | _=>exact this
 .constructor
  .rintro(h|h)
   .exact((d.hV b).1 h).imp id λx=>⟨.inl x.1,.inl x.2.1,x.2.2⟩
   .exact .inr ⟨.inr h,.inr h,qO d.size h.1⟩
  .rintro(h|h)
   .exact .inl ((d.hV b).2 (.inl h))
   .exact h.1
 .constructor
  .rintro(h|h)
   .exact((d.hO b).1 h).imp id λx=>⟨.inl x.1,.inl x.2.1,x.2.2⟩
   .exact .inr ⟨.inr h,.inr h,qO d.size h.1⟩
  .rintro(h|h)
   .exact .inl ((d.hO b).2 (.inl h))
   .exact h.2.1
 .refine(g.frm.eff b (qP (d.cX b f) d.size) λb0 x k o=>?_).tn (d.keep b f);have l:=(m b0 b x k o).2;have h2:=d.cX b f;omega
structure Nh(T:P3)(P:Ps)(N:Nat)(k:List Item)(ds:List Deferred)(co:List Kf×CallKind)(V0 O0:Nat->Prop)(w0:H)(ρ0 Z:Ren)(s:LS)(da:Kf)(dp:List Kf)(w:H)(V O:Nat->Prop):Prop where
 m:ir T P N V0 O0 w0 ρ0 Z s.w w V O
 stk:jA T P Z k ds co s.fr s.cs da dp
def Nh.tp(h:Nh T P N k ds co V0 O0 w0 ρ0 Z s da dp w V O)(a:Nat->Question->Nat):Nh T P N k ds co V0 O0 w0 ρ0 Z (s.tp a) da dp w V O:=
 ⟨h.m.tp _ _,h.stk⟩
def Nh.rely(h:Nh T P N k ds co V0 O0 w0 ρ0 Z s da dp w V O)(a:aH V w bj):Nh T P N k ds co V0 O0 w0 ρ0 Z s da dp bj V O:=
 ⟨h.m.rely a,h.stk⟩
def KT{I:Machine->Prop}{why:String}(a:StepsIn I P (lone fr [c0] W) (lone eI [c0] W1))(f:fr.mode=.run)(g:fr.todo=[.code (.refuse why)]):eI=fr/\W1=W:=by
 generalize b:lone fr [c0] W=m at a;generalize d:lone eI [c0] W1=m' at a
 cases a with
 | refl=>
  obtain⟨e1, -, c⟩:=lD (d.tn b.symm);exact⟨e1,c⟩
 | head _ h2 h=>
  obtain⟨y,e⟩:∃y,Lq P true (G fr [c0]) W=.ended y W #[]:=⟨_,by simp only[Lq,G,f,Lq.exec,g];rfl⟩;have:=nw e;rw[b,h2]at this;cases this
def lift{main piece:Bool}{Post:Kf->H->Prop}{Stop:(Nat->Prop)->(Nat->Prop)->QP->H->Prop}(R:∀f,T.has f=true->dX T P f=true)(hk:piece=false->k=[])
  (b2:∀Z eI W1 da w V O,Nh T P N k ds co V0 O0 w0 ρ0 Z ⟨eI,[c0],W1⟩ da co.1 w V O->Ts piece eI [c0]->Post eI W1->Stop V O (G da co.1) w)(a8:Acc (uH P piece) s):
  ∀{Z:Ren} {da:Kf} {dp:List Kf} {w:H} {V O:Nat->Prop},Nh T P N k ds co V0 O0 w0 ρ0 Z s da dp w V O->oz P piece Post s->WalkE P main Stop V O (G da dp) w:=by
 induction a8 with
 | intro s _ c2=>
  intro Z da dp w V O C B;by_cases c:Ts piece s.fr s.cs
  ·
   refine WalkE.stop λbj y=>?_;obtain⟨a, -, eI,W1,l,d,a3⟩:=B s.w.tape;have b:=(C.rely y).tp a;have E:=c.1;obtain⟨k0,A,g,a9, -,-⟩:=b.stk.top;have S:=(a9 E).2.2;have a1:=b.stk.collected.choose_spec.2.1;have p:StepsIn (λ_=>True) P (lone s.fr [c0] (s.tp a).w) (lone eI [c0] W1):=by
    have e:=l;rw[show(s.tp a).m=lone s.fr [c0] (s.tp a).w from by show lone s.fr s.cs (s.tp a).w=_;rw[E]]at e;exact e
   have b1:eI=s.fr/\W1=(s.tp a).w:=by
    cases piece with
    | true=>
     rcases c.2.2 with J|J
     .exact FP p c.2.1 J S.2.1 g.early.1 a1 b.m.mem.fJ d.2.1
     .exact KT p c.2.1 J
    | false=>exact(tI p rfl c.2.1 g.early.1 a1 b.m.mem.fJ rfl).2 c.2.2
   obtain⟨rfl,rfl⟩:=b1;have e1:s.tp a=⟨s.fr,[c0],(s.tp a).w⟩:=by show LS.mk s.fr s.cs (s.tp a).w=_;rw[E]
   have v:=S.1;rw[e1,v]at b;rw[v];exact b2 Z _ _ da bj V O b d a3
  .refine WalkE.step rfl λbj y=>?_;obtain⟨a,c1,eI,W1,l,d,a3⟩:=B (λx q=>bj.tape (bj.drawn+(x-s.w.drawn)) q);have b:=(C.rely y).tp a;have b0:∀n,zB (s.tp a).w.tape (s.tp a).w.drawn bj.tape bj.drawn n:=λn k q _=>by
    show a (s.w.drawn+k) q=_;rw[c1,show s.w.drawn+k-s.w.drawn=k by omega]
   have b7:=NO (main:=main) b.m.mem b.stk R b0 (λi j b'=>by
    cases piece with
    | true=>exact mi ⟨i,j,.inl b'⟩ c
    | false=>exact hk rfl) (λi j t=>by
    cases piece with
    | false=>exact c ⟨i,j,t⟩
    | true=>
     have p:StepsIn (λ_=>True) P (lone s.fr [c0] (s.tp a).w) (lone eI [c0] W1):=by
      have e:=l;rw[show(s.tp a).m=lone s.fr [c0] (s.tp a).w from by show lone s.fr s.cs (s.tp a).w=_;rw[show s.cs=[c0]from i]]at e;exact e
     obtain⟨k0,A,g,-⟩:=b.stk.top;have:=(tI p rfl j g.early.1 b.stk.collected.choose_spec.2.1 b.m.mem.fJ rfl).1;rw[d.2.1]at this;cases this)
   have b6:∀ch,eI.mode≠.panicking ch:=λch h=>by
    cases piece with
    | true=>rw[d.2.1]at h;cases h
    | false=>rw[d.2.1]at h;cases h
   have first:∀{K:Stepped},step P (s.tp a).m=K->∃m2,K=.next m2/\StepsIn (λ_=>True) P m2 (lone eI [c0] W1):=by
    intro K a2;generalize b3:(s.tp a).m=m at l a2;generalize b4:lone eI [c0] W1=m' at l
    cases l with
    | refl=>
     obtain⟨e1,v,-⟩:=lD (b3.tn b4.symm);refine mi ?_ c;rw[show s.fr=eI from e1,show s.cs=[c0]from v];exact d
    | head _ h1 h2=>exact⟨_,a2.symm.tn h1,h2⟩
   rcases b7 with⟨o,u,es,h⟩|⟨r,z,u,es,h,t⟩|⟨r,z,u,es,h,c5,c4,c3,a5,a6,hle,h',a4,b5,a'⟩
   .obtain⟨m2,e,-⟩:=first (nw h);cases e
   .obtain⟨m2,e,b9⟩:=first (kU h);cases e;exact(FO b9 rfl t rfl b6).elim
   .obtain⟨V',O',a0,a7⟩:=b.m.next hle b5 a';have b8:s.cs=[c0]->s.fr.mode=.returning->s.fr.defers≠[]:=λi j t=>by
     cases piece with
     | false=>exact c ⟨i,j,t⟩
     | true=>
      have p:StepsIn (λ_=>True) P (lone s.fr [c0] (s.tp a).w) (lone eI [c0] W1):=by
       have e:=l;rw[show(s.tp a).m=lone s.fr [c0] (s.tp a).w from by show lone s.fr s.cs (s.tp a).w=_;rw[show s.cs=[c0]from i]]at e;exact e
      obtain⟨k0,A,g,-⟩:=b.stk.top;have:=(tI p rfl j g.early.1 b.stk.collected.choose_spec.2.1 b.m.mem.fJ rfl).1;rw[d.2.1]at this;cases this
    have U:uH P piece ⟨r,z,u⟩ s:=by
     refine⟨c,λL=>?_,λch W=>?_,a,es,h⟩
     .have Q:=(C.rely y).tp L;exact KS (w:=Co.tp bj L s.w.drawn) (Q.m.mem.Xw L s.w.drawn) Q.stk R (λn k q _=>rfl) b8
     .obtain⟨k0,A,g,-⟩:=a4.top;rcases g.live with h|h
      .rw[show r.mode=_ from W]at h;cases h
      .rw[show r.mode=_ from W]at h;cases h.1
    exact⟨_,a5,a6,V',O',h',⟨_,_,rfl⟩,a0,c2 ⟨r,z,u⟩ U ⟨a7,a4⟩ (B.on U)⟩
end
variable{Q0 Q1:Act->H->Prop}{a:Act}{x y:Ly}{Stop':(Nat->Prop)->(Nat->Prop)->QP->H->Prop}{U R:Nat->Prop}{b0:Nat}{e0:Lk}
section
def WalkE.bind{V O:Nat->Prop}{g:QP}(h:WalkE P main Stop V O g w)(hk:∀V O g w,Stop V O g w->WalkE P main Stop' V O g w):WalkE P main Stop' V O g w:=by
 obtain⟨r,h⟩:=h
 induction r generalizing V O g w with
 | mk l f k=>
  rcases h with h|⟨j,h⟩
  .exact hk _ _ _ _ (h w (.refl V w))
  .refine WalkE.step j λbj e=>?_;obtain⟨g',w',es,V',a,i,c,b,h2,d⟩:=h bj e;exact⟨g',w',es,V',a,c,b,h2,k i d⟩
variable{hg:∀g,T.glob g=true->U g}
def bs(a:CallKind)(f:ba):Kf:= { (default:Kf)with fn:=f,kind:=a}
def nA(P:Ps)(c:Ly)(Q0 Q1:Act->H->Prop)(a:Act)(w:H):Prop:=
 ∀(b:Kf) (cs:List Kf),∃d w',(Q0 d w'/\Steps P (lone (b.at a [.code c]) cs w) (lone (b.at d []) cs w'))\/(Q1 d w'/\Steps P (lone (b.at a [.code c]) cs w) (lone (b.at d [.code (.refuse "cut")]) cs w'))
def Dc(h:Q1 a w):nA P (.refuse "cut") Q0 Q1 a w:=λ_ _=>⟨a,w,.inr ⟨h,.refl _ _⟩⟩
def R7{c:Ly}(h:c.wp P (λe a w=>e=.normal/\Q0 a w) a w):nA P c Q0 Q1 a w:=λb cs=>by
 obtain⟨e,d,w',⟨rfl,g⟩,f⟩:=h b [] cs;exact⟨d,w',.inl ⟨g,f⟩⟩
def mG(h:x.wp P (λe a w=>e=.normal/\nA P y Q0 Q1 a w) a w):nA P (.seq x y) Q0 Q1 a w:=λb cs=>by
 obtain⟨e,f,bj,⟨rfl,j⟩,i⟩:=h b [.code y] cs;have c:Steps P (lone (b.at a [.code (.seq x y)]) cs w) (lone (b.at f [.code y]) cs bj):=Steps.tn (.one step_seq) i;obtain⟨d,w',g⟩:=j b cs;exact⟨d,w',g.imp (λh=>⟨h.1,c.tn h.2⟩) (λh=>⟨h.1,c.tn h.2⟩)⟩
def NP{c:ae}{t:Bool}(d:a.eval c=.bool t)(h:nA P (if t then x else y) Q0 Q1 a w):nA P (.cond c x y) Q0 Q1 a w:=λb cs=>by
 obtain⟨e,w',f⟩:=h b cs;exact⟨e,w',f.imp (λh=>⟨h.1,Steps.tn (.one (step_cond d)) h.2⟩) (λh=>⟨h.1,Steps.tn (.one (step_cond d)) h.2⟩)⟩
end
variable{b i k:Nat}{α:Type}{c tm0 tm:Array M}{v:M}{f:ba}
section
def jU(v:M):Prop:=∀Z:Ren,VR Z v v
def oB(w:H)(b:Nat):Prop:=∃c e z,w.heap[b]?=Y (.cells c e z)
def IsMap(T:P3)(w:H)(b:Nat):Prop:=T.rdm=true/\∃es k,w.heap[b]?=Y (.map es k)/\∀x∈es,jU x.key/\jU x.val
def Shown(T:P3)(V:Nat->Prop)(w:H)(b:Nat):Prop:=V b/\(oB w b\/IsMap T w b)
def Flat(T:P3)(V:Nat->Prop)(w:H)(v:M):Prop:=
 jU v\/(∃a n c,v=.slice (Y a) n c/\a.spot=I/\Shown T V w a.block)\/(∃r,v=.map (Y r)/\Shown T V w r)\/∃f,v=.func (.func f) #[] #[]/\T.has f=true/\T.ret f=.val
def bV(T:P3)(V:Nat->Prop)(w:H)(b k:Nat):Prop:=V b/\∃c e z,w.heap[b]?=Y (.cells c e z)/\k<=c.size/\∀j v,j<k->c[j]?=Y v->Flat T V w v
open Classical in
noncomputable def top(T:P3)(V:Nat->Prop)(w:H)(c:Array M):Array M:=(c.toList.takeWhile λv=>decide (Flat T V w v)).toArray
open Classical in
noncomputable def gw(T:P3)(V:Nat->Prop)(e0:Lk)(w:H):H:=
 {w with heap:=w.heap.mapIdx λb o=>if Shown T V w b then(match o with|.cells c e _=>.cells (top T V w c) e (0,(top T V w c).size)|o=>o)else .cells #[] e0 (0,0)}
structure Base(T:P3)(V:Nat->Prop)(w:H)(e0:Lk):Prop where
 v0:V 0
 cells:∃c z,w.heap[0]?=Y (.cells c e0 z)
 glob:∀g,T.glob g=true->g=0
def Base.shown(h:Base T V w e0):Shown T V w 0:=⟨h.v0,.inl (let⟨c,z,x⟩:=h.cells;⟨c,e0,z,x⟩)⟩
open Classical in
noncomputable def gr(h:Base T V w e0):Ren:=
 {tO:=λb=>if Shown T V w b then Y (b,0)else if b<w.heap.size then Y (0,0)else I
  cls:=λ_=>false
  tab:=T
  glob:=λg hg=>⟨by rw[qWB (by rw[h.glob g hg];exact h.shown)],rfl⟩}
variable{hB:Base T V w e0}
def Shown.lt(h:Shown T V w b):b<w.heap.size:=by
 rcases h.2 with⟨c,e,z,h⟩|⟨-, es,k,h,-⟩<;>exact(ec.1 h).1
def mH(h:Shown T V w b):(gr hB) b=Y (b,0):=by
 show(open Classical in if Shown T V w b then Y (b,0)else _)=_;rw[qWB h]
def qb{x:Nat×Nat}(e:(gr hB) b=Y x):b<w.heap.size/\((x=(b,0)/\Shown T V w b)\/(x=(0,0)/\¬Shown T V w b)):=by
 have a:(open Classical in if Shown T V w b then Y (b,0)else if b<w.heap.size then Y (0,0)else I)=Y x:=e;by_cases c:Shown T V w b
 .rw[qWB c]at a;cases a;exact⟨c.lt,.inl ⟨rfl,c⟩⟩
 .rw[qVB c]at a;by_cases d:b<w.heap.size
  .rw[qWB d]at a;cases a;exact⟨d,.inr ⟨rfl,c⟩⟩
  .rw[qVB d]at a;cases a
def dW:(gw T V e0 w).heap.size=w.heap.size:=by simp[gw]
open Classical in
theorem NQ(h:Shown T V w b):(gw T V e0 w).heap[b]?=(w.heap[b]?).map λo=>match o with|.cells c e _=>.cells (top T V w c) e (0,(top T V w c).size)|o=>o:=by
 simp only[gw,Array.getElem?_mapIdx]
 cases w.heap[b]? with
 | none=>rfl
 | some o=>simp only[ky,qWB h]
def Wu(h:¬Shown T V w b):(gw T V e0 w).heap[b]?=(w.heap[b]?).map λ_=>.cells #[] e0 (0,0):=by
 simp only[gw,Array.getElem?_mapIdx]
 cases w.heap[b]? with
 | none=>rfl
 | some o=>simp only[ky,qVB h]
def Dd{p:α->Bool}:∀{l:List α} {i:Nat} {v:α},(l.takeWhile p)[i]?=Y v->l[i]?=Y v/\p v=true/\∀j x,j<=i->l[j]?=Y x->p x=true
 | [],_,_,h=>by simp at h
 | a::l,i,v,h=>by
  rw[List.takeWhile_cons]at h;by_cases c:p a=true
  .rw[qWB c]at h
   cases i with
   | zero=>
    simp only[zQ,fg]at h;subst h;refine⟨rfl,c,λj x f b=>?_⟩;obtain rfl:j=0:=zz;simp only[zQ,fg]at b;subst b;exact c
   | succ i=>
    obtain⟨d,h2,e⟩:=Dd (by simpa using h);refine⟨by simpa using d,h2,λj x f b=>?_⟩
    cases j with
    | zero=>
     simp only[zQ,fg]at b;subst b;exact c
    | succ j=>exact e j x zz (by simpa using b)
  .rw[qVB c]at h;simp at h
def De{p:α->Bool}:∀{l:List α} {k:Nat},(∀j x,j<k->l[j]?=Y x->p x=true)->∀i,i<k->(l.takeWhile p)[i]?=l[i]?
 | [],_,_,_,_=>by simp
 | a::l,0,_,_,hi=>mi hi (Nat.not_lt_zero _)
 | a::l,k+1,h,i,hi=>by
  rw[List.takeWhile_cons,qWB (h 0 a zz rfl)]
  cases i with
  | zero=>rfl
  | succ i=>simpa using De (l:=l) (k:=k) (λj x c b=>h (j+1) x zz (by simpa using b)) i zz
open Classical in
theorem IU(h:(top T V w c)[i]?=Y v):c[i]?=Y v/\Flat T V w v/\∀j x,j<=i->c[j]?=Y x->Flat T V w x:=by
 have a:(c.toList.takeWhile λv=>decide (Flat T V w v))[i]?=Y v:=by simpa[top]using h
 obtain⟨b,h2,d⟩:=Dd a;exact⟨by simpa using b,of_decide_eq_true h2,λj x e f=>of_decide_eq_true (d j x e (by simpa using f))⟩
open Classical in
theorem R8(h:∀j v,j<k->c[j]?=Y v->Flat T V w v)(hi:i<k):(top T V w c)[i]?=c[i]?:=by
 have:=De (l:=c.toList) (λj x a b=>decide_eq_true (h j x a (by simpa using b))) i hi;simpa[top]using this
def bV.shown(h:bV T V w b k):Shown T V w b:=⟨h.1,let⟨_,c,e,z,x,_⟩:=h;.inl ⟨c,e,z,x⟩⟩
def dO(h:bV T V w b k)(hi:i<k):(gw T V e0 w).cell? (b,i)=w (b,i):=by
 obtain⟨d,c,e,z,a,hk,f⟩:=h;unfold H.cell?;dsimp only;rw[NQ ⟨d,.inl ⟨c,e,z,a⟩⟩,a];simp only[ky];exact R8 f hi
def Wv{r:Nat}{es:Array MapEntry}(h:Shown T V w r)(a:w.heap[r]?=Y (.map es k)):(gw T V e0 w).heap[r]?=Y (.map es k):=by
 rw[NQ h,a];rfl
def jg(h:Flat T V w v):VR (gr hB) v v:=by
 rcases h with h|⟨a,n,c,rfl,d,b⟩|⟨r,rfl,b⟩|⟨f,rfl,e,h2⟩
 .exact h _
 .exact .slice n c ⟨d,d,0,mH b,rfl,rfl⟩
 .exact .map (mH b)
 .exact .func (.func f e h2) rfl (λi x y b=>by simp at b) rfl (λi x y b=>by simp at b)
def NR:Mem T P (gr hB) w (gw T V e0 w) w:=by
 obtain⟨c0,C,j⟩:=hB.cells;have p:=(ec.1 j).1;refine⟨λb x g=>?_,λb m s g=>?_,by rw[dW];exact qN _,λb m s A g=>?_,λb o a=>?_,rfl⟩
 .rw[dW];exact(qb g).1
 .rcases qb g with⟨n,⟨h,-⟩|⟨h,-⟩⟩
  .cases h;exact n
  .cases h;exact p
 .have:=(qb g).1;omega
 .by_cases f:Shown T V w b
  .rw[NQ f]at a;rcases f.2 with⟨c,e,z,d⟩|⟨t,es,k,d,u⟩
   .rw[d]at a;simp only[ky,fg]at a;subst a;refine⟨b,0,_,mH f,d,.plain (.cells (λi v hi=>⟨v,(IU hi).1,jg (IU hi).2.1⟩) λi hi _ _=>⟨qT _,hi⟩),λ_=>.inl ⟨_,e,_,rfl,qN _⟩⟩
   .rw[d]at a;simp only[ky,fg]at a;subst a;refine⟨b,0,_,mH f,d,.plain (.map rfl λi x y d l=>?_),λ_=>.inr ⟨t,es,k,rfl⟩⟩;rw[d]at l;cases l;have:=u x (kq d);exact⟨this.1 _,this.2 _,rfl⟩
  .rw[Wu f]at a;obtain⟨B,r,rfl⟩:=Option.map_eq_some_iff.1 a;have q:=(ec.1 r).1;refine⟨0,0,_,?_,j,.plain (.cells (λi v hi=>by simp at hi) λi hi=>by simp at hi),λ_=>.inl ⟨#[],e0,0,rfl,qN _⟩⟩;show(open Classical in if Shown T V w b then Y (b,0)else if b<w.heap.size then Y (0,0)else I)=_;rw[qVB f,qWB q]
def Bi{O:Nat->Prop}(c:∀b,V b->b<w.heap.size):ir T P w V O w (gr hB) (gr hB) (gw T V e0 w) w V O:=by
 have d:=NR (P:=P) (hB:=hB);refine⟨d,.refl _,λb e s a=>?_,λb e s g a=>?_,λb=>⟨.inl,λh=>h.elim id (·.1)⟩,λb=>⟨.inl,λh=>h.elim id (·.2.1)⟩,c,qN _,rfl,rfl,rfl,λ_ _=>rfl,c⟩
 .rcases qb a with⟨-, ⟨h,f⟩|⟨h,-⟩⟩
  .cases h;exact f.1
  .cases h;exact hB.v0
 .have:=d.dom _ _ a;rw[dW]at this;omega
def IV{args:Array M}{Rp:Ending->H->Prop}{c:Kf}(A:∀f,T.has f=true->dX T P f=true)(a':T.has f=true)
  (a4:∀b,V b->b<w.heap.size)(a2:KR (T.kind f) (gr hB) args args)
  (a5:∀o,PH P f args (tp (gw T V e0 w) o w.drawn) Rp)(U:∀e W,Rp e W->∃v,e=.returned v)
  (S:∀Z v a v' bj y O,Rp (.returned v) a->dM Z (T.ret f) v v'->ir T P w V O0 w (gr hB) Z a bj y O->WalkE P main Stop y O (G (c.finish v') cs) bj):
  WalkE P main Stop V O0 (G (Kf.enter P f args .normal) (c::cs)) w:=by
 let Post:Kf->H->Prop:=λfr W=>fr.fn=f/\∃v,Rp (.returned v) W/\fr.leaving P W (.returned v)
 let s:LS:=⟨Kf.enter P f args .normal,[c0],gw T V e0 w⟩
 have B:oz P false Post s:=by
  intro o;obtain⟨e,a,fr,m,b0,l,hl⟩:=a5 o [c0];obtain⟨v,rfl⟩:=U _ _ m;exact⟨o,λ_ _=>rfl,fr,a,steps_iff.1 b0,⟨rfl,hl.1,hl.2.1⟩,l,v,m,hl⟩
 have C:=A f a';have i:Nh T P w [] [] (c::cs,.normal) V O0 w (gr hB) (gr hB) s (Kf.enter P f args .normal) (c::cs) w V O0:=
  ⟨Bi a4,.bottom (co:=(c::cs,.normal)) (uG C a2) (by simp[s,Kf.enter]) (by simp[Kf.enter])⟩
 refine(lift (Stop:=λV O g bj=>WalkE P main Stop V O g bj) A (λ_=>rfl) (λZ eI a da bj V O i c4 b6=>?_) (kN B) i B).bind λV O g w h=>h;obtain⟨l,v,m,b5,a7,c5,fn,E,b9⟩:=b6;refine WalkE.step rfl λp b8=>?_;obtain⟨k0,c3,j,a3,-⟩:=i.stk.top;obtain⟨b2,a8, -, c6,b3⟩:=a3 rfl;subst b2 a8;have J:=i.m.rely b8;have a0:dX T P eI.fn=true:=by rw[l];exact C
 rcases L:(results fn eI.tmps).runT P a #[]with⟨r,es⟩;have b7:r=.ok v a:=by
  have:=Sem.runT_fst P (results fn eI.tmps) a #[];rw[L]at this;exact this.tn b9
 subst b7;obtain⟨n,v',d,z,hle,b',c2,b4,u⟩:=J.mem.step (R:=λn=>dM n (T.ret eI.fn)) (λn hle c7 a1=>Iw a1 E a0 (j.tmps.mono hle)) L (λk q hk=>by have h:k<a.drawn-a.drawn:=hk;omega);have b1:=j.fn;have K:da.mode=.returning:=j.mode.tn b5;have a6:da.defers=[]:=by
  obtain⟨t,N,h2⟩:=j.defers;rw[a7]at h2;cases h2;rw[N];rfl
 have c1:Lq P main (G da (c::cs)) p=.go (G (c.finish v') cs) d (seen P da.fn z++#[]):=by
  have e1:Lq P main (G da (c::cs)) p=unwind P main da (c::cs) I p:=by simp only[Lq,G,K]
  rw[e1];simp only[unwind,a6,K,b1,E,b'];have:doReturn P main da (c::cs) I v' d=.go (G (c.finish v') cs) d #[]:=by
   have hk:da.kind=.normal:=b3;simp[doReturn,hk,G]
  rw[this];rfl
 obtain⟨V',x,a9,Q⟩:=J.next hle b4 (Does.mk u.frm (es:=seen P da.fn z++#[]) (by simpa using gQ u.evs) u.fresh);exact⟨_,d,_,V',x,c1,⟨_,_,rfl⟩,a9,S n v a v' d V' x m (by rw[<- l];exact c2) Q⟩
def qc{kd:CallKind}{c:Ly}{df:List Deferred}{k:List Item}{Q:Exit->Act->H->Prop}{Q':Array M->H->Prop}
  (a4:∀f,T.has f=true->dX T P f=true)(a8:ez T P (T.kind f) c=true)(b1:kd≠.early)
  (a7:∀b,V b->b<w.heap.size)(b5:KR (T.kind f) (gr hB) tm0 tm)
  (b6:∀l,c.wp P Q ⟨tm0,[]⟩ (tp (gw T V e0 w) l w.drawn))(a3:∀e a W,Q e a W->e=.normal/\a.defers=[]/\Q' a.tmps W)
  (a2:∀Z u d j bj o O,Q' u d->KR (T.kind f) Z u j->ir T P w V O0 w (gr hB) Z d bj o O->WalkE P main Stop o O (G ((bs kd f).at ⟨j,df⟩ k) cs) bj):
  WalkE P main Stop V O0 (G ((bs kd f).at ⟨tm,df⟩ (.code c::k)) cs) w:=by
 let Post:Kf->H->Prop:=λfr W=>∃a:Act,fr=(bs .normal f).at a []/\a.defers=[]/\Q' a.tmps W
 let s:LS:=⟨(bs .normal f).at ⟨tm0,[]⟩ [.code c],[c0],gw T V e0 w⟩
 have q:oz P true Post s:=by
  intro l;obtain⟨e,a,d,n,a5⟩:=b6 l (bs .normal f) [] [c0];obtain⟨rfl,m,b4⟩:=a3 _ _ _ n;exact⟨l,λ_ _=>rfl,_,d,steps_iff.1 a5,⟨rfl,rfl,.inl rfl⟩,a,rfl,m,b4⟩
 have i:Nh T P w k df (cs,kd) V O0 w (gr hB) (gr hB) s ((bs kd f).at ⟨tm,df⟩ (.code c::k)) cs w V O0:=
  ⟨Bi a7,.bottom ⟨rfl,b5,⟨[.code c],rfl,.cons (.code a8) .nil⟩,⟨[],rfl,.nil⟩,rfl,.inl rfl,⟨rfl,b1⟩,.none⟩ rfl rfl⟩
 refine(lift a4 (λh=>by cases h) (λZ eI d da bj V O i b9 b3=>?_) (kN q) i q).bind λV O g w h=>h;obtain⟨a,rfl,m,n⟩:=b3;obtain⟨k0,x,a',a6,-⟩:=i.stk.top;obtain⟨a0,a9, -, b',b2⟩:=a6 rfl;subst a0 a9;obtain⟨f',j,b8,v,b7,b0,r⟩:=da;obtain⟨E,h2,⟨t,J,K⟩,⟨t',N,R⟩,S, -, -, U⟩:=a';have e1:=E;have y:=b2;have z:b7=.run:=S;have A:r=I:=by
  have a1:RD Z I r:=U;cases a1;rfl
 have B:b8=k0:=by
  have L:L2 (xH T P f Z) [] t:=K;cases L;exact J
 have C:v=x:=by
  have p:L2 (FK Z) a.defers t':=R;rw[m]at p;cases p;exact N
 subst e1 y z A B C;exact a2 Z a.tmps d j bj V O n h2 i.m
def NS{kd:CallKind}{c c':Ly}{df:List Deferred}{k:List Item}{Q0 Q1:Array M->H->Prop}
  (a9:∀f,T.has f=true->dX T P f=true)(b1:wC T P (T.kind f) c c')(b5:kd≠.early)
  (a0:∀b,V b->b<w.heap.size)(b7:KR (T.kind f) (gr hB) tm0 tm)
  (b8:∀p,nA P c (λa W=>a.defers=[]/\Q0 a.tmps W) (λa W=>a.defers=[]/\Q1 a.tmps W) ⟨tm0,[]⟩ (tp (gw T V e0 w) p w.drawn))
  (a7:∀Z o d e bj l O,Q0 o d->KR (T.kind f) Z o e->ir T P w V O0 w (gr hB) Z d bj l O->WalkE P main Stop l O (G ((bs kd f).at ⟨e,df⟩ k) cs) bj)
  (a8:∀Z o d e bj l O,Q1 o d->KR (T.kind f) Z o e->ir T P w V O0 w (gr hB) Z d bj l O->WalkE P main Stop l O (G ((bs kd f).at ⟨e,df⟩ (.code T.rest::k)) cs) bj):
  WalkE P main Stop V O0 (G ((bs kd f).at ⟨tm,df⟩ (.code c'::k)) cs) w:=by
 let Post:Kf->H->Prop:=λfr W=>∃a:Act,a.defers=[]/\((fr=(bs .normal f).at a []/\Q0 a.tmps W)\/(fr=(bs .normal f).at a [.code (.refuse "cut")]/\Q1 a.tmps W))
 let s:LS:=⟨(bs .normal f).at ⟨tm0,[]⟩ [.code c],[c0],gw T V e0 w⟩
 have a1:oz P true Post s:=by
  intro p;obtain⟨a,d,⟨⟨j,i⟩,Q⟩|⟨⟨j,i⟩,Q⟩⟩:=b8 p (bs .normal f) [c0]
  .exact⟨p,λ_ _=>rfl,_,d,steps_iff.1 Q,⟨rfl,rfl,.inl rfl⟩,a,j,.inl ⟨rfl,i⟩⟩
  .exact⟨p,λ_ _=>rfl,_,d,steps_iff.1 Q,⟨rfl,rfl,.inr rfl⟩,a,j,.inr ⟨rfl,i⟩⟩
 have n:Nh T P w.heap.size k df (cs,kd) V O0 w (gr hB) (gr hB) s ((bs kd f).at ⟨tm,df⟩ (.code c'::k)) cs w V O0:=
  ⟨Bi a0,.bottom (co:=(cs,kd)) ⟨rfl,b7,⟨[.code c'],rfl,.cons (.cut b1) .nil⟩,⟨[],rfl,.nil⟩,rfl,.inl rfl,⟨rfl,b5⟩,.none⟩ rfl rfl⟩
 refine(lift (Stop:=λV O g bj=>WalkE P main Stop V O g bj) a9 (λh=>by cases h) (λZ eI d da bj V O n b' b6=>?_) (kN a1) n a1).bind λV O g w h=>h;obtain⟨a,j,b2⟩:=b6;obtain⟨k0,U,a2,a',-⟩:=n.stk.top;obtain⟨b4,b3, -, b0,a3⟩:=a' rfl;subst b4 b3;obtain⟨f',e,a6,S,a5,a4,q⟩:=da;rcases b2 with⟨rfl,i⟩|⟨rfl,i⟩
 .obtain⟨z,h2,⟨t,A,B⟩,⟨t',E,J⟩,K, -, -, L⟩:=a2;have e1:f'=f:=z;have r:a4=kd:=a3;have u:a5=.run:=K;have v:q=I:=by
   have N:RD Z I q:=L;cases N;rfl
  have x:a6=k0:=by
   have C:L2 (xH T P f Z) [] t:=B;cases C;exact A
  have y:S=U:=by
   have m:L2 (FK Z) a.defers t':=J;rw[j]at m;cases m;exact E
  subst e1 r u v x y;exact a7 Z a.tmps d e bj V O i h2 n.m
 .obtain⟨z,h2,⟨t,A,B⟩,⟨t',E,J⟩,K, -, -, L⟩:=a2;have e1:f'=f:=z;have r:a4=kd:=a3;have u:a5=.run:=K;have v:q=I:=by
   have N:RD Z I q:=L;cases N;rfl
  have x:a6=.code T.rest::k0:=by
   have C:L2 (xH T P f Z) [.code (.refuse "cut")] t:=B
   cases C with
   | cons b9 hl=>
    cases hl
    cases b9 with
    | code R=>simp[ez]at R
    | cut R=>
     cases R with
     | stop=>exact A
     | deadzz h=>exact mi rfl h
  have y:S=U:=by
   have m:L2 (FK Z) a.defers t':=J;rw[j]at m;cases m;exact E
  subst e1 r u v x y;exact a8 Z a.tmps d e bj V O i h2 n.m
end
end Go.Co
