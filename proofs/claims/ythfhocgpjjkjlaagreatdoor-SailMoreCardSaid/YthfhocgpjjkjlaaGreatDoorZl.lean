import Derived.Test.YthfhocgpjjkjlaaGreatDoorZk
import Derived.Shelf.Sort.Plain
import Derived.Ground.Names2Prog
import Derived.Shelf.Slices.Clone
import Derived.Shelf.Slices.CompactI
import Derived.Test.YthfhocgpjjkjlaaGreatDoorProg
set_option maxRecDepth 100000
set_option maxHeartbeats 4000000
set_option linter.all false
noncomputable section
open Go.Proofs.Tryz renaming prog->F
open Go renaming World->H,execOp->Hn,Frame->Kf,Oper->Kp,TypeId->Lk,Value->M,Calls->PH,Program->Ps,Goroutine->QP,resolve->ab,Operand->ae
open Option renaming none->I,some->Y
open Go.RowKit renaming Below->X
namespace Go.Proofs.YthfhocgpjjkjlaaGreatDoor
open Go.RowKit Go.Co Go.Conc
variable{size i n d:Nat}{v:M}{xs:List M}{P:Ps}{main:Bool}{Stop:(Nat->Prop)->(Nat->Prop)->QP->H->Prop}{V O:Nat->Prop}{w:H}{b:Kf}{k:List Item}{cs:List Kf}{ops:Array Kp}{rest:List Nat}{o:Kp}{f:Nat->M}
def dL{w bj:H}{B e size n:Nat}(h:w.ownsRow B e size v n xs)(hk:∀g,v.ownBlock=Y g->bj.heap[g]?=w.heap[g]?):bj.ownsRow B e size v n xs:=by
 obtain⟨a,h|⟨g,b,c,rfl,d,h2,f⟩⟩:=h
 .exact⟨a,.inl h⟩
 .exact⟨a,.inr ⟨g,b,c,rfl,d,(hk g rfl).tn h2,f⟩⟩
def WalkE.Jp{s x:ae}{t e:Lk}{inf:TypeInfo}{z:M}{size bytes:Nat}(b6:ops[i]?=Y o)(Z:o.op=.call {callee:=.builtin .append,args:= #[s,x],argTypes:= #[t,t]})
  (a6:P.underlying t=Y (.slice e))(hi:P.info? e=Y inf)(a7:inf.zero=Y z)(a3:inf.size=size)(R:inf.bytes=bytes)(c2:z.cells.size=size)(b0:0<size){l:Nat}(a2:(fa n f).eval s=v)(b7:w.ownsRow 0 e size v l xs)(C:∀g,v.ownBlock=Y g->V g/\O g)
  {ad:Addr}{m c:Nat}{news:List M}(a:(fa n f).eval x=.slice (Y ad) m c)(hl:news.length=m*size)(Q:V ad.block)(b5:∀j u,news[j]?=Y u->w.cell? (ad.add j)=Y u)(L:∀u∈news,u.oneCell'=true)
  (N:l+m<=maxLen)(S:(l+m)*bytes<=140737488355328)(a9:∀x,V x->x<w.heap.size)(b1:o.dst=Y d)(a0:d<n)(r:o.guard=I)(hk:b.kind≠.early)
  (next:∀v' w' V' K,(∀x,V x->V' x)->w'.ownsRow 0 e size v' (l+m) (xs++news)->(∀g,v'.ownBlock=Y g->V' g/\K g/\(v.ownBlock=Y g\/w.heap.size<=g))->(∀x,V' x->V x\/(w.heap.size<=x/\x<w'.heap.size))->(∀x,V x->¬(v.ownBlock=Y x)->w'.heap[x]?=w.heap[x]?)->w'.tape=w.tape/\w'.os=w.os/\w'.output=w.output/\w.heap.size<=w'.heap.size->
   WalkE P main Stop V' K (G (b.at (fa n (ah f d v')) (.inRegion ops rest::k)) cs) w'):WalkE P main Stop V O (G (b.at (fa n f) (.inRegion ops (i::rest)::k)) cs) w:=by
 refine WalkE.step rfl λbj p=>?_;have a1:=dL b7 λg r=>p.keep g (C g r).1;have W:∀j u,news[j]?=Y u->bj.cell? (ad.add j)=Y u:=λj u c1=>bu p (by rw[addBlock];exact Q) (b5 j u c1);obtain⟨v',w',b9,h2,q, -, y⟩:=gU (P:=P) bj 0 t o.type e inf z size bytes a6 hi a7 a3 R c2 b0 v l xs a1 ad m c news hl W L N S (qT _);have b':(Hn (fa n f).eval o).run P bj=.ok (.value v') w':=by
  unfold Hn;simp only[Z,ab,invoke,builtin,Sem.run_bind,Sem.run_pure,Result.andThen_ok,zM,a2,a,b9]
 have b2:(Hn (fa n f).eval o).events P bj #[]=(Builtin.append_ #[t,t] o.type #[v,.slice (Y ad) m c]).events P bj #[]:=events_append_op s x t Z a2 a #[];have a4:=stepG_value (main:=main) (k:=k) (cs:=cs) (b:=b) (rest:=rest) b6 (bY r) hk b';rw[b1,cw a0]at a4;have T:∀x,x<bj.heap.size->¬(v.ownBlock=Y x)->w'.heap[x]?=bj.heap[x]?:=λx a J=>q.block x a λe=>J e.symm;refine⟨_,w',_,(λx=>V x\/(bj.heap.size<=x/\x<w'.heap.size)),(λx=>O x\/(bj.heap.size<=x/\x<w'.heap.size)),a4,⟨_,_,rfl⟩,⟨q.tape,q.os,q.output,q.size,λx a a8=>T x a λe=>a8 (C x e).2,λx=>il,λx=>il,λB b3=>?_⟩,?_⟩
 .have E:=mem_listed b3;rw[b2]at E;have b8:=G7 (BN (P:=P) #[t,t] o.type #[v,.slice (Y ad) m c]) bj #[] B E;rcases events_append_where (P:=P) bj 0 t o.type e inf z size bytes a6 hi a7 a3 R v l xs a1 ad m c news hl W L N S B E with⟨a',e1,A⟩|⟨mk,rfl,b4⟩
  .have a5:B.sync=false:=(b8.resolve_left ss) a' e1;obtain⟨c3,wr,c4⟩:=B;simp only at e1 a5 A;subst e1 a5;rcases A with⟨A,e3⟩|A
   .exact⟨rfl,by rw[e3];exact .inl Q,λh=>by rw[show wr=false from A]at h;cases h⟩
   .have:=C _ A.symm;exact⟨rfl,.inl this.1,λ_=>.inl this.2⟩
  .exact b4
 .refine next v' w' _ _ (λx a=>.inl a) h2 (λg r=>?_) (λx a=>a.imp id λh=>⟨qO p.size h.1,h.2⟩) (λx a J=>?_) ⟨q.tape.tn p.tape,q.os.tn p.os,q.output.tn p.output,qO p.size q.size⟩
  .rcases y with y|y
   .have:=C g (y.symm.tn r);exact⟨.inl this.1,.inl this.2,.inl (y.symm.tn r)⟩
   .rw[y]at r;cases r;have U:bj.heap.size<w'.heap.size:=by
     have:=(h2.lt bj.heap.size y).2;exact this
    exact⟨.inr ⟨qN _,U⟩,.inr ⟨qN _,U⟩,.inr p.size⟩
  .exact(T x (p.cX a9 x a) J).tn (p.keep x a)
end Go.Proofs.YthfhocgpjjkjlaaGreatDoor
namespace Go.Proofs
open Go.Shelf
def Tryz.DM:Go.Shelf.Ren:=⟨λ|189=>46|125=>85|257=>84|128=>121|129=>122|294=>112|295=>113|296=>114|297=>115|298=>116|299=>117|216=>118|300=>119|301=>120|328=>129|329=>130|330=>131|331=>132|332=>133|215=>128|343=>134|n=>n,λ|28=>24|3=>3|46=>154|0=>0|51=>133|53=>130|4=>4|183=>179|182=>178|131=>183|5=>5|9=>9|218=>193|222=>196|228=>198|229=>124|n=>n,λ|n=>n⟩
def Tryz.Sy:Go.Proofs.Lays.n189 F Tryz.DM:= {
 mixed:=by kernel_rfl
 f125:=Tryz.func85.tn (cd Y kr)
 f128:=Tryz.func121.tn (cd Y kr)
 f129:=Tryz.func122.tn (cd Y kr)
 f189:=Tryz.func46.tn (cd Y kr)
 f215:=Tryz.func128.tn (cd Y kr)
 f216:=Tryz.func118.tn (cd Y kr)
 f257:=Tryz.func84.tn (cd Y kr)
 f294:=Tryz.func112.tn (cd Y kr)
 f295:=Tryz.func113.tn (cd Y kr)
 f296:=Tryz.func114.tn (cd Y kr)
 f297:=Tryz.func115.tn (cd Y kr)
 f298:=Tryz.func116.tn (cd Y kr)
 f299:=Tryz.func117.tn (cd Y kr)
 f300:=Tryz.func119.tn (cd Y kr)
 f301:=Tryz.func120.tn (cd Y kr)
 f328:=Tryz.func129.tn (cd Y kr)
 f329:=Tryz.func130.tn (cd Y kr)
 f330:=Tryz.func131.tn (cd Y kr)
 f331:=Tryz.func132.tn (cd Y kr)
 f332:=Tryz.func133.tn (cd Y kr)
 f343:=Tryz.func134.tn (cd Y kr)
 t0:=Tryz.underlying0
 a0:=Tryz.isAgg0
 z0:=Tryz.sizeOf0
 v0:=Tryz.zeroValue0
 t3:=Tryz.underlying3
 a3:=Tryz.isAgg3
 z3:=Tryz.sizeOf3
 v3:=Tryz.zeroValue3
 t4:=Tryz.underlying4
 a4:=Tryz.isAgg4
 z4:=Tryz.sizeOf4
 v4:=Tryz.zeroValue4
 t5:=Tryz.underlying5
 a5:=Tryz.isAgg5
 z5:=Tryz.sizeOf5
 v5:=Tryz.zeroValue5
 t9:=Tryz.underlying9
 a9:=Tryz.isAgg9
 z9:=Tryz.sizeOf9
 v9:=Tryz.zeroValue9
 t28:=Tryz.underlying24
 a28:=Tryz.isAgg24
 z28:=Tryz.sizeOf24
 v28:=Tryz.zeroValue24
 t46:=Tryz.underlying154
 a46:=Tryz.isAgg154
 z46:=Tryz.sizeOf154
 v46:=Tryz.zeroValue154
 t51:=Tryz.underlying133
 a51:=Tryz.isAgg133
 z51:=Tryz.sizeOf133
 v51:=Tryz.zeroValue133
 t53:=Tryz.underlying130
 a53:=Tryz.isAgg130
 z53:=Tryz.sizeOf130
 v53:=Tryz.zeroValue130
 t131:=Tryz.underlying183
 a131:=Tryz.isAgg183
 z131:=Tryz.sizeOf183
 v131:=Tryz.zeroValue183
 t182:=Tryz.underlying178
 a182:=Tryz.isAgg178
 z182:=Tryz.sizeOf178
 v182:=Tryz.zeroValue178
 t183:=Tryz.underlying179
 a183:=Tryz.isAgg179
 z183:=Tryz.sizeOf179
 v183:=Tryz.zeroValue179
 t218:=Tryz.underlying193
 a218:=Tryz.isAgg193
 z218:=Tryz.sizeOf193
 v218:=Tryz.zeroValue193
 t222:=Tryz.underlying196
 a222:=Tryz.isAgg196
 z222:=Tryz.sizeOf196
 v222:=Tryz.zeroValue196
 t228:=Tryz.underlying198
 a228:=Tryz.isAgg198
 z228:=Tryz.sizeOf198
 v228:=Tryz.zeroValue198
 t229:=Tryz.underlying124
 a229:=Tryz.isAgg124
 z229:=Tryz.sizeOf124
 v229:=Tryz.zeroValue124}
open Go.Sort Go.RowKit in
theorem Tryz.slices_Sort_int(blk off b:Nat)(a:List Int)(w:H)(c:Holds (M.int .i64) w blk off a.toArray)(d:blk<w)(f:a.length<4611686018427387904):
  PH F 46 #[.slice (Y (blk,off)) a.length b] w λe w'=>
   e=.returned (.tuple #[])/\∃n os,w'=grow (putRow (M.int .i64) (Sort.ahead w n) blk off (a.mergeSort λx y=>decide (x<=y)).toArray) os:=Any.slices_Sort_int Tryz.Sy blk off b a w c d f
def Tryz.zT:Go.Shelf.Ren:=⟨λ|15=>87|n=>n,λ|22=>24|3=>3|4=>4|n=>n,λ|n=>n⟩
def Tryz.uM:Go.Proofs.Lays2.n15 F Tryz.zT:= {
 mixed:=by kernel_rfl
 f15:=Tryz.func87.tn (cd Y kr)
 t3:=Tryz.underlying3
 a3:=Tryz.isAgg3
 z3:=Tryz.sizeOf3
 v3:=Tryz.zeroValue3
 t4:=Tryz.underlying4
 a4:=Tryz.isAgg4
 z4:=Tryz.sizeOf4
 v4:=Tryz.zeroValue4
 t22:=Tryz.underlying24
 a22:=Tryz.isAgg24
 z22:=Tryz.sizeOf24
 v22:=Tryz.zeroValue24
 i3:=by kernel_rfl}
open Go.RowKit Go.Lib in
theorem Tryz.slices_Clone_int(b off n c:Nat)(a:List Int)(w:H)(g:n<=a.length)(d:n*8<=140737488355328)(f:∀j,j<a.length->w (b,off+j)=Y (.int .i64 (a.getD j 0))):
  PH F 87 #[.slice (Y (b,off)) n c] w λe w'=>∃v',e=.returned v'/\w'.ownsRow w 3 1 v' n ((a.take n).map (M.int .i64))/\v'≠.slice I 0 0/\X w w w':=Any.slices_Clone_int Tryz.uM b off n c a w g d f
open Go.RowKit Go.Lib in
theorem Tryz.slices_Clone_int_nil(n c:Nat)(w:H):
  PH F 87 #[.slice I n c] w λe w'=>e=.returned (.slice I 0 0)/\w'=w:=Any.slices_Clone_int_nil Tryz.uM n c w
open Go.RowKit Go.Lib in
theorem Tryz.slices_Clone_int_zero(a:Addr)(c:Nat)(w:H):
  PH F 87 #[.slice (Y a) 0 c] w λe w'=>∃v',e=.returned v'/\w'.ownsRow w 3 1 v' 0 []/\v'≠.slice I 0 0/\X w w w':=Any.slices_Clone_int_zero Tryz.uM a c w
def Tryz.zU:Go.Shelf.Ren:=⟨λ|20=>47|n=>n,λ|22=>24|3=>3|4=>4|0=>0|n=>n,λ|n=>n⟩
def Tryz.LH:Go.Proofs.Lays2.n20 F Tryz.zU:= {
 mixed:=by kernel_rfl
 f20:=Tryz.func47.tn (cd Y kr)
 t0:=Tryz.underlying0
 a0:=Tryz.isAgg0
 z0:=Tryz.sizeOf0
 v0:=Tryz.zeroValue0
 t3:=Tryz.underlying3
 a3:=Tryz.isAgg3
 z3:=Tryz.sizeOf3
 v3:=Tryz.zeroValue3
 t4:=Tryz.underlying4
 a4:=Tryz.isAgg4
 z4:=Tryz.sizeOf4
 v4:=Tryz.zeroValue4
 t22:=Tryz.underlying24
 a22:=Tryz.isAgg24
 z22:=Tryz.sizeOf24
 v22:=Tryz.zeroValue24
 i3:=by kernel_rfl}
open Go.RowKit Go.Lib Go.Sort in
theorem Tryz.slices_Compact_int(blk off b:Nat)(a:List Int)(w:H)(c:Holds (M.int .i64) w blk off a.toArray)(f:a.length<=9223372036854775807)(d:a.length<=b):
  PH F 47 #[.slice (Y (blk,off)) a.length b] w λe w'=>e=.returned (.slice (Y (blk,off)) (Lib.compact a).length b)/\∃q,w'=putRow (M.int .i64) (Sort.ahead w q) blk off (Lib.compact a++List.replicate (a.length-(Lib.compact a).length) 0).toArray:=Any.slices_Compact_int Tryz.LH blk off b a w c f d
end Go.Proofs
