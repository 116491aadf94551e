import Derived.Shelf.Sort.Plain
import Derived.Ground.Names2Prog
import Derived.Shelf.Slices.Clone
import Derived.Shelf.Slices.CompactI
import Derived.Test.YtfcgpihkimpkcaaGreatDoorProg
import Derived.Test.YtfcgpihkimpkcaaGreatDoorZk
set_option maxRecDepth 100000
set_option maxHeartbeats 4000000
set_option linter.all false
noncomputable section
open Go.Proofs.Tryz renaming prog->F
open Go renaming World->H,execOp->Hn,Frame->Kf,Oper->Kp,TypeId->Lk,Value->M,Calls->PH,Program->Ps,Goroutine->QP,resolve->ab,Operand->ae
open Option renaming none->I,some->Y
open Go.RowKit renaming Below->X
namespace Go
def xaB{p:Prop}(h:p:=by
 first
 |revert ø;intro ø
  skip
 |obtain⟨v',w',b8,r1,r2, -, r4⟩:=gU (P:=P) w B t o.type e inf z size bytes Z hi a1 W S b2 b1 v l xs a9 ⟨g,0,I⟩ m c cur.toList (by simpa using U) (λj u c4=>by
   have e:(⟨g,0,I⟩:Addr).add j=⟨g,j,I⟩:=by
    unfold Addr.add;split
    .rename_i h0;rw[h0]
    .rw[kl]
   rw[e];unfold H.cell?;dsimp only;rw[a6];simpa using c4) L N T hB
  refine Pc v' a7 a3 a2 q ?_ (hK v' w' r1 r2 r4)
 unfold Hn;simp only[a8,ab,invoke,builtin,Sem.run_bind,Sem.run_pure,Result.andThen_ok,zM,a0,a,b8]):p:=h
end Go
namespace Go.Proofs.YtfcgpihkimpkcaaGreatDoor
open Go.RowKit Go.Co Go.Conc
variable{size i n d:Nat}{v:M}{xs:List M}{P:Ps}{main:Bool}{Stop:(Nat->Prop)->(Nat->Prop)->QP->H->Prop}{V O:Nat->Prop}{w:H}{b:Kf}{k:List Item}{cs:List Kf}{ops:Array Kp}{rest:List Nat}{o:Kp}{f:Nat->M}
theorem dL{w bj:H}{B e size n:Nat}(h:w.ownsRow B e size v n xs)(hk:∀g,v.ownBlock=Y g->bj.heap[g]?=w.heap[g]?):bj.ownsRow B e size v n xs:=by
 obtain⟨a,h|⟨g,b,c,rfl,d,h2,f⟩⟩:=h
 .exact⟨a,.inl h⟩
 .exact⟨a,.inr ⟨g,b,c,rfl,d,(hk g rfl).tn h2,f⟩⟩
theorem WalkE.Jp{s x:ae}{t e:Lk}{inf:TypeInfo}{z:M}{size bytes:Nat}(a7:ops[i]?=Y o)(a8:o.op=.call {callee:=.builtin .append,args:= #[s,x],argTypes:= #[t,t]})
  (Z:P.underlying t=Y (.slice e))(hi:P.info? e=Y inf)(a1:inf.zero=Y z)(W:inf.size=size)(S:inf.bytes=bytes)(b2:z.cells.size=size)(b1:0<size){l:Nat}(a0:(fa n f).eval s=v)(a9:w.ownsRow 0 e size v l xs)(R:∀g,v.ownBlock=Y g->V g/\O g)
  {ad:Addr}{m c:Nat}{news:List M}(a:(fa n f).eval x=.slice (Y ad) m c)(U:news.length=m*size)(b3:V ad.block)(a6:∀j u,news[j]?=Y u->w.cell? (ad.add j)=Y u)(L:∀u∈news,u.oneCell'=true)
  (N:l+m<=maxLen)(T:(l+m)*bytes<=140737488355328)(c1:∀x,V x->x<w.heap.size)(a3:o.dst=Y d)(a2:d<n)(q:o.guard=I)(hk:b.kind≠.early)
  (next:∀v' w' V' O',(∀x,V x->V' x)->w'.ownsRow 0 e size v' (l+m) (xs++news)->(∀g,v'.ownBlock=Y g->V' g/\O' g/\(v.ownBlock=Y g\/w.heap.size<=g))->(∀x,V' x->V x\/(w.heap.size<=x/\x<w'.heap.size))->(∀x,V x->¬(v.ownBlock=Y x)->w'.heap[x]?=w.heap[x]?)->w'.tape=w.tape/\w'.os=w.os/\w'.output=w.output/\w.heap.size<=w'.heap.size->
   WalkE P main Stop V' O' (G (b.at (fa n (ah f d v')) (.inRegion ops rest::k)) cs) w'):WalkE P main Stop V O (G (b.at (fa n f) (.inRegion ops (i::rest)::k)) cs) w:=by
 refine WalkE.step rfl λbj r=>?_;have b7:=dL a9 λg q=>r.keep g (R g q).1;have b6:∀j u,news[j]?=Y u->bj.cell? (ad.add j)=Y u:=λj u c8=>bu r (by rw[addBlock];exact b3) (a6 j u c8);obtain⟨v',w',b8,h2,A, -, C⟩:=gU (P:=P) bj 0 t o.type e inf z size bytes Z hi a1 W S b2 b1 v l xs b7 ad m c news U b6 L N T (fi _);have c7:(Hn (fa n f).eval o).run P bj=.ok (.value v') w':=by
  have ø:=0;exact xaB
 have c2:(Hn (fa n f).eval o).events P bj #[]=(Builtin.append_ #[t,t] o.type #[v,.slice (Y ad) m c]).events P bj #[]:=events_append_op s x t a8 a0 a #[];have b9:=stepG_value (main:=main) (k:=k) (cs:=cs) (b:=b) (rest:=rest) a7 (bY q) hk c7;rw[a3,cw a2]at b9;have b4:∀x,x<bj.heap.size->¬(v.ownBlock=Y x)->w'.heap[x]?=bj.heap[x]?:=λx a a5=>A.block x a λe=>a5 e.symm;refine⟨_,w',_,(λx=>V x\/(bj.heap.size<=x/\x<w'.heap.size)),(λx=>O x\/(bj.heap.size<=x/\x<w'.heap.size)),b9,⟨_,_,rfl⟩,⟨A.tape,A.os,A.output,A.size,λx a b0=>b4 x a λe=>b0 (R x e).2,λx=>dq,λx=>dq,λJ c3=>?_⟩,?_⟩
 .have a4:=mem_listed c3;rw[c2]at a4;have c6:=G7 (BN (P:=P) #[t,t] o.type #[v,.slice (Y ad) m c]) bj #[] J a4;rcases events_append_where (P:=P) bj 0 t o.type e inf z size bytes Z hi a1 W S v l xs b7 ad m c news U b6 L N T J a4 with⟨a',e1,E⟩|⟨mk,rfl,c5⟩
  .have b':J.sync=false:=(c6.resolve_left ss) a' e1;obtain⟨c9,wr,c'⟩:=J;simp only at e1 b' E;subst e1 b';rcases E with⟨E,e3⟩|E
   .exact⟨rfl,by rw[e3];exact .inl b3,λh=>by rw[show wr=false from E]at h;cases h⟩
   .have:=R _ E.symm;exact⟨rfl,.inl this.1,λ_=>.inl this.2⟩
  .exact c5
 .refine next v' w' _ _ (λx a=>.inl a) h2 (λg q=>?_) (λx a=>a.imp id λh=>⟨ec r.size h.1,h.2⟩) (λx a a5=>?_) ⟨A.tape.tn r.tape,A.os.tn r.os,A.output.tn r.output,ec r.size A.size⟩
  .rcases C with C|C
   .have:=R g (C.symm.tn q);exact⟨.inl this.1,.inl this.2,.inl (C.symm.tn q)⟩
   .rw[C]at q;cases q;have b5:bj.heap.size<w'.heap.size:=by
     have:=(h2.lt bj.heap.size C).2;exact this
    exact⟨.inr ⟨dj _,b5⟩,.inr ⟨dj _,b5⟩,.inr r.size⟩
  .exact(b4 x (r.cX c1 x a) a5).tn (r.keep x a)
end Go.Proofs.YtfcgpihkimpkcaaGreatDoor
namespace Go.Proofs
open Go.Shelf
def Tryz.DM:Go.Shelf.Ren:=⟨λ|189=>63|125=>97|257=>96|128=>135|129=>136|294=>126|295=>127|296=>128|297=>129|298=>130|299=>131|216=>132|300=>133|301=>134|328=>143|329=>144|330=>145|331=>146|332=>147|215=>142|343=>148|n=>n,λ|28=>24|3=>3|46=>159|0=>0|51=>141|53=>138|4=>4|183=>185|182=>184|131=>189|5=>5|9=>9|218=>199|222=>202|228=>204|229=>104|n=>n,λ|n=>n⟩
theorem Tryz.Sy:Go.Proofs.Lays.n189 F Tryz.DM:= {
 mixed:=by kernel_rfl
 f125:=Tryz.func97.tn (eh Y kr)
 f128:=Tryz.func135.tn (eh Y kr)
 f129:=Tryz.func136.tn (eh Y kr)
 f189:=Tryz.func63.tn (eh Y kr)
 f215:=Tryz.func142.tn (eh Y kr)
 f216:=Tryz.func132.tn (eh Y kr)
 f257:=Tryz.func96.tn (eh Y kr)
 f294:=Tryz.func126.tn (eh Y kr)
 f295:=Tryz.func127.tn (eh Y kr)
 f296:=Tryz.func128.tn (eh Y kr)
 f297:=Tryz.func129.tn (eh Y kr)
 f298:=Tryz.func130.tn (eh Y kr)
 f299:=Tryz.func131.tn (eh Y kr)
 f300:=Tryz.func133.tn (eh Y kr)
 f301:=Tryz.func134.tn (eh Y kr)
 f328:=Tryz.func143.tn (eh Y kr)
 f329:=Tryz.func144.tn (eh Y kr)
 f330:=Tryz.func145.tn (eh Y kr)
 f331:=Tryz.func146.tn (eh Y kr)
 f332:=Tryz.func147.tn (eh Y kr)
 f343:=Tryz.func148.tn (eh Y kr)
 t0:=Tryz.underlying0
 a0:=Tryz.isAgg0
 z0:=Tryz.sizeOf0
 v0:=Tryz.zeroValue0
 t3:=Tryz.underlying3
 a3:=Tryz.isAgg3
 z3:=Tryz.sizeOf3
 v3:=Tryz.zeroValue3
 t4:=Tryz.underlying4
 a4:=Tryz.isAgg4
 z4:=Tryz.sizeOf4
 v4:=Tryz.zeroValue4
 t5:=Tryz.underlying5
 a5:=Tryz.isAgg5
 z5:=Tryz.sizeOf5
 v5:=Tryz.zeroValue5
 t9:=Tryz.underlying9
 a9:=Tryz.isAgg9
 z9:=Tryz.sizeOf9
 v9:=Tryz.zeroValue9
 t28:=Tryz.underlying24
 a28:=Tryz.isAgg24
 z28:=Tryz.sizeOf24
 v28:=Tryz.zeroValue24
 t46:=Tryz.underlying159
 a46:=Tryz.isAgg159
 z46:=Tryz.sizeOf159
 v46:=Tryz.zeroValue159
 t51:=Tryz.underlying141
 a51:=Tryz.isAgg141
 z51:=Tryz.sizeOf141
 v51:=Tryz.zeroValue141
 t53:=Tryz.underlying138
 a53:=Tryz.isAgg138
 z53:=Tryz.sizeOf138
 v53:=Tryz.zeroValue138
 t131:=Tryz.underlying189
 a131:=Tryz.isAgg189
 z131:=Tryz.sizeOf189
 v131:=Tryz.zeroValue189
 t182:=Tryz.underlying184
 a182:=Tryz.isAgg184
 z182:=Tryz.sizeOf184
 v182:=Tryz.zeroValue184
 t183:=Tryz.underlying185
 a183:=Tryz.isAgg185
 z183:=Tryz.sizeOf185
 v183:=Tryz.zeroValue185
 t218:=Tryz.underlying199
 a218:=Tryz.isAgg199
 z218:=Tryz.sizeOf199
 v218:=Tryz.zeroValue199
 t222:=Tryz.underlying202
 a222:=Tryz.isAgg202
 z222:=Tryz.sizeOf202
 v222:=Tryz.zeroValue202
 t228:=Tryz.underlying204
 a228:=Tryz.isAgg204
 z228:=Tryz.sizeOf204
 v228:=Tryz.zeroValue204
 t229:=Tryz.underlying104
 a229:=Tryz.isAgg104
 z229:=Tryz.sizeOf104
 v229:=Tryz.zeroValue104}
open Go.Sort Go.RowKit in
theorem Tryz.slices_Sort_int(blk off b:Nat)(a:List Int)(w:H)(c:Holds (M.int .i64) w blk off a.toArray)(d:blk<w)(f:a.length<4611686018427387904):
  PH F 63 #[.slice (Y (blk,off)) a.length b] w λe w'=>
   e=.returned (.tuple #[])/\∃n os,w'=grow (putRow (M.int .i64) (Sort.ahead w n) blk off (a.mergeSort λx y=>decide (x<=y)).toArray) os:=Any.slices_Sort_int Tryz.Sy blk off b a w c d f
def Tryz.zT:Go.Shelf.Ren:=⟨λ|15=>101|n=>n,λ|22=>24|3=>3|4=>4|n=>n,λ|n=>n⟩
theorem Tryz.uM:Go.Proofs.Lays2.n15 F Tryz.zT:= {
 mixed:=by kernel_rfl
 f15:=Tryz.func101.tn (eh Y kr)
 t3:=Tryz.underlying3
 a3:=Tryz.isAgg3
 z3:=Tryz.sizeOf3
 v3:=Tryz.zeroValue3
 t4:=Tryz.underlying4
 a4:=Tryz.isAgg4
 z4:=Tryz.sizeOf4
 v4:=Tryz.zeroValue4
 t22:=Tryz.underlying24
 a22:=Tryz.isAgg24
 z22:=Tryz.sizeOf24
 v22:=Tryz.zeroValue24
 i3:=by kernel_rfl}
open Go.RowKit Go.Lib in
theorem Tryz.slices_Clone_int(b off n c:Nat)(a:List Int)(w:H)(g:n<=a.length)(d:n*8<=140737488355328)(f:∀j,j<a.length->w (b,off+j)=Y (.int .i64 (a.getD j 0))):
  PH F 101 #[.slice (Y (b,off)) n c] w λe w'=>∃v',e=.returned v'/\w'.ownsRow w 3 1 v' n ((a.take n).map (M.int .i64))/\v'≠.slice I 0 0/\X w w w':=Any.slices_Clone_int Tryz.uM b off n c a w g d f
open Go.RowKit Go.Lib in
theorem Tryz.slices_Clone_int_nil(n c:Nat)(w:H):
  PH F 101 #[.slice I n c] w λe w'=>e=.returned (.slice I 0 0)/\w'=w:=Any.slices_Clone_int_nil Tryz.uM n c w
open Go.RowKit Go.Lib in
theorem Tryz.slices_Clone_int_zero(a:Addr)(c:Nat)(w:H):
  PH F 101 #[.slice (Y a) 0 c] w λe w'=>∃v',e=.returned v'/\w'.ownsRow w 3 1 v' 0 []/\v'≠.slice I 0 0/\X w w w':=Any.slices_Clone_int_zero Tryz.uM a c w
def Tryz.zU:Go.Shelf.Ren:=⟨λ|20=>64|n=>n,λ|22=>24|3=>3|4=>4|0=>0|n=>n,λ|n=>n⟩
theorem Tryz.LH:Go.Proofs.Lays2.n20 F Tryz.zU:= {
 mixed:=by kernel_rfl
 f20:=Tryz.func64.tn (eh Y kr)
 t0:=Tryz.underlying0
 a0:=Tryz.isAgg0
 z0:=Tryz.sizeOf0
 v0:=Tryz.zeroValue0
 t3:=Tryz.underlying3
 a3:=Tryz.isAgg3
 z3:=Tryz.sizeOf3
 v3:=Tryz.zeroValue3
 t4:=Tryz.underlying4
 a4:=Tryz.isAgg4
 z4:=Tryz.sizeOf4
 v4:=Tryz.zeroValue4
 t22:=Tryz.underlying24
 a22:=Tryz.isAgg24
 z22:=Tryz.sizeOf24
 v22:=Tryz.zeroValue24
 i3:=by kernel_rfl}
open Go.RowKit Go.Lib Go.Sort in
theorem Tryz.slices_Compact_int(blk off b:Nat)(a:List Int)(w:H)(c:Holds (M.int .i64) w blk off a.toArray)(f:a.length<=9223372036854775807)(d:a.length<=b):
  PH F 64 #[.slice (Y (blk,off)) a.length b] w λe w'=>e=.returned (.slice (Y (blk,off)) (Lib.compact a).length b)/\∃q,w'=putRow (M.int .i64) (Sort.ahead w q) blk off (Lib.compact a++List.replicate (a.length-(Lib.compact a).length) 0).toArray:=Any.slices_Compact_int Tryz.LH blk off b a w c f d
end Go.Proofs
