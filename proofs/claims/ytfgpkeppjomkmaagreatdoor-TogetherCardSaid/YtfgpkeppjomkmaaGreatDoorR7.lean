/- Proved here: parts of the proof of the claimed theorem, no conditions; the last text states it -/
import Derived.Test.YtfgpkeppjomkmaaGreatDoorRows
import Derived.Test.YtfgpkeppjomkmaaGreatDoorTie
import Derived.Test.YtfgpkeppjomkmaaGreatDoorCards
import Derived.Test.YtfgpkeppjomkmaaGreatDoorR6
set_option linter.all false
set_option maxRecDepth 100000
set_option maxHeartbeats 16000000
open _root_ renaming rfl->A,Nat->E,List->Xq,Int->Xt,Array->Xu,Bool->Xy,Option->Xz,if_neg->XH,ByteArray->XM,if_pos->XN
open Option renaming some->C,none->F
open Go renaming undef->I,World->K,Value->Xn,TypeId->XA,Frame->XC,Goroutine->XD,Act->XF,Addr->XG,Program->XI,Sem->XJ,Trace->XO,Event->XQ,Code->XR,MapEntry->XS,FuncId->XU,Operand->XV
open Bool renaming true->J,false->Xp
open Go.Lib renaming hid->Xv
open Go.MemOp renaming ofEvents->XP
open Go.Op renaming operands->XX
open Go.MemAct renaming ofEvent->XY
open Go.IntKind renaming i64->M
open Go.Value renaming int->Xo,slice->Xw,pointer->XK
open Or renaming inl->Xr,inr->Xs
open Go.Obj renaming cells->Xx
open Go.Ending renaming returned->XB
open Go.Item renaming inRegion->XE
namespace Go.Sv
open Go.MapKept Go.Proofs Go.RowKit Go.Lib Go.WideShapes Go.Sort Go.Sim Wt
variable{u:E}{y:cz}{c:K}{w':K}{b:E}{k:E}{h:E->Prop}{o:Xn}{z:eA}{O:Xz XG}
section
variable[Inhabited aN]
def fB.clear(d:fB):fB:={d with ov:=Xw F 0 0,vs:=[]}
section
variable{r:Xt}{p:Xq Out}{d:fB}
theorem jw(a:aH u y.tree d.clear b):aH u y.tree d b:=by
 rcases a with a|a|a|a|a
 .exact Xr a
 .exact Xs (Xr a)
 .exact Xs (Xs (Xr a))
 .exact Xs (Xs (Xs (Xr a)))
 cases a
theorem tf(a:dm d.clear b):b=1\/b=4:=by
 rcases a with a|a|⟨o,c,_⟩
 .exact Xr a
 .exact Xs a
 cases c
theorem aK.clear(a:aK u r y p d c)(xx:w'.heap[u]?=C (Xx (Fp y.timeout r d.tb d.tw d.hb y.now y.aL y.next (Xw F 0 0) .nilFunc) 98 (0,0)))(U:c.heap.size<=w'.heap.size)(x:∀b,b<c.heap.size->b≠u->w'.heap[b]?=c.heap[b]?):aK u r y [] d.clear w':=by
 obtain⟨iV,Y,Z,a0,H,a8,a1⟩:=a.iV;have kp:∀b,aH u y.tree d b->iV b≠3->w'.heap[b]?=c.heap[b]?:=λb g R=>x b (a.bg g) (λw=>R (w▸H));have v:=λb g=>kp b (Xs (Xr g)) (by simp_all);have T:=λb g=>kp b (Xs (Xs (Xr g))) (by simp_all)
 have W:∀b,b=1\/b=4->w'.heap[b]?=c.heap[b]?:=λb g=>by have X:dm d b:=g.elim Xr (λl=>Xs (Xr l));exact x b (a.jh X) (λw=>by simp_all)
 exact{
  tree:=a.tree.stay λL D=>⟨v _ (Xs ⟨L,D,Xr A⟩),v _ (Xs ⟨L,D,Xs A⟩)⟩
  top:=by obtain⟨a3,N,n⟩:=a.top;exact⟨a3,N,by show w'.heap[d.tb]?=_;rw[v _ (.inl A)];exact n⟩
  wf:=a.wf
  ck:=a.ck.stay T
  kF:=by show∃a6 a5,w'.heap[d.hb]?=_/\_;rw[kp d.hb (.inr (.inr (.inr (.inl A)))) (by omega)];exact a.kF
  ch:=xx
  row:=bV.nil _ _ _ _
  outs:=⟨A,λa7 a9 o l _=>by simp at l⟩
  bC:=by obtain⟨⟨a2,S⟩,n,Q⟩:=a.bC;exact⟨⟨a2,bZ (W 1 (Xr A)) S⟩,n.stay (by simp_all),Yk Q U⟩
  iV:=⟨iV,Y,Z,a0,H,λb l=>(by cases l),λb g=>a1 b ((tf g).elim Xr (λl=>Xs (Xr l)))⟩}
structure oA(i f u:E)(r:Xt)(y:cz)(m:E)(p:Xq Out)(d:fB)(c:K):Prop where
 fu:aK u r y p d c
 ptr:c.heap[f]?=C (Xx #[pt u 0] 78 (0,0))
 ok:Ok y m
 own:∀b,aH u y.tree d b->i<=b/\b≠f
 KU:i<=f
 use:∀b,dm d b->b=1\/b=4\/i<=b
theorem oA.old{i f m:E}(a:oA i f u r y m p d c)(l:c.heap.size<=w'.heap.size)(g:∀b,b<c.heap.size->w'.heap[b]?=c.heap[b]?):oA i f u r y m p d w':=
 ⟨a.fu.old l g,by rw[g f (XZ.1 a.ptr).1];exact a.ptr,a.ok,a.own,a.KU,a.use⟩
end
section
variable{e:E->dA}
theorem foldl_congr{n x:Type}{v g:n->x->n}:∀(a:Xq x)(b:n),(∀b,∀l∈a,v b l=g b l)->a.foldl v b=a.foldl g b
 |[],_,_=>rfl
 |l::a,b,w=>by rw[i_,i_,w b l (Zi ..)];exact foldl_congr a _ λb H D=>w b H (Yw _ D)
theorem tz(y:cz)(a:Xt)(b:dA)(c:Xq dA):Wt.handle y a (b::c)=((Wt.handle (Wt.step y a b).1 (a+1) c).1,(Wt.step y a b).2++(Wt.handle (Wt.step y a b).1 (a+1) c).2):=A
theorem Dv(e:E->dA):∀(b:Xq dA)(a:E)(c:Sg),(∀f d,b[f]?=C d->e (a+f)=d)->
 (Xq.range' a b.length).foldl (wy e) c=⟨(Wt.handle c.fu a b).1,c.outs++(Wt.handle c.fu a b).2,c.cnt+b.length⟩
 |[],a,c,_=>by simp[Wt.handle]
 |d::b,a,c,g=>by
  have h:e a=d:=by simpa using g 0 d (by simp)
  rw[Yv,Xq.range'_succ,i_,Dv e b (a+1) _ λf k i=>by
   have:=g (f+1) k (by simpa using i)
   rw[<-this];congr 1;omega]
  rw[tz];unfold wy;simp only[h,ZW,Xt.natCast_add,Xt.cast_ofNat_Int,Sg.mk.injEq,true_and];omega
theorem KO(H:k<=64)(a:Sg){l:Xq dA}(w:l.length=k)(D:∀g n,l[g]?=C n->e g=n):
 (Xq.range k).foldl (Sim.stepT (Gu e) (wy e) (tE e)) a=⟨(Wt.handle a.fu 0 l).1,a.outs++(Wt.handle a.fu 0 l).2,a.cnt+k⟩:=by
 rw[foldl_congr (g:=wy e) _ _ λb g v=>?_]
 .rw[aah,<-w];exact Dv e l 0 a λg n v=>by simp_all
 unfold Sim.stepT;cases L:tE e g with
 |true=>grind [Ix]
 |false=>rfl
end
structure xq(h:E->Prop)(i:E)(c:K):Prop where
 lt:∀b,h b->b<i
 cl:Closed h c
 wh:∀b,h b->(c.heap[b]?).map Sim.Obj.whole=c.heap[b]?
 gl:∀a,(0<a\/a=TP.globals.size)->a<=TP.globals.size->h a
 rb:∀b,IA b->h b
theorem xq.keep{i:E}(a:xq h i c)(e:∀b,h b->w'.heap[b]?=c.heap[b]?):xq h i w':=
 ⟨a.lt,λb d=>by rw[e b d];exact a.cl b d,λb d=>by rw[e b d];exact a.wh b d,a.gl,a.rb⟩
def pk(i f:E)(own:E->Prop)(O:Xz XG)(k:E)(rq:E->RV)(c:K):Prop:=
 (O=F/\k=0)\/∃b g a m e,O=C ⟨b,g,F⟩/\c.heap[b]?=C (Xx a m e)/\0<a.size/\e.2<=a.size/\(∀(l:E) h,a[l]?=C h->aQ (λ_=>False) h)/\¬aS a/\(∀d,d<k->∀j,j<8->a[g+d*8+j]?=(rq d).jm[j]?)/\i<=b/\b≠f/\¬own b
theorem pO{a c:E->Prop}(d:aQ a o)(e:∀b,a b->c b):aQ c o:=aQ.mono e d
theorem vk(a:gw c w' b){d:Xu Xn}{f:XA}{e:E×E}(n:c.heap[b]?=C (Xx d f e))(o:¬aS d):w'.heap[b]?=c.heap[b]?:=by
 rcases a with a|⟨g,p,h,i,k,l,m⟩
 .exact a
 simp_all
section
variable{i f s m t:E}{p:Xq Out}{d:fB}{rq:E->RV}{e:E->dA}{q:Xq dA}
structure cK(ro:E->Prop)(i f u s:E)(y:cz)(m:E)(d:fB)(O:Xz XG)(q:Xq dA)(c:K)(o:Xn)(w':K)(a:fB):Prop where
 at':oA i f u s (Wt.handle y 0 q).1 (m+q.length) (Wt.handle y 0 q).2 a w'
 val:o=a.ov
 keep:∀b,b<c.heap.size->¬aH u y.tree d b->(∀g,O≠C ⟨b,g,F⟩)->gw c w' b
 ro:∀b,ro b->w'.heap[b]?=c.heap[b]?
 size:c.heap.size<=w'.heap.size
 own:∀b,aH u (Wt.handle y 0 q).1.tree a b->aH u y.tree d b\/c.heap.size<=b
 use:∀b,dm a b->b=1\/b=4\/c.heap.size<=b
 iO:∀b g,O=C ⟨b,g,F⟩->w'.heap[b]?=(c.heap[b]?).map Sim.Obj.whole
theorem FQ(v:oA i f u s y m p d c)(x:xq h i c)(d4:1<=s/\s<2^16)(R:pk i f (aH u y.tree d) O k rq c)(a9:k<=64)(c8:m<2^16)
 (b1:∀g,g<k->RQ (rq g) (e g))(d7:∀g,g<k->qj (e g).op)(a7:∀g,g<k->(e g).op.kind=1\/(e g).op.kind=3\/(e g).op.kind=4\/(e g).op.kind=5\/(e g).op.kind=6\/(e g).op.kind=8\/(e g).op.kind=9\/(e g).op.kind=10)
 (d6:∀g,(rq g).oa=F)(d2:q.length=k)(d8:∀g b3,q[g]?=C b3->e g=b3):
 Co (goalAt TP F F z al h) 31 #[pt u 0,.slice O k t] c λo w'=>∃c0,cK h i f u s y m d O q c o w' c0:=by
 obtain⟨D,c9⟩:∃D:E->Prop,D=λb=>h b\/∃w,O=C ⟨b,w,F⟩:=by simp
 have S:∀b,h b->D b:=by simp_all
 have Y:∀b,D b->h b\/∃w,O=C ⟨b,w,F⟩:=by simp_all
 have bg:∀b,aH u y.tree d b->b<c.heap.size:=λb a=>v.fu.bg a
 have b2:∀b,aH u y.tree d b->¬D b:=λb a L=>by
  rcases Y b L with r|⟨w,r⟩
  .have:=x.lt b r;have:=(v.own b a).1;omega
  rcases R with⟨l,_⟩|⟨U,W,T,X,Q,l,_,_,_,_,_,_,_,_,a5⟩
  .rw[r]at l;cases l
  simp_all
 have d0:Closed D c:=λb n=>by
  rcases Y b n with r|⟨w,r⟩
  .obtain⟨a2,g4,Q,q1,a1,e5,e6,e7⟩:=x.cl b r
   grind [pO]
  rcases R with⟨l,_⟩|⟨U,W,T,X,Q,l,q1,a1,e5,e6,e7,_⟩
  .rw[r]at l;cases l
  grind [pO]
 have e4:=S 1 (x.gl 1 (Xr (by decide)) (by simp));have HC:=SH (o:=m) (u:=u) b1 d7 a7 c8 a9 e4 d4;have xx:=b2 u (Xr A)
 have c7:LG D c O k t rq (KV e rq):={
  closed:=d0
  bC:=λa4 r l=>S a4 (x.gl a4 r l)
  list:=λb n=>by
   rcases R with⟨l,_⟩|⟨U,W,T,X,Q,l,_⟩
   .rw[n]at l;cases l
   grind
  elem:=λg a0=>by
   rcases R with⟨_,l⟩|⟨U,W,T,X,Q,l,q1,_,_,_,_,g0,_⟩
   .omega
   grind
  Od:=λg a0 w' _=>Te (b1 g a0) (a7 g a0) (by omega) w'
  only:=λg=>by
   refine .iface _ (.agg λf6 g9 L=>?_);have a8:=YK.2 (YE L);simp only[aP,Yg,Yo,Ze]at a8;rcases a8 with rfl|rfl|rfl|rfl|rfl|rfl|rfl|rfl|rfl
   case inr.inr.inr.inr.inr.inr.inr.inr=>rw[d6 g];exact .aO _ _
   all_goals first|exact .int _ _|exact .string _|exact .bool _
  small:=by omega}
 have base:=JQ (z:=z) (g:=⟨y,[],0⟩) (c:=aH u y.tree d.clear) (i:=dm d.clear) (h:=h) HC A c7 v.fu.ch (by simp) A xx (Xr A) S x.rb (λb n=>⟨bg b (jw n),b2 b (jw n)⟩) (λe9 Z=>?_) (λg2 own g5 g8⟨a3,N,_⟩=>⟨_,_,_,_,N.ch,A⟩)
 .intro f0 b8 a2 b9 b5 n next
  refine base f0 b8 a2 b9 b5 n λf1 o e8 b4 b6 c6 e3⟨f8,g6,⟨a3,N,d5,e2,q1,a1⟩,f4,H,a6⟩=>next f1 o e8 b4 b6 c6 e3 ?_
  subst d5 e2;have d1:=KO (e:=e) a9 ⟨y,[],0⟩ d2 d8;rw[d1]at N H q1 a1;have b0:=λb a=>(H.more b a).imp jw id;have e0:b4.heap[f]?=c.heap[f]?:=by
   refine vk (H.keep f (XZ.1 v.ptr).1 (λa=>(v.own f (jw a)).2 A) (λa=>?_)) v.ptr ?_
   .rcases Y f a with r|⟨w,r⟩
    .have:=x.lt f r;have:=v.KU;omega
    rcases R with⟨l,_⟩|⟨U,W,T,X,Q,l,_,_,_,_,_,_,_,a5,_⟩
    .rw[r]at l;cases l
    rw[r]at l;cases l;exact a5 A
   simp[nk]
  refine⟨a3,⟨N,by rw[e0];exact v.ptr,by simp_all,λb n=>?_,v.KU,λb n=>?_⟩,?_,λb n d3 f5=>?_,λb n=>?_,H.size,b0,λb n=>?_,λb w a=>H.list b (by rw[c9];exact Xs ⟨w,a⟩)⟩
  .have e1:=(XZ.1 v.ptr).1;have d9:=v.KU;rcases b0 b n with a|a
   .exact v.own b a
   omega
  .have e1:=(XZ.1 v.ptr).1;have d9:=v.KU;rcases a6 b n with a|a
   .rcases tf a with a|a
    .exact Xr a
    exact Xs (Xr a)
   omega
  .have:=aa N.ch 8 A;simp_all
  .by_cases L:D b
   .rcases Y b L with r|⟨w,r⟩
    .exact Xr (by rw[H.list b (S b r)];exact x.wh b r)
    simp_all
   exact H.keep b n (λa=>d3 (jw a)) L
  .rw[H.list b (S b n)];exact x.wh b n
  rcases a6 b n with a|a
  .exact(tf a).imp id Xr
  omega
 have b7:=v.fu.clear (w':=e9) (by rw[Z.xx];rfl) (by rw[Z.size];omega) Z.old;refine⟨d.clear,b7.same ⟨by simp[qF],λb n=>uD ?_,λb _=>yI _ _ _⟩,A,A,v.ok,by simp⟩;have r:=jw n;have l:=bg b r;rintro(a|a|a)
 .simp_all
 .omega
 omega
end
end
end Go.Sv
namespace Go.Sim
open Go.Conc Go.Proofs Go.RowKit
open Go.ConcN (PermW PermW.app PermW.of fork_knows WgLive RelBy sumTo)
open Go.ConcR (KK wgBlock WgAt stA smA rd wr mk DC0)
variable{P:XI}{f:Set}{h:E->Prop}{c:K}{m:XC}{n:Xq XC}{D:Xu Oper}{Q:Exit->XF->K->Prop}{d:XF}{l:E}{g:Oper}
section
variable[Inhabited aN]
section
variable{main:Xy}{k:Goal P f main h}
variable{e:Rt}
def LB(P:XI)(f:Set)(e:Rt)(D:Xu Oper)(a:Xq E):Prop:=∀l∈a,∀g,D[l]?=C g->jj P f.fn f.bi f.cj g.op=J/\e.free g.dst=J
theorem rn(G:Good P f){w:XF->K->Prop}:∀(H:Xq E){b:Ren}{c n:K}{d o:XF},LB P f e D H->Base P b->aU f b c n->ar f b e d o->Tp (λc=>wpOps P D (eB w) H d c) c->
 ∃m s y r x,Base P m/\aU f m r x/\b.le m/\ar f m e s y/\Tp (w s) r/\kY f c r
 |[],b,c,n,d,o,_,i,h,k,a=>⟨b,d,o,c,n,i,h,Ren.le_refl _,k,a,.refl _⟩
 |l::q,b,c,n,d,o,z,i,h,k,a=>by
  have v:LB P f e D q:=λj Q=>z j (Yw _ Q);cases u:D[l]? with
  |none=>simp only[wpOps,u]at a;exact rn G q v i h k a
  |some g=>
   have t:=z l (Zi ..) g u;simp only[wpOps,u]at a;by_cases p:Region.wanted g (yielded D d.tmps)=J
   .simp only[p,Ym]at a;obtain⟨m,s,y,r,x,q1,R,S,T,U,W⟩:=NU G i h k t.1 t.2 (a.mono λc p=>p.resolve_right λa4=>fU a4.2);obtain⟨a5,N,O,a3,L,X,Y,Z,a0,a1,a2⟩:=rn G q v q1 R T U;exact⟨a5,N,O,a3,L,X,Y,Ren.le_trans S Z,a0,a1,W.trans a2⟩
   simp only[p]at a;exact rn G q v i h (k.put g.dst t.2 aX) a
theorem lN(p:Good P f)(t:f.fr m.fn=J)(u:m.kind≠.early){y:XF->K->Prop}{more:Xq E}:∀(O:Xq E){d:XF}{c:K},LB P f e D O->Tp (λc=>wpOps P D (eB y) O d c) c->
 (∀o i,Tp (y o) i->gP f h c i)->(∀o i,Tp (y o) i->CO k m e n D more Q o i)->CO k m e n D (O++more) Q d c
 |[],d,c,_,a,q,next=>next d c a
 |l::s,d,c,a0,a,q,next=>by
  have v:LB P f e D s:=λj a8=>a0 j (Yw _ a8);intro a4 N a7 x w L;cases b:D[l]? with
  |none=>simp only[wpOps,b]at a;refine k.pure A rfl (λa6=>stepG_unwanted (by rw[b];rfl)) ?_;rw[b];exact lN p t u s v a q next a4 N a7 x w L
  |some g=>
   have H:=a0 l (Zi ..) g b;simp only[wpOps,b]at a;by_cases r:Region.wanted g (yielded D d.tmps)=J
   .simp only[r,Ym]at a;refine Hu p k t u b r H.1 H.2 x w (a.mono λc r=>r.resolve_right λa3=>fU a3.2) (λa5 o Z i b2 q1 R a1 S T=>?_) λa5 o Z i q1 R a1 S T a9 b0=>?_
    .obtain⟨c0,z,b4,X,b3,b6,b7,b8,b9,U,b1⟩:=rn p s v q1 R S T;obtain⟨Y,W,a2⟩:=q z X U;exact⟨Y,b1.trans W,a2⟩
    refine lN p t u s v b0 (λz X U=>?_) next a5 N Z q1 a9 (L.grow ⟨R,a1,S,T⟩)
    obtain⟨Y,W,a2⟩:=q z X U;exact⟨Y,W,λa3 b5=>by simp_all⟩
   simp only[r]at a;refine k.pure A rfl (λa6=>stepG_unwanted ?_) ?_
   .rw[<-gu w.tmps];simp_all
   rw[b];exact lN p t u s v a q next a4 N _ x (w.put g.dst H.2 aX) L
theorem co_take(x:Good P f)(z:f.fr m.fn=J)(N:m.kind≠.early){v:Xq E}(O:e.kn.map (·.1)=v)(b o:E){more:Xq E}{a:Xq Oper}(t:a.map C=(Xq.range' b o).map (λl=>D[l]?))(S:nl P f v a.toArray=J)
 (q:∀r:K,r.heap=c.heap->r.os=c.os->r.output=c.output->wpList P D (eB λp i=>sq h c i/\CO k m e n D more Q p i) a d r):CO k m e n D (Xq.range' b o++more) Q d c:=by
 have R:a.length=o:=by simpa using Zc List.length t
 have y:∀j,j<a.length->a[j]?=D[b+j]?:=λj L=>by
  have X:=Zc (λs=>s[j]?) t
  grind
 have T:LB P f e D (Xq.range' b o):=λl H g Y=>by
  obtain⟨j,L,rfl⟩:∃j,j<o/\l=b+j:=by have:=Xq.mem_range'_1.1 H;exact⟨l-b,by omega,by omega⟩
  exact jL (rm O S) (D:=a.toArray) (H:=j) (by simp_all)
 refine lN x z N (y:=λp i=>sq h c i/\CO k m e n D more Q p i) (Xq.range' b o) T (.all λw=>by rw[<-R,GY a b y];exact q _ A rfl rfl) (λp i q=>⟨i,.refl _,?_⟩) λp i q=>Hq ?_
 .obtain⟨w,u⟩:=q.one;exactλs U=>u.1 s U
 obtain⟨w,u⟩:=q.one
 grind
end
section
variable{k:Goal P f J h}
variable{e:Rt}
theorem vu(t:Good P f){a:XU}{b r:Xu Xn}{fn:Func}{q:XR}(z:f.fr a=J)(y:P.funcs[a]?=C fn)(x:fn.body=C q){p:Xn->K->Prop}(H:b++Array.replicate (fn.ntmps-b.size) I=r)
 (v:∀u n,CW k (base a) ⟨[],[]⟩ (u::n) q Q ⟨r,[]⟩ c)
 (w:∀i d c,Q i d c->(i=.normal\/i=.ret)/\d.defers=[]/\∀o,∃s,(results fn d.tmps).run P {c with tape:=o}=.ok s {c with tape:=o}/\p s {c with tape:=o}):Co k a b c p:=by
 subst H;exact Hp t z y x v w
theorem Jy(u:Good P f){a:XU}{r:Xq (E×Xn)}{b s:Xu Xn}{fn:Func}{q:XR}(H:f.fr a=J)(z:P.funcs[a]?=C fn)(y:fn.body=C q){p:Xn->K->Prop}(L:b++Array.replicate (fn.ntmps-b.size) I=s)
 (w:∀v n,CW k (base a) ⟨[],r⟩ (v::n) q Q ⟨s,[]⟩ c)
 (x:∀i d c,Q i d c->(i=.normal\/i=.ret)/\d.defers=[]/\∀o,∃t,(results fn d.tmps).run P {c with tape:=o}=.ok t {c with tape:=o}/\p t {c with tape:=o}):Vf k a r b c p:=by
 subst L;exact Mw u H z y w x
theorem iA{more:Xq E}{i:XU}{b:Xu XV}{r:Xu XA}{fn:Func}{s:XR}(H:m.kind≠.early)(y:e.free g.dst=J)(N:D[l]?=C g)(S:Region.wanted g (yielded D d.tmps)=J)(O:g.op=.call {callee:=.value (.func i),args:=b,argTypes:=r})
 (z:P.funcs[i]?=C fn)(L:(fn.name== "runtime.NumGoroutine")=Xp)(w:fn.body=C s)(R:b.toList.all (dy P f.fn)=J){o:Xn->K->Prop}{a:Xu Xn}(v:b.map d.eval=a)(x:Co k i a c o)
 (next:∀p q,o p q->CO k m e n D more Q (d.put g.dst p) q):CO k m e n D (l::more) Q d c:=by
 grind [Pw]
end
end
end Go.Sim
namespace Go.Sv
open Go.MapKept Go.Proofs Go.RowKit Go.Lib Go.WideShapes Go.Sort Go.Sim Wt
variable{z:eA}{h:E->Prop}{u:E}{e:E}{y:cz}{b:K}{O:Xz XG}{w':K}{c:Xn}{t:Xq XC}{D:Xu Oper}{Q:Exit->XF->K->Prop}{i:Out}{d:Xu Xn}
section
variable[Inhabited aN]
variable{g f k m N:E}{r:Xq Out}{p:fB}{rq:E->RV}{q:E->dA}{s:Xq dA}
theorem xq.eq(n:xq h g b)(o:w'.heap=b.heap):xq h g w':=n.keep λa _=>by rw[o]
theorem pk.eq{own:E->Prop}(o:pk g f own O e rq b)(n:w'.heap=b.heap):pk g f own O e rq w':=by simp_all [pk]
theorem oA.eq(n:oA g f u k y m r p b)(o:w'.heap=b.heap):oA g f u k y m r p w':=n.old (by simp_all) λa _=>by rw[o]
theorem Fg{c d:K}{a:E}(g:gw b w' a)(e:c.heap=b.heap)(f:d.heap=w'.heap):gw c d a:=by simp_all [gw]
theorem cK.eq{x:fB}{R S:K}(n:cK h g f u k y m p O s b c w' x)(v:R.heap=b.heap)(w:S.heap=w'.heap):cK h g f u k y m p O s R c S x where
 at':=n.at'.eq w
 val:=n.val
 keep:=λa X T U=>Fg (n.keep a (by simp_all) T U) v w
 ro:=λa o=>by rw[w,v];exact n.ro a o
 size:=by rw[w,v];exact n.size
 own:=λa o=>by rw[v];exact n.own a o
 use:=λa o=>by rw[v];exact n.use a o
 iO:=λa W o=>by rw[w,v];exact n.iO a W o
section
variable{L:XU}{H:Sim.Rt}{a:XF}{ks:Xq E}{l:Xq Oper}
theorem ct(x:al.fr L=J)(R:H.kn.map (·.1)=ks)(e n:E){more:Xq E}(S:l.map C=(Xq.range' e n).map (λU=>D[U]?))(T:nl TP al ks l.toArray=J)
 (w:∀w':K,w'.heap=b.heap->w'.os=b.os->w'.output=b.output->wpList TP D (eB λv o=>sq h b o/\CO (goalAt TP F F z al h) (Go.Conc.base L) H t D more Q v o) l a w'):CO (goalAt TP F F z al h) (Go.Conc.base L) H t D (Xq.range' e n++more) Q a b:=
 Sim.co_take aC x (by simp[Go.Conc.base]) R e n S T w
theorem cl(w:al.fr L=J)(x:H.kn.map (·.1)=ks)(R:nl TP al ks l.toArray=J){id:E}
 (v:∀w':K,w'.heap=b.heap->w'.os=b.os->w'.output=b.output->wpList TP l.toArray (eB λo n=>sq h b n/\Q .normal o n) l a w'):CW (goalAt TP F F z al h) (Go.Conc.base L) H t (.region id l.toArray Xp) Q a b:=
 Pz aC w (by simp[Go.Conc.base]) x R v
end
theorem DS(Z:oA g f u k y m r p b)(Y:xq h g b)(a6:1<=k/\k<2^16)(a1:pk g f (aH u y.tree p) O e rq b)(a5:e<=64)(a2:m<2^16)
 (a9:∀n,n<e->RQ (rq n) (q n))(a8:∀n,n<e->qj (q n).op)(a3:∀n,n<e->(q n).op.kind=1\/(q n).op.kind=3\/(q n).op.kind=4\/(q n).op.kind=5\/(q n).op.kind=6\/(q n).op.kind=8\/(q n).op.kind=9\/(q n).op.kind=10)
 (a7:∀n,(rq n).oa=F)(a4:s.length=e)(b0:∀n W,s[n]?=C W->q n=W):
 Co (goalAt TP F F z al h) 18 #[pt f 0,.slice O e N] b λc w'=>∃o,cK h g f u k y m p O s b c w' o:=by
 refine Hp aC (by decide) (fn:=Tryz.f18) Tryz.func18 A (Q:=λT a w'=>T=.ret/\a.defers=[]/\∃c,a.tmps[4]?=C c/\∃o,cK h g f u k y m p O s b c w' o) (λb3 t=>?_) ?_
 .show CW _ _ _ _ _ _ ⟨#[pt f 0,.slice O e N,I,I,I,I,I,I,I,I,I],[]⟩ b;refine aZ (cl (by decide) (ks:=[]) A (by rfl) λb1 v _ _=>?_)
  go_wp2
  refine Sim.kp v ?_;have a0:oA g f u k y m r p b1:=Z.old (by simp_all) λa _=>by rw[v]
  refine aZ (ej (R:=7) A (ct (by decide) (ks:=[]) A 0 5 (l:=[_,_,_,_,_]) A (by rfl) λX w _ _=>?_));have S:oA g f u k y m r p X:=a0.old (by simp_all) λa _=>by rw[w]
  have b5:X.cell? ⟨f,0,F⟩=C (pt u 0):=by simp[K.cell?,S.ptr]
  go_wp2
  refine Sim.kp w ?_;refine iA (a:=#[pt u 0,.slice O e N]) (l:=5) (more:=[6]) (by decide) A rfl rfl rfl Tryz.func31 (by decide) A (by decide) (by simp[Act.eval]) (FQ S (Y.eq (w.trans v)) a6 (a1.eq (w.trans v)) a5 a2 a9 a8 a3 a7 a4 b0) λc b8 x=>?_;refine ct (by decide) (ks:=[]) A 6 1 (more:=[]) (l:=[_]) A (by rfl) λb9 U _ _=>?_
  go_wp2
  refine show _/\_ from⟨λd _=>by rw[U],df (mQ ?_)⟩;obtain⟨o,x⟩:=x;exact⟨A,A,c,A,o,x.eq (w.trans v).symm U⟩
 rintro T a w'⟨rfl,hd,c,b4,R⟩;refine⟨Xs A,hd,λb7=>⟨c,?_,?_⟩⟩
 .simp_all [results]
 obtain⟨o,R⟩:=R;exact⟨o,R.eq A rfl⟩
theorem pw(b:K)(i:Obj):(b.alloc i).heap.size=b.heap.size+1:=by simp
def QD(a:dA):RV:=⟨a.ak,a.op.kind,bs a.op.path,bs a.op.data,a.op.aE,a.op.flags,a.watch,F,0,0⟩
abbrev IC(a:dA):Xu Xn:=#[Xo M a.ak,Xo M a.op.kind,.string (bs a.op.path),.string (bs a.op.data),Xo M a.op.aE,Xo M a.op.flags,.bool a.watch,Xw F 0 0]
theorem Sa{n:dA}(W:oA g f u k y m r p b)(a5:xq h g b)(d2:1<=k/\k<2^16)(c9:m<2^16)(d3:qj n.op)(b3:n.op.kind=1\/n.op.kind=3\/n.op.kind=4\/n.op.kind=5\/n.op.kind=6\/n.op.kind=8\/n.op.kind=9\/n.op.kind=10):
 Co (goalAt TP F F z al h) 28 #[pt f 0,Xo M n.ak,Xo M n.op.kind,.string (bs n.op.path),.string (bs n.op.data),Xo M n.op.aE,Xo M n.op.flags,.bool n.watch] b λc w'=>∃S,cK h g f u k y m p F [n] b c w' S:=by
 refine vu aC (by decide) (fn:=Tryz.f28) Tryz.func28 A (Q:=λX a w'=>X=.ret/\a.defers=[]/\∃c,a.tmps[16]?=C c/\∃S,cK h g f u k y m p F [n] b c w' S) (r:=#[pt f 0,Xo M n.ak,Xo M n.op.kind,.string (bs n.op.path),.string (bs n.op.data),Xo M n.op.aE,Xo M n.op.flags,.bool n.watch,I,I,I,I,I,I,I,I,I,I,I,I,I,I,I,I,I,I,I,I,I,I,I,I]) (by kernel_rfl) (λe0 t=>?_) ?_
 .refine aZ (cl (by decide) (ks:=[]) A (by rfl) λf8 b7 _ _=>?_)
  go_wp2
  refine Sim.kp b7 ?_;refine aZ (cl (by decide) (ks:=[]) A (by rfl) λf9 e1 _ _=>?_)
  go_wp2
  have e7:=(XZ.1 W.ptr).1;have e8:=W.KU;have a2:∀d,h d->d<b.heap.size:=λd R=>by have:=a5.lt d R;omega
  refine show _/\_ from⟨λd R=>?_,?_⟩
  .simp_all [Yc]
  refine aZ (cl (by decide) (ks:=[]) A (by rfl) λa3 b8 _ _=>?_)
  have o:a3.heap[b.heap.size]?=C (Xx #[Xo M n.ak,Xo M 0,.string ⟨#[]⟩,.string ⟨#[]⟩,Xo M 0,Xo M 0,.bool n.watch,Xw F 0 0] 31 (0,0)):=by grind [Go.MapKept.heap_alloc]
  have d5:∀a,a<b.heap.size->a3.heap[a]?=b.heap[a]?:=by simp_all [Yc]
  have f1:a3.heap.size=b.heap.size+1:=by simp_all
  clear b8;have a8:=aa o 1 A;have a9:=aa o 2 A;have b0:=aa o 3 A;have b1:=aa o 4 A;have b2:=aa o 5 A;have b9:=frozenAt o 1;have c0:=frozenAt o 2;have c6:=frozenAt o 3;have c7:=frozenAt o 4;have c8:=frozenAt o 5
  go_wp2
  refine show _/\_ from⟨λd R=>?_,?_⟩
  .grind [ai,Below.heap_alloc]
  refine aZ (ej (R:=5) A (ct (by decide) (ks:=[]) A 0 3 (l:=[_,_,_]) A (by rfl) λU a6 _ _=>?_))
  have x:U.heap[b.heap.size]?=C (Xx (IC n) 31 (0,0)):=by rw[a6];exact aA (aA (aA (aA (aA o))))
  have d6:∀a,a<b.heap.size->U.heap[a]?=b.heap[a]?:=by grind [ai]
  have f2:U.heap.size=b.heap.size+1:=by simp_all
  clear a6 o a8 a9 b0 b1 b2 b9 c0 c6 c7 c8;have a8:=aa x 0 A;have a9:=aa x 1 A;have b0:=aa x 2 A;have b1:=aa x 3 A;have b2:=aa x 4 A;have e2:=aa x 5 A;have e3:=aa x 6 A;have e4:=aa x 7 A
  go_wp2
  generalize e9:U.alloc _=a4
  have d0:a4.heap[b.heap.size+1]?=C (Xx (IC n) 31 (0,0)):=by grind [Go.MapKept.heap_alloc]
  have d7:∀a,a<b.heap.size+1->a4.heap[a]?=U.heap[a]?:=by grind [Below.heap_alloc]
  have f3:a4.heap.size=b.heap.size+2:=by grind [pw]
  have Z:=λa v=>(d7 a (by omega)).trans (d6 a v);refine show _/\_ from⟨λd R=>?_,?_⟩
  .have b5:=a2 d R;rw[Z d b5,ai (by omega),ai (by omega),ai (by omega),ai (by omega),ai (by omega),d5 d b5]
  have b6:=W.old (by omega) Z;refine iA (a:=#[pt f 0,Xw (C ⟨b.heap.size+1,0,F⟩) 1 1]) (l:=3) (more:=[4]) (by decide) A rfl rfl rfl Tryz.func18 (by decide) A (by decide) (by kernel_rfl) (DS (rq:=λ_=>QD n) (q:=λ_=>n) (s:=[n]) b6 (a5.keep λa v=>Z a (a2 a v)) d2 ?_ (by decide) c9 (λ_ _=>⟨A,A,A,A,A,A,A⟩) (λ_ _=>d3) (λ_ _=>b3) (λ_=>rfl) A (λY d w=>?_)) λc g0 a1=>?_
  .refine Xs ⟨_,0,IC n,31,(0,0),A,d0,(by simp),(by simp),λd4 d R=>?_,?_,λY b3 j e6=>?_,by omega,by omega,λw=>?_⟩
   .have b4:=YK.2 (YE R);simp only[Yg,Yo,Ze]at b4;rcases b4 with rfl|rfl|rfl|rfl|rfl|rfl|rfl|rfl
    all_goals first|exact .int _ _|exact .string _|exact .bool _|exact .aO _ _
   .refine fT λd R f0 X=>?_;simp_all
   .obtain rfl:Y=0:=by omega
    rw[abB,Zz];rfl
   have:=W.fu.bg w;omega
  .rcases Y with _|Y
   .simp_all
   cases w
  refine ct (by decide) (ks:=[]) A 4 1 (more:=[]) (l:=[_]) A (by rfl) λg1 a7 _ _=>?_
  go_wp2
  refine show _/\_ from⟨λd _=>by rw[a7],df (mQ ?_)⟩;obtain⟨S,a1⟩:=a1;refine⟨A,A,c,A,S,?_⟩;have T:=a1.eq A a7
  exact{
   at':=T.at'
   val:=T.val
   keep:=λa v d1 _=>by have:=T.keep a (by omega) d1 (λd8 X=>by simp_all);simp_all [gw]
   ro:=λa v=>(T.ro a v).trans (Z a (a2 a v))
   size:=by have:=T.size;omega
   own:=λa v=>(T.own a v).imp id λw=>by omega
   use:=λa v=>(T.use a v).imp id λw=>w.imp id λw=>by omega
   iO:=λa d8 w=>by cases w}
 rintro X a w'⟨rfl,hd,c,e5,a0⟩;refine⟨Xs A,hd,λf4=>⟨c,?_,?_⟩⟩
 .simp_all [results]
 obtain⟨S,a0⟩:=a0;exact⟨S,a0.eq A rfl⟩
abbrev AH:Xu Xn:=#[Xo M 0,Xo M 0,Xo M 0,Xo M 0,.string ⟨#[]⟩,.string ⟨#[]⟩,.bool Xp,Xo M 0,Xo M 0,Xo M 0,Xo M 0,Xo M 0,Xo M 0,Xo M 0,Xw F 0 0,Xw F 0 0]
theorem lZ:∀{l:Xq Out}{n:Xq (Xn×Xn)},l.length=n.length->(bT l n).length=l.length*16
 |[],[],_=>rfl
 |i::l,c::n,o=>by
  have:=lZ (l:=l) (n:=n) (by simpa using o);simp only[bT,Xq.zip_cons_cons,ZF,YA,Yv]at this⊢
  rw[this];show 16+l.length*16=_;omega
theorem DD{c:Xn×Xn}(d:eU i c b):(gZ i c).all (·.oneCell')=J:=by
 obtain⟨k,m⟩:=c;obtain⟨a,e,f,g⟩:∃a e f,k=.slice a e f:=by rcases d.1 with⟨d,_⟩|⟨_,_,_,_,_,d,_⟩<;>exact⟨_,_,_,d⟩
 obtain⟨n,p,o,h⟩:∃a e f,m=.slice a e f:=by rcases d.2 with⟨d,_⟩|⟨_,_,_,_,_,d,_⟩<;>exact⟨_,_,_,d⟩
 subst g h
 kernel_rfl
theorem AG{c:Xn×Xn}(d:eU i c b):∃a e f g k h,c=(.slice a e f,.slice g k h):=by
 obtain⟨m,n⟩:=c;obtain⟨a,e,f,o⟩:∃a e f,m=.slice a e f:=by rcases d.1 with⟨d,_⟩|⟨_,_,_,_,_,d,_⟩<;>exact⟨_,_,_,d⟩
 obtain⟨g,k,h,p⟩:∃a e f,n=.slice a e f:=by rcases d.2 with⟨d,_⟩|⟨_,_,_,_,_,d,_⟩<;>exact⟨_,_,_,d⟩
 simp_all
theorem Ga{l:Xq Out}{b:Xq (Xn×Xn)}{e:Xu Xn}(k:(l++[i]).length=b.length)(h:e.toList.take ((l++[i]).length*16)=bT (l++[i]) b):∃a,b[l.length]?=C a/\∀j c,(gZ i a).toList[j]?=C c->e[l.length*16+j]?=C c:=by
 obtain⟨f,a,rfl⟩:∃f a,b=f++[a]:=by
  rcases g:b.reverse with _|⟨d,q⟩
  .simp at g;subst g;simp at k
  simp_all
 have m:l.length=f.length:=by simp_all
 rw[rr m]at h;refine⟨a,by simp_all,λj c o=>?_⟩
 have n:(e.toList.take ((l++[i]).length*16))[l.length*16+j]?=C c:=by simp_all [YQ,lZ]
 grind
def uS(r:Xq Out)(k:Xq (Xn×Xn))(c:Xn):Prop:=(r=[]/\c=.agg (gZ {err:=-1} ly))\/∃i b,r.getLast?=C i/\k[r.length-1]?=C b/\c=.agg (gZ i b)/\∃a e f d h g,b=(.slice a e f,.slice d h g)
def TS(h:E->Prop)(g f u k:E)(y:cz)(m:E)(p:fB)(e:dA)(b:K)(i:Exit)(a:XF)(w':K):Prop:=i=.ret/\a.defers=[]/\∃d n c,a.tmps.getD 16 I=pt b.heap.size 0/\w'.heap[b.heap.size]?=C (Xx d 38 n)/\d.size=16/\cK h g f u k y m p F [e] b c.ov w' c/\uS (Wt.handle y 0 [e]).2 c.vs (.agg d)
theorem UF{i:fB}{o:dA}{t q:K}{a:XF}{v:E×E}(n:cK h g f u k y m p F [o] b c t i)(Q:∀a,h a->a<b.heap.size)(S:f<b.heap.size)(H:∀a,aH u (Wt.handle y 0 [o]).1.tree i a\/dm i a->a≠b.heap.size)(r:∀s,s≠b.heap.size->q.heap[s]?=t.heap[s]?)(T:q.heap.size=t.heap.size)(hd:a.defers=[])(x:a.tmps.getD 16 I=pt b.heap.size 0)(D:q.heap[b.heap.size]?=C (Xx d 38 v))(R:d.size=16)(L:uS (Wt.handle y 0 [o]).2 i.vs (.agg d)):TS h g f u k y m p o b .ret a q:=by
 refine⟨A,hd,d,v,i,x,D,R,?_,L⟩;have O:=n.at'
 exact{
  at':=⟨O.fu.same ⟨by omega,λa e=>r a (H a (Xr e)),λa e=>by simp_all⟩,by rw[r f (by omega)];exact O.ptr,O.ok,O.own,O.KU,O.use⟩
  val:=A
  keep:=λa e N z=>by
   have:=n.keep a e N z
   grind [gw]
  ro:=λa e=>by have:=Q a e;rw[r a (by omega)];exact n.ro a e
  size:=by grind
  own:=n.own
  use:=n.use
  iO:=λa U w=>by cases w}
theorem SU{n:dA}(U:oA g f u k y m r p b)(b6:xq h g b)(e1:1<=k/\k<2^16)(d8:m<2^16)(e2:qj n.op)(a1:n.op.kind=1\/n.op.kind=3\/n.op.kind=4\/n.op.kind=5\/n.op.kind=6\/n.op.kind=8\/n.op.kind=9\/n.op.kind=10):
 Co (goalAt TP F F z al h) 16 #[pt f 0,Xo M n.ak,Xo M n.op.kind,.string (bs n.op.path),.string (bs n.op.data),Xo M n.op.aE,Xo M n.op.flags,.bool n.watch] b λc w'=>∃w,cK h g f u k y m p F [n] b w.ov w' w/\uS (Wt.handle y 0 [n]).2 w.vs c:=by
 refine vu aC (by decide) (fn:=Tryz.f16) Tryz.func16 A (Q:=TS h g f u k y m p n b) (r:=#[pt f 0,Xo M n.ak,Xo M n.op.kind,.string (bs n.op.path),.string (bs n.op.data),Xo M n.op.aE,Xo M n.op.flags,.bool n.watch,I,I,I,I,I,I,I,I,I,I,I,I,I,I,I,I,I,I,I,I,I,I,I,I,I,I,I,I,I]) (by kernel_rfl) (λf1 t=>?_) ?_
 .refine aZ (cl (by decide) (ks:=[]) A (by rfl) λh1 d4 _ _=>?_)
  go_wp2
  have d0:=(XZ.1 U.ptr).1;have g3:=U.KU;have a5:∀d,h d->d<b.heap.size:=λd a2=>by have:=b6.lt d a2;omega
  refine show _/\_ from⟨λd a2=>?_,?_⟩
  .simp_all [Yc]
  refine aZ (ej (R:=10) A (ct (by decide) (ks:=[]) A 0 8 (l:=[_,_,_,_,_,_,_,_]) A (by rfl) λb5 b7 _ _=>?_))
  have b1:b5.heap[b.heap.size]?=C (Xx AH 38 (0,0)):=by grind [Go.MapKept.heap_alloc]
  have a6:∀a,a<b.heap.size->b5.heap[a]?=b.heap[a]?:=by simp_all [Yc]
  have e7:b5.heap.size=b.heap.size+1:=by simp_all
  go_wp2
  refine Sim.kp b7 ?_;clear b7;refine iA (a:=#[pt f 0,Xo M n.ak,Xo M n.op.kind,.string (bs n.op.path),.string (bs n.op.data),Xo M n.op.aE,Xo M n.op.flags,.bool n.watch]) (l:=8) (more:=[9]) (by decide) A rfl rfl rfl Tryz.func28 (by decide) A (by decide) (by kernel_rfl) (Sa (n:=n) (U.old (by omega) a6) (b6.keep λa x=>a6 a (a5 a x)) e1 d8 e2 a1) λc a7 v=>?_;obtain⟨w,v⟩:=v
  have f6:a7.heap[b.heap.size]?=C (Xx AH 38 (0,0)):=by rw[<-b1];refine vk (v.keep _ (by omega) (λo=>by have:=U.fu.bg o;omega) (λ_ o=>by cases o)) b1 (fT λd a2 g6 a3=>?_);simp_all
  have a0:cK h g f u k y m p F [n] b w.ov a7 w:={
   at':=v.at'
   val:=A
   keep:=λa x e0 _=>by have:=v.keep a (by omega) e0 (λe6 a3=>by cases a3);simp_all [gw]
   ro:=λa x=>(v.ro a x).trans (a6 a (a5 a x))
   size:=by grind
   own:=λa x=>(v.own a x).imp id λo=>by omega
   use:=λa x=>(v.use a x).imp id λo=>o.imp id λo=>by omega
   iO:=λa e6 o=>by cases o}
  have c9:∀a,aH u (Wt.handle y 0 [n]).1.tree w a\/dm w a->a≠b.heap.size:=λa x a3=>by
   have f4:=U.fu.bC.2.2;rcases x with x|x
   .rcases v.own a x with o|o
    .have:=U.fu.bg o;omega
    omega
   rcases v.use a x with o|o|o<;>omega
  have e3:=v.val;subst e3;have g4:b.heap.size<a7.heap.size:=by grind
  clear v b1 a6 e7 d4;have b0:=a0.at'.fu.row;obtain⟨Y,b2⟩:∃Y,(Wt.handle y 0 [n]).2=Y:=by simp
  refine ct (by decide) (ks:=[]) A 9 1 (more:=[]) (l:=[_]) A (by rfl) λe8 d5 _ _=>?_
  go_wp2
  refine Xe d5 ?_;obtain⟨a8,a9,b3⟩:∃a8 a9,w.ov=.slice a8 Y.length a9:=by
   rcases b0.2 with⟨a4,Z⟩|⟨W,S,T,a4,_⟩
   .simp_all
   simp_all
  rw[b3];have f7:e8.heap[b.heap.size]?=C (Xx AH 38 (0,0)):=by simp_all
  refine aZ (aZ (cl (by decide) (ks:=[]) A (by rfl) λh2 b8 _ _=>?_));rcases f8:Y.reverse with _|⟨i,q⟩
  .obtain rfl:Y=[]:=by simp_all
   go_wp2
   refine BL b8 ?_;refine ei (g:=J) (by decide) A ?_;show CW _ _ _ _ (.seq _ _) _ _ _;refine(aZ (ej (R:=2) A (ct (by decide) (ks:=[]) A 0 1 (more:=[1]) (l:=[_]) A (by rfl) λh3 d6 _ _=>?_)))
   go_wp2
   refine Sim.kp d6 ?_;refine ct (by decide) (ks:=[]) A 1 1 (more:=[]) (l:=[_]) A (by rfl) λd3 b9 _ _=>?_;have c7:d3.heap[b.heap.size]?=C (Xx AH 38 (0,0)):=by simp_all
   refine Zm A 38 _ _ A b.heap.size (gZ {err:=-1} ly) A rfl 38 AH c7 A rfl (by kernel_rfl) ?_;refine show _/\_ from⟨λd a2=>?_,df (show CW _ _ _ _ _ _ _ _ from mQ ?_)⟩
   .grind [setRow_other]
   refine UF a0 a5 d0 c9 (λX a1=>?_) ?_ A rfl (k_ _ _ _ _ _ _ c7) A (Xr ⟨b2,A⟩)
   .simp_all [ZO]
   simp_all
  obtain⟨l,rfl⟩:∃l,Y=l++[i]:=by simp_all
  obtain⟨W,S,T,a4,Z,v,c0,c6,f5,_⟩:=(by
   rw[b2]at b0;rcases b0.2 with⟨_,Z⟩|o
   .simp at Z
   exact o:∃W S T,w.ov=Xw (C ⟨W,0,F⟩) (l++[i]).length S/\a7.heap[W]?=C (Xx T 38 (0,0))/\(l++[i]).length<=S/\S<=maxLen/\T.size=S*16/\T.toList.take ((l++[i]).length*16)=bT (l++[i]) w.vs/\∀d∈T.toList,NB d)
  obtain⟨rfl,rfl⟩:a8=C ⟨W,0,F⟩/\a9=S:=by simp_all
  obtain⟨R,b4,e5⟩:∃R,w.vs[l.length]?=C R/\∀j c,(gZ i R).toList[j]?=C c->T[l.length*16+j]?=C c:=by
   have g2:=a0.at'.fu.outs.1
   grind [Ga]
  have d1:=a0.at'.fu.outs.2 l.length i R (by simp_all) b4;have e4:=Xv (show w.vs[(l++[i]).length-1]?=C R by simpa using b4);clear b4;have d9:(l++[i]).length=l.length+1:=by simp
  rw[d9]at v b3⊢
  have a1:l.length+1<2^63:=by grind [maxLen]
  generalize l.length=X at v b3 e5 a1⊢
  have g1:((X:Xt)+1==0)=Xp:=by simp;omega
  have g0:wrap64 ((X:Xt)+1-1)=X:=by grind [wrap64]
  go_wp2
  refine BL b8 ?_;refine ei (g:=Xp) (by decide) (by rfl) ?_;refine ig (show CW _ _ _ _ _ _ _ _ from ?_);refine aZ (ej (R:=7) A (ct (by decide) (ks:=[]) A 0 5 (more:=[5,6]) (l:=[_,_,_,_,_]) A (by rfl) λd3 b9 _ _=>?_))
  go_wp2
  refine Sim.kp b9 ?_;refine ct (by decide) (ks:=[]) A 5 2 (more:=[]) (l:=[_,_]) A (by rfl) λe9 f2 _ _=>?_;have c8:e9.heap[b.heap.size]?=C (Xx AH 38 (0,0)):=by simp_all
  refine wpList_load_mid A 38 _ A W (X*16) A (gZ i R).toList _ (λj c f9=>?_) A rfl rfl ?_
  .grind [aa]
  refine Zm A 38 _ _ A b.heap.size (gZ i R) A rfl 38 AH c8 A rfl (DD d1) ?_;refine show _/\_ from⟨λd a2=>?_,df (show CW _ _ _ _ _ _ _ _ from mQ ?_)⟩
  .grind [setRow_other]
  refine UF a0 a5 d0 c9 (λX a1=>?_) ?_ A rfl (k_ _ _ _ _ _ _ c8) A (Xs ⟨i,R,by simp_all,by rw[b2];exact e4.out,A,AG d1⟩)
  .simp_all [ZO]
  simp_all
 rintro a3 a w'⟨rfl,hd,d,d7,w,a4,Z,v,c0,c6⟩;refine⟨Xs A,hd,λd2=>⟨.agg d,?_,w,c0.eq A rfl,c6⟩⟩;exact aaU (ty:=38) A _ _ b.heap.size 38 d d7 _ a4 Z A rfl (by rw[v];rfl)
end
variable{d:E}{a:K}{e:Path}{b:E}{c:K}
theorem Tx(a:K):Calls TP 51 #[] a λd c=>d=XB (pt (a.heap.size+2) 0)/\c=((a.alloc (.map #[] 0)).alloc (.cells (cW [] {} 0 a.heap.size) 192)).alloc (.cells #[pt (a.heap.size+1) 0,Xo M 1,Xw F 0 0] 195):=by
 have e:=λb=>aaE (P:=TP) 188 b;go_enter Tryz.func51,Tryz.ntmps51
 go_wp2
 go_ret;exact⟨A,A⟩
theorem TG(a:K):Calls TP 52 #[] a λd c=>d=XB (pt (a.heap.size+1) 0)/\c=(a.alloc (.map #[] 0)).alloc (.cells #[.map (C a.heap.size)] 198):=by
 have e:=λb=>aaE (P:=TP) 196 b;go_enter Tryz.func52,Tryz.ntmps52
 go_wp2
 go_ret;simp
structure Ra(b:E)(h g:Xt)(a c:K):Prop where
 size:c.heap.size=b+9
 old:∀f,f<b->c.heap[f]?=a.heap[f]?
 h1:c.heap[b+1]?=C (.map #[] 0)
 h2:c.heap[b+2]?=C (Xx (cW [] {} 0 (b+1)) 192 (0,0))
 h3:c.heap[b+3]?=C (Xx #[pt (b+2) 0,Xo M 1,Xw F 0 0] 195 (0,0))
 h4:c.heap[b+4]?=C (.map #[] 0)
 h5:c.heap[b+5]?=C (Xx #[.map (C (b+4))] 198 (0,0))
 h6:c.heap[b+6]?=C (.map #[] 0)
 h7:c.heap[b+7]?=C (Xx (Fp h g (b+3) (b+5) (b+6) 0 0 1 (Xw F 0 0) .nilFunc) 98 (0,0))
 h8:c.heap[b+8]?=C (Xx #[pt (b+7) 0] 78 (0,0))
theorem eG(a:K)(b:Obj)(c:a.heap.size=d):(a.alloc b).heap[d]?=C b:=by grind [heap_alloc]
theorem bh(c:Obj){b:Obj}(e:a.heap[d]?=C b):(a.alloc c).heap[d]?=C b:=by grind [heap_alloc]
theorem rK(g:Obj)(f:a.heap.size=d):(a.alloc g).heap.size=d+1:=by simp[f]
theorem RY(a:K)(b c d e f g h k l:Obj):(((((((((a.alloc b).alloc c).alloc d).alloc e).alloc f).alloc g).alloc h).alloc k).alloc l).heap.size=a.heap.size+9/\(∀i,i<a.heap.size->(((((((((a.alloc b).alloc c).alloc d).alloc e).alloc f).alloc g).alloc h).alloc k).alloc l).heap[i]?=a.heap[i]?)/\(((((((((a.alloc b).alloc c).alloc d).alloc e).alloc f).alloc g).alloc h).alloc k).alloc l).heap[a.heap.size+1]?=C c/\(((((((((a.alloc b).alloc c).alloc d).alloc e).alloc f).alloc g).alloc h).alloc k).alloc l).heap[a.heap.size+2]?=C d/\(((((((((a.alloc b).alloc c).alloc d).alloc e).alloc f).alloc g).alloc h).alloc k).alloc l).heap[a.heap.size+3]?=C e/\(((((((((a.alloc b).alloc c).alloc d).alloc e).alloc f).alloc g).alloc h).alloc k).alloc l).heap[a.heap.size+4]?=C f/\(((((((((a.alloc b).alloc c).alloc d).alloc e).alloc f).alloc g).alloc h).alloc k).alloc l).heap[a.heap.size+5]?=C g/\(((((((((a.alloc b).alloc c).alloc d).alloc e).alloc f).alloc g).alloc h).alloc k).alloc l).heap[a.heap.size+6]?=C h/\(((((((((a.alloc b).alloc c).alloc d).alloc e).alloc f).alloc g).alloc h).alloc k).alloc l).heap[a.heap.size+7]?=C k/\(((((((((a.alloc b).alloc c).alloc d).alloc e).alloc f).alloc g).alloc h).alloc k).alloc l).heap[a.heap.size+8]?=C l:=by
 have n:(a.alloc b).heap.size=a.heap.size+1:=by simp
 have o:((a.alloc b).alloc c).heap.size=a.heap.size+2:=by simp
 have p:(((a.alloc b).alloc c).alloc d).heap.size=a.heap.size+3:=by simp
 have q:((((a.alloc b).alloc c).alloc d).alloc e).heap.size=a.heap.size+4:=by simp
 have r:(((((a.alloc b).alloc c).alloc d).alloc e).alloc f).heap.size=a.heap.size+5:=by simp
 have s:((((((a.alloc b).alloc c).alloc d).alloc e).alloc f).alloc g).heap.size=a.heap.size+6:=by simp
 have t:(((((((a.alloc b).alloc c).alloc d).alloc e).alloc f).alloc g).alloc h).heap.size=a.heap.size+7:=by simp
 have v:((((((((a.alloc b).alloc c).alloc d).alloc e).alloc f).alloc g).alloc h).alloc k).heap.size=a.heap.size+8:=by simp
 have u:(((((((((a.alloc b).alloc c).alloc d).alloc e).alloc f).alloc g).alloc h).alloc k).alloc l).heap.size=a.heap.size+9:=by simp
 refine⟨u,λi m=>?_,?_,?_,?_,?_,?_,?_,?_,?_⟩
 .rw[(ZN _ _).2 i (by omega),(ZN _ _).2 i (by omega),(ZN _ _).2 i (by omega),(ZN _ _).2 i (by omega),(ZN _ _).2 i (by omega),(ZN _ _).2 i (by omega),(ZN _ _).2 i (by omega),(ZN _ _).2 i (by omega),(ZN _ _).2 i m]
 .exact bh _ (bh _ (bh _ (bh _ (bh _ (bh _ (bh _ (eG _ _ n)))))))
 .exact bh _ (bh _ (bh _ (bh _ (bh _ (bh _ (eG _ _ o))))))
 .exact bh _ (bh _ (bh _ (bh _ (bh _ (eG _ _ p)))))
 .exact bh _ (bh _ (bh _ (bh _ (eG _ _ q))))
 .exact bh _ (bh _ (bh _ (eG _ _ r)))
 .exact bh _ (bh _ (eG _ _ s))
 .exact bh _ (eG _ _ t)
 grind [eG]
theorem Sf{d b:Xt}(a:K):Calls TP 34 #[Xo M d,Xo M b] a λf c=>f=XB (pt (a.heap.size+6) 0)/\c=((((((a.alloc (.map #[] 0)).alloc (.cells (cW [] {} 0 a.heap.size) 192)).alloc (.cells #[pt (a.heap.size+1) 0,Xo M 1,Xw F 0 0] 195)).alloc (.map #[] 0)).alloc (.cells #[.map (C (a.heap.size+3))] 198)).alloc (.map #[] 0)).alloc (.cells (Fp d b (a.heap.size+2) (a.heap.size+4) (a.heap.size+5) 0 0 1 (Xw F 0 0) .nilFunc) 98):=by
 have g:=λe=>aaE (P:=TP) 96 e;go_enter Tryz.func34,Tryz.ntmps34
 go_wp2_with (first
  |(go_at_call 51;refine(Tx _).mono ?_;rintro _ _⟨rfl,rfl⟩)
  |(go_at_call 52;refine(TG _).mono ?_;rintro _ _⟨rfl,rfl⟩))
 go_ret;simp
theorem Qg{d b:Xt}(r:1<=d/\d<=100)(q:1<=b/\b<=8)(a:K):Calls TP 26 #[.agg #[Xo M d,Xo M b]] a λp c=>p=XB (.tuple #[pt (a.heap.size+8) 0,.nilIface])/\Ra a.heap.size d b a c:=by
 go_enter Tryz.func26,Tryz.ntmps26
 go_wp2_with (go_at_call 34;refine(Sf _).mono ?_;rintro _ _⟨rfl,rfl⟩)
 go_ret2;refine⟨A,?_⟩
 obtain⟨e,o,f,g,h,i,k,l,m,n⟩:=RY a (.cells #[Xo M d,Xo M b] 69) (.map #[] 0) (.cells (cW [] {} 0 (a.heap.size+1)) 192) (.cells #[pt (a.heap.size+1+1) 0,Xo M 1,Xw F 0 0] 195) (.map #[] 0) (.cells #[.map (C (a.heap.size+1+3))] 198) (.map #[] 0)
  (.cells (Fp d b (a.heap.size+1+2) (a.heap.size+1+4) (a.heap.size+1+5) 0 0 1 (Xw F 0 0) .nilFunc) 98) (.cells #[pt (a.heap.size+1+6) 0] 78)
 exact⟨e,o,f,g,h,i,k,l,m,n⟩
theorem nB:Stamped #[] 0:=⟨by simp,by simp,by simp⟩
theorem ju{b:Nd}(a:Wt.find [([],{})] e=C b):e=[]/\b={}:=by
 rcases e with _|⟨c,e⟩
 .exact⟨A,(YR a).symm⟩
 simp_all [Wt.find]
theorem Qh{q p:Xt}(f:Ra b q p a c)(n:b=a.heap.size)(x:(∃m,a.cell? ⟨1,0,F⟩=C (Xo M m))/\ux a/\4<a.heap.size):
 ∃i,aK (b+7) p {timeout:=q} [] i c/\(∀g,aH (b+7) [([],{})] i g->b<=g/\g≠b+8)/\∀g,dm i g->g=1\/g=4:=by
 subst n;obtain⟨b,n⟩:∃b,a.heap.size=b:=by simp
 rw[n]at f⊢
 let i:fB:={tb:=b+3,nb:=λ_=>b+2,mb:=λ_=>b+1,tw:=b+5,mw:=b+4,f:=λ_=>F,hb:=b+6,ov:=Xw F 0 0,vs:=[]}
 have u:∀g,pP [([],{})] i.nb i.mb i.tb g->g=b+1\/g=b+2\/g=b+3:=λg h=>by
  rcases h with f|⟨e,_,f|f⟩
  .exact Xs (Xs f)
  .exact Xs (Xr f)
  grind
 have w:∀g,eJ i.tw i.mw i.f g->g=b+4\/g=b+5:=λg h=>by
  rcases h with f|f|⟨d,k,f⟩
  .exact Xs f
  .exact Xr f
  cases f
 have v:∀g,dm i g->g=1\/g=4:=λg h=>by
  rcases h with f|f|⟨r,f,_⟩
  .exact Xr f
  .exact Xs f
  cases f
 have s:Kids #[] 0 (cd [([],{})] i.nb []):=⟨nB,λo f=>by simp at f,λa1 H f=>by grind [cd,Option.isSome_iff_exists,ju]⟩
 refine⟨i,⟨?_,?_,IU,?_,?_,?_,?_,?_,?_,?_⟩,λg h=>?_,v⟩
 .exact{
   nd:=λe m l=>by obtain⟨rfl,rfl⟩:=ju l;exact f.h2
   kd:=λe m l=>by obtain⟨rfl,rfl⟩:=ju l;exact⟨_,_,f.h1,s⟩
   inj:=λe k l z _=>by grind [Option.isSome_iff_exists,ju]
   xS:=λe k l z _=>by grind [Option.isSome_iff_exists,ju]}
 .exact⟨Xw F 0 0,Xs ⟨_,_,_,A⟩,f.h3⟩
 .exact⟨f.h5,⟨_,_,f.h4,nB,λo f=>by simp at f,(λd r f=>by cases f)⟩,(λd k=>Xr ⟨A,_,A⟩),(λd k S a0 N f=>by cases f),(λd k=>Xq.Pairwise.nil),(λd k a6 D=>by cases D)⟩
 .refine⟨_,_,f.h6,nB,λo f=>by simp at f,λd r f=>?_⟩;unfold fP at f
  grind
 .exact f.h7
 .exact bV.nil _ _ _ _
 .grind
 .obtain⟨⟨m,y⟩,t,O⟩:=x;exact⟨⟨m,bZ (f.old 1 (by omega)) y⟩,t.stay (by rw[f.old 4 (by omega)]),by rw[f.size];omega⟩
 .refine⟨λg=>if g<=b+3 then(if g<=b then 5 else 0)else if g<=b+5 then 1 else if g=b+6 then 2 else 3,λg h=>?_,λg h=>?_,?_,?_,λg h=>(by cases h),λg h=>?_⟩
  .have:=u g h;show(if g<=b+3 then(if g<=b then 5 else 0)else if g<=b+5 then 1 else if g=b+6 then 2 else 3)=0;rw[XN (by omega),XH (by omega)]
  .have:=w g h;dsimp only;rw[XH (by omega),XN (by omega)]
  .show(if b+6<=b+3 then(if b+6<=b then 5 else 0)else if b+6<=b+5 then 1 else if b+6=b+6 then 2 else 3)=2;rw[XH (by omega),XH (by omega),XN A]
  .show(if b+7<=b+3 then(if b+7<=b then 5 else 0)else if b+7<=b+5 then 1 else if b+7=b+6 then 2 else 3)=3;rw[XH (by omega),XH (by omega),XH (by omega)]
  grind
 rcases h with f|f|f|f|f
 .omega
 .grind
 .grind
 .grind
 cases f
variable{r:Xn}{t:E}{s:Xq XC}{e:E}{j:E}
section
variable[Inhabited aN]
def RH(b:Xt):Prop:=b=1\/b=3\/b=4\/b=5\/b=6\/b=8\/b=9\/b=10
structure BS(ro:E->Prop)(o p u f:E)(y:cz)(g:E)(m:fB)(k:dA)(c:K)(v:Xu Xn)(d:E)(n:K)(i:fB):Prop where
 at':oA o p u f (Wt.handle y 0 [k]).1 (g+1) (Wt.handle y 0 [k]).2 i n
 keep:∀a,a<c.heap.size->¬aH u y.tree m a->gw c n a
 ro:∀a,ro a->n.heap[a]?=c.heap[a]?
 size:c.heap.size<=n.heap.size
 own:∀a,aH u (Wt.handle y 0 [k]).1.tree i a->aH u y.tree m a\/c.heap.size<=a
 use:∀a,dm i a->a=1\/a=4\/c.heap.size<=a
 blk:n.heap[d]?=C (Xx v 38 (0,0))
 new:c.heap.size<=d
 free:¬aH u (Wt.handle y 0 [k]).1.tree i d
 last:uS (Wt.handle y 0 [k]).2 i.vs (.agg v)
 ok:v.all (·.oneCell')=J
 EO:¬aS v
 sz:v.size=16
theorem De{q:Xq Out}{g:Xq (Xn×Xn)}(d:uS q g r):∃b,r=.agg b/\b.all (·.oneCell')=J/\¬aS b/\b.size=16:=by
 rcases d with⟨_,rfl⟩|⟨m,n,_,_,rfl,a,t,i,h,l,k,rfl⟩
 .refine⟨_,A,by kernel_rfl,fT λb e f c=>?_,A⟩;simp_all [gZ]
 refine⟨_,A,by kernel_rfl,fT λb e f c=>?_,A⟩;simp_all [gZ]
section
variable{o p f g x:E}{q:Xq Out}{m:fB}
variable{d:XC}{a:XF}
theorem qu{L:Sim.Rt}{k:dA}{more:Xq E}{O:Xu XV}{a6:Xu XA}{a4:Xq E}(a1:L.kn.map (·.1)=a4)(d7:L.free (C j)=J)(b5:(a4.all λy=>C b !=C y)=J)(a0:al.fr d.fn=J)(S:d.kind≠.early)
 (a9:bM D e (C j) (.call {callee:=.value (.func 16),args:=O,argTypes:=a6}))(b0:bM D (e+1) (C b) (.alloc 38))(b1:bM D (e+2) F (.store 38 (.tmp b) (.tmp j)))
 (d8:j<a.tmps.size)(e0:b<a.tmps.size)(d9:j≠b)(c0:jj TP al.fn al.bi al.cj (.store 38 (.tmp b) (.tmp j))=J)(b4:O.toList.all (dy TP al.fn)=J)
 (b3:O.map a.eval=#[pt p 0,Xo M k.ak,Xo M k.op.kind,.string (bs k.op.path),.string (bs k.op.data),Xo M k.op.aE,Xo M k.op.flags,.bool k.watch])
 (N:oA o p u f y g q m c)(W:xq h o c)(b8:1<=f/\f<2^16)(b2:g<2^16)(b9:qj k.op)(b6:RH k.op.kind)
 (next:∀l X a5 R,BS h o p u f y g m k c l X a5 R->CO (goalAt TP F F z al h) d L s D more Q ((a.put (C j) (.agg l)).put (C b) (pt X 0)) a5):
 CO (goalAt TP F F z al h) d L s D (e::(e+1)::(e+2)::more) Q a c:=by
 obtain⟨e4,c8,c9,d0,e6⟩:=a9;refine iA S (by simp_all) c8 (by simp_all [Region.wanted]) d0 Tryz.func16 (by decide) A b4 b3 (SU (n:=k) N W b8 b2 b9 b6) λr n w=>?_;obtain⟨R,v,Y⟩:=w;rw[c9];obtain⟨l,rfl,a3,c7,T⟩:=De Y;have e1:=(XZ.1 N.ptr).1;have e2:∀l,h l->l<c.heap.size:=λl c6=>by have:=W.lt l c6;have:=N.KU;omega
 have e3:=v.size;refine nN (zS aC a0 S b0 a1 (by decide) b5 λe9 a8 _ _ d2 d1 a7=>?_)
 go_wp2
 refine⟨λi H=>(Yc _ _ _ (by grind)).trans (by rw[a8]),?_⟩;refine zS aC a0 S b1 a1 c0 (by simp) λU d6 _ _ d2 d1 a7=>?_;have Z:U.heap[n.heap.size]?=C (Xx AH 38 (0,0)):=by grind [heap_alloc]
 have e5:∀i,i<n.heap.size->U.heap[i]?=n.heap[i]?:=by simp_all [Yc]
 refine wp_store_row 38 _ _ A n.heap.size l ?_ ?_ 38 AH Z (by rw[T];rfl) (by rw[T];rfl) a3 ?_
 .simp_all [Act.eval]
 .simp_all [Act.eval,Zh]
 have a2:∀i,i<n.heap.size->(U.setRow n.heap.size l).heap[i]?=n.heap[i]?:=by grind [setRow_other]
 refine⟨λi H=>?_,next l n.heap.size _ R ?_⟩
 .grind
 exact{
  at':=v.at'.old (by simp_all) a2
  keep:=λi H b7=>by
   have:=v.keep i H b7 (λ_ w=>by cases w)
   grind [gw]
  ro:=λi H=>by rw[a2 i (by grind)];exact v.ro i H
  size:=by grind [setRow_size]
  own:=v.own
  use:=v.use
  blk:=k_ _ _ _ _ _ _ Z
  new:=by omega
  free:=λw=>by have:=v.at'.fu.bg w;omega
  last:=Y
  ok:=a3
  EO:=c7
  sz:=T}
end
variable{v:E}{f:Xu Xn}{q:E}{D:Out}
theorem Ub{a:Xu Xn}(b:a.size=v):a=((Xq.range v).map λd=>a.getD d I).toArray:=by refine aas (by simp[b]) λd c e=>?_;simp[YG,c]
abbrev Tn(b:Xt)(c:E)(d:E)(a:E->Xn):XF:=⟨#[Xo M b,a 1,XK F,pt c 0,.nilIface,Xo M (d+1),a 6,a 7,a 8,a 9,a 10,a 11,a 12,a 13,a 14,a 15,a 16,a 17,a 18,a 19,a 20,a 21,a 22,a 23,a 24,a 25,a 26,a 27,a 28,a 29,a 30,a 31,a 32,a 33,a 34,a 35,a 36,a 37,a 38,a 39,a 40,a 41,a 42,a 43,a 44,a 45,a 46,a 47,a 48,a 49,a 50,a 51,a 52,a 53,a 54,a 55,a 56,a 57,a 58,a 59,a 60,a 61,a 62,a 63,a 64,a 65,a 66,a 67,a 68,a 69,a 70,a 71,a 72,a 73,a 74,a 75,a 76,a 77],[]⟩
theorem IF{b:Xt}{c:E}{a:XF}(e:a.tmps.size=78)(hd:a.defers=[])(k:a.tmps[0]?=C (Xo M b))(l:a.tmps[2]?=C (XK F))(m:a.tmps[3]?=C (pt c 0))(n:a.tmps[4]?=C (.nilIface))(o:a.tmps[5]?=C (Xo M (d+1))):∃h,a=Tn b c d h:=by obtain⟨g,i⟩:=a;subst hd;exact⟨λd=>g.getD d I,Zc (λf=>(⟨f,[]⟩:XF)) ((Ub e).trans (by simp_all [Xq.range,Xq.range.loop]))⟩
structure BM(ro:E->Prop)(k:E)(a:K)(sx u g:E)(y:cz)(t:E)(e:fB)(i:K):Prop where
 at':∃n,oA k sx u g y t n e i
 keep:∀b,b<a.heap.size->gw a i b
 ro:∀b,ro b->i.heap[b]?=a.heap[b]?
 size:a.heap.size<=i.heap.size
 own:∀b,aH u y.tree e b->a.heap.size<=b
 use:∀b,dm e b->b=1\/b=4\/a.heap.size<=b
 sx:a.heap.size<=sx
section
variable{k c g t:E}{e m:fB}{s r:K}
theorem BM.eq(b:BM h k a c u g y t e s)(i:r.heap=s.heap):BM h k a c u g y t e r where
 at':=by obtain⟨D,o⟩:=b.at';exact⟨D,o.eq i⟩
 keep:=λl n=>Fg (b.keep l n) A i
 ro:=λl n=>by rw[i];exact b.ro l n
 size:=by rw[i];exact b.size
 own:=b.own
 use:=b.use
 sx:=b.sx
theorem BM.one{p:dA}(d:BM h k a c u g y t e s)(v:∀b,h b->b<a.heap.size)(P:BS h k c u g y t e p s f q r m):BM h k a c u g (Wt.handle y 0 [p]).1 (t+1) m r where
 at':=⟨_,P.at'⟩
 keep:=λb i=>(d.keep b i).trans (P.keep b (by have:=d.size;omega) λo=>by have:=d.own b o;omega)
 ro:=λb i=>(P.ro b i).trans (d.ro b i)
 size:=Yi d.size P.size
 own:=λb i=>(P.own b i).elim (d.own b) λl=>Yi d.size l
 use:=λb i=>(P.use b i).imp id λl=>l.imp id λn=>Yi d.size n
 sx:=d.sx
end
structure Rz(u:E)(y:cz)(e:fB)(q:E)(f:Xu Xn)(a:K):Prop where
 blk:a.heap[q]?=C (Xx f 38 (0,0))
 free:¬aH u y.tree e q
 EO:¬aS f
section
variable{k c g t:E}{e m:fB}{s r:K}{p:dA}{H:E}{W:Xu Xn}
theorem Rz.eq(b:Rz u y e q f s)(i:r.heap=s.heap):Rz u y e q f r:=⟨by rw[i];exact b.blk,b.free,b.EO⟩
theorem BS.Vk(P:BS h k c u g y t e p s f q r m):Rz u (Wt.handle y 0 [p]).1 m q f r:=⟨P.blk,P.free,P.EO⟩
theorem Rz.next(a:Rz u y e q f s)(P:BS h k c u g y t e p s W H r m):Rz u (Wt.handle y 0 [p]).1 m q f r:=by have b:=(XZ.1 a.blk).1;refine⟨?_,λd=>(P.own q d).elim a.free λi=>by omega,a.EO⟩;rw[<-a.blk];exact vk (P.keep q b a.free) a.blk a.EO
end
structure Lp(h:E->Prop)(k:E)(a:K)(b:Xn)(i:K)(c u g:E)(m:fB):Prop where
 val:b=pt c 0
 Xf:1<=g/\g<=8
 fu:BM h k a c u g Wt.sB 7 m i
theorem lL:∀a,(b:a<7)->Wt.handle (rN a) 0 [Qz[a]'b]=(rN (a+1),[UG[a]'b]):=λa b=>by rw[GH a b,<-Fb a b,tz];exact aag A (Zf _)
theorem Pm:∀d:E,d<3->Wt.handle (rN d) 0 [Wt.rq 0 1 [] [] 0 0 Xp]=(rN (d+1),[{ak:=(d:Xt)+1}])
 |0,_=>lL 0 (by decide)
 |1,_=>lL 1 (by decide)
 |2,_=>lL 2 (by decide)
theorem Nq{c:Xq (Xn×Xn)}(b:uS [D] c (.agg f)):∃a,c[0]?=C a/\f=gZ D a:=by
 rcases b with⟨b,_⟩|⟨h,a,d,e,g,_⟩
 .cases b
 cases d;cases g;exact⟨a,e,A⟩
theorem ln{b:Xq (Xn×Xn)}(a:uS [D] b (.agg f)):∃c,f=gZ D c:=(Nq a).imp λ_ a=>a.2
def Rl(b:E)(a:XF):E:=match a.tmps[b]? with
 |some (.int _ v)=>v.toNat
 |_=>0
theorem SS{c:Xt}:Ok {timeout:=c} 0 where
 wf:=IU
 xZ:=Xq.Pairwise.nil
 key:=λb a=>by cases a
 kW:=show(1:Xt)<=1/\(1:Xt)<=(0:E)+1 by decide
 yG:=by simp
 aL:=show(0:Xt)<=0/\(0:Xt)<=512*(0:E)by decide
 ur:=λb p=>Xq.Pairwise.nil
 uq:=λb p f a=>by cases a
 Mf:=λe v a=>by obtain⟨rfl,rfl⟩:=ju a;simp
section
variable{k:E}
theorem Cd{Z:Xt}(d3:-2^63<=Z/\Z<2^63)(Q:xq h k a)(d0:(∃N,a.cell? ⟨1,0,F⟩=C (Xo M N))/\ux a/\4<a.heap.size)(f8:k<=a.heap.size):
 Co (goalAt TP F F z al h) 14 #[Xo M Z] a λT U=>∃c u g m,Lp h k a T U c u g m:=by
 refine vu aC (by decide) (fn:=Tryz.f14) Tryz.func14 A (Q:=λb6 i U=>b6=.ret/\i.defers=[]/\∃T,i.tmps[2]?=C T/\∃c u g m,Lp h k a T U c u g m) (r:=#[Xo M Z,I,I,I,I,I,I,I,I,I,I,I,I,I,I,I,I,I,I,I,I,I,I,I,I,I,I,I,I,I,I,I,I,I,I,I,I,I,I,I,I,I,I,I,I,I,I,I,I,I,I,I,I,I,I,I,I,I,I,I,I,I,I,I,I,I,I,I,I,I,I,I,I,I,I,I,I,I]) (by kernel_rfl) (λe1 e2=>?_) ?_
 .have S:∀f,h f->f<a.heap.size:=λf d4=>by have:=Q.lt f d4;omega
  refine aZ (cl (by decide) (ks:=[]) A (by rfl) λs a8 _ _=>?_)
  go_wp2
  refine BL a8 ?_;refine aZ (cl (by decide) (ks:=[]) A (by rfl) λr b7 _ _=>?_)
  go_wp2_with (first
   |(go_at_call 21;refine(ma d3 (by decide) _).mono ?_;rintro _ _⟨N,f7,rfl,rfl⟩)
   |(go_at_call 26;refine(Qg (by decide) (by omega) _).mono ?_;rintro _ _⟨rfl,L⟩))
  rename_i d6 _ _ d7
  obtain⟨e,B⟩:∃e,BM h k a (a.heap.size+8) (a.heap.size+7) (1+N) UM 0 e d7:=by
   have W:=b7.trans a8;have d2:(1+(N:Xt))=((1+N:E):Xt):=by omega
   rw[W,d2]at L;obtain⟨e,c0,b2,b8⟩:=Qh (a:=d6) L (by rw[W]) ⟨by grind [World.cell?],d0.2.1.stay (by rw[W]),by grind⟩;refine⟨e,⟨[],c0,L.h8,SS,λi x=>⟨by have:=(b2 i x).1;omega,(b2 i x).2⟩,by omega,λi x=>(b8 i x).imp id Xr⟩,λi x=>?_,λi x=>?_,?_,λi x=>(b2 i x).1,λi x=>(b8 i x).imp id Xr,by omega⟩
   .exact Xr (by rw[L.old i x,W])
   .rw[L.old i (S i x),W]
   rw[L.size];omega
  refine show _/\_ from⟨λb4 b3=>(B.ro b4 b3).trans (by rw[a8]),(show CW _ _ _ _ _ _ _ _ from ?_)⟩;clear L;generalize a.heap.size+8=c at B⊢
  generalize a.heap.size+7=u at B;refine aZ (aZ (cl (by decide) (ks:=[]) A (by rfl) λg5 a9 _ _=>?_))
  go_wp2
  replace B:=B.eq a9;refine BL a9 ?_;clear a9 b7;refine ei (g:=Xp) (by decide) A (ig (show CW _ _ _ _ _ _ _ _ from ?_));refine aZ (aZ (cl (by decide) (ks:=[]) A (by rfl) λd8 b0 _ _=>?_))
  go_wp2
  replace B:=B.eq b0;refine BL b0 ?_;clear b0;refine lg (zW (w:=λi U=>∃d,d<=3/\(∃b9,i=Tn Z c d b9)/\∃e,BM h k a c u (1+N) (rN d) d e U) (O:=λi a=>4-Rl 5 i) ⟨0,by decide,IF A rfl rfl rfl rfl rfl rfl,e,B⟩ ?_);rintro i d8⟨d,f5,⟨b9,rfl⟩,e,B⟩;dsimp only[Tn];refine aZ (aZ (cl (by decide) (ks:=[]) A (by rfl) λg6 R _ _=>?_));rcases(by omega:d=3\/d<3)with rfl|d1
  .go_wp2
   replace B:=B.eq R;refine BL R ?_;clear R;refine ei (g:=Xp) (by decide) A (uB ?_);show CW _ _ _ _ _ _ _ _;refine aZ (ej (R:=4) A (ct (by decide) (ks:=[]) A 0 1 (more:=[1,2,3]) (l:=[_]) A (by rfl) λa5 b _ _=>?_))
   go_wp2
   replace B:=B.eq b;refine Uy b ?_;clear b;obtain⟨a4,w⟩:=B.at';refine qu (a4:=[]) A rfl rfl (k:=Wt.rq 1 3 Wt.pA Wt.first 0 0 Xp) (j:=41) (b:=7) (by decide) (by decide) ⟨_,A,A,A,A⟩ ⟨_,A,A,A,A⟩ ⟨_,A,A,A,A⟩ (show 41<78 by decide) (show 7<78 by decide) (by decide) (by rfl) (by decide) (by kernel_rfl) w (Q.keep B.ro) (by omega) (by omega) ⟨by decide,by decide,by decide,by decide⟩ (Xs (Xr A)) λf c6 a6 e3 P=>?_;replace B:=B.one S P;have n:=P.last;have l:=P.Vk;have q:=lL 3 (by decide)
   change Wt.handle _ _ [Wt.rq 1 3 Wt.pA Wt.first 0 0 Xp]=_ at q
   rw[q]at B n l;obtain⟨g2,rfl⟩:=ln n;clear w n P q;refine df (show CW _ _ _ _ _ _ _ _ from ?_);dsimp only[Act.put];refine aZ (ej (R:=4) A (ct (by decide) (ks:=[]) A 0 1 (more:=[1,2,3]) (l:=[_]) A (by rfl) λa5 b _ _=>?_))
   go_wp2
   replace B:=B.eq b;replace l:=l.eq b;refine Uy b ?_;clear b;obtain⟨a4,w⟩:=B.at';refine qu (a4:=[]) A rfl rfl (k:=Wt.rq 2 3 Wt.pB [] 0 0 Xp) (j:=43) (b:=8) (by decide) (by decide) ⟨_,A,A,A,A⟩ ⟨_,A,A,A,A⟩ ⟨_,A,A,A,A⟩ (show 43<78 by decide) (show 8<78 by decide) (by decide) (by rfl) (by decide) (by kernel_rfl) w (Q.keep B.ro) (by omega) (by omega) ⟨by decide,by decide,by decide,by decide⟩ (Xs (Xr A)) λf c7 a6 e4 P=>?_;replace B:=B.one S P;have n:=P.last;have t:=P.Vk;replace l:=l.next P;have q:=lL 4 (by decide)
   change Wt.handle _ _ [Wt.rq 2 3 Wt.pB [] 0 0 Xp]=_ at q
   rw[q]at B n t l;obtain⟨g3,rfl⟩:=ln n;clear w n P q;refine df (show CW _ _ _ _ _ _ _ _ from ?_);dsimp only[Act.put];refine aZ (ej (R:=4) A (ct (by decide) (ks:=[]) A 0 1 (more:=[1,2,3]) (l:=[_]) A (by rfl) λa5 b _ _=>?_))
   go_wp2
   replace B:=B.eq b;replace l:=l.eq b;replace t:=t.eq b;refine Uy b ?_;clear b;obtain⟨a4,w⟩:=B.at';refine qu (a4:=[]) A rfl rfl (k:=Wt.rq 3 3 Ru IL 0 0 Xp) (j:=45) (b:=9) (by decide) (by decide) ⟨_,A,A,A,A⟩ ⟨_,A,A,A,A⟩ ⟨_,A,A,A,A⟩ (show 45<78 by decide) (show 9<78 by decide) (by decide) (by rfl) (by decide) (by kernel_rfl) w (Q.keep B.ro) (by omega) (by omega) ⟨by decide,by decide,by decide,by decide⟩ (Xs (Xr A)) λf c8 a6 e5 P=>?_;replace B:=B.one S P;have n:=P.last;have D:=P.Vk;replace l:=l.next P;replace t:=t.next P;have q:=lL 5 (by decide)
   change Wt.handle _ _ [Wt.rq 3 3 Ru IL 0 0 Xp]=_ at q
   rw[q]at B n D l t;obtain⟨g4,rfl⟩:=ln n;clear w n P q;refine df (show CW _ _ _ _ _ _ _ _ from ?_);dsimp only[Act.put];refine aZ (ej (R:=4) A (ct (by decide) (ks:=[]) A 0 1 (more:=[1,2,3]) (l:=[_]) A (by rfl) λa5 b _ _=>?_))
   go_wp2
   replace B:=B.eq b;replace l:=l.eq b;replace t:=t.eq b;replace D:=D.eq b;refine Uy b ?_;clear b;obtain⟨a4,w⟩:=B.at';refine qu (a4:=[]) A rfl rfl (k:=Wt.rq 1 8 Ru [] 0 0 Xp) (j:=47) (b:=10) (by decide) (by decide) ⟨_,A,A,A,A⟩ ⟨_,A,A,A,A⟩ ⟨_,A,A,A,A⟩ (show 47<78 by decide) (show 10<78 by decide) (by decide) (by rfl) (by decide) (by kernel_rfl) w (Q.keep B.ro) (by omega) (by omega) ⟨by decide,by decide,by decide,by decide⟩ (Xs (Xs (Xs (Xs (Xs (Xr A)))))) λf a7 a6 c9 P=>?_;replace B:=B.one S P;have n:=P.last;have O:=P.Vk;replace l:=l.next P;replace t:=t.next P;replace D:=D.next P;have q:=lL 6 (by decide)
   change Wt.handle _ _ [Wt.rq 1 8 Ru [] 0 0 Xp]=_ at q
   rw[q]at B n O l t D;obtain⟨g1,rfl⟩:=ln n;clear w n P q;refine df (show CW _ _ _ _ _ _ _ _ from ?_);dsimp only[Act.put];refine aZ (aZ (cl (by decide) (ks:=[]) A (by rfl) λH y _ _=>?_));replace B:=B.eq y;replace l:=l.eq y;have e9:H.cell? ⟨c6,3,F⟩=C (Xo M 0):=aa l.blk 3 A;replace t:=t.eq y;have f0:H.cell? ⟨c7,3,F⟩=C (Xo M 0):=aa t.blk 3 A;replace D:=D.eq y;have f1:H.cell? ⟨c8,3,F⟩=C (Xo M 0):=aa D.blk 3 A;replace O:=O.eq y;have e7:H.cell? ⟨a7,3,F⟩=C (Xo M 0):=aa O.blk 3 A;have f2:H.cell? ⟨a7,5,F⟩=C (.string ⟨#[116,104,105,114,100]⟩):=aa O.blk 5 A;have f3:H.cell? ⟨a7,7,F⟩=C (Xo M 6):=aa O.blk 7 A
   go_wp2
   refine BL y ?_;refine ei (g:=Xp) (by decide) A (ig (show CW _ _ _ _ _ _ _ _ from ?_));refine aZ (cl (by decide) (ks:=[]) A (by rfl) λd5 X _ _=>?_)
   go_wp2
   refine show _/\_ from⟨λb4 b3=>by rw[X],(show CW _ _ _ _ _ _ _ _ from mQ ?_)⟩;exact⟨A,A,_,A,c,u,1+N,c9,A,⟨by omega,by omega⟩,B.eq X⟩
  have f6:decide (((d:Xt)+1)<=3)=J:=by simp;omega
  go_wp2
  replace B:=B.eq R;refine BL R ?_;clear R;refine ei (g:=J) (by decide) A (ig (show CW _ _ _ _ _ _ _ _ from ?_));refine aZ (lg (aZ (ej (R:=4) A (ct (by decide) (ks:=[]) A 0 1 (more:=[1,2,3]) (l:=[_]) A (by rfl) λa5 b _ _=>?_))))
  go_wp2
  replace B:=B.eq b;refine Uy b ?_;clear b;obtain⟨a4,w⟩:=B.at';refine qu (a4:=[]) A rfl rfl (k:=Wt.rq 0 1 [] [] 0 0 Xp) (j:=30) (b:=6) (by decide) (by decide) ⟨_,A,A,A,A⟩ ⟨_,A,A,A,A⟩ ⟨_,A,A,A,A⟩ (show 30<78 by decide) (show 6<78 by decide) (by decide) (by rfl) (by decide) (by kernel_rfl) w (Q.keep B.ro) (by omega) (by omega) ⟨by decide,by decide,by decide,by decide⟩ (Xr A) λf b5 a6 m P=>?_;have a1:=B.one S P;have n:=P.last;rw[Pm d d1]at a1 n;obtain⟨g0,rfl⟩:=ln n;have b1:=P.blk;refine df (show CW _ _ _ _ _ _ _ _ from ?_);refine aZ (cl (by decide) (ks:=[]) A (by rfl) λH y _ _=>?_);rw[<-y]at b1;have e8:H.cell? ⟨b5,3,F⟩=C (Xo M 0):=aa b1 3 A;have e6:H.cell? ⟨b5,0,F⟩=C (Xo M (d+1)):=aa b1 0 A
  go_wp2
  refine BL y ?_;replace a1:=a1.eq y;refine ei (g:=Xp) (by decide) A (ig (show CW _ _ _ _ _ _ _ _ from ?_));refine cl (by decide) (ks:=[]) A (by rfl) λd5 X _ _=>?_
  go_wp2
  refine show _/\_ from⟨λb4 b3=>by rw[X],(show(∃_,_)/\_ from⟨⟨d+1,by omega,IF A rfl rfl rfl rfl rfl (by rfl),m,a1.eq X⟩,?_⟩)⟩;show 4-((d:Xt)+1+1).toNat<4-((d:Xt)+1).toNat;omega
 rintro b6 i U⟨rfl,hd,T,f4,Y⟩;refine⟨Xs A,hd,λa0=>⟨T,?_,?_⟩⟩
 .simp_all [results]
 obtain⟨c,u,g,m,Y⟩:=Y;exact⟨c,u,g,m,⟨Y.val,Y.Xf,Y.fu.eq A⟩⟩
end
end
variable{q:K}{ak:Xt}{b:XM}
def fits(a:Xt):Prop:=-2^63<=a/\a<2^63
abbrev AS(ak d:Xt)(e a:XM)(aE b:Xt)(c:Xy):Xu Xn:=#[Xo M ak,Xo M d,.string e,.string a,Xo M aE,Xo M b,.bool c,Xw F 0 0]
def OY(ak a:Xt)(d c:XM)(aE b:Xt):Prop:=
 (1<=ak/\ak<=3)/\(a=3\/a=4\/a=5\/a=8\/a=9\/a=10\/a=6)/\(∃f∈AL,d=⟨f.toArray⟩)/\c.size<=16/\(-1<=aE/\aE<=2)/\0<=b/\b<=3
theorem wrap_small{a:Xt}(b:-2^63<=a)(c:a<2^63):IntKind.i64.wrap a=a:=by grind [IntKind.wrap_i64]
structure mE(a q:K)(g i f e h:Xt)(b:XM)(c:Xy)(ak:Xt):Prop where
 h0:q.heap[a.heap.size]?=C (Xx #[Xo M g,Xo M i,Xo M f,Xo M e,Xo M h,.string b,.bool c] 72 (0,0))
 h1:q.heap[a.heap.size+1]?=C (Xx (AS 0 0 ⟨#[]⟩ ⟨#[]⟩ 0 0 Xp) 31 (0,0))
 h2:q.heap[a.heap.size+1+1]?=C (Xx #[Xo M 3,Xo M 4,Xo M 5,Xo M 8,Xo M 9,Xo M 10,Xo M 6] 3 (0,0))
 h3:q.heap[a.heap.size+1+1+1]?=C (Xx (AS ak 0 ⟨#[]⟩ ⟨#[]⟩ 0 0 c) 31 (0,0))
 size:a.heap.size+4<=q.heap.size
 OT:Below a.heap.size a q
theorem VA(a:K)(g i f e h:Xt)(b:XM)(c:Xy)(ak:Xt):mE a ((((a.alloc (.cells #[Xo M g,Xo M i,Xo M f,Xo M e,Xo M h,.string b,.bool c] 72)).alloc (.cells (AS 0 0 ⟨#[]⟩ ⟨#[]⟩ 0 0 Xp) 31)).alloc (.cells #[Xo M 3,Xo M 4,Xo M 5,Xo M 8,Xo M 9,Xo M 10,Xo M 6] 3)).alloc (.cells (AS ak 0 ⟨#[]⟩ ⟨#[]⟩ 0 0 c) 31)).drew g i f e h b c ak:=by
 have d:=rK (a:=a) (.cells #[Xo M g,Xo M i,Xo M f,Xo M e,Xo M h,.string b,.bool c] 72) A;have k:=rK (.cells (AS 0 0 ⟨#[]⟩ ⟨#[]⟩ 0 0 Xp) 31) d;have l:=rK (.cells #[Xo M 3,Xo M 4,Xo M 5,Xo M 8,Xo M 9,Xo M 10,Xo M 6] 3) k;have m:=rK (.cells (AS ak 0 ⟨#[]⟩ ⟨#[]⟩ 0 0 c) 31) l
 exact⟨bh _ (bh _ (bh _ (eG _ _ A))),bh _ (bh _ (eG _ _ d)),bh _ (eG _ _ k),eG _ _ l,l_ m.symm,⟨A,A,A,Yi (by omega) (l_ m.symm),λn o=>by
  show((((a.alloc _).alloc _).alloc _).alloc _).heap[n]?=_
  grind [Go.MapKept.heap_alloc]⟩⟩
section
variable{k:K}{g i f e h:Xt}{c:Xy}
theorem mE.stay(d:mE a q g i f e h b c ak)(l:Below q.heap.size q k):mE a k g i f e h b c ak:=by have p:=d.size;have n:=l.size;exact⟨by rw[l.block _ (by omega)];exact d.h0,by rw[l.block _ (by omega)];exact d.h1,by rw[l.block _ (by omega)];exact d.h2,by rw[l.block _ (by omega)];exact d.h3,by omega,⟨l.os.trans d.OT.os,l.tape.trans d.OT.tape,l.output.trans d.OT.output,Yi d.OT.size n,λm o=>(l.block m (by omega)).trans (d.OT.block m o)⟩⟩
theorem mE.c1(d:mE a q g i f e h b c ak):q.cell? ⟨a.heap.size,1,F⟩=C (Xo M i):=aa d.h0 1 A
theorem mE.c2(d:mE a q g i f e h b c ak):q.cell? ⟨a.heap.size,2,F⟩=C (Xo M f):=aa d.h0 2 A
theorem mE.c3(d:mE a q g i f e h b c ak):q.cell? ⟨a.heap.size,3,F⟩=C (Xo M e):=aa d.h0 3 A
theorem mE.c4(d:mE a q g i f e h b c ak):q.cell? ⟨a.heap.size,4,F⟩=C (Xo M h):=aa d.h0 4 A
theorem mE.c5(d:mE a q g i f e h b c ak):q.cell? ⟨a.heap.size,5,F⟩=C (.string b):=aa d.h0 5 A
theorem mE.WB(l:mE a q g i f e h b c ak)(d:E)(m:(d:Xt)<7):∃k,(k=3\/k=4\/k=5\/k=8\/k=9\/k=10\/k=6)/\q.cell? ⟨a.heap.size+1+1,d,F⟩=C (Xo M k):=by
 obtain rfl|rfl|rfl|rfl|rfl|rfl|rfl:d=0\/d=1\/d=2\/d=3\/d=4\/d=5\/d=6:=by omega
 .exact⟨3,by omega,aa l.h2 0 A⟩
 .exact⟨4,by omega,aa l.h2 1 A⟩
 .exact⟨5,by omega,aa l.h2 2 A⟩
 .exact⟨8,by omega,aa l.h2 3 A⟩
 .exact⟨9,by omega,aa l.h2 4 A⟩
 .exact⟨10,by omega,aa l.h2 5 A⟩
 exact⟨6,by omega,aa l.h2 6 A⟩
end
theorem Hy{k:K}{g i f e h:Xt}{c:Xy}(l:mE a q g i f e h b c ak)(m:∀d,d≠a.heap.size+1+1+1->k.heap[d]?=q.heap[d]?)(s:k.heap.size=q.heap.size)(n:k.os=q.os)(o:k.tape=q.tape)(p:k.output=q.output):Below a.heap.size a k:=
 ⟨n.trans l.OT.os,o.trans l.OT.tape,p.trans l.OT.output,by rw[s];exact l.OT.size,λd r=>(m d (by omega)).trans (l.OT.block d r)⟩
theorem CE{d:Xu Xn}(B:Below a.heap.size a q):Below a.heap.size a (q.setRow (a.heap.size+1) d):=
 ⟨B.os,B.tape,B.output,by rw[abq];exact B.size,λm l=>(ZO _ _ _ _ (by omega)).trans (B.block m l)⟩
theorem Pk{g i f e h:Xt}{c:Xy}(b1:fits g)(X:fits i)(b2:fits f)(a0:fits e)(W:fits h)(hd:(b.size:Xt)<2^63)(a:K):
 Calls KP 27 #[.agg #[Xo M g,Xo M i,Xo M f,Xo M e,Xo M h,.string b,.bool c]] a λb8 c9=>(∃ak b4 b5 a8 aE a9 c,OY ak b4 b5 a8 aE a9/\b8=XB (.agg (AS ak b4 b5 a8 aE a9 c)))/\Below a.heap.size a c9:=by
 unfold fits at b1 X b2 a0 W;go_enter Tryz.func27,Tryz.ntmps27
 go_upto_region 2 with fail
 go_region_held3 (λq=>q.cell? ⟨a.heap.size,0,F⟩=C (Xo M g)/\q.cell? ⟨a.heap.size,6,F⟩=C (.bool c)) (go_keep)
  (first
    |(go_at_call 21;refine(ma b1 (by decide) _).mono ?_;rintro _ _⟨p,d0,rfl,rfl⟩))
 go_upto_region 3 with fail
 all_goals (
  refine(show∀H:K,mE a H g i f e h b c (IntKind.i64.wrap (1+p))->XR.wp KP _ _ _ H fromλH d=>?_) _ (VA _ _ _ _ _ _ _ _ _);have c6:IntKind.i64.wrap (1+(p:Xt))=1+p:=by grind [wrap_small]
  rw[c6]at d⊢
  have c2:=d.c2
  go_upto_region 4 with(go_at_call 35;refine(Qp b2 _).mono ?_;rintro _ o⟨⟨l,b3,rfl⟩,v⟩)
  replace d:=d.stay v;clear v c2;have c5:=d.c5;rcases Q' 16 b.size with b0|b0
  .have Z:decide ((16:Xt)<b.size)=J:=by simp;omega
   go_upto_region 7 with fail
   have c1:=d.c1;have c3:=d.c3;have c4:=d.c4;clear c5 Z
   go_upto_region 8 with(go_at_call 21;refine(ma X (by decide) _).mono ?_;rintro _ o⟨a2,Y,rfl,rfl⟩;obtain⟨n,c0,U⟩:=d.WB a2 Y)
   clear c1 U
   go_upto_region 9 with(go_at_call 21;refine(ma a0 (by decide) _).mono ?_;rintro _ o⟨k,c7,rfl,rfl⟩;have a1:wrap64 ((k:Xt)-1)=k-1:=by grind [wrap64])
   clear c3 a1
   go_upto_region 10 with(go_at_call 21;refine(ma W (by decide) _).mono ?_;rintro _ o⟨m,b9,rfl,rfl⟩)
   clear c4;have a3:_=C (Xn.int M 0):=aa d.h3 1 A;have a4:_=C (Value.string ⟨#[]⟩):=aa d.h3 2 A;have a5:_=C (Value.string ⟨#[]⟩):=aa d.h3 3 A;have a6:_=C (Xn.int M 0):=aa d.h3 4 A;have a7:_=C (Xn.int M 0):=aa d.h3 5 A;have L:=frozenAt d.h3 1;have N:=frozenAt d.h3 2;have O:=frozenAt d.h3 3;have Q:=frozenAt d.h3 4;have R:=frozenAt d.h3 5
   go_upto_region 11 with fail
   clear a3 a4 a5 a6 a7 L N O Q R;have w:=aA (l:=5) (g:=Xo M m) (aA (l:=4) (g:=Xo M (k-1)) (aA (l:=3) (g:=.string (b.extract 0 16)) (aA (l:=2) (g:=.string ⟨l.toArray⟩) (aA (l:=1) (g:=Xo M n) d.h3))))
   have s:∀u,u≠a.heap.size+1+1+1->(((((o.setCell ⟨a.heap.size+1+1+1,1,F⟩ (Xo M n)).setCell ⟨a.heap.size+1+1+1,2,F⟩ (.string ⟨l.toArray⟩)).setCell ⟨a.heap.size+1+1+1,3,F⟩ (.string (b.extract 0 16))).setCell ⟨a.heap.size+1+1+1,4,F⟩ (Xo M (k-1))).setCell ⟨a.heap.size+1+1+1,5,F⟩ (Xo M m)).heap[u]?=o.heap[u]?:=λu c8=>by simp_all [ai]
   have x:(((((o.setCell ⟨a.heap.size+1+1+1,1,F⟩ (Xo M n)).setCell ⟨a.heap.size+1+1+1,2,F⟩ (.string ⟨l.toArray⟩)).setCell ⟨a.heap.size+1+1+1,3,F⟩ (.string (b.extract 0 16))).setCell ⟨a.heap.size+1+1+1,4,F⟩ (Xo M (k-1))).setCell ⟨a.heap.size+1+1+1,5,F⟩ (Xo M m)).heap.size=o.heap.size:=by simp
   have v:=Hy d s x A rfl rfl;generalize S:(((((o.setCell ⟨a.heap.size+1+1+1,1,F⟩ (Xo M n)).setCell ⟨a.heap.size+1+1+1,2,F⟩ (.string ⟨l.toArray⟩)).setCell ⟨a.heap.size+1+1+1,3,F⟩ (.string (b.extract 0 16))).setCell ⟨a.heap.size+1+1+1,4,F⟩ (Xo M (k-1))).setCell ⟨a.heap.size+1+1+1,5,F⟩ (Xo M m))=r at w s x v⊢
   have T:r.heap[a.heap.size+1+1+1]?=C (Xx (AS (1+p) n ⟨l.toArray⟩ (b.extract 0 16) (k-1) m c) 31 (0,0)):=w;have z:r.heap[a.heap.size+1]?=C (Xx (AS 0 0 ⟨#[]⟩ ⟨#[]⟩ 0 0 Xp) 31 (0,0)):=by rw[s _ (by omega)];exact d.h1
   clear w s x S;refine ZS ?_;refine ZG A 31 _ A (a.heap.size+1+1+1) A 31 (AS (1+p) n ⟨l.toArray⟩ (b.extract 0 16) (k-1) m c) (0,0) _ T A rfl rfl ?_;refine Zm A 31 _ _ A (a.heap.size+1) (AS (1+p) n ⟨l.toArray⟩ (b.extract 0 16) (k-1) m c) A rfl 31 _ z A rfl (by kernel_rfl) ?_;have D:=k_ r _ _ (AS (1+p) n ⟨l.toArray⟩ (b.extract 0 16) (k-1) m c) _ _ z;have y:=CE (d:=AS (1+p) n ⟨l.toArray⟩ (b.extract 0 16) (k-1) m c) v;generalize r.setRow (a.heap.size+1) _=b6 at D y⊢
   go_wp2
   exact Zx (aaU A _ _ (a.heap.size+1) 31 _ _ _ A D A rfl rfl) A ⟨⟨_,_,_,_,_,_,_,⟨⟨by omega,by omega⟩,by omega,⟨l,b3,A⟩,(by grind [ByteArray.size_extract]),⟨by omega,by omega⟩,by omega,by omega⟩,A⟩,y⟩
  have Z:decide ((16:Xt)<b.size)=Xp:=by simp;omega
  go_upto_region 7 with fail
  have c1:=d.c1;have c3:=d.c3;have c4:=d.c4;clear c5 Z
  go_upto_region 8 with(go_at_call 21;refine(ma X (by decide) _).mono ?_;rintro _ o⟨a2,Y,rfl,rfl⟩;obtain⟨n,c0,U⟩:=d.WB a2 Y)
  clear c1 U
  go_upto_region 9 with(go_at_call 21;refine(ma a0 (by decide) _).mono ?_;rintro _ o⟨k,c7,rfl,rfl⟩;have a1:wrap64 ((k:Xt)-1)=k-1:=by grind [wrap64])
  clear c3 a1
  go_upto_region 10 with(go_at_call 21;refine(ma W (by decide) _).mono ?_;rintro _ o⟨m,b9,rfl,rfl⟩)
  clear c4;have a3:_=C (Xn.int M 0):=aa d.h3 1 A;have a4:_=C (Value.string ⟨#[]⟩):=aa d.h3 2 A;have a5:_=C (Value.string ⟨#[]⟩):=aa d.h3 3 A;have a6:_=C (Xn.int M 0):=aa d.h3 4 A;have a7:_=C (Xn.int M 0):=aa d.h3 5 A;have L:=frozenAt d.h3 1;have N:=frozenAt d.h3 2;have O:=frozenAt d.h3 3;have Q:=frozenAt d.h3 4;have R:=frozenAt d.h3 5
  go_upto_region 11 with fail
  clear a3 a4 a5 a6 a7 L N O Q R;have w:=aA (l:=5) (g:=Xo M m) (aA (l:=4) (g:=Xo M (k-1)) (aA (l:=3) (g:=.string b) (aA (l:=2) (g:=.string ⟨l.toArray⟩) (aA (l:=1) (g:=Xo M n) d.h3))))
  have s:∀u,u≠a.heap.size+1+1+1->(((((o.setCell ⟨a.heap.size+1+1+1,1,F⟩ (Xo M n)).setCell ⟨a.heap.size+1+1+1,2,F⟩ (.string ⟨l.toArray⟩)).setCell ⟨a.heap.size+1+1+1,3,F⟩ (.string b)).setCell ⟨a.heap.size+1+1+1,4,F⟩ (Xo M (k-1))).setCell ⟨a.heap.size+1+1+1,5,F⟩ (Xo M m)).heap[u]?=o.heap[u]?:=λu c8=>by simp_all [ai]
  have x:(((((o.setCell ⟨a.heap.size+1+1+1,1,F⟩ (Xo M n)).setCell ⟨a.heap.size+1+1+1,2,F⟩ (.string ⟨l.toArray⟩)).setCell ⟨a.heap.size+1+1+1,3,F⟩ (.string b)).setCell ⟨a.heap.size+1+1+1,4,F⟩ (Xo M (k-1))).setCell ⟨a.heap.size+1+1+1,5,F⟩ (Xo M m)).heap.size=o.heap.size:=by simp
  have v:=Hy d s x A rfl rfl;generalize S:(((((o.setCell ⟨a.heap.size+1+1+1,1,F⟩ (Xo M n)).setCell ⟨a.heap.size+1+1+1,2,F⟩ (.string ⟨l.toArray⟩)).setCell ⟨a.heap.size+1+1+1,3,F⟩ (.string b)).setCell ⟨a.heap.size+1+1+1,4,F⟩ (Xo M (k-1))).setCell ⟨a.heap.size+1+1+1,5,F⟩ (Xo M m))=r at w s x v⊢
  have T:r.heap[a.heap.size+1+1+1]?=C (Xx (AS (1+p) n ⟨l.toArray⟩ b (k-1) m c) 31 (0,0)):=w;have z:r.heap[a.heap.size+1]?=C (Xx (AS 0 0 ⟨#[]⟩ ⟨#[]⟩ 0 0 Xp) 31 (0,0)):=by rw[s _ (by omega)];exact d.h1
  clear w s x S;refine ZS ?_;refine ZG A 31 _ A (a.heap.size+1+1+1) A 31 (AS (1+p) n ⟨l.toArray⟩ b (k-1) m c) (0,0) _ T A rfl rfl ?_;refine Zm A 31 _ _ A (a.heap.size+1) (AS (1+p) n ⟨l.toArray⟩ b (k-1) m c) A rfl 31 _ z A rfl (by kernel_rfl) ?_;have D:=k_ r _ _ (AS (1+p) n ⟨l.toArray⟩ b (k-1) m c) _ _ z;have y:=CE (d:=AS (1+p) n ⟨l.toArray⟩ b (k-1) m c) v;generalize r.setRow (a.heap.size+1) _=b6 at D y⊢
  go_wp2
  exact Zx (aaU A _ _ (a.heap.size+1) 31 _ _ _ A D A rfl rfl) A ⟨⟨_,_,_,_,_,_,_,⟨⟨by omega,by omega⟩,by omega,⟨l,b3,A⟩,b0,⟨by omega,by omega⟩,by omega,by omega⟩,A⟩,y⟩)
variable{a:E}
section
variable[Inhabited aN]
abbrev OC(a c d e b:Xt)(g:XM)(f:Xy):Xu Xn:=#[Xo M a,Xo M c,Xo M d,Xo M e,Xo M b,.string g,.bool f]
theorem Qc{b:E}{w D H L x:Xt}{g:XM}{N:Xy}(i:∀j n,(OC w D H L x g N)[j]?=C n->q.cell? ⟨d,b+j,F⟩=C n):
 ∃new,(Instr.loadAt 72 (XK (C ⟨d,b,F⟩))).runT TP q #[]=(.ok (.agg (OC w D H L x g N)) q,new)/\∀Q∈new,Q.write=Xp/\∃n,Q.loc=.cell n/\n.block=d:=by
 have R:q.cell? ⟨d,b,F⟩=C (Xo M w):=i 0 _ A;have S:q.cell? ⟨d,b+1,F⟩=C (Xo M D):=i 1 _ A;have T:q.cell? ⟨d,b+2,F⟩=C (Xo M H):=i 2 _ A;have U:q.cell? ⟨d,b+3,F⟩=C (Xo M L):=i 3 _ A;have W:q.cell? ⟨d,b+4,F⟩=C (Xo M x):=i 4 _ A;have X:q.cell? ⟨d,b+5,F⟩=C (.string g):=i 5 _ A;have Y:q.cell? ⟨d,b+6,F⟩=C (.bool N):=i 6 _ A;refine⟨_,aag ?_ A,?_⟩
 .go_simp
 simp[go_sem,Instr.loadAt,Instr.sureAddr,loadVar,loadCells,loadCellsFrom,isAgg,R,S,T,U,W,X,Y]
structure pj(k f:Xn)(O:Xz XG)(e m:E)(o:E->Xu Xn):Prop where
 val:k=.slice O e m
 rel:∀N:Ren,an al N f k
 small:e<2^63
 row:∀a,a<e->∃d D b n w x i g H,O=C ⟨d,D,F⟩/\d<dE.heap.size/\o a=OC b n w x i g H/\fits b/\fits n/\fits w/\fits x/\fits i/\(g.size:Xt)<2^63/\∀j L,(OC b n w x i g H)[j]?=C L->dE.cell? ⟨d,D+a*7+j,F⟩=C L
structure qk(b:dA):Prop where
 ak:1<=b.ak/\b.ak<=3
 kind:b.op.kind=3\/b.op.kind=4\/b.op.kind=5\/b.op.kind=8\/b.op.kind=9\/b.op.kind=10\/b.op.kind=6
 path:b.op.path∈AL
 data:b.op.data.length<=16
 aE:-1<=b.op.aE/\b.op.aE<=2
 flags:0<=b.op.flags/\b.op.flags<=3
def CR(a:Xn):Prop:=aQ (λ_=>False) a/\NB a
theorem Rg{d:dA}{b:Xn}(a:b∈(IC d).toList):CR b:=by
 simp only[Yg,Yo,Ze]at a;rcases a with rfl|rfl|rfl|rfl|rfl|rfl|rfl|rfl
 all_goals refine⟨?_,λe c=>by cases c⟩
 all_goals first|exact .int _ _|exact .string _|exact .bool _|exact .aO _ _
theorem UK(d:dA):∀a∈(IC d).toList,a.oneCell'=J/\CR a:=λa b=>⟨by
 have c:=b;simp only[Yg,Yo,Ze]at c
 rcases c with rfl|rfl|rfl|rfl|rfl|rfl|rfl|rfl<;>rfl,Rg b⟩
def uU(a:Xq dA)(d:Xn)(c:K):Prop:=bV CR c 31 8 d a.length (a.flatMap λb=>(IC b).toList)
abbrev To(f:Xn)(c:Xn)(a:E)(b:E->Xn):XF:=⟨#[f,b 1,Xw F 0 0,c,Xo M a,b 5,b 6,b 7,b 8,b 9,b 10,b 11,b 12,b 13,b 14,b 15,b 16,b 17,b 18,b 19,b 20,b 21,b 22,b 23,b 24,b 25],[]⟩
theorem IG{f:Xn}{i:Xn}{b:XF}(h:b.tmps.size=26)(hd:b.defers=[])(c:b.tmps[0]?=C (f))(d:b.tmps[2]?=C (Xw F 0 0))(e:b.tmps[3]?=C (i))(g:b.tmps[4]?=C (Xo M a)):∃m,b=To f i a m:=by obtain⟨l,n⟩:=b;simp only at h hd c d e g;subst hd;exact⟨λa=>l.getD a I,Zc (λk=>(⟨k,[]⟩:XF)) ((Ub h).trans (by simp only[Xq.range,Xq.range.loop,Xq.map,YG,c,d,e,g,ZK]))⟩
section
variable{l:E}{k f:Xn}{m:E}{o:E->Xu Xn}
theorem NQ:∀fn,TP.funcs[(Go.Conc.base 15).fn]?=C fn->fn.norace=Xp:=λfn a=>by grind [Go.Conc.base,Tryz.f15,Tryz.func15]
theorem UJ:∃a c,TP.underlying 25=C (.slice 31)/\(TP.info? 31=C a/\a.zero=C c/\a.size=8/\a.bytes<=1000/\c.cells.size=8/\0<8)/\∀b∈c.cells.toList,CR b:=by refine⟨_,_,A,⟨A,A,A,by decide,A,by decide⟩,?_⟩;intro b d;have e:b∈(IC {}).toList:=d;exact Rg e
def TU(f:Xn)(e:E)(c:K)(b:XF)(g:K):Prop:=∃a d,a.length<=40/\a.length<=e/\(∃k,b=To f d a.length k)/\(∀i∈a,qk i)/\uU a d g/\(∀b,b<c.heap.size->g.heap[b]?=c.heap[b]?)/\c.heap.size<=g.heap.size/\(a=[]->d=Xw F 0 0)/\∀h,d.ownBlock=C h->c.heap.size<=h
theorem DN(X:pj k f O e m o)(f5:xq h l c)(k7:l<=c.heap.size):
 Vf (goalAt TP F F z al h) 15 [(0,k)] #[f] c λx R=>∃s:Xq dA,(∀i∈s,qk i)/\s.length<=40/\uU s x R/\(∀b,b<c.heap.size->R.heap[b]?=c.heap[b]?)/\c.heap.size<=R.heap.size/\(s=[]->x=Xw F 0 0)/\∀w,x.ownBlock=C w->c.heap.size<=w:=by
 refine Jy aC (by decide) (fn:=Tryz.f15) Tryz.func15 A (Q:=λt b R=>t=.ret/\b.defers=[]/\∃x,b.tmps[2]?=C x/\∃s:Xq dA,(∀i∈s,qk i)/\s.length<=40/\uU s x R/\(∀b,b<c.heap.size->R.heap[b]?=c.heap[b]?)/\c.heap.size<=R.heap.size/\(s=[]->x=Xw F 0 0)/\∀w,x.ownBlock=C w->c.heap.size<=w) (s:=#[f,I,I,I,I,I,I,I,I,I,I,I,I,I,I,I,I,I,I,I,I,I,I,I,I,I]) (by kernel_rfl) (λm0 m1=>?_) ?_
 .have k9:∀n,h n->n<c.heap.size:=λn L=>by have:=f5.lt n L;omega
  refine aZ (cl (by decide) (ks:=[0]) A (by rfl) λp a2 _ _=>?_)
  go_wp2
  refine BL a2 ?_;refine aZ (cl (by decide) (ks:=[0]) A (by rfl) λr a4 _ _=>?_)
  go_wp2
  refine BL a4 ?_;refine aZ (aZ (cl (by decide) (ks:=[0]) A (by rfl) λn7 d1 _ _=>?_))
  go_wp2
  refine BL d1 ?_;have f6:=d1.trans (a4.trans a2);clear d1 a4 a2;refine lg (zW (w:=TU f e c) (O:=λb _=>40-Rl 4 b) ⟨[],Xw F 0 0,by decide,YH _,IG A rfl rfl rfl rfl rfl,(λi Y=>by cases Y),bV.nil _ _ _ _,(λb _=>by rw[f6]),(by simp_all),(λ_=>rfl),(λw Y=>by cases Y)⟩ ?_);rintro b i5⟨s,e5,g7,h6,⟨a1,rfl⟩,a8,Z,b9,e1,b8,a9⟩;replace b8:=Xv b8;dsimp only[To];generalize b7:s.length=a at g7 h6⊢
  refine aZ (aZ (ej (R:=8) A (nN ?_)));refine zS aC (by decide) (by decide) (L:=0) (more:=[1,2,3,4,5,6,7]) ⟨_,A,A,A,A⟩ (n:=[0]) A (by rfl) (by decide) λn8 a5 _ _ D N t=>?_
  go_wp2
  refine⟨λn _=>by rw[a5],?_⟩;refine jr NQ (by decide) (L:=1) (more:=[2,3,4,5,6,7]) (j:=7) ⟨_,A,A,A,A⟩ (v:=f) (V:=k) A (show 7<26 by decide) (λq a6 S U _ _=>⟨#[],λD N t=>?_,by simp⟩) X.rel ?_
  .show(Sem.pure (Next.value (S (.tmp 0)))).runT TP q #[]=_;simp_all
  refine jr NQ (by decide) (L:=2) (more:=[3,4,5,6,7]) (j:=8) ⟨_,A,A,A,A⟩ (v:=Xo M e) (V:=Xo M e) A (show 8<26 by decide) (λq a6 S U _ _=>⟨#[],λD N t=>?_,by simp⟩) (λ_=>.int _ _) ?_
  .have d5:=U 7 k (by simp);rw[X.val]at d5;rw[D_];refine aag ?_ ?_
   .simp[execOp,d5,go_sem]
   simp[execOp,d5,go_sem]
  refine zR A (λN k8=>by simp_all) ?_;dsimp only[Act.put];refine ct (by decide) (ks:=[0]) A 3 5 (more:=[]) (l:=[_,_,_,_,_]) A (by rfl) λn9 T _ _=>?_;by_cases b6:a<e/\a<40
  .have c1:decide ((a:Xt)<e)=J:=by simp;omega
   have c2:decide ((a:Xt)<40)=J:=by simp;omega
   go_wp2
   refine Sim.kp T (df (show CW _ _ _ _ _ _ _ _ from ?_));refine ei (g:=J) (by decide) A (ig (show CW _ _ _ _ _ _ _ _ from ?_));obtain⟨d,e4,e7,f0,f1,f2,e9,e8,swa,g8,h0,k6,f9,g2,g3,g4,g1,g0,h2⟩:=X.row a b6.1;clear c1 c2;refine aZ (lg (aZ (ej (R:=7) A (nN ?_))));refine jr NQ (by decide) (L:=0) (more:=[1,2,3,4,5,6]) (j:=16) ⟨_,A,A,A,A⟩ (v:=f) (V:=k) A (show 16<26 by decide) (λq a6 S U _ _=>⟨#[],λD N t=>?_,by simp⟩) X.rel ?_
   .show(Sem.pure (Next.value (S (.tmp 0)))).runT TP q #[]=_;simp_all
   refine zS aC (by decide) (by decide) (L:=1) (more:=[2,3,4,5,6]) ⟨_,A,A,A,A⟩ (n:=[16,0]) A (by rfl) (by decide) λi6 H _ _ D N t=>?_
   go_wp2
   refine⟨λn _=>by rw[H],?_⟩;refine jr NQ (by decide) (L:=2) (more:=[3,4,5,6]) (j:=18) ⟨_,A,A,A,A⟩ (v:=.tuple #[]) (V:=XK (C ⟨d,e4+a*7,F⟩)) A (show 18<26 by decide) (λq a6 S U _ g6=>⟨#[],λD N t=>?_,by simp⟩) (λ_=>.bS trivial) ?_
   .have d3:=U 16 k (by simp);have g5:=g6 17 M a A;rw[X.val,g8]at d3;refine aag ?_ ?_
    .simp[execOp,d3,g5,go_sem];omega
    simp[execOp,d3,g5,go_sem,Instr.indexAt];omega
   refine jr NQ (by decide) (L:=3) (more:=[4,5,6]) (j:=19) ⟨_,A,A,A,A⟩ (v:=.agg (OC e7 f0 f1 f2 e9 e8 swa)) (V:=.agg (OC e7 f0 f1 f2 e9 e8 swa)) A (show 19<26 by decide) (λq a6 S U _ g6=>?_) (λo3=>?_) ?_
   .have k0:S (.tmp 18)=XK (C ⟨d,e4+a*7,F⟩):=U 18 _ (by simp)
    obtain⟨new,a2,a4⟩:=Qc (q:=q) (d:=d) (b:=e4+a*7) (w:=e7) (D:=f0) (H:=f1) (L:=f2) (x:=e9) (g:=e8) (N:=swa) λj n L=>by
     have:=h2 j n L;unfold K.cell? at this⊢
     rw[a6.heap d h0];exact this
    refine⟨new,λD N t=>?_,λt k5=>⟨(a4 t k5).1,?_⟩⟩
    .show XJ.runT TP ((Instr.loadAt 72 (S (.tmp 18))).bind λn=>Sem.pure (Next.value n)) q #[]=_;rw[k0,Go.Sem.runT_bind',a2];rfl
    grind
   .refine .agg A λa n o2 L l2=>?_;obtain rfl:=YR (L.symm.trans l2);have h7:=YK.2 (YE L);simp only[Yg,Yo,Ze]at h7;rcases h7 with rfl|rfl|rfl|rfl|rfl|rfl|rfl
    all_goals first|exact .int _ _|exact .string _|exact .bool _
   refine zR A (λN k8=>by simp_all) ?_;dsimp only[Act.put];refine ct (by decide) (ks:=[0]) A 4 3 (more:=[]) (l:=[_,_,_]) A (by rfl) λo0 f8 _ _=>?_
   go_wp2_with (go_at_call 27;refine(Pk f9 g2 g3 g4 g1 g0 _).mono ?_;rintro _ v⟨⟨ak,l3,n0,c9,aE,j9,i7,k2,rfl⟩,d6⟩)
   obtain⟨i2,h5,⟨l4,h9,rfl⟩,k4,i3,h3⟩:=k2;obtain⟨d0,rfl⟩:∃d0:Xq UInt8,c9=bs d0:=⟨c9.data.toList,by cases c9;rfl⟩;obtain⟨i,d9⟩:∃i:dA,i={ak:=ak,op:={kind:=l3,path:=l4,data:=d0,aE:=aE,flags:=j9},watch:=i7}:=⟨_,A⟩;have e0:qk i:=by rw[d9];exact⟨i2,h5,h9,by grind [bs,ByteArray.size],i3,h3⟩
   generalize e3:v.alloc _=W;have d4:=f8.trans (H.trans (T.trans a5))
   have y:W.heap[v.heap.size]?=C (Xx (IC i) 31 (0,0)):=by rw[<-e3,d9];exact(ZN _ _).1
   have c8:=d6.size;rw[d4]at c8;have c7:W.heap.size=v.heap.size+1:=by grind [pw]
   have b2:∀b,b<i5.heap.size->W.heap[b]?=i5.heap[b]?:=λb a7=>by rw[<-e3,Yc _ _ _ (by omega),d6.block b (by simp_all),d4]
   clear e3 d6 d9;refine show _/\_ from⟨λn L=>?_,df (show CW _ _ _ _ _ _ _ _ from ?_)⟩
   .grind
   refine ej (R:=5) A (ct (by decide) (ks:=[0]) A 0 3 (more:=[3,4]) (l:=[_,_,_]) A (by rfl) λQ f7 _ _=>?_);rw[<-f7]at y;have j1:Q.cell? ⟨v.heap.size,0,F⟩=C (Xo M i.ak):=aa y 0 A;have j2:Q.cell? ⟨v.heap.size,1,F⟩=C (Xo M i.op.kind):=aa y 1 A;have j3:Q.cell? ⟨v.heap.size,2,F⟩=C (.string (bs i.op.path)):=aa y 2 A;have j4:Q.cell? ⟨v.heap.size,3,F⟩=C (.string (bs i.op.data)):=aa y 3 A;have j5:Q.cell? ⟨v.heap.size,4,F⟩=C (Xo M i.op.aE):=aa y 4 A;have j6:Q.cell? ⟨v.heap.size,5,F⟩=C (Xo M i.op.flags):=aa y 5 A;have j7:Q.cell? ⟨v.heap.size,6,F⟩=C (.bool i.watch):=aa y 6 A;have j8:Q.cell? ⟨v.heap.size,7,F⟩=C (Xw F 0 0):=aa y 7 A
   go_wp2
   generalize l1:Q.alloc _=f3
   have h1:f3.heap[W.heap.size]?=C (Xx (IC i) 31 (0,0)):=by grind [heap_alloc]
   have a0:∀b,b<W.heap.size->f3.heap[b]?=W.heap[b]?:=λb a7=>by grind [Below.heap_alloc]
   have e6:f3.heap.size=W.heap.size+1:=by grind [pw]
   clear l1 j1 j2 j3 j4 j5 j6 j7 j8 y;refine show _/\_ from⟨λn L=>a0 n (by grind),?_⟩;refine ct (by decide) (ks:=[0]) A 3 1 (more:=[4]) (l:=[_]) A (by rfl) λl5 a3 _ _=>?_;rw[<-a3,c7]at h1
   have g9:bV CR l5 31 8 e5 a (s.flatMap λi=>(IC i).toList):=by rw[<-b7];exact Z.stay λb0 h4=>by rw[a3,a0 b0 (by have:=Z.lt b0 h4;omega),b2 b0 (Z.lt b0 h4)]
   obtain⟨n2,n3,e2,i0,i1⟩:=UJ;refine ja A (.tmp 21) (.tmp 23) 25 A rfl g9 e2 i0 i1 (r:=⟨v.heap.size+1,0,F⟩) (s:=1) A (IC i).toList A (λj a1 e2=>by grind [nL,aa]) (UK i) (by omega) ?_;intro i4 l6 b5 d8 h8
   have c0:∀b,b<c.heap.size->l6.heap[b]?=c.heap[b]?:=λb a7=>by rw[d8.block b (by grind) (λt=>by have:=a9 b t.symm;omega),a3,a0 b (by omega),b2 b (by omega),b9 b a7]
   have b3:=d8.size;rw[a3]at b3;have b1:=λw d7=>(h8 w d7).elim (a9 w) λY=>by grind
   have f4:=Xv (And.intro b5 (And.intro c0 (And.intro b3 b1)));have i8:=Xv (And.intro b2 (And.intro a0 b9));clear d8 h8 b5 c0 b3 b1 h1 b2 a0 b9 Z g9 e2 i0 i1 h2 k6 a3;refine show sq _ _ _/\_ from⟨λn L=>?_,(show CO _ _ _ _ _ [4] _ (Act.put _ (C 24) i4) _ from ?_)⟩
   .obtain⟨b5,c0,b3,b1⟩:=f4.out;obtain⟨b2,a0,b9⟩:=i8.out
    grind
   dsimp only[Act.put];refine ct (by decide) (ks:=[0]) A 4 1 (more:=[]) (l:=[_]) A (by rfl) λn6 b4 _ _=>?_
   go_wp2
   refine Sim.kp b4 (df (show CW _ _ _ _ _ _ _ _ from ?_));refine cl (by decide) (ks:=[0]) A (by rfl) λn5 j0 _ _=>?_;have l0:wrap64 ((a:Xt)+1)=a+1:=by grind [wrap64]
   have i9:=Xv (And.intro b6 (And.intro b7 (And.intro a8 (And.intro e0 (And.intro e1 (And.intro c8 (And.intro c7 (And.intro e6 b4))))))));clear b6 b7 a8 e0 e1 c8 c7 e6 b4 d4 f8 f7 h9 h5 i2 k4 i3 h3 f9 g2 g3 g4 g1 g0 g8 h0 H T a5 a9 g7 h6 X f5 k7 k9 f6
   go_wp2
   refine Sim.kp j0 ?_;obtain⟨b5,c0,b3,b1⟩:=f4.out;obtain⟨b6,b7,a8,e0,e1,c8,c7,e6,b4⟩:=i9.out;refine show TU _ _ _ _ _/\_ from⟨⟨s++[i],i4,?_,?_,IG A rfl rfl rfl rfl ?_,?_,?_,?_,?_,(λY=>absurd Y (by simp)),?_⟩,?_⟩
   .simp;omega
   .simp;omega
   .simp_all
   .grind
   .simp_all [bV,uU]
   .simp_all
   .grind
   .exact b1
   show 40-(wrap64 ((a:Xt)+1)).toNat<40-(a:Xt).toNat;rw[l0];omega
  rcases(by omega:e<=a\/(a<e/\40<=a))with k3|k3
  .go_wp2
   refine Sim.kp T (df (show CW _ _ _ _ _ _ _ _ from ?_));refine ei (g:=Xp) (by decide) A (uB ?_);show CW _ _ _ _ _ _ _ _;refine aZ (cl (by decide) (ks:=[0]) A (by rfl) λi6 H _ _=>?_)
   go_wp2
   refine show _/\_ from⟨λn _=>by rw[H],(show CW _ _ _ _ _ _ _ _ from mQ ?_)⟩;have d2:=H.trans (T.trans a5);exact⟨A,A,e5,A,s,a8,by omega,Z.stay λw d7=>by rw[d2],λb a7=>by simp_all,by simp_all,b8.out,a9⟩
  have c2:decide ((a:Xt)<40)=Xp:=by simp;omega
  go_wp2
  refine Sim.kp T (df (show CW _ _ _ _ _ _ _ _ from ?_));refine ei (g:=Xp) (by decide) A (uB ?_);show CW _ _ _ _ _ _ _ _;refine aZ (cl (by decide) (ks:=[0]) A (by rfl) λi6 H _ _=>?_)
  go_wp2
  refine show _/\_ from⟨λn _=>by rw[H],(show CW _ _ _ _ _ _ _ _ from mQ ?_)⟩;have d2:=H.trans (T.trans a5);exact⟨A,A,e5,A,s,a8,by omega,Z.stay λw d7=>by rw[d2],λb a7=>by simp_all,by simp_all,b8.out,a9⟩
 rintro t b R⟨rfl,hd,x,m5,k1⟩;refine⟨Xs A,hd,λD=>⟨x,?_,k1⟩⟩;simp_all [results]
end
section
variable{l v t s:E}{g:fB}{p r:K}
theorem BM.base(b:BM h l p v u t y s g r)(d:p.heap=c.heap):BM h l c v u t y s g r:=⟨b.at',λa e=>Fg (b.keep a (by simp_all)) d.symm A,λa e=>by rw[<-d];exact b.ro a e,by rw[<-d];exact b.size,λa e=>by rw[<-d];exact b.own a e,λa e=>by rw[<-d];exact b.use a e,by rw[<-d];exact b.sx⟩
theorem CG{d:dA->Xq Xn}(f:∀b,(d b).length=8):∀(c:Xq dA)(a j:E)(b:dA),c[a]?=C b->j<8->(c.flatMap d)[a*8+j]?=(d b)[j]?
 |[],a,j,b,e,_=>by cases e
 |h::c,0,j,b,e,g=>by
  grind
 |h::c,a+1,j,b,e,g=>by rw[ZF,YQ (by grind),f,show(a+1)*8+j-8=a*8+j by omega];simp_all [CG]
end
end
end Go.Sv
namespace Wt
variable{y:cz}
def BT(a:Out):Prop:=a.results=[]/\a.names.length<=60
theorem ir{a:Out}(b:a.results=[])(c:a.names=[]):BT a:=⟨b,by simp[c]⟩
theorem zo(d:Xt):∀(c:Xq Ev)(y:cz),∀b∈(tell d y c).2,BT b
 |[],y,b,a=>by cases a
 |e::c,y,b,a=>by
  unfold tell at a;simp only[YC]at a;rcases a with a|a
  .unfold gN at a;simp only[YL]at a;obtain⟨f,_,rfl⟩:=a;exact ir A rfl
  exact zo d c _ b a
theorem KR(f:WF y.tree)(i:Xt){d:dA}(g:d.op.kind≠2)(h:d.op.kind≠7)(n:d.op.kind≠11):∀c∈(step y i d).2,BT c:=by
 have one:∀c e:Out,BT c->e∈[c]->BT e:=by simp
 intro c a;unfold step at a;split at a
 .simp_all [ir]
 .split at a
  .exact one _ _ (ir A rfl) a
  simp_all [ir]
 .grind [task]
 .split at a
  .simp_all [ir]
  unfold write at a;simp only[XH g,XH h]at a;split at a
  .simp_all [ir]
  split at a
  all_goals
   simp only[YC]at a;rcases a with a|a
   .exact zo _ _ _ _ a
   simp_all [ir]
 refine one _ _ ?_ a;unfold dF;split
 .exact ir A rfl
 split
 .split
  .exact ir A rfl
  simp[ir]
 rename_i l b;refine⟨A,?_⟩;show(if d.op.kind=10 then l.names else[]).length<=60;unfold look at b;split at b
 .cases b
 split at b
 .cases b
 rename_i k _ _ o _;cases b;have m:(bP y.tree k).length<=y.tree.length:=aaH _ _;have:=f.len
 grind
theorem xK(y:cz)(a:dA):handle y 0 [a]=step y 0 a:=by show((step y 0 a).1,(step y 0 a).2++[])=_;simp
theorem rJ:∀(a:Xq dA)(y:cz)(b:dA),cw y (a++[b])=((step (cw y a).1 0 b).1,(cw y a).2++(step (cw y a).1 0 b).2)
 |[],y,b=>by simp[cw]
 |c::a,y,b=>by simp[cw,rJ]
theorem rI:∀(d:Xq dA)(y:cz)(e:E),Ok y e->(∀c∈d,c.op.kind≠2/\c.op.kind≠7/\c.op.kind≠11)->∀b∈(cw y d).2,BT b
 |[],y,e,_,_,b,a=>by cases a
 |c::d,y,e,i,k,b,a=>by
  obtain⟨g,h,f⟩:=k c (Zi ..);rcases YC.1 a with a|a
  .exact KR i.wf 0 g h f b a
  exact rI d _ _ (i.step 0 g h f).1 (λm l=>k m (Yw _ l)) b a
theorem LU{b c:Xq Out}(f:b.map blank=c.map blank){a:E}{d e:Out}(h:b[a]?=C d)(i:c[a]?=C e):blank d=blank e:=by
 have:=Zc (λg=>g[a]?) f
 grind
end Wt
namespace Go.Sv
open Go.MapKept Go.Proofs Go.RowKit Go.Lib Go.WideShapes Go.Sort Go.Sim Wt
variable{c:K}{f:K}{b:E}{h:E->Prop}{u:E}{y:cz}{O:Xz XG}{m:Xn}{d:XA}{t:E}{s:Out}
section
variable[Inhabited aN]
def Ji(c f:K)(b:E):Prop:=(f.heap[b]?).map Sim.Obj.whole=(c.heap[b]?).map Sim.Obj.whole
theorem Me(a:gw c f b):Ji c f b:=by
 rcases a with a|⟨d,k,e,g,_,h,i⟩
 .simp[Ji,a]
 simp_all [Ji,Sim.Obj.whole]
structure xB(own:E->Prop)(O:Xz XG)(c f:K):Prop where
 size:c.heap.size<=f.heap.size
 wh:∀b,b<c.heap.size->¬own b->Ji c f b
 keep:∀b,b<c.heap.size->¬own b->(∀a,O≠C ⟨b,a,F⟩)->(∀e o n,c.heap[b]?=C (Xx e o n)->¬aS e)->f.heap[b]?=c.heap[b]?
 iO:∀b a,O=C ⟨b,a,F⟩->f.heap[b]?=(c.heap[b]?).map Sim.Obj.whole
section
variable{p i r q:E}{x:Xq Out}{k z:fB}{D:K}{own:E->Prop}{B:Xz XG}{g:Xq dA}
theorem cK.fA(a:cK h p i u r y q k O g c m f z):xB (aH u y.tree k) O c f where
 size:=a.size
 wh:=λb n o=>by
  by_cases l:∃e,O=C ⟨b,e,F⟩
  .obtain⟨e,d⟩:=l;rw[Ji,a.iO b e d];cases c.heap[b]? with
   |none=>rfl
   |some s=>cases s<;>rfl
  exact Me (a.keep b n o λe d=>l ⟨e,d⟩)
 keep:=λb n o l Q=>by
  rcases a.keep b n o l with d|⟨v,R,w,H,N,L,_⟩
  .exact d
  grind
 iO:=a.iO
theorem BM.fA(a:BM h p c i u r y q k f):xB (λ_=>False) F c f where
 size:=a.size
 wh:=λb e _=>Me (a.keep b e)
 keep:=λb e _ _ H=>by
  rcases a.keep b e with d|⟨l,N,n,o,w,v,_⟩
  .exact d
  grind
 iO:=λb L d=>by cases d
theorem lu(h:c.heap.size<=f.heap.size)(g:∀b,b<c.heap.size->¬own b->f.heap[b]?=c.heap[b]?):xB own F c f where
 size:=h
 wh:=λb a e=>by simp_all [Ji]
 keep:=λb a e _ _=>g b a e
 iO:=λb i d=>by cases d
theorem kH(d:f.heap=c.heap):xB own F c f:=lu (by simp[d]) λb _ _=>by rw[d]
theorem oA.fA(a:oA p i u r y q x k c)(n:xB own O c f)(v:∀b,aH u y.tree k b\/dm k b\/b=i->¬own b)(w:∀b l,O=C ⟨b,l,F⟩->¬aH u y.tree k b/\b≠i):oA p i u r y q x k f where
 fu:=a.fu.same ⟨n.size,λb e=>n.keep b (a.fu.bg e) (v b (Xr e)) (λl d=>(w b l d).1 e) (λH N L o=>a.fu.EO e o),λb e=>n.wh b (a.fu.jh e) (v b (Xs (Xr e)))⟩
 ptr:=by
  have o:=a.ptr;rw[n.keep i (XZ.1 o).1 (v i (.inr (.inr A))) (λl d=>(w i l d).2 A) λH N L Q=>?_]
  .exact o
  simp_all [nk]
 ok:=a.ok
 own:=a.own
 KU:=a.KU
 use:=a.use
theorem bV.fA{l:Xn->Prop}{size:E}{w:Xq Xn}(n:bV l c d size m t w)(U:∀v,l v->NB v)(H:xB own O c f)(o:∀a,m.ownBlock=C a->¬own a/\∀L,O≠C ⟨a,L,F⟩):bV l f d size m t w:=
 n.stay λa e=>H.keep a (n.lt a e) (o a e).1 (o a e).2 λN X R W=>by
  obtain⟨Q,S,T⟩:=n.blk a e
  grind [fT]
theorem eU.fA{l:Xn×Xn}(e:eU s l c)(n:xB own O c f)(o:∀b,l.1.ownBlock=C b\/l.2.ownBlock=C b->¬own b):eU s l f:=
 ⟨e.1.stay λb a=>n.wh b (e.lt (Xr a)) (o b (Xr a)),e.2.stay λb a=>n.wh b (e.lt (Xs a)) (o b (Xs a))⟩
def po(g:Xq dA)(B:Xz XG)(c:K):Prop:=(B=F/\g=[])\/∃b a h d,B=C ⟨b,0,F⟩/\c.heap[b]?=C (Xx a h d)/\0<a.size/\d.2<=a.size/\(∀i∈a.toList,CR i)/\∀(e:E) f,g[e]?=C f->∀j,j<8->a[e*8+j]?=(IC f)[j]?
theorem po.of(q:uU g m c)(w:g=[]->m=Xw F 0 0):∃B h,m=.slice B g.length h/\g.length<=h/\po g B c/\∀e k,B=C ⟨e,k,F⟩->m.ownBlock=C e:=by
 rcases q.2 with⟨d,a⟩|⟨p,l,n,d,s,a,x,y,z,r⟩
 .refine⟨F,0,by rw[d,a],by omega,Xr ⟨A,Za.1 a⟩,λ_ _ d=>by cases d⟩
 refine⟨_,l,d,a,Xs ⟨p,n,31,(0,0),A,s,?_,by simp,r,λi b u j t=>?_⟩,λe k o=>by cases o;rw[d];rfl⟩
 .grind
 obtain⟨f,v⟩:∃f,(IC b)[j]?=C f:=by simp_all
 have D:(g.flatMap λb=>(IC b).toList)[i*8+j]?=C f:=by rw[CG (λ_=>rfl) g i j b u t];simpa using v
 grind
theorem po.fA(o:po g B c)(w:xB own O c f)(U:∀a e,B=C ⟨a,e,F⟩->¬own a):po g B f:=by
 rcases o with o|⟨a,n,R,S,rfl,l,H,T,v,L⟩
 .exact Xr o
 by_cases N:∃e,O=C ⟨a,e,F⟩
 .obtain⟨e,d⟩:=N;exact Xs ⟨a,n,R,(0,n.size),A,by rw[w.iO a e d,l];rfl,H,Ye _,v,L⟩
 refine Xs ⟨a,n,R,S,A,?_,H,T,v,L⟩;rw[w.keep a (XZ.1 l).1 (U a 0 A) (λe d=>N ⟨e,d⟩) λY a0 Z Q=>?_]
 .exact l
 rw[l]at Q;cases Q;exact fT λX W=>(v X W).2
theorem po.list(v:po g B c)(h:E)(f:Xq dA)(n:∀a d,f[a]?=C d->g[h+a]?=C d)(H:∀e N,B=C ⟨e,N,F⟩->p<=e/\e≠i/\¬own e):
 pk p i own (B.map λb=>⟨b.block,h*8,F⟩) f.length (λa=>QD (f.getD a {})) c:=by
 rcases v with⟨rfl,rfl⟩|⟨e,q,O,u,rfl,w,x,y,m,z⟩
 .refine Xr ⟨A,?_⟩;rcases f with _|⟨d,f⟩
  .rfl
  have:=n 0 d A;simp at this
 obtain⟨r,s,t⟩:=H e 0 A;refine Xs ⟨e,h*8,q,O,u,A,w,x,y,λa l k=>(m l (YK.2 (YE k))).1,fT λl k=>(m l k).2,λa Q j L=>?_,r,s,t⟩;obtain⟨d,o⟩:∃d,f[a]?=C d:=by simp_all
 have D:=z (h+a) d (n a d o) j L;rw[<-aaC,D];show _=(QD (f.getD a {})).jm[j]?;rw[Xq.getD_eq_getElem?_getD,o];rfl
end
variable{d:K}{Q:K}{a1:Xn}{c:E}
def jf(m c:E)(d:Tree)(a:fB)(b:E):Prop:=aH c d a b\/dm a b\/b=m
structure xC(o m i D:E)(k:cz)(t:E)(L:Xq Out)(e:fB)(q n H:E)(l:cz)(u:E)(R:Xq Out)(r:fB)(d:K):Prop where
 x:oA o m i D k t L e d
 y:oA o q n H l u R r d
 xy:∀b,jf m i k.tree e b->¬aH n l.tree r b
 yx:∀b,jf q n l.tree r b->¬aH i k.tree e b
structure Je(s z:E->Prop)(p:Xq Out)(f:Xq (Xn×Xn))(N:Xn)(d:K):Prop where
 row:bV NB d 38 16 N p.length (bT p f)
 len:p.length=f.length
 ok:∀(g:E) v a,p[g]?=C v->f[g]?=C a->eU v a d
 free:∀c,N.ownBlock=C c->¬s c
 sep:∀c,N.ownBlock=C c->∀a∈f,¬(a.1.ownBlock=C c\/a.2.ownBlock=C c)
 UA:∀a∈f,∀c,a.1.ownBlock=C c\/a.2.ownBlock=C c->¬z c
theorem xU{b a:Xq Out}{f c:Xq (Xn×Xn)}(d:b.length=f.length):bT (b++a) (f++c)=bT b f++bT a c:=by simp_all [bT,Xq.zip_append]
section
variable{o m i D t q n H u:E}{k l:cz}{L R:Xq Out}{e r W:fB}{own:E->Prop}{S:Xq dA}
theorem oA.TM(c:oA o m i D k t L e d)(a:jf m i k.tree e b):b<d.heap.size:=by
 rcases a with a|a|rfl
 .exact c.fu.bg a
 .exact c.fu.jh a
 exact(XZ.1 c.ptr).1
theorem xC.symm(a:xC o m i D k t L e q n H l u R r d):xC o q n H l u R r m i D k t L e d:=⟨a.y,a.x,a.yx,a.xy⟩
theorem cK.part(P:cK h o q n H l u r O S d a1 Q W)(a:jf q n (Wt.handle l 0 S).1.tree W b):jf q n l.tree r b\/b=1\/b=4\/d.heap.size<=b:=by
 rcases a with a|a|a
 .exact(P.own b a).imp Xr λa=>Xs (Xs a)
 .exact Xs (P.use b a)
 exact Xr (Xs (Xs a))
theorem xC.abF(a:xC o m i D k t L e q n H l u R r d)(a3:4<o)(P:cK h o q n H l u r O S d a1 Q W)(x:∀b y,O=C ⟨b,y,F⟩->¬aH i k.tree e b/\b≠m):
 xC o m i D k t L e q n H (Wt.handle l 0 S).1 (u+S.length) (Wt.handle l 0 S).2 W Q where
 x:=a.x.fA P.fA a.xy x
 y:=P.at'
 xy:=λb w v=>by
  rcases P.own b v with g|g
  .exact a.xy b w g
  have:=a.x.TM w;omega
 yx:=λb w v=>by
  have X:=a.x.fu.bg v;have a2:=(a.x.own b v).1;rcases P.part w with g|g|g|g
  .exact a.yx b g v
  all_goals omega
theorem xC.fA(a:xC o m i D k t L e q n H l u R r d)(v:xB own F d Q)(w:∀b,jf m i k.tree e b->¬own b)(x:∀b,jf q n l.tree r b->¬own b):xC o m i D k t L e q n H l u R r Q where
 x:=a.x.fA v w λ_ _ g=>by cases g
 y:=a.y.fA v x λ_ _ g=>by cases g
 xy:=a.xy
 yx:=a.yx
variable{s a0 z Z:E->Prop}{p T:Xq Out}{f U:Xq (Xn×Xn)}{N Y:Xn}
theorem Je.nil(d:K):Je s z [] [] (Xw F 0 0) d where
 row:=bV.nil _ _ _ _
 len:=A
 ok:=λe f b a=>by simp at a
 free:=λc a=>by cases a
 sep:=λc a=>by cases a
 UA:=λb a=>by cases a
theorem Je.Rq(b:Je s z p f N d){a:Xn×Xn}(k:a∈f)(g:a.1.ownBlock=C c\/a.2.ownBlock=C c):c<d.heap.size:=by
 obtain⟨e,h⟩:=ZH.1 k;have i:e<p.length:=by rw[b.len];grind
 exact(b.ok e _ a (YN i) h).lt g
theorem Je.abF(a:Je s z p f N d)(a4:xB own O d Q)(a5:∀b,own b->z b/\s b)(a7:∀b a3,O=C ⟨b,a3,F⟩->s b)(a9:∀b,a0 b->s b\/d.heap.size<=b)(a8:∀b,Z b->z b\/d.heap.size<=b):Je a0 Z p f N Q where
 row:=a.row.fA (λb6 b1=>b1) a4 λg y=>⟨λa2=>a.free g y (a5 g a2).2,λa3 a6=>a.free g y (a7 g a3 a6)⟩
 len:=a.len
 ok:=λg b4 X y x=>(a.ok g b4 X y x).fA a4 λb b0 a2=>a.UA X (Yn x) b b0 (a5 b a2).1
 free:=λc w b3=>by
  rcases a9 c b3 with v|v
  .exact a.free c w v
  have:=a.row.lt c w;omega
 sep:=a.sep
 UA:=λX x c w b2=>by
  rcases a8 c b2 with v|v
  .exact a.UA X x c w v
  have:=a.Rq x w;omega
theorem Je.app(g:Je s z p f N d)(D:T.length=U.length)(H:∀(m:E) n e,T[m]?=C n->U[m]?=C e->eU n e d)(y:bV NB Q 38 16 Y (p.length+T.length) (bT p f++bT T U))(v:d.grownBy Q N.ownBlock)(q:jC d N Y)
 (L:∀b,s b->b<d.heap.size)(x:∀e∈U,∀c,e.1.ownBlock=C c\/e.2.ownBlock=C c->s c/\¬z c):Je s z (p++T) (f++U) Y Q:=by
 have u:=lu v.size λb k l=>v.block b k l;refine⟨?_,by simp[g.len,D],λm n e o a=>?_,λc i t=>?_,λc i e a r=>?_,λe a c i=>?_⟩
 .rw[YA,xU g.len];exact y
 .by_cases w:m<p.length
  .rw[Zo w]at o;rw[Zo (by rw[<-g.len];exact w)]at a;exact(g.ok m n e o a).fA u λb k l=>g.sep b l.symm e (Yn a) k
  rw[YQ (by omega)]at o;rw[YQ (by rw[<-g.len];omega),<-g.len]at a;exact(H _ n e o a).fA u λb k l=>g.free b l.symm (x e (Yn a) b k).1
 .rcases q c i with h|h
  .exact g.free c h t
  grind
 .rcases YC.1 a with a|a
  .rcases q c i with h|h
   .exact g.sep c h e a r
   have:=g.Rq a r;omega
  have t:=(x e a c r).1;rcases q c i with h|h
  .exact g.free c h t
  grind
 rcases YC.1 a with a|a
 .exact g.UA e a c i
 grind
theorem oA.Vb(c:oA o m i D k t L e d)(a:dm e b):¬aH i k.tree e b:=λf=>by
 obtain⟨iV,g,h,n,p,q,l⟩:=c.fu.iV;have:=l b a;rcases f with rfl|a|a|rfl|a
 .omega
 .have:=g b a;omega
 .have:=h b a;omega
 .omega
 simp_all
end
variable{l:K}{w':K}{S:Xn}{c:XA}{T:E}
def ZT(k p g:E)(c:Tree)(i:fB)(o f:E)(e:Tree)(d:fB)(B:Xz XG)(b:E):Prop:=b<k\/jf p g c i b\/jf o f e d b\/∃a,B=C ⟨b,a,F⟩
def YT(g:E)(a:Tree)(i:fB)(f:E)(c:Tree)(d:fB)(b:E):Prop:=aH g a i b\/aH f c d b
structure BJ(ro:E->Prop)(k:E)(Q:K)(p g L:E)(r:cz)(H:E)(N:Xq Out)(i:fB)(o f y:E)(m:cz)(x:E)(s:Xq Out)(d:fB)(u:Xq dA)(B:Xz XG)(t:Xq Out)(D:Xq (Xn×Xn))(z:Xn)(l:K):Prop where
 two:xC k p g L r H N i o f y m x s d l
 rs:po u B l
 oE:∀a e,B=C ⟨a,e,F⟩->k<=a/\¬jf p g r.tree i a/\¬jf o f m.tree d a
 q:Je (ZT k p g r.tree i o f m.tree d B) (YT g r.tree i f m.tree d) t D z l
 ro:∀b,ro b->l.heap[b]?=Q.heap[b]?
theorem po.lt{u:Xq dA}{B:Xz XG}(d:po u B l){a b:E}(c:B=C ⟨a,b,F⟩):b=0/\a<l.heap.size:=by
 rcases d with⟨rfl,_⟩|⟨f,e,i,g,rfl,h,_⟩
 .cases c
 grind
section
variable{k p g L H o f y x:E}{Q:K}{r m:cz}{N s:Xq Out}{i d W:fB}{u R:Xq dA}{B:Xz XG}{t:Xq Out}{D:Xq (Xn×Xn)}{z U:Xn}{own:E->Prop}
theorem BJ.WS(c:BJ h k Q p g L r H N i o f y m x s d u B t D z l)(a:ZT k p g r.tree i o f m.tree d B b):b<l.heap.size:=by
 rcases a with a|a|a|⟨e,a⟩
 .have:=c.two.x.KU;have:=(XZ.1 c.two.x.ptr).1;omega
 .exact c.two.x.TM a
 .exact c.two.y.TM a
 exact(c.rs.lt a).2
theorem BJ.eq(e:BJ h k Q p g L r H N i o f y m x s d u B t D z l)(c:w'.heap=l.heap):BJ h k Q p g L r H N i o f y m x s d u B t D z w' where
 two:=e.two.fA (own:=λ_=>False) (kH c) (λ_ _ a=>a) λ_ _ a=>a
 rs:=e.rs.fA (own:=λ_=>False) (kH c) λ_ _ _ a=>a
 oE:=e.oE
 q:=e.q.abF (own:=λ_=>False) (kH c) (λ_ a=>a.elim) (λ_ _ a=>by cases a) (λ_ a=>Xr a) λ_ a=>Xr a
 ro:=λb n=>by rw[c];exact e.ro b n
theorem BJ.handle(e:BJ h k Q p g L r H N i o f y m x s d u B t D z l)(a0:4<k)(P:cK h k o f y m x d O R l S w' W)(T:∀b n,O=C ⟨b,n,F⟩->∃q,B=C ⟨b,q,F⟩):
 BJ h k Q p g L r H N i o f y (Wt.handle m 0 R).1 (x+R.length) (Wt.handle m 0 R).2 W u B t D z w' where
 two:=e.two.abF a0 P λb n c=>by obtain⟨q,w⟩:=T b n c;exact⟨λa=>(e.oE b q w).2.1 (Xr a),λa=>(e.oE b q w).2.1 (Xs (Xs a))⟩
 rs:=e.rs.fA P.fA λv n c a=>(e.oE v n c).2.2 (Xr a)
 oE:=λv n c=>by
  obtain⟨X,Y,Z⟩:=e.oE v n c;refine⟨X,Y,λa=>?_⟩;have:=(e.rs.lt c).2;rcases P.part a with a|a|a|a
  .exact Z a
  all_goals omega
 q:=e.q.abF P.fA (λb a=>⟨Xs a,Xs (Xs (Xr (Xr a)))⟩) (λb n c=>Xs (Xs (Xs (T b n c)))) (λb a=>by
   rcases a with a|a|a|a
   .exact Xr (Xr a)
   .exact Xr (Xs (Xr a))
   .rcases P.part a with a|a|a|a
    .exact Xr (Xs (Xs (Xr a)))
    .exact Xr (Xr (by omega))
    .exact Xr (Xr (by omega))
    omega
   .exact Xr (Xs (Xs (Xs a)))) λb a=>by
   rcases a with a|a
   .exact Xr (Xr a)
   exact(P.own b a).imp Xs id
 ro:=λb U=>(P.ro b U).trans (e.ro b U)
theorem BJ.app(a:BJ h k Q p g L r H N i o f y m x s d u B t D z l)(Z:∀b,h b->b<k)(T:bV NB w' 38 16 U (t.length+s.length) (bT t D++bT s d.vs))(q:l.grownBy w' z.ownBlock)(X:jC l z U):
 BJ h k Q p g L r H N i o f y m x s d u B (t++s) (D++d.vs) U w':=by
 have w:=lu q.size λb n Y=>q.block b n Y;refine⟨a.two.fA w (λb e c=>a.q.free b c.symm (Xs (Xr e))) (λb e c=>a.q.free b c.symm (Xs (Xs (Xr e)))),a.rs.fA w λS a1 c e=>a.q.free S e.symm (Xs (Xs (Xs ⟨a1,c⟩))),a.oE,a.q.app a.two.y.fu.outs.1 a.two.y.fu.outs.2 T q X (λb e=>a.WS e) λa2 a0 O W=>?_,λb n=>?_⟩
 .have v:dm d O:=Xs (Xs ⟨a2,a0,W⟩);refine⟨Xs (Xs (Xr (Xs (Xr v)))),λe=>?_⟩;rcases e with e|e
  .exact a.two.yx O (Xs (Xr v)) e
  exact a.two.y.Vb v e
 have R:=Z b n;rw[q.block b (a.WS (.inl R)) λc=>a.q.free b c.symm (.inl R)];exact a.ro b n
end
theorem bV.form{d:Xn->Prop}{size:E}{g:Xq Xn}(f:bV d l c size S T g):∃O e,S=.slice O T e/\∀b,b<T->∃a,O=C ⟨a,0,F⟩/\S.ownBlock=C a:=by
 rcases f.2 with⟨rfl,rfl⟩|⟨a,h,i,rfl,_⟩
 .simp
 exact⟨_,_,A,λb _=>⟨a,A,A⟩⟩
end
end Go.Sv
namespace Go.Sim
open Go.Conc Go.Proofs Go.RowKit
open Go.ConcN (PermW PermW.app PermW.of fork_knows WgLive RelBy sumTo)
open Go.ConcR (KK wgBlock WgAt stA smA rd wr mk DC0)
variable{P:XI}{f:Set}{h:E->Prop}{g:XC}{i:Xq XC}{Q:Exit->XF->K->Prop}{e:XF}{c:K}
section
variable[Inhabited aN]
section
variable{main:Xy}{d:Goal P f main h}{k:Rt}{l:Xq Deferred}
def qb(d:Goal P f main h)(g:XC)(k:Rt)(i:Xq XC)(m:XR)(Q:Exit->XF->K->Prop)(e:XF)(c:K):Prop:=
 ∀(a:Ren)(b:Xq Item)(l:XF),jM b=J->Inv P f h a c->ar f a k e l->mI P f main h d g ⟨k.d0,[]⟩ i b Q a c->d.G a c (rg (g.at l (.code m::b)) i)
theorem Sl{a:XR}(h:CW d g ⟨k.d0,[]⟩ i a Q e c):qb d g k i a Q e c:=λo n f _ b m l=>h o n f b (m.less A (by simp)) l
theorem fe{l b:XR}(r:CW d g k i l (λf e c=>f=.normal/\qb d g k i b Q e c) e c):qb d g k i (.seq l b) Q e c:=λw h o t m u s=>by refine d.pure A rfl (λy=>by rfl) (r w (.code b::h) o m u λf x z p D n q v a=>?_);obtain⟨rfl,a⟩:=a;exact a x h p t n v (s.grow q)
theorem MG{a:XR}(h:qb d g ⟨k.d0,[]⟩ i a Q e c):qb d g k i a Q e c:=λp o f m b n l=>h p o f m b (n.less A (by simp)) l
theorem Ck{m b:XR}(s:qb d g ⟨l,[]⟩ i m (λf e c=>f=.normal/\qb d g ⟨l,[]⟩ i b Q e c) e c):qb d g ⟨l,[]⟩ i (.seq m b) Q e c:=λw k p h n u t=>by refine d.pure A rfl (λy=>by rfl) (s w (.code b::k) p (by simpa[jM,wF]using h) n u λf x z q D o r v a=>?_);obtain⟨rfl,a⟩:=a;exact a x k q h o v (t.grow r)
theorem Cj(o:Good P f)(x:f.fr g.fn=J)(v:g.kind=.normal){m:XR}(w:f.code m=J)(l:XF->K->Prop)
 (t:∀k:K,k.heap=c.heap->k.drawn=c.drawn->k.os=c.os->k.output=c.output->m.wp P (eB l) e k)(z:∀b a,l b a->∀n,h n->a.heap[n]?=c.heap[n]?)(next:∀b a,l b a->Q .normal b a):qb d g ⟨[],[]⟩ i m Q e c:=
 λS R O y p D u=>g_lone o x v w y p D l t z λN b r a q s H L=>u .normal N b r a q s H (next _ _ L)
end
end
end Go.Sim
namespace Go.Sv
open Go.MapKept Go.Proofs Go.RowKit Go.Lib Go.WideShapes Go.Sort Go.Sim Wt
open Go
variable{b:E}{a:E}{c:K}{d:K}{f:E}{j:E}{e:Xn}{s:E}
def lk(b:E)(a:Xn):Xq (E×Xn)->Xn
 |[]=>a
 |(j,e)::c=>bif b==j then e else lk b a c
def sl(c:Xq (E×Xn))(d:E->Xn):E->Xq Xn->Xq Xn
 |0,b=>b
 |a+1,b=>sl c d a (lk a (d a) c::b)
def gI(a:E)(b:Xq (E×Xn))(c:E->Xn):XF:=⟨(sl b c a []).toArray,[]⟩
def yj(a:XF):Xq (E×Xn)->Prop
 |[]=>True
 |b::c=>a.tmps[b.1]?=C b.2/\yj a c
theorem Ro{a:Xu Xn}(f:b<a.size):∀{c:Xq (E×Xn)},yj ⟨a,[]⟩ c->lk b (a.getD b I) c=a[b]
 |[],_=>by simp[lk,f]
 |(j,e)::c,g=>by
  unfold lk;by_cases d:b=j
  .subst d;have:=g.1;simp_all
  rw[beq_false_of_ne d];exact Ro f g.2
theorem Oy{c:Xu Xn}{f:Xq (E×Xn)}(e:yj ⟨c,[]⟩ f):∀a,a<=c.size->∀d,sl f (λb=>c.getD b I) a d=c.toList.take a++d
 |0,_,d=>by simp[sl]
 |a+1,g,d=>by rw[sl,Oy e a (by omega),Ro (by omega) e,j_];simp[show a<c.size by omega]
theorem bK(i:Xq (E×Xn)){g:XF}{P:XF->Prop}(o:g.tmps.size=a)(hd:g.defers=[])(n:yj g i)(l:∀q,P (gI a i q)):P g:=by obtain⟨h,k⟩:=g;have m:k=[]:=hd;subst m;have p:h.size=a:=o;subst p;rw[show(⟨h,[]⟩:XF)=gI h.size i λb=>h.getD b I by rw[gI,Oy n _ (Ye _),Zf,b_ (by simp)]];exact l _
def iR:Xq E->XR->XR
 |[],b=>b
 |0::a,.seq c _=>iR a c
 |_::a,.seq _ d=>iR a d
 |_::a,.block _ b=>iR a b
 |_::a,.loop b=>iR a b
 |0::a,.cond _ c _=>iR a c
 |_::a,.cond _ _ d=>iR a d
 |_,b=>b
noncomputable section
abbrev lp:XR:=Go.Proofs.Tryz.f5.body.getD .skip
end
def Al(c:E)(b:XF):E:=match b.tmps[c]? with
 |some (.int _ a)=>a.toNat
 |_=>0
def Kept(c d:K):Prop:=c.heap.size<=d.heap.size/\∀a,a<c.heap.size->d.heap[a]?=c.heap[a]?
theorem Kept.trans{l m:K}(g:Kept c l)(h:Kept l m):Kept c m:=⟨Yi g.1 h.1,λk i=>(h.2 k (Yk i g.1)).trans (g.2 k i)⟩
theorem il(a:d.heap=c.heap):Kept c d:=⟨by rw[a];exact Ye _,λb _=>by rw[a]⟩
theorem Kept.cell(g:Kept c d)(i:c.cell? ⟨f,j,F⟩=C e):d.cell? ⟨f,j,F⟩=C e:=by have h:=g.2 f (by grind [World.cell?]);simpa only[K.cell?,h]using i
def BO(a:E)(f:E->Xq (E×Xn))(s:E)(c:K)(e:XF)(d:K):Prop:=∃(b:E)(g:E->Xn),b<=s/\e=gI a (f b) g/\Kept c d
theorem BO.of{f:E->Xq (E×Xn)}{e:XF}(b:E)(h:b<=s)(k:e.tmps.size=a)(hd:e.defers=[])(i:yj e (f b))(g:Kept c d):BO a f s c e d:=
 bK (f b) (P:=λe=>BO a f s c e d) k hd i λl=>⟨b,l,h,A,g⟩
def fK(a:E)(e:Xq (E×Xn))(c:K)(b:XF)(d:K):Prop:=(b.tmps.size=a/\b.defers=[]/\yj b e)/\Kept c d
theorem yD{b:Xq (E×Xn)}{f:K}(h:c.heap=f.heap){g:Exit}{e:XF}(i:eB (fK a b c) g e d):eB (fK a b f) g e d:=by rwa [show fK a b f=fK a b c by funext e d;simp only[fK,Kept,h]]
end Go.Sv
namespace Go.Sv
open Go.MapKept Go.Proofs Go.RowKit Go.Lib Go.WideShapes Go.Sort Go.Sim Wt
variable{z:eA}{h:E->Prop}{a:K}{O:Xz XG}{m:E}{l:Xq XC}{Q:Exit->XF->K->Prop}{y:cz}{f:E}{s:E}{e:E}
section
variable[Inhabited aN]
noncomputable section
variable{b:E}{g d:Xn}{o:E}{p:E->Xu Xn}{k:E->Xn}
theorem Wa{q u:Xt}{a1:E}(W:-2^63<=q/\q<2^63)(L:xq h b a)(T:(∃s,a.cell? ⟨1,0,F⟩=C (Xo M s))/\ux a/\4<a.heap.size)(a0:b<=a.heap.size)
 (S:∀i r c t v x,1<=c/\c<=8->BM h b a i r c Wt.sB 7 t x->Q .normal (gI 108 [(1,Xo M u),(2,d),(7,pt i 0)] v) x):
 CW (goalAt TP F F z al h) (Go.Conc.base 5) ⟨[],[(2,g)]⟩ l (iR [1,0] lp) Q (gI 108 [(0,Xo M q),(1,Xo M u),(2,d)] k) a:=by
 show CW _ _ _ _ (.region _ _ _) _ _ _;dsimp only[gI,sl,lk,Nat.reduceBEq,cond];refine ej (R:=3) A (ct (by decide) (ks:=[2]) A 0 1 (more:=[1,2]) (l:=[_]) A (by rfl) λa3 n _ _=>?_);have H:=Xv S
 go_wp2
 refine Sim.kp n ?_;refine iA (a:=#[Xo M q]) (l:=1) (more:=[2]) (by decide) A rfl rfl rfl Tryz.func14 (by decide) A (by decide) (by kernel_rfl) (Cd W (L.eq n) ⟨by simp_all [K.cell?],T.2.1.stay (by rw[n]),by simp_all⟩ (by simp_all)) λa2 a4 R=>?_;obtain⟨i,r,c,t,rfl,U,B⟩:=R;replace B:=B.base n;refine ct (by decide) (ks:=[2]) A 2 1 (more:=[]) (l:=[_]) A (by rfl) λD w _ _=>?_
 go_wp2
 replace B:=B.eq w;refine Sim.kp w (df ?_);exact bK [(1,Xo M u),(2,d),(7,pt i 0)] (P:=λN=>Q .normal N D) A rfl ⟨A,A,A,trivial⟩ λv=>H.out i r c t v D U B
theorem Wb{a1 q:Xt}{u:E}(W:-2^63<=q/\q<2^63)(L:xq h b a)(T:(∃s,a.cell? ⟨1,0,F⟩=C (Xo M s))/\ux a/\4<a.heap.size)(a0:b<=a.heap.size)
 (S:∀i r c t v x,1<=c/\c<=8->BM h b a i r c Wt.sB 7 t x->Q .normal (gI 108 [(2,d),(7,pt u 0),(8,pt i 0)] v) x):
 CW (goalAt TP F F z al h) (Go.Conc.base 5) ⟨[],[(2,g)]⟩ l (iR [1,1,0] lp) Q (gI 108 [(1,Xo M q),(2,d),(7,pt u 0)] k) a:=by
 show CW _ _ _ _ (.region _ _ _) _ _ _;dsimp only[gI,sl,lk,Nat.reduceBEq,cond];refine ej (R:=3) A (ct (by decide) (ks:=[2]) A 0 1 (more:=[1,2]) (l:=[_]) A (by rfl) λa3 n _ _=>?_);have H:=Xv S
 go_wp2
 refine Sim.kp n ?_;refine iA (a:=#[Xo M q]) (l:=1) (more:=[2]) (by decide) A rfl rfl rfl Tryz.func14 (by decide) A (by decide) (by kernel_rfl) (Cd W (L.eq n) ⟨by simp_all [K.cell?],T.2.1.stay (by rw[n]),by simp_all⟩ (by simp_all)) λa2 a4 R=>?_;obtain⟨i,r,c,t,rfl,U,B⟩:=R;replace B:=B.base n;refine ct (by decide) (ks:=[2]) A 2 1 (more:=[]) (l:=[_]) A (by rfl) λD w _ _=>?_
 go_wp2
 replace B:=B.eq w;refine Sim.kp w (df ?_);exact bK [(2,d),(7,pt u 0),(8,pt i 0)] (P:=λN=>Q .normal N D) A rfl ⟨A,A,A,trivial⟩ λv=>H.out i r c t v D U B
theorem Wc{b c:E}(p:∀e i,i.heap=a.heap->Q .normal (gI 108 [(2,d),(7,pt b 0),(8,pt c 0)] e) i):
 CW (goalAt TP F F z al h) (Go.Conc.base 5) ⟨[],[(2,g)]⟩ l (iR [1,1,1,0] lp) Q (gI 108 [(2,d),(7,pt b 0),(8,pt c 0)] k) a:=by
 show CW _ _ _ _ (.seq _ _) _ _ _;dsimp only[gI,sl,lk,Nat.reduceBEq,cond];refine aZ (cl (by decide) (ks:=[2]) A (by rfl) λm f _ _=>?_);have n:=Xv p
 go_wp2
 refine BL f ?_;refine ei (g:=Xp) (by decide) A (ig ?_);exact bK [(2,d),(7,pt b 0),(8,pt c 0)] (P:=λo=>Q .normal o m) A rfl ⟨A,A,A,trivial⟩ λe=>n.out e m f
theorem UE:∀fn,TP.funcs[(Go.Conc.base 5).fn]?=C fn->fn.norace=Xp:=λfn a=>by grind [Go.Conc.base,Tryz.f5,Tryz.func5]
theorem Wd{s t:E}(v:pj g d O m o p)(R:xq h b a)(a1:b<=a.heap.size)
 (y:∀c B e u q,(∀a5∈c,qk a5)->c.length<=40->c.length<=e->po c B q->(∀i,i<a.heap.size->q.heap[i]?=a.heap[i]?)->a.heap.size<=q.heap.size->(∀n r,B=C ⟨n,r,F⟩->a.heap.size<=n)->Q .normal (gI 108 [(7,pt s 0),(8,pt t 0),(9,.slice B c.length e)] u) q):
 CW (goalAt TP F F z al h) (Go.Conc.base 5) ⟨[],[(2,g)]⟩ l (iR [1,1,1,1,0] lp) Q (gI 108 [(2,d),(7,pt s 0),(8,pt t 0)] k) a:=by
 show CW _ _ _ _ (.region _ _ _) _ _ _;dsimp only[gI,sl,lk,Nat.reduceBEq,cond];have N:=Xv y;clear y;refine ej (R:=3) A (nN ?_);refine jr UE (by decide) (L:=0) (more:=[1,2]) (j:=29) ⟨_,A,A,A,A⟩ (v:=d) (V:=g) A (show 29<108 by decide) (λS a9 a6 a8 _ _=>⟨#[],λb7 D w=>?_,by simp⟩) v.rel ?_
 .show(Sem.pure (Next.value (a6 (.tmp 2)))).runT TP S #[]=_;simp_all
 refine Mx (Z:=[(0,g)]) (o:=#[d]) (L:=1) (more:=[2]) (by decide) A rfl rfl rfl Tryz.func15 (by decide) A (by decide) (λD a2=>⟨29,by simp_all,by simp_all⟩) (by kernel_rfl) (DN v R a1) λb6 b8 X=>?_;obtain⟨c,a3,W,Z,b1,b2,U,a4⟩:=X;refine zR A (λD a2=>by simp_all) ?_;obtain⟨B,e,rfl,a0,Y,SF⟩:=po.of Z U;refine ct (by decide) (ks:=[2]) A 2 1 (more:=[]) (l:=[_]) A (by rfl) λH x _ _=>?_;have L:=Xv Y
 go_wp2
 refine Sim.kp x (df ?_);exact bK [(7,pt s 0),(8,pt t 0),(9,.slice B c.length e)] (P:=λi=>Q .normal i H) A rfl ⟨A,A,A,trivial⟩ λu=>N.out c B e u H a3 W a0 (L.out.fA (own:=λ_=>False) (kH x) λ_ _ _ T=>T) (λi b0=>by simp_all) (by simp_all) λn r w=>a4 n (SF n r w)
theorem DT{u x t w:E}{b1:Xq Out}{D:fB}{T n:Xq dA}{B v:Xz XG}{b0:E}(W:oA b u x t y w b1 D a)(U:xq h b a)(a7:1<=t/\t<=8)(a3:w<2^16)(a9:po T B a)(a5:∀c r,n[c]?=C r->T[f+c]?=C r)(a6:n.length=s)(a1:s<=64)(S:∀r∈n,qk r)
 (a4:∀q L,B=C ⟨q,L,F⟩->b<=q/\¬jf u x y.tree D q)(a2:v=B.map λX=>⟨X.block,f*8,F⟩):
 Co (goalAt TP F F z al h) 18 #[pt u 0,.slice v s b0] a λb3 b4=>∃Y,cK h b u x t y w D v n a b3 b4 Y:=by
 subst a2 a6;have R:∀c,c<n.length->n.getD c {}∈n:=by simp_all
 refine DS (rq:=λc=>QD (n.getD c {})) (q:=λc=>n.getD c {}) W U ⟨a7.1,by omega⟩ (a9.list f n a5 λq L Z=>?_) a1 a3 (λ_ _=>⟨A,A,A,A,A,A,A⟩) (λc H=>?_) (λc H=>?_) (λ_=>rfl) A λc r i=>by simp[i]
 .obtain⟨a0,N⟩:=a4 q L Z;exact⟨a0,λi=>N (Xs (Xs i)),λi=>N (Xr i)⟩
 .have i:=S _ (R c H);refine⟨?_,?_,?_,?_⟩
  .have a8:∀b2∈AL,b2.length<2^30:=by decide
   exact a8 _ i.path
  .have:=i.data;omega
  .have:=i.flags;omega
  have:=i.flags;omega
 have:=(S _ (R c H)).kind;omega
theorem We{d v r p q:E}{a3:Xq Out}{s:fB}{c:Xq dA}{B:Xz XG}(T:oA b d r p y q a3 s a)(S:xq h b a)(Z:1<=p/\p<=8)(X:q<2^16)(o:po c B a)(a7:c.length<=40)(u:∀H∈c,qk H)(Y:∀n a2,B=C ⟨n,a2,F⟩->b<=n/\¬jf d r y.tree s n)
 (D:∀g w L,cK h b d r p y q s B c a g.ov L g->Q .normal (gI 108 [(7,pt d 0),(8,pt v 0),(9,.slice B c.length e),(10,g.ov)] w) L):
 CW (goalAt TP F F z al h) (Go.Conc.base 5) ⟨[],[]⟩ l (iR [1,1,1,1,1,0] lp) Q (gI 108 [(7,pt d 0),(8,pt v 0),(9,.slice B c.length e)] k) a:=by
 show CW _ _ _ _ (.region _ _ _) _ _ _;dsimp only[gI,sl,lk,Nat.reduceBEq,cond];have R:=Xv D;clear D;refine ej (R:=4) A (ct (by decide) (ks:=[]) A 0 2 (more:=[2,3]) (l:=[_,_]) A (by rfl) λb1 i _ _=>?_);have O:=Xv (And.intro o u)
 go_wp2
 obtain⟨o,u⟩:=O.out;refine Sim.kp i ?_;refine iA (a:=#[pt d 0,.slice B c.length e]) (l:=2) (more:=[3]) (by decide) A rfl rfl rfl Tryz.func18 (by decide) A (by decide) (by kernel_rfl) (DT (f:=0) (T.eq i) (S.eq i) Z X (o.fA (own:=λ_=>False) (kH i) λ_ _ _ t=>t) (λa8 H t=>by simpa using t) A (by omega) u Y ?_) λb0 b2 W=>?_
 .rcases o with⟨rfl,_⟩|⟨n,a4,a9,a6,rfl,_⟩
  .rfl
  simp
 obtain⟨g,P⟩:=W;obtain rfl:=P.val;replace P:=P.eq i.symm A;refine ct (by decide) (ks:=[]) A 3 1 (more:=[]) (l:=[_]) A (by rfl) λN x _ _=>?_
 go_wp2
 refine Sim.kp x (df ?_);exact bK [(7,pt d 0),(8,pt v 0),(9,.slice B c.length e),(10,g.ov)] (P:=λU=>Q .normal U N) A rfl ⟨A,A,A,A,trivial⟩ λw=>R.out g w N (P.eq A x)
end
end
variable{r:K}{Y:E}{Z:Xq XC}{k:E}{b:E}{U:XA}{a2:Xn}{X:E}
section
variable[Inhabited aN]
noncomputable section
variable{m:E}{a6 a5:Xn}{a3:E}{a4:E->Xu Xn}{u:E->Xn}
variable{x:K}{f H N D d s o a0:E}{S a1:cz}{R p:Xq Out}{L t:fB}{a:Xq dA}{B:Xz XG}{W:Xq Out}{T:Xq (Xn×Xn)}{l q:Xn}
theorem bV.mem{a:Xn->Prop}{size:E}{f:Xq Xn}(b:bV a r U size a2 Y f):∀e∈f,a e:=λe d=>by
 rcases b.2 with⟨_,rfl⟩|⟨X,a3,g,_,_,_,_,_,i,h⟩
 .have c:=b.1;rw[abB]at c;rw[Za.1 c]at d;cases d
 grind
theorem NV(e:∀(b:E) c u,W[b]?=C c->T[b]?=C u->eU c u r):∀u∈bT W T,u.oneCell'=J:=λu a=>by
 obtain⟨U,d,a⟩:=aab.1 a
 grind [List.mem_iff_getElem?,List.getElem?_zip_eq_some,DD]
theorem UO{D:fB}{x:E}{w:dA}(a5:oA m d s o y x W D r)(a4:xq h m r)(b1:1<=o/\o<=8)(a8:x<2^16)(p:po a B r)(a7:a.length<=40)(a9:a.length<=k)(n:a[b]?=C w)(L:qk w)(t:∀c v,B=C ⟨c,v,F⟩->m<=c/\¬jf d s y.tree D c)
 (T:∀O e N a0,(∀g v,O=C ⟨g,v,F⟩->∃b3,B=C ⟨g,b3,F⟩)->cK h m d s o y x D O [w] r e.ov a0 e->Q .normal (gI 108 [(7,pt f 0),(8,pt d 0),(9,.slice B a.length k),(10,l),(11,q),(12,Xo M b),(13,e.ov)] N) a0):
 CW (goalAt TP F F z al h) (Go.Conc.base 5) ⟨[],[]⟩ Z (iR [1,1,1,1,1,1,1,0,1,0,0,1,0,0,0] lp) Q (gI 108 [(7,pt f 0),(8,pt d 0),(9,.slice B a.length k),(10,l),(11,q),(12,Xo M b)] u) r:=by
 show CW _ _ _ _ (.region _ _ _) _ _ _;dsimp only[gI,sl,lk,Nat.reduceBEq,cond];have b0:=(YM.1 n).1;have R:=Xv T;clear T;have a3:=Xv (And.intro p (And.intro L (And.intro t n)));obtain⟨c,rfl⟩:∃c,B=C ⟨c,0,F⟩:=by
  rcases p with⟨_,rfl⟩|⟨c,b5,c0,b7,rfl,_⟩
  .cases n
  simp
 clear p L t n;generalize b8:a.length=Y at a7 a9 b0 R⊢
 refine ej (R:=8) A (ct (by decide) (ks:=[]) A 0 6 (more:=[6,7]) (l:=[_,_,_,_,_,_]) A (by rfl) λc6 i _ _=>?_)
 go_wp2
 obtain⟨p,L,t,n⟩:=a3.out;refine Sim.kp i ?_;refine iA (a:=#[pt d 0,Xw (C ⟨c,b*8,F⟩) 1 (k-b)]) (l:=6) (more:=[7]) (by decide) A rfl rfl rfl Tryz.func18 (by decide) A (by decide) (by kernel_rfl) (DT (n:=[w]) (f:=b) (a5.eq i) (a4.eq i) b1 a8 (p.fA (own:=λ_=>False) (kH i) λ_ _ _ H=>H) (λb9 b4 H=>?_) A (by decide) (λb4 H=>by simp_all) t A) λa2 c7 a6=>?_
 .grind
 obtain⟨e,P⟩:=a6;obtain rfl:=P.val;replace P:=P.eq i.symm A;refine ct (by decide) (ks:=[]) A 7 1 (more:=[]) (l:=[_]) A (by rfl) λa1 S _ _=>?_
 go_wp2
 refine Sim.kp S (df ?_);exact bK [(7,pt f 0),(8,pt d 0),(9,Xw (C ⟨c,0,F⟩) Y k),(10,l),(11,q),(12,Xo M b),(13,e.ov)] (P:=λg=>Q .normal g a1) A rfl ⟨A,A,A,A,A,A,A,trivial⟩ λN=>R.out _ e N a1 (λg v U=>⟨0,by cases U;rfl⟩) (P.eq A S)
theorem UP{a2:E}(O:BJ h m x f H N S D R L d s o a1 a0 p t a B W T q r)(b9:∀n,h n->n<m)(hd:t.ov=Xw (C ⟨X,0,F⟩) p.length a2)(b7:W.length+p.length<2^30)
 (a6:∀g w y,BJ h m x f H N S D R L d s o a1 a0 p t a B (W++p) (T++t.vs) g y->Q .normal (gI 108 [(7,pt f 0),(8,pt d 0),(9,.slice B a.length k),(10,l),(11,g),(12,Xo M b)] w) y):
 CW (goalAt TP F F z al h) (Go.Conc.base 5) ⟨[],[]⟩ Z (iR [1,1,1,1,1,1,1,0,1,0,0,1,0,0,1] lp) Q (gI 108 [(7,pt f 0),(8,pt d 0),(9,.slice B a.length k),(10,l),(11,q),(12,Xo M b),(13,Xw (C ⟨X,0,F⟩) p.length a2)] u) r:=by
 show CW _ _ _ _ (.region _ _ _) _ _ _;dsimp only[gI,sl,lk,Nat.reduceBEq,cond];have b1:=Xv a6;clear a6;have b2:=Xv O;clear O;refine ej (R:=4) A (ct (by decide) (ks:=[]) A 0 2 (more:=[2,3]) (l:=[_,_]) A (by rfl) λd1 a3 _ _=>?_)
 go_wp2
 refine Sim.kp a3 ?_;refine ct (by decide) (ks:=[]) A 2 1 (more:=[3]) (l:=[_]) A (by rfl) λc7 a4 _ _=>?_;have i:=b2.out.eq (w':=c7) (a4.trans a3);have v:=i.two.y.fu;have a7:=v.row;obtain⟨c9,d3,c0,b6,c6⟩:=Ry;refine ja A (.tmp 47) (.tmp 48) 43 A rfl i.q.row c0 b6 c6 (r:=⟨X,0,F⟩) (s:=p.length) A (bT p t.vs) (lZ v.outs.1) (λj e c=>?_) (λe c=>⟨NV v.outs.2 e c,a7.mem e c⟩) b7 ?_
 .rw[nL];exact a7.cell (by rw[hd];rfl) j e c
 intro g d2 b4 b5 b8;have U:=i.app b9 b4 b5 b8;refine show sq _ _ _/\_ from⟨λe c=>(U.ro e c).trans ((i.ro e c).symm.trans (by rw[a4])),(show CO _ _ _ _ _ [3] _ (Act.put _ (C 49) g) _ from ?_)⟩;have b3:=Xv U;refine ct (by decide) (ks:=[]) A 3 1 (more:=[]) (l:=[_]) A (by rfl) λb0 a5 _ _=>?_
 go_wp2
 refine Sim.kp a5 (df ?_);exact bK [(7,pt f 0),(8,pt d 0),(9,.slice B a.length k),(10,l),(11,g),(12,Xo M b)] (P:=λn=>Q .normal n b0) A rfl ⟨A,A,A,A,A,A,trivial⟩ λw=>b1.out g w b0 (b3.out.eq a5)
def Pg(h:E->Prop)(m:E)(x:K)(f H N:E)(S:cz)(D:E)(R:Xq Out)(L:fB)(d s o:E)(a:Xq dA)(B:Xz XG)(k:E)(l:Xn)(c:XF)(r:K):Prop:=
 ∃(b:E)(u:E->Xn)(p:Xq Out)(t:fB)(T:Xq (Xn×Xn))(q:Xn),b<=a.length/\c=gI 108 [(7,pt f 0),(8,pt d 0),(9,.slice B a.length k),(10,l),(11,q),(12,Xo M b)] u/\BJ h m x f H N S D R L d s o (cw Wt.sB (a.take b)).1 (7+b) p t a B (cw Wt.sB (a.take b)).2 T q r/\(cw Wt.sB (a.take b)).2.length<=33*b
theorem KX(w:xq h m x)(c6:4<m)(d0:1<=o/\o<=8)(c7:a.length<=40)(c8:a.length<=k)(Y:∀e∈a,qk e)(c:BJ h m x f H N S D R L d s o Wt.sB 7 p t a B [] [] (Xw F 0 0) r)
 (a6:∀p t T q n b7,BJ h m x f H N S D R L d s o (cw Wt.sB a).1 (7+a.length) p t a B (cw Wt.sB a).2 T q b7->(cw Wt.sB a).2.length<=33*a.length->Q .normal (gI 108 [(7,pt f 0),(8,pt d 0),(9,.slice B a.length k),(10,l),(11,q)] n) b7):
 CW (goalAt TP F F z al h) (Go.Conc.base 5) ⟨[],[]⟩ Z (iR [1,1,1,1,1,1,1,0] lp) Q (gI 108 [(7,pt f 0),(8,pt d 0),(9,.slice B a.length k),(10,l),(11,Xw F 0 0)] u) r:=by
 show CW _ _ _ _ (.seq (.region _ _ _) (.block _ (.loop _))) _ _ _;dsimp only[gI,sl,lk,Nat.reduceBEq,cond];have b9:=Xv a6;have v:=Xv c;have c0:=Xv (And.intro w Y);clear a6 c w Y;refine aZ (cl (by decide) (ks:=[]) A (by rfl) λd5 W _ _=>?_)
 go_wp2
 refine BL W ?_;refine lg (zW (w:=Pg h m x f H N S D R L d s o a B k l) (O:=λg _=>a.length-Al 12 g) ?_ ?_)
 .exact bK [(7,pt f 0),(8,pt d 0),(9,.slice B a.length k),(10,l),(11,Xw F 0 0),(12,Xo M (0:E))] (P:=λg=>Pg h m x f H N S D R L d s o a B k l g d5) A rfl ⟨A,A,A,A,A,A,trivial⟩ λn=>⟨0,n,p,t,[],_,YH _,A,v.out.eq W,YH _⟩
 rintro _ f0⟨b,u,p,t,T,q,e2,rfl,c,y⟩;dsimp only[gI,sl,lk,Nat.reduceBEq,cond];have v:=Xv (And.intro c y);refine aZ (aZ (cl (by decide) (ks:=[]) A (by rfl) λb8 i _ _=>?_));rcases Q' b a.length with a8|a8
 .have c1:decide ((b:Xt)<a.length)=J:=by simp;omega
  go_wp2
  refine BL i ?_;clear c1;refine ei (g:=J) (by decide) A (ig (show CW _ _ _ _ _ _ _ _ from ?_));obtain⟨c,y⟩:=v.out;obtain⟨w,Y⟩:=c0.out;replace c:=c.eq i;clear i v;obtain⟨e,b0⟩:∃e,a[b]?=C e:=by simp_all
  have b1:=Y e (Yn b0);refine bK [(7,pt f 0),(8,pt d 0),(9,.slice B a.length k),(10,l),(11,q),(12,Xo M b)] (P:=λg=>CW _ _ _ _ _ _ g _) A rfl ⟨A,A,A,A,A,A,trivial⟩ λe5=>?_;refine aZ (lg (aZ (UO c.two.y (w.keep c.ro) d0 (by omega) c.rs c7 c8 b0 b1 (λa3 b4 U=>⟨(c.oE a3 b4 U).1,(c.oE a3 b4 U).2.2⟩) λd7 e1 e6 e8 a5 P=>(show CW _ _ _ _ _ _ _ _ from ?_))));have O:=c.handle c6 P a5;have e3:=b1.kind;have d2:=c.two.y.ok.step 0 (r:=e) (by omega) (by omega) (by omega);have b2:=zn (cw Wt.sB (a.take b)).1 0 e;have d3:a.take (b+1)=a.take b++[e]:=by simp_all [j_]
  have a0:=rJ (a.take b) Wt.sB e;rw[<-d3]at a0;rw[xK]at O;generalize Wt.step (cw Wt.sB (a.take b)).1 0 e=b5 at O d2 b2 a0;have d1:=O.two.y.fu.row.form;obtain⟨d8,e0,a9,a7⟩:=d1;obtain⟨X,rfl,_⟩:=a7 0 b2;rw[a9];clear P a5 c a7;refine UP O w.lt a9 (by omega) λb6 e7 e9 a2=>?_;show CW _ _ _ _ (.region _ _ _) _ _ _;have W:(cw Wt.sB (a.take (b+1))).1=b5.1:=by rw[a0]
  have i:(cw Wt.sB (a.take (b+1))).2=(cw Wt.sB (a.take b)).2++b5.2:=by rw[a0]
  rw[<-W,<-i]at a2;have c9:(cw Wt.sB (a.take (b+1))).2.length<=33*(b+1):=by grind
  have a1:=Xv (And.intro a2 c9);dsimp only[gI,sl,lk,Nat.reduceBEq,cond];refine cl (by decide) (ks:=[]) A (by rfl) λd6 a4 _ _=>?_
  go_wp2
  refine Sim.kp a4 ?_;refine show Pg _ _ _ _ _ _ _ _ _ _ _ _ _ _ _ _ _ _ _/\_ from⟨?_,?_⟩
  .refine bK [(7,pt f 0),(8,pt d 0),(9,.slice B a.length k),(10,l),(11,b6),(12,Xo M ((b+1:E):Xt))] (P:=λg=>Pg h m x f H N S D R L d s o a B k l g d6) A rfl ⟨A,A,A,A,A,A,trivial⟩ λn=>⟨b+1,n,_,_,_,b6,a8,A,a1.out.1.eq a4,a1.out.2⟩
  show a.length-((b:Xt)+1).toNat<a.length-b;omega
 obtain rfl:b=a.length:=by omega
 go_wp2
 refine BL i ?_;refine ei (g:=Xp) (by decide) A (uB ?_);obtain⟨c,y⟩:=v.out;rw[F_]at c y;exact bK [(7,pt f 0),(8,pt d 0),(9,.slice B a.length k),(10,l),(11,q)] (P:=λg=>Q .normal g b8) A rfl ⟨A,A,A,A,A,trivial⟩ λn=>b9.out _ _ _ _ n b8 (c.eq i) y
end
end
end Go.Sv
namespace Wt
variable{b:Tree}{a:Path}{c:Path×Nd}{d:Nd}
def under(b:Tree)(a:Path):Tree:=b.filter λc=>a.isPrefixOf c.1
theorem jv:c∈under b a↔c∈b/\a<+:c.1:=by unfold under;rw[u_,Xq.isPrefixOf_iff_prefix]
theorem pY(b:Tree):under b []=b:=by unfold under;rw[aan];intro c _;simp[Xq.isPrefixOf]
theorem yY(c:Ord b)(a:Path):Ord (under b a):=abh _ c
theorem SW{b:Path}(e:a<+:b)(c:b≠a):a<b:=by
 obtain⟨d,rfl⟩:=e;cases d with
 |nil=>exact absurd (Zf a) c
 |cons g d=>
  clear c
  induction a with
  |nil=>exact Xq.nil_lt_cons _ _
  |cons h a f=>rw[Yz,w_];exact Xs ⟨A,f⟩
theorem SN{d e:B}{b c:Path}(f:d<e)(g:(a++[d])<+:b)(h:(a++[e])<+:c):b<c:=by
 obtain⟨k,rfl⟩:=g;obtain⟨l,rfl⟩:=h
 induction a with
 |nil=>simp only[Zw,Yz];rw[w_];exact Xr f
 |cons m a i=>simp only[Yz];rw[w_];exact Xs ⟨A,i⟩
theorem WF.Wx(h:WF b):∀(g:E)(d:Xq B)(a:Path),d.length=g->(find b (a++d)).isSome=J->(find b a).isSome=J
 |0,d,a,f,e=>by
  rw[Za.1 f,Zf]at e;exact e
 |g+1,d,a,f,e=>by
  have k:d≠[]:=λc=>by rw[c]at f;cases f
  have i:=h.up (a++d) (by simp[k]) e;rw[Xq.dropLast_append_of_ne_nil k]at i;exact WF.Wx h g d.dropLast a (by rw[aad];omega) i
theorem EE(i:WF b)(m:find b a=C d):under b a=(a,d)::(bP b a).flatMap λg=>under b (a++[g]):=by
 refine Ir (yY i.ord a) (iG.2 ⟨λz k=>?_,?_⟩) λc=>?_
 .obtain⟨g,_,k⟩:=aab.1 k;obtain⟨_,f,e⟩:=jv.1 k;refine SW ⟨g::f,?_⟩ ?_
  .rw[<-e];simp
  intro c;have:=Zc List.length e;rw[c]at this;simp at this
 .have n:=im (a:=a) i.ord;generalize bP b a=o at n
  induction o with
  |nil=>exact AF
  |cons g o t=>obtain⟨h,p⟩:=YU.1 n;rw[ZF];refine aak.2 ⟨yY i.ord _,t p,λw q x l=>?_⟩;obtain⟨v,s,l⟩:=aab.1 l;exact SN (h v s) (jv.1 q).2 (jv.1 l).2
 rw[jv,Yg,aab];constructor
 .rintro⟨h,f,e⟩;obtain⟨u,y⟩:=c;simp only at e;cases f with
  |nil=>left;rw[Zf]at e;subst e;have:=ls i.ord h;rw[m]at this;cases this;rfl
  |cons g f=>
   right
   have r:(find b (a++[g]++f)).isSome=J:=by
    have c:a++[g]++f=u:=by rw[<-e];simp
    rw[c,ls i.ord h];rfl
   exact⟨g,ey.2 (i.Wx _ f _ A r),jv.2 ⟨h,f,by rw[<-e];simp⟩⟩
 rintro(rfl|⟨g,_,k⟩)
 .exact⟨jG m,Xq.prefix_refl _⟩
 obtain⟨h,f,e⟩:=jv.1 k;exact⟨h,g::f,by rw[<-e];simp⟩
theorem WF.head(a:WF b):∃d e,b=([],d)::e:=by obtain⟨d,c,_⟩:=a.root;have:=EE a c;rw[pY]at this;exact⟨d,_,this⟩
end Wt
namespace Go.Sv
open Go.MapKept Go.Proofs Go.RowKit Go.Lib Go.WideShapes Go.Sort Go.Sim Wt
variable{a:K}{d:K}{b:Tree}{g:Xn}{s:E}{e:E}{f:E}
attribute [local go_sem] Oper.semAt_some
def Rr(a:Path×Nd):Xn:=.agg #[.string (bs (Wt.join a.1)),.string (bs a.2.data),Xo M a.2.stat.made,Xo M a.2.stat.set,Xo M a.2.stat.aE,Xo M a.2.stat.eD,Xo M a.2.stat.own,Xo M a.2.stat.size,Xo M a.2.stat.kids]
structure gJ(m:E)(a d:K):Prop where
 size:a.heap.size<=d.heap.size
 cell:∀(c:E)(e:Xu Xn)(b:XA)(k:E×E),b=192\/b=9->a.heap[c]?=C (Xx e b k)->d.heap[c]?=C (Xx e b k)
 map:∀(c:E)(i:Xu XS)(h:E),c<m->a.heap[c]?=C (.map i h)->d.heap[c]?=C (.map i h)
theorem gJ.trans{l:E}{m n e:K}(i:gJ l m n)(h:gJ l n e):gJ l m e:=
 ⟨Yi i.size h.size,λc o b r u k=>h.cell c o b r u (i.cell c o b r u k),λc q p t k=>h.map c q p t (i.map c q p t k)⟩
theorem gJ.of{h:E}(g:Below a.heap.size a d):gJ h a d:=
 ⟨g.size,λf e b l _ c=>by rw[g.block f (XZ.1 c).1];exact c,λf k i _ c=>by rw[g.block f (XZ.1 c).1];exact c⟩
theorem bn.Rn{l:E}{k g:Path->E}(e:bn b k g a)(q:∀c,(Wt.find b c).isSome=J->g c<l)(i:gJ l a d):bn b k g d where
 nd:=λc h f=>i.cell _ _ _ _ (Xr A) (e.nd c h f)
 kd:=λc h f=>by obtain⟨n,m,o,p⟩:=e.kd c h f;exact⟨n,m,i.map _ _ _ (q c (by rw[f];rfl)) o,p⟩
 inj:=e.inj
 xS:=e.xS
theorem zB.len{b:Xq B}{f:E}(d:zB g b f a):∃c e,g=.slice c b.length e:=by rcases d with⟨rfl,rfl⟩|⟨h,i,_,rfl,_⟩<;>exact⟨_,_,A⟩
theorem zB.at{q:E}{i:Xq B}{p:E}{g:Xz XG}(k:zB (.slice g s e) i p a)(n:gJ q a d){c:B}(h:i[f]?=C c):∃b,g=C ⟨b,0,F⟩/\d.cell? ⟨b,f,F⟩=C (.string (bs c)):=by
 rcases k with⟨_,rfl⟩|⟨b,r,t,o,_,_,l,_,_,m⟩
 .simp at h
 cases o;exact⟨b,A,aa (n.cell _ _ _ _ (Xs A) l) f (m f c h)⟩
theorem MJ{N:E}{b:Tree}{t L:Path->E}{D a1:E}{w U:Tree->K->Prop}(k:WF b)(b0:∀c,(Wt.find b c).isSome=J->L c<N)
 (W:∀n a d,w n a->Below a.heap.size a d->w n d)
 (a6:∀n b6 a,w n a->n.length<a1->YieldAt Fence.wide 0 TP D #[Rr b6] a λq d=>(q=XB (.bool J)/\w (n++[b6]) d/\gJ N a d)\/(q=XB (.bool Xp)/\U (n++[b6]) d)):
 ∀(b5:E)(c:Path)(h:Nd),Wt.find b c=C h->5<=b5+c.length->∀(n:Tree)(a:K),bn b t L a->w n a->n.length+(under b c).length<=a1->
  Calls TP 114 #[pt (t c) 0,.func (.yield D) #[] #[]] a λq d=>(q=XB (.bool J)/\w (n++under b c) d/\gJ N a d)\/(q=XB (.bool Xp)/\∃m,m<+:under b c/\U (n++m) d)
 |0,c,h,u,g5,n,a,H,a7,X=>by have:=(k.names c h u).1;omega
 |b5+1,c,h,u,g5,n,a,H,a7,X=>by
  have d7:(Wt.find b c).isSome=J:=by rw[u];rfl
  have j4:=k.names c h u;have d9:=EE k u;have x:=H.nd c h u
  have d8:∀v,Below a.heap.size a v->Calls TP 156 #[pt (t c) 0] v λq y=>q=XB (.string (bs (Wt.join c)))/\Below a.heap.size a y:=λv z=>(sQ (H.old z.block) k.up d7 (eF k u).1 (eF k u).2).mono λq y o=>⟨o.1,z.trans (o.2.mono z.size)⟩
  have e0:a.cell? ⟨t c,1,F⟩=C (.string (bs h.data)):=aa x 1 A;have e1:a.cell? ⟨t c,2,F⟩=C (Xo M h.stat.made):=aa x 2 A;have e2:a.cell? ⟨t c,3,F⟩=C (Xo M h.stat.set):=aa x 3 A;have e3:a.cell? ⟨t c,4,F⟩=C (Xo M h.stat.aE):=aa x 4 A;have b3:a.cell? ⟨t c,5,F⟩=C (Xo M h.stat.eD):=aa x 5 A;have e4:a.cell? ⟨t c,6,F⟩=C (Xo M h.stat.own):=aa x 6 A;have e5:a.cell? ⟨t c,7,F⟩=C (Xo M h.stat.size):=aa x 7 A;have e6:a.cell? ⟨t c,8,F⟩=C (Xo M h.stat.kids):=aa x 8 A;have Y:=Xv d8
  have c8:∀v,Below a.heap.size a v->YieldAt Fence.wide 0 TP D #[Rr (c,h)] v λq d=>∃r:Xy,q=XB (.bool r)/\Hid ((r=J/\w (n++[(c,h)]) d/\gJ N a d)\/(r=Xp/\U (n++[(c,h)]) d)):=λv z=>
   YieldAt.mono (a6 n (c,h) v (W _ _ _ a7 z) (by grind)) λq y o=>o.elim
    (λ⟨a4,a5,f9⟩=>⟨J,a4,Xv (Xr ⟨A,a5,(gJ.of z).trans f9⟩)⟩) λ⟨a4,a5⟩=>⟨Xp,a4,Xv (Xs ⟨A,a5⟩)⟩
  have b4:=(H.lt d7).1;have e8:=Xv W;have f5:=Xv (MJ (t:=t) (L:=L) k b0 W a6 b5);have S:=Xv u;have b9:=Xv H;have Z:=Xv d9;obtain⟨l,R⟩:∃l,t c=l:=by simp
  rw[R]at Y e0 e1 e2 e3 b3 e4 e5 e6 b4⊢
  have c0:=Xv R
  have c6:∀k,Below a.heap.size a k->k.cell? ⟨l,1,F⟩=C (.string (bs h.data))/\k.cell? ⟨l,2,F⟩=C (Xo M h.stat.made)/\k.cell? ⟨l,3,F⟩=C (Xo M h.stat.set)/\k.cell? ⟨l,4,F⟩=C (Xo M h.stat.aE)/\k.cell? ⟨l,5,F⟩=C (Xo M h.stat.eD)/\k.cell? ⟨l,6,F⟩=C (Xo M h.stat.own)/\k.cell? ⟨l,7,F⟩=C (Xo M h.stat.size)/\k.cell? ⟨l,8,F⟩=C (Xo M h.stat.kids):=λk g0=>by refine⟨?_,?_,?_,?_,?_,?_,?_,?_⟩<;>(rw[g0.cell (p:=⟨l,_,F⟩) b4];assumption)
  clear d8 x u W a6 a7 d9 H R;have c9:Below a.heap.size a a.drew:=⟨A,A,A,Ye _,λ_ _=>rfl⟩;refine ZD (n:=0).1 (callsIn_of_wp Tryz.func114 A trivial ?_ A);simp only[Tryz.ntmps114,YF,Yv,Zp,E.reduceAdd,E.reduceSub,Zu,Zv,ZE,Zy,Zw,Yz]
  gi_wp2
  refine wpIn_mono (Q:=λ|.normal,f8,d=>∃r:Xy,f8=⟨#[pt l 0,.func (.yield D) #[] #[],I,I,.bool Xp,I,I,.func (.yield D) #[] #[],pt l 0,.string (bs (Wt.join c)),pt l 0,pt l 0,pt l 0,pt l 1,.string (bs h.data),pt l 0,pt l 0,pt l 0,pt l 2,.agg #[Xo M h.stat.made,Xo M h.stat.set,Xo M h.stat.aE,Xo M h.stat.eD,Xo M h.stat.own,Xo M h.stat.size,Xo M h.stat.kids],Rr (c,h),.bool r,.bool !r,I,I,I,I,I,I,I,I,I,I,I,I,I,I,I,I,I,I,I,I,I],[]⟩/\Hid ((r=J/\w (n++[(c,h)]) d/\gJ N a d)\/(r=Xp/\U (n++[(c,h)]) d))|_,_,_=>False) ?region ?rest
  case region=>
   gi_region_with (first
    |(refine⟨trivial,rfl,?_⟩;gi_at_call 156;refine(ZD.2 (Y.out _ c9)).mono ?_;rintro q v⟨rfl,d0⟩;have f7:=c6 _ d0;obtain⟨j8,j9,k0,k1,k2,k3,k4,k5⟩:=f7;obtain⟨fn,k7,i2,i4,R,d1⟩:=c8 v d0;dsimp only[Rr]at R)
    |(refine⟨rfl,?_⟩;refine d1.mono ?_;clear d1;rintro q y⟨r,rfl,O⟩))
   all_goals exact⟨r,A,O⟩
  clear Y c6 c8 c9 e0 e1 e2 e3 b3 e4 e5 e6 b4;rintro(_|_|_|_|_|_) _ y o
  all_goals first|exact o.elim|skip
  obtain⟨r,rfl,O⟩:=o;cases r with
  |false=>
   gi_wp2
   go_ret;rcases O.out with⟨o,_⟩|⟨_,o⟩
   .cases o
   exact Xs ⟨A,[(c,h)],by rw[Z.out];simp,o⟩
  |true=>
   obtain⟨d2,a8⟩:=O.out.elim (λo=>o.2) λo=>by cases o.1
   clear O;have e7:=Xv d2;have e9:=Xv a8;have a3:=b9.out.Rn b0 a8;have b2:=a3.nd c h S.out;rw[c0.out]at b2;have j7:y.cell? ⟨l,11,F⟩=C (.map (C (L c))):=aa b2 11 A;obtain⟨i8,i6,d5,a0⟩:=a3.kd c h S.out;have Q:=Ea (c:=y) d5 a0 (by rw[sL a0 k];have:=lj b c;have:=k.len;omega) (λi r z=>GX k (d:=c++[i]) (by simp_all [cd]) i (by simp)) (b:=bP b c) (λi=>by simp[ey,cd]) (im k.ord);have b8:=Xv Q;clear Q d2 a8 b2 d5 a0 a3;obtain⟨p,b1⟩:∃D,bP b c=D:=by simp
   rw[b1]at b8;have T:=Xv b1;have f1:=Xv X;clear b1 X
   gi_wp2_with (first
    |((try refine⟨trivial,?_⟩);(try refine⟨rfl,?_⟩);gi_at_call 98;refine(ZD.2 (Nl _)).mono ?_;rintro q k8⟨rfl,h6⟩;subst h6)
    |((try refine⟨trivial,?_⟩);(try refine⟨rfl,?_⟩);gi_at_call 97;refine(ZD.2 b8.out).mono ?_;rintro q h9⟨g,rfl,d6,g2⟩;obtain⟨i0,i5,rfl⟩:=d6.len))
   have g1:=(bU y _).trans (g2.mono (c_ _));have b7:=Xv g1;have f2:=Xv d6;have j3:p.length<=60:=by rw[<-T.out];exact Yi (lj b c) k.len
   gi_loopw [30] (λf wr=>∃m:E,m<=p.length/\f=Xo M m/\w (n++(c,h)::((p.take m).flatMap λi=>under b (c++[i]))) wr/\gJ N h9 wr) (λf _=>p.length-(Lib.intOf f).toNat)
   case atStart=>exact⟨0,YH _,A,by simpa using e8.out _ _ _ e7.out b7.out,⟨Ye _,λ_ _ _ _ _ o=>o,λ_ _ _ _ o=>o⟩⟩
   case round=>
    obtain⟨m,j5,rfl,g4,a9⟩:=hrel;have d4:=e9.out.trans ((gJ.of b7.out).trans a9);by_cases g9:m<p.length
    .obtain⟨i,Q⟩:∃i,p[m]?=C i:=by simp_all
     obtain⟨r,rfl,j0⟩:=f2.out.at a9 Q;have a2:=b9.out.Rn b0 d4;have d3:(Wt.find b (c++[i])).isSome=J:=ey.1 (by rw[T.out];grind);have c2:wr.cell? ⟨l,11,F⟩=C (.map (C (L c))):=by rw[<-c0.out];exact aa (a2.nd c h S.out) 11 A
     obtain⟨i9,i7,h0,f6⟩:=a2.kd c h S.out;have g7:=pV h0 f6 i;rw[cd,XN d3]at g7;obtain⟨h7,h1⟩:=Yd.1 d3;have h5:p.take (m+1)=p.take m++[i]:=by grind [List.take_add_one]
     obtain⟨c7,h4⟩:∃c7,under b c=(c,h)::(((p.take m).flatMap λi=>under b (c++[i]))++(under b (c++[i])++c7)):=by
      have hd:p.drop m=i::p.drop (m+1):=by rw[H_ g9,(YM.1 Q).2]
      have j1:p=p.take m++i::p.drop (m+1):=by rw[<-hd,abe]
      refine⟨(p.drop (m+1)).flatMap λi=>under b (c++[i]),?_⟩;rw[Z.out,T.out]
      grind
     have g8:(n++(c,h)::((p.take m).flatMap λi=>under b (c++[i]))).length+(under b (c++[i])).length<=a1:=by have X:=f1.out;grind
     have f3:=Xv h4;have g3:=f5.out (c++[i]) h7 h1 (by simp;omega) _ wr a2 g4 g8;have HC:=Xv g3;have f4:=Xv h5;have f0:=Xv a9
     gi_wp2_with (first
      |((try refine⟨trivial,?_⟩);(try refine⟨rfl,?_⟩);gi_at_call 114;refine(ZD.2 HC.out).mono ?_;rintro q k9(⟨rfl,j2,g6⟩|⟨rfl,h8,h2,b3⟩)))
     .refine⟨⟨m+1,by omega,A,?_,f0.out.trans g6⟩,by simp only[Lib.intOf];omega⟩;rw[f4.out,Xq.flatMap_append,ZF,Xq.flatMap_nil,Zf];simp_all
     go_ret;obtain⟨k6,h3⟩:=h2;exact Xs ⟨A,(c,h)::(((p.take m).flatMap λi=>under b (c++[i]))++h8),by rw[f3.out,<-h3];simp,by simp_all⟩
    have j6:m=p.length:=by omega
    gi_wp2
    go_ret;exact Xr ⟨A,by rw[Z.out,T.out];simp_all,d4⟩
variable{c:Xn}{P:XI}{q:K}{d:Tree}{N:E}{u:E}{o:E}
theorem Ce{b:E}(d:a.cell? ⟨f,b,F⟩=C c):f<a.heap.size:=by grind [World.cell?]
theorem EM{l:E}{e:E}{b:Xu Xn}{a:Ending->K->Prop}(i:YieldAt Fence.wide s P e b q a):YieldAt Fence.wide l P e b q a:=by obtain⟨fn,m,d,f,k,c⟩:=i;exact⟨fn,m,d,f,k,c.1,λg h _=>c.2 g h (room_wide _)⟩
section
variable{k:E}{i h:Path->E}{e m:E}{g l:Tree->K->Prop}
theorem Ss(q:WF d)(L:∀w,(Wt.find d w).isSome=J->h w<k)
 (z:∀n a b,g n a->Below a.heap.size a b->g n b)
 (D:∀n t a,g n a->n.length<m->YieldAt Fence.wide 0 TP e #[Rr t] a λp b=>(p=XB (.bool J)/\g (n++[t]) b/\gJ k a b)\/(p=XB (.bool Xp)/\l (n++[t]) b))
 (x:bn d i h a)(Q:a.cell? ⟨N,0,F⟩=C (pt (i []) 0))(H:g [] a)(S:d.length<=m):
 Calls TP 66 #[pt N 0,.func (.yield e) #[] #[]] a λp b=>(∃c,p=XB c)/\(g d b\/∃r,r<+:d/\l r b):=by
 obtain⟨o,O,_⟩:=q.root;have v:=MJ (t:=i) (L:=h) q L z D 5 [] o O (by simp) [] a x H (by simp_all [pY]);rw[pY]at v;have HC:=Xv v;go_enter Tryz.func66,Tryz.ntmps66
 go_wp2_with (go_at_call 114;refine HC.out.mono ?_;rintro p T(⟨rfl,y,_⟩|⟨rfl,r,y,R⟩))
 .go_end0
  simp_all
 go_end0
 grind
theorem Sr{f:Ending->K->Prop}(l:Calls TP 66 #[pt N 0,.func (.yield e) #[] #[]] a λb d=>(∃c,b=XB c)/\f b d)(m:a.cell? ⟨u,2,F⟩=C (pt N 0))(k:∀b h d,f b d->f h d):
 Calls TP 42 #[pt u 0,.func (.yield e) #[] #[]] a λb d=>(∃c,b=XB c)/\f b d:=by
 have HC:=Xv l;have g:=Xv k;go_enter Tryz.func42,Tryz.ntmps42
 go_wp2_with (go_at_call 66;refine HC.out.mono ?_;rintro b n⟨⟨c,rfl⟩,i⟩)
 go_end0
 exact⟨⟨_,A⟩,g.out _ _ _ i⟩
theorem Sq{p:Ending->K->Prop}{r t:E}(z:Calls TP 42 #[pt u 0,.func (.yield e) #[] #[]] a λb n=>(∃c,b=XB c)/\p b n)(D:a.cell? ⟨r,0,F⟩=C (pt t 0))(H:a.cell? ⟨t,0,F⟩=C (pt u 0))(y:∀b w n,p b n->p w n):
 Calls TP 41 #[.func (.yield e) #[] #[],pt r 0] a λb n=>(∃c,b=XB c)/\p b n:=by
 have HC:=Xv z;have v:=Xv y;go_enter Tryz.func41,Tryz.ntmps41
 go_wp2_with (go_at_call 42;refine HC.out.mono ?_;rintro b L⟨⟨c,rfl⟩,x⟩)
 go_end0
 exact⟨⟨_,A⟩,v.out _ _ _ x⟩
theorem Qj(b:E)(a:K):Calls TP 32 #[pt b 0] a λc d=>c=XB (.func (.func 41) #[] #[pt a.heap.size 0])/\d=a.alloc (.cells #[pt b 0] 23):=by
 go_enter Tryz.func32,Tryz.ntmps32
 go_wp2
 go_ret;simp
theorem Dt{x D:E}(q:WF d)(W:∀t,(Wt.find d t).isSome=J->h t<k)(H:bn d i h a)(O:a.cell? ⟨N,0,F⟩=C (pt (i []) 0))(R:a.cell? ⟨u,2,F⟩=C (pt N 0))(X:a.cell? ⟨D,0,F⟩=C (pt u 0))(n:a.cell? ⟨x,0,F⟩=C (pt D 0)):
 SeqStopsK Fence.wide o TP 41 #[pt x 0] (λa2:Path×Nd=>#[Rr a2]) (gJ k) (λa3=>a3=d) (λv=>v<+:d) d.length a:=λe g l Z z S _ a5 Q=>by
 have cl:∀{f p:E}{c:Xn},a.cell? ⟨f,p,F⟩=C c->Z.cell? ⟨f,p,F⟩=C c:=λ{f p c} b=>by rw[z.cell (p:=⟨f,p,F⟩) (Ce b)];exact b
 refine ZD.2 ((Sq (p:=λ_ w=>g d w\/∃r,r<+:d/\l r w) (Sr (Ss (k:=k) (m:=d.length) q W ?_ ?_ (H.old z.block) (cl O) Q (Ye _)) (cl R) λ_ _ _ b=>b) (cl n) (cl X) λ_ _ _ b=>b).mono λy w b=>⟨b.1,b.2.elim (λb=>Xr ⟨d,A,b⟩) λ⟨r,L,f⟩=>Xs ⟨r,L,f⟩⟩)
 .exactλv a0 a1 T n=>S v a0 a1 F T ⟨n.os,n.tape,n.output,n.size,λY U _=>n.block Y U⟩ (λa6 y=>by cases y)
 grind [EM]
end
attribute [local go_sem] Oper.semAt_some
theorem SI:∃a b,TP.info? 51=C a/\a.zero=C b/\a.size=9/\a.bytes=88/\b.cells.size=9:=⟨_,_,A,A,A,A,A⟩
theorem Va:TP.underlying 48=C (.slice 51):=A
def NI(a:Path×Nd):Xq Xn:=[.string (bs (Wt.join a.1)),.string (bs a.2.data),Xo M a.2.stat.made,Xo M a.2.stat.set,Xo M a.2.stat.aE,Xo M a.2.stat.eD,Xo M a.2.stat.own,Xo M a.2.stat.size,Xo M a.2.stat.kids]
def Gj(b:Tree):Xq Xn:=b.flatMap NI
theorem NM(a:K)(c:Path×Nd):∀(j:E) b,(NI c)[j]?=C b->(a.alloc (.cells (NI c).toArray 51)).cell? ((⟨a.heap.size,0,F⟩:XG).add j)=C b:=λj b d=>by grind [aa,World.alloc_heap_new,Addr.add]
theorem NN(c:Path×Nd):∀b∈NI c,b.oneCell'=J:=λb a=>by simp only[NI,Yg,Yo,Ze]at a;rcases a with rfl|rfl|rfl|rfl|rfl|rfl|rfl|rfl|rfl<;>rfl
theorem Qi{d0 f2:Path->E}{v:E}{h:E}(c:WF b)(b0:bn b d0 f2 a)(b4:a.cell? ⟨N,0,F⟩=C (pt (d0 []) 0))(x:a.cell? ⟨u,2,F⟩=C (pt N 0))(e6:a.cell? ⟨v,0,F⟩=C (pt u 0))(e5:h<2^20):
 Calls TP 20 #[pt v 0,Xo M h] a λl d2=>∃i,l=XB i/\d2.ownsRow a.heap.size 51 9 i (b.take h).length (Gj (b.take h))/\Below a.heap.size a d2:=by
 refine ZD (n:=5).1 (callsIn_of_wp_marks Tryz.func20 A trivial ?_ A);simp only[Tryz.ntmps20,YF,Yv,Zp,E.reduceAdd,E.reduceSub,Zu,Zv,ZE,Zy,Zw,Yz];have a9:=Xv b0;clear b0;rcases Xt.lt_or_le (h:Xt) 1 with b8|b8
 all_goals gi_wp2_with (first|((try refine⟨trivial,?_⟩);gi_at_call 32;refine(ZD.2 (Qj v _)).mono ?_;rintro l a8⟨rfl,e9⟩;subst e9))
 focus (have b2:(h:Xt)=0:=by omega);(rw[<-b2]);(clear b2 b8)
 all_goals
  obtain⟨d,r⟩:∃d,a.heap.size=d:=by simp
  obtain⟨m,T⟩:∃m,((a.alloc (.cells #[Xo M h] 3)).alloc (.cells #[Xw F 0 0] 48)).alloc (.cells #[pt v 0] 23)=m:=by simp
  have i3:m.heap.size=d+3:=by rw[<-T,<-r];simp
  have R:Below d a m:=by rw[<-T,<-r];exact((bU a _).trans ((bU _ _).mono (by simp))).trans ((bU _ _).mono (by simp;omega))
  have d6:Boxed m d 3 (Xo M h):=by rw[<-T,<-r];exact((Boxed.new a _ _).alloc _).alloc _
  have d7:Boxed m (d+1) 48 (Xw F 0 0):=by have:=(Boxed.new (a.alloc (.cells #[Xo M h] 3)) 48 (Xw F 0 0)).alloc (.cells #[pt v 0] 23);simp_all
  have d8:m.cell? ⟨d+2,0,F⟩=C (pt v 0):=by have:=(Boxed.new ((a.alloc (.cells #[Xo M h] 3)).alloc (.cells #[Xw F 0 0] 48)) 23 (pt v 0)).cell;simp_all
  have cl:∀{O q:E}{i:Xn},a.cell? ⟨O,q,F⟩=C i->m.cell? ⟨O,q,F⟩=C i:=λ{O q i} D=>by rw[R.cell (p:=⟨O,q,F⟩) (by rw[<-r];exact Ce D)];exact D
  have e7:=Dt (k:=d) (o:=4) (x:=d+2) c (λf3 a5=>by rw[<-r];exact(a9.out.lt a5).2) (a9.out.old (λg n=>R.block g (by omega))) (cl b4) (cl x) (cl e6) d8;rw[T];simp only[r]
  refine wpIn_rangeFunc_ownH (n:=5) A (by omega) (gf:=41) (lb:=#[pt (d+2) 0]) A trivial (enters_of Tryz.func41 (by kernel_rfl) A) e7 (λD a1=>D.trans a1)
   (λc a7 q i9 e3 S H x=>⟨by simp,?k1,?k2⟩) (n_ _ _) (λ_=>rfl)
   (λf c=>((∃i,Boxed c (d+1) 48 i/\c.ownsRow d 51 9 i f.length (Gj f)/\f.length<=h)/\Boxed c d 3 (Xo M h))/\Below d m c)
   (λz f c=>((∃i,Boxed c (d+1) 48 i/\c.ownsRow d 51 9 i (f.length-1) (Gj f.dropLast)/\z=.exit 0/\f.length=h+1))/\Below d m c)
   ?hI ?hIx ?h0 (λe Z c=>∃k N,m.heap.size<=k/\c.heap[k]?=C (Xx (NI e).toArray 51 (0,0))/\Z=⟨#[pt v 0,Xo M h,I,pt d 0,Xw F 0 0,pt (d+1) 0,pt k 0,Xo M h,.bool N,pt v 0,.func (.func 41) #[] #[pt (d+2) 0],Rr e,I,I,I,I,I,I,I,I,I],[]⟩) ?hAx ?assign ?body ?done ?stop
  case k1=>
   intro g z b a0 _ n;by_cases l:g=a7
   .subst l;rw[S]at n;cases n;cases H
   simp_all [aaV]
  case k2=>grind [World.putObj_heap_other]
  case hI=>
   refine OwnFrom.and (OwnFrom.and (Own.from (holdsRow_own d (d+1) 48 51 9 (λf:Tree=>f.length) Gj λf _=>f.length<=h) _) (Own.from (boxed_own d 3 λ_=>Xo M h) _)) (ownFrom_below ?_ ?_)
   .omega
   omega
  case hIx=>simp_all [OwnFrom.and,Own.from,holdsRow_own,ownFrom_below]
  case h0=>exact⟨⟨⟨_,d7,aaB _ _ _ _,YH _⟩,d6⟩,n_ _ _⟩
  case hAx=>rintro e Z _ g1 g2 row⟨k,N,H,x,a2⟩ b6 a6;refine⟨k,N,H,(b6.block k (XZ.1 x).1 λl=>?_).trans x,a2⟩;obtain⟨_,q,S,d9⟩:=a6 k l.symm;rw[x]at S;cases S;cases d9
  case assign=>
   intro a7 f e c g0 e1 t;have i1:Rr e=.agg #[.string (bs (Wt.join e.1)),.string (bs e.2.data),Xo M e.2.stat.made,Xo M e.2.stat.set,Xo M e.2.stat.aE,Xo M e.2.stat.eD,Xo M e.2.stat.own,Xo M e.2.stat.size,Xo M e.2.stat.kids]:=A
   gi_wp2
   obtain⟨⟨⟨i,o,p,U⟩,y⟩,s⟩:=e1;have b7:=s.size;exact t _ _ ((KeepsOthers.alloc _ _).from _) (gJ.of (bU c _)) ⟨⟨⟨i,o.alloc _,p.alloc _,U⟩,y.alloc _⟩,s.trans ((bU c _).mono (by omega))⟩ ⟨c.heap.size,_,b7,YZ c _,A⟩
  case body=>
   rintro a7 f e Z c e3 a6⟨⟨⟨i,o,p,U⟩,y⟩,s⟩⟨k,N,j2,w,rfl⟩ e4;have c7:=o.cell;have i4:=o.frozen;have i5:=y.cell;obtain⟨W,Q,L⟩:∃W Q,i=.slice W f.length Q:=by
    rcases p.2 with⟨rfl,D⟩|⟨a1,Q,d4,rfl,_⟩
    .exact⟨F,0,by rw[D]⟩
    simp
   subst L;have g6:c.cell? ⟨k,0,F⟩=C (.string (bs (Wt.join e.1))):=aa w 0 A;have c1:c.cell? ⟨k,1,F⟩=C (.string (bs e.2.data)):=aa w 1 A;have c2:c.cell? ⟨k,2,F⟩=C (Xo M e.2.stat.made):=aa w 2 A;have c3:c.cell? ⟨k,3,F⟩=C (Xo M e.2.stat.set):=aa w 3 A;have c4:c.cell? ⟨k,4,F⟩=C (Xo M e.2.stat.aE):=aa w 4 A;have c5:c.cell? ⟨k,5,F⟩=C (Xo M e.2.stat.eD):=aa w 5 A;have g7:c.cell? ⟨k,6,F⟩=C (Xo M e.2.stat.own):=aa w 6 A;have g8:c.cell? ⟨k,7,F⟩=C (Xo M e.2.stat.size):=aa w 7 A;have g9:c.cell? ⟨k,8,F⟩=C (Xo M e.2.stat.kids):=aa w 8 A;by_cases e0:f.length=h
   .gi_wp2
    exact⟨KeepsOthers.refl _ |>.from _,⟨_,o,by simp_all,A,by simp[e0]⟩,s⟩
   have h8:((f.length:Xt)==h)=Xp:=by simp;omega
   have b7:=s.size;have e4:=e5;obtain⟨f0,f9,q1,f4,f5,f6,f7⟩:=SI
   gi_wp2_with (gi_at_builtin;refine wpListIn_append_own _ A _ _ 48 A d 51 f0 f9 9 88 Va q1 f4 f5 f6 f7 (by decide) _ _ _ A (p.alloc _) ⟨c.heap.size,0,F⟩ 1 1 (NI e) A rfl (NM c e) (NN e) (by grind [maxLen]) (by omega) (by simp;omega) ?_;intro j1 a8 b9 a4 _;obtain⟨b3,b1,rfl⟩:=ownsRow_succ b9;obtain⟨c6,e8,i2,e2,b5⟩:=o.appended (by decide) p (by omega) (by omega) b9 a4;have h7:=c6.cell;have h9:=c6.frozen)
   have f1:∀g,g<c.heap.size->g≠d+1->C g≠(Value.slice W f.length Q).ownBlock->(a8.setCell ⟨d+1,0,F⟩ (Xw (C ⟨b3,0,F⟩) (f.length+1) b1)).heap[g]?=c.heap[g]?:=λg H x a2=>by rw[ai x];exact(a4.block g (by simp;omega) a2).trans (Yc _ _ _ H)
   have c8:∀(g:E)(q:Obj),c.heap[g]?=C q->(∀z b a0,q=.cells z b a0->b≠48/\b≠51)->(a8.setCell ⟨d+1,0,F⟩ (Xw (C ⟨b3,0,F⟩) (f.length+1) b1)).heap[g]?=C q:=λg q n i0=>by
    rw[f1 g (XZ.1 n).1 (λl=>?_) λl=>?_];exact n
    .subst l;rw[show c.heap[d+1]?=_ from o]at n;grind
    rcases p.2 with⟨L,_⟩|⟨a1,h1,d4,L,_,b6,_⟩
    .rw[L]at l;cases l
    rw[L]at l;cases l;grind
   exact⟨e2.from _,⟨b5.size,λg z b a0 c0 n=>c8 g _ n λd3 f8 d5 l=>by grind,λg h2 h0 _ n=>c8 g _ n λd3 f8 d5 l=>by cases l⟩,
    ⟨⟨_,e8,by simp_all [Gj],by simp;omega⟩,((y.alloc _).kept a4 (y.not_row (by decide) p)).other (by omega) _⟩,s.trans b5⟩
  case done=>
   rintro X j3 Y a3 rfl⟨⟨⟨i,o,p,U⟩,y⟩,s⟩ t;have c7:=o.cell
   gi_wp2
   refine⟨by simp,Xr ⟨_,_,A,run_takeDeferred t,?_⟩⟩;refine⟨_,results_tmp A _ _ _,i,A,?_,by rw[r];exact(R.trans s).trans (belowK_b (w:=m) (n₀:=d) (by omega) Y X _ _ a3 t A rfl)⟩;rw[r];rw[b_ U];exact ownsRow_putObj p _ t A
  case stop=>
   rintro X z f Y a3 a5⟨⟨i,o,p,rfl,y⟩,s⟩ t;have c7:=o.cell
   gi_wp2
   refine⟨by simp,Xr ⟨_,_,A,run_takeDeferred t,?_⟩⟩;refine⟨_,results_tmp A _ _ _,i,A,?_,by rw[r];exact(R.trans s).trans (belowK_b (w:=m) (n₀:=d) (by omega) Y X _ _ a3 t A rfl)⟩;rw[r];obtain⟨j0,a6⟩:=a5;have c0:b.take h=f.dropLast:=by grind [List.dropLast_eq_take]
   rw[c0,aad];exact ownsRow_putObj p _ t A
variable{h:Xn}{g:K}{b:E}{ak:Xt}{f:XM}{O:Xz XG}
theorem dK.len{b:Xq B}(d:dK b h a):∃c e,h=.slice c b.length e:=by rcases d with⟨rfl,rfl⟩|⟨i,f,e,k,g,rfl,_⟩<;>exact⟨_,_,A⟩
theorem dK.at{l:Xq B}{d:Xz XG}(m:dK l (.slice d s e) a)(o:Below a.heap.size a g){c:B}(k:l[b]?=C c):∃f,d=C ⟨f,0,F⟩/\g.cell? ⟨f,b,F⟩=C (.string (bs c)):=by
 rcases m with⟨_,rfl⟩|⟨h,q,r,u,t,p,i,_,_,n⟩
 .simp at k
 cases p;exact⟨h,A,aa (by rw[o.block h (XZ.1 i).1];exact i) b (n b c k)⟩
theorem Tm{i b w h m p r d own q l:Xt}{n:XM}{k:Xy}{s:Xz XG}{t:E}{c:Xq B}{u v:Xz XG}{y z:E}(a1:c.length<=60)
 (H:dK c (.slice O c.length e) a)(L:dK c (.slice s c.length t) a):
 Calls TP 19 #[.agg (oV ak i b h n f k m p r d own q l (.slice O c.length e) (.slice u 0 y)),.agg (oV ak i w h n f k m p r d own q l (.slice s c.length t) (.slice v 0 z))] a λW g=>W=XB (.bool J)/\Below a.heap.size a g:=by
 unfold oV;have S:=Xv H;have T:=Xv L;clear H L;go_enter Tryz.func19,Tryz.ntmps19
 go_wp2
 go_loopw [5] (λD wr=>(∃o:E,o<=c.length/\D=Xo M o)/\∃x,wr=K.drewN ((a.alloc (.cells #[i64 ak,i64 i,i64 b,i64 h,.string n,.string f,.bool k,i64 m,i64 p,i64 r,i64 d,i64 own,i64 q,i64 l,.slice O c.length e,.slice u 0 y] 38)).alloc (.cells #[i64 ak,i64 i,i64 w,i64 h,.string n,.string f,.bool k,i64 m,i64 p,i64 r,i64 d,i64 own,i64 q,i64 l,.slice s c.length t,.slice v 0 z] 38)) x) (λD _=>c.length-(Lib.intOf D).toNat)
 case atStart=>exact⟨⟨0,YH _,A⟩,0,A⟩
 case round=>
  obtain⟨⟨o,a3,rfl⟩,x,rfl⟩:=hrel;by_cases a2:o<c.length
  .obtain⟨R,Q⟩:∃R,c[o]?=C R:=by simp_all
   have N:Below a.heap.size a ((a.alloc (.cells #[i64 ak,i64 i,i64 b,i64 h,.string n,.string f,.bool k,i64 m,i64 p,i64 r,i64 d,i64 own,i64 q,i64 l,.slice O c.length e,.slice u 0 y] 38)).alloc (.cells #[i64 ak,i64 i,i64 w,i64 h,.string n,.string f,.bool k,i64 m,i64 p,i64 r,i64 d,i64 own,i64 q,i64 l,.slice s c.length t,.slice v 0 z] 38)):=(bU a _).trans ((bU _ _).mono (by simp));obtain⟨Z,rfl,a4⟩:=S.out.at N Q;obtain⟨a0,rfl,a5⟩:=T.out.at N Q
   go_wp2
   go_region
   all_goals go_wp2
   all_goals go_roundw
   case rel=>exact⟨⟨o+1,by omega,A⟩,x+1,A⟩
   case measure=>grind [Lib.intOf]
  go_wp2
  go_loop [6] (λb=>b=Xo M 0) (λ_=>0)
  case atStart=>rfl
  case round=>
   go_wp2
   go_ret;exact⟨A,A,A,A,by simp;omega,λY X=>by simp only[K.heap_drewN];rw[Yc _ _ _ (by simp;omega),Yc _ _ _ X]⟩
variable{o:Out}{f:K}{v:Xn}{h:E}{k:E}{l:XM}
noncomputable section
def qe(b:E)(O g:Xz XG)(a:K):Prop:=∀e,e<b->∃h f o i c d,O=C ⟨h,0,F⟩/\g=C ⟨f,0,F⟩/\o.names.length<=60/\o.results=[]/\eU o c a/\eU o d a/\
 (∀(j:E) v,(gZ o c)[j]?=C v->a.cell? ⟨h,e*16+j,F⟩=C v)/\(∀(j:E) v,(gZ {o with idx:=i} d)[j]?=C v->a.cell? ⟨f,e*16+j,F⟩=C v)
theorem eU.kept{v:Xn×Xn}(c:eU o v a)(i:Kept a f):eU o v f:=
 ⟨c.1.stay λd g=>by rw[i.2 d (c.lt (.inl g))],c.2.stay λd g=>by rw[i.2 d (c.lt (.inr g))]⟩
theorem dK.kept{c:Xq B}{v:Xn}{a f:K}(g:dK c v a)(d:Kept a f):dK c v f:=(eU.kept (o:={names:=c}) (v:=(v,Xw F 0 0)) ⟨g,Xr ⟨A,A⟩⟩ d).1
theorem qe.kept{g:Xz XG}(p:qe b O g a)(c:Kept a f):qe b O g f:=λe D=>by obtain⟨h,n,o,H,i,m,q,r,t,u,w,x,y,z⟩:=p e D;exact⟨h,n,o,H,i,m,q,r,t,u,w.kept c,x.kept c,λj v d=>c.cell (y j v d),λj v d=>c.cell (z j v d)⟩
theorem tn.nil(c:tn [] v a):∃b d,v=.slice b 0 d:=by rcases c with⟨rfl,_⟩|⟨h,e,k,g,f,rfl,_⟩<;>exact⟨_,_,A⟩
theorem UR{p N O L U W:E}{a1:E->Xn}(e1:b<2^62)(e0:e<b){X Y:Xn}{m S T i r u x g own w q:Xt}{t:XM}{n:Xy}{y z D H:Xz XG}
 (c:∀j v,(oV ak m S i t l n r u x g own w q (.slice y s k) (.slice D 0 U))[j]?=C v->a.cell? ⟨h,e*16+j,F⟩=C v)
 (d:∀j v,(oV ak m T i t l n r u x g own w q (.slice z s L) (.slice H 0 W))[j]?=C v->a.cell? ⟨p,e*16+j,F⟩=C v)
 (R:∀f,Kept a f->Calls TP 19 #[.agg (oV ak m S i t l n r u x g own w q (.slice y s k) (.slice D 0 U)),.agg (oV ak m T i t l n r u x g own w q (.slice z s L) (.slice H 0 W))] f λa0 a2=>a0=XB (.bool J)/\Below f.heap.size f a2):
 (iR [1,1,1,1,1,1,1,1,1,0,1,0,0,1,0,0,0] lp).wp TP (eB (fK 108 [(7,X),(8,Y),(10,Xw (C ⟨h,0,F⟩) b N),(11,Xw (C ⟨p,0,F⟩) b O),(14,Xo M e),(15,.bool J)] a)) (gI 108 [(7,X),(8,Y),(10,Xw (C ⟨h,0,F⟩) b N),(11,Xw (C ⟨p,0,F⟩) b O),(14,Xo M e)] a1) a:=by
 show XR.wp _ (.region _ _ J) _ _ _;dsimp only[gI,sl,lk,Nat.reduceBEq,cond];have a3:a.cell? ⟨h,e*16,F⟩=C (i64 ak):=c 0 _ A;have b9:a.cell? ⟨p,e*16,F⟩=C (i64 ak):=d 0 _ A;have a4:=c 1 _ A;have c0:=d 1 _ A;have b1:=c 2 _ A;have d2:=d 2 _ A;have b2:=c 3 _ A;have d3:=d 3 _ A;have b3:=c 4 _ A;have d4:=d 4 _ A;have b4:=c 5 _ A;have d5:=d 5 _ A;have b5:=c 6 _ A;have d6:=d 6 _ A;have b6:=c 7 _ A;have d7:=d 7 _ A;have b7:=c 8 _ A;have d8:=d 8 _ A;have b8:=c 9 _ A;have d9:=d 9 _ A;have a5:=c 10 _ A;have c6:=d 10 _ A;have a6:=c 11 _ A;have c7:=d 11 _ A;have a7:=c 12 _ A;have c8:=d 12 _ A;have a8:=c 13 _ A;have c9:=d 13 _ A;have a9:=c 14 _ A;have d0:=d 14 _ A;have b0:=c 15 _ A;have d1:=d 15 _ A;have Z:=Xv R;clear c d R
 go_still_tail 8,(by kernel_rfl)
 go_wp2_with (go_at_call 19;refine(Z.out a.drew (il A)).mono ?_;rintro _ e2⟨rfl,Q⟩)
 exact show fK _ _ _ _ _ from⟨⟨A,A,A,A,A,A,A,A,trivial⟩,Q.size,Q.block⟩
theorem KY{n p:E}{m:Xz XG}{D:E->Xn}(X:b<2^62)(Q:qe b O m a){i l:Xn}:
 (iR [1,1,1,1,1,1,1,1,1,0] lp).wp TP (eB (fK 108 [(7,i),(8,l)] a)) (gI 108 [(7,i),(8,l),(10,.slice O b n),(11,.slice m b p)] D) a:=by
 show XR.wp _ (.seq (.region _ _ _) (.block _ (.loop _))) _ _ _;refine U_ λa2 c=>?_;replace c:=Xv c
 go_wp2
 refine c.out _ _ (wp_block (wp_loop (BO 108 (λe=>[(7,i),(8,l),(10,.slice O b n),(11,.slice m b p),(14,Xo M e)]) b a) (λd _=>b-Al 14 d) ?_ ?_))
 .exact .of 0 (YH _) A rfl ⟨A,A,A,A,A,trivial⟩ (il A)
 rintro _ b8⟨e,D,b2,rfl,s⟩;dsimp only[gI,sl,lk,Nat.reduceBEq,cond];rcases Q' e b with t|b1
 .have c1:decide ((e:Xt)<b)=J:=by simp;omega
  refine U_ λH g=>?_;replace g:=Xv g
  go_wp2
  refine g.out _ _ (U_ λa3 q=>wp_block (U_ λa4 r=>?_));replace q:=Xv q;replace r:=Xv r;obtain⟨h,N,o,b3,⟨a7,L⟩,⟨a8,a9⟩,rfl,rfl,W,Y,⟨c,y⟩,⟨x,z⟩,S,T⟩:=(Q.kept s) e t;rw[Y]at y z;obtain⟨a0,k,rfl⟩:=c.len;obtain⟨a1,b0,rfl⟩:=x.len;obtain⟨a5,b4,rfl⟩:=y.nil;obtain⟨a6,b5,rfl⟩:=z.nil;refine bK [(7,i),(8,l),(10,Xw (C ⟨h,0,F⟩) b n),(11,Xw (C ⟨N,0,F⟩) b p),(14,Xo M e)] (P:=λd=>XR.wp _ _ _ d _) A rfl ⟨A,A,A,A,A,trivial⟩ λb6=>wp_mono (UR X t S T λf u=>Tm W (c.kept u) (x.kept u)) ?_;rintro(_|_|_|_|_|_) L b9 w
  case normal=>
   obtain⟨⟨Z,hd,U⟩,R⟩:=w;refine r.out _ _ ?_;refine bK _ (P:=λd=>XR.wp _ _ _ d _) Z hd U λb7=>?_;dsimp only[gI,sl,lk,Nat.reduceBEq,cond]
   go_wp2
   refine q.out _ _ ?_
   go_wp2
   refine⟨.of (e+1) t A rfl ⟨A,A,A,A,A,trivial⟩ (s.trans R),?_⟩;show b-((e:Xt)+1).toNat<b-e;omega
  all_goals exact w.elim
 refine U_ λH g=>?_
 go_wp2
 exact show fK _ _ _ _ _ from⟨⟨A,A,A,A,trivial⟩,s⟩
end
variable{e:Tree}{c:K}{a:E}{d:E}
noncomputable section
def qh(e:Tree)(O:Xz XG)(c:K):Prop:=∀(a:E) f,e[a]?=C f->∃d,O=C ⟨d,0,F⟩/\∀(j:E) b,(NI f)[j]?=C b->c.cell? ⟨d,a*9+j,F⟩=C b
theorem qh.kept(h:qh e O c)(g:Kept c f):qh e O f:=λa n m=>by obtain⟨d,i,k⟩:=h a n m;exact⟨d,i,λj v l=>g.cell (k j v l)⟩
theorem UW{h k l:E}{m:E->Xn}(R:b<2^62)(Q:a<b){i:Path×Nd}
 (e:∀(j:E) g,(NI i)[j]?=C g->c.cell? ⟨d,a*9+j,F⟩=C g)
 (f:∀(j:E) g,(NI i)[j]?=C g->c.cell? ⟨h,a*9+j,F⟩=C g):
 (iR [1,1,1,1,1,1,1,1,1,1,1,1,1,0,1,0,0,1,0,0,0] lp).wp TP (eB (fK 108 [(16,Xw (C ⟨d,0,F⟩) b k),(17,Xw (C ⟨h,0,F⟩) b l),(18,Xo M a),(107,.bool Xp)] c)) (gI 108 [(16,Xw (C ⟨d,0,F⟩) b k),(17,Xw (C ⟨h,0,F⟩) b l),(18,Xo M a)] m) c:=by
 show XR.wp _ (.region _ _ J) _ _ _;dsimp only[gI,sl,lk,Nat.reduceBEq,cond];have n:c.cell? ⟨d,a*9,F⟩=C (.string (bs (Wt.join i.1))):=e 0 _ A;have w:c.cell? ⟨h,a*9,F⟩=C (.string (bs (Wt.join i.1))):=f 0 _ A;have o:=e 1 _ A;have x:=f 1 _ A;have p:=e 2 _ A;have y:=f 2 _ A;have q:=e 3 _ A;have z:=f 3 _ A;have r:=e 4 _ A;have D:=f 4 _ A;have s:=e 5 _ A;have H:=f 5 _ A;have t:=e 6 _ A;have L:=f 6 _ A;have u:=e 7 _ A;have N:=f 7 _ A;have v:=e 8 _ A;have O:=f 8 _ A;clear e f
 go_region
 all_goals exact show fK _ _ _ _ _ from⟨⟨A,A,A,A,A,A,trivial⟩,il A⟩
theorem KZ{m n:E}{l:Xz XG}{v:E->Xn}(t:e.length<2^62)(y:qh e O c)(z:qh e l c):
 (iR [1,1,1,1,1,1,1,1,1,1,1,1,1,0] lp).wp TP (eB (fK 108 [] c)) (gI 108 [(16,.slice O e.length m),(17,.slice l e.length n)] v) c:=by
 show XR.wp _ (.seq (.region _ _ _) (.block _ (.loop _))) _ _ _;generalize Y:e.length=b at t⊢
 refine U_ λR q=>?_;replace q:=Xv q
 go_wp2
 refine q.out _ _ (wp_block (wp_loop (BO 108 (λa=>[(16,.slice O b m),(17,.slice l b n),(18,Xo M a)]) b c) (λg _=>b-Al 18 g) ?_ ?_))
 .exact .of 0 (YH _) A rfl ⟨A,A,A,trivial⟩ (il A)
 rintro _ a1⟨a,v,X,rfl,i⟩;dsimp only[gI,sl,lk,Nat.reduceBEq,cond];rcases Q' a b with s|W
 .refine U_ λw h=>?_;replace h:=Xv h
  go_wp2
  refine h.out _ _ (U_ λS o=>wp_block (U_ λT p=>?_));replace o:=Xv o;replace p:=Xv p;obtain⟨k,u⟩:∃k,e[a]?=C k:=by simp_all
  obtain⟨d,rfl,H⟩:=(y.kept i) a k u;obtain⟨x,rfl,L⟩:=(z.kept i) a k u;refine bK [(16,Xw (C ⟨d,0,F⟩) b m),(17,Xw (C ⟨x,0,F⟩) b n),(18,Xo M a)] (P:=λg=>XR.wp _ _ _ g _) A rfl ⟨A,A,A,trivial⟩ λZ=>wp_mono (UW t s H L) ?_;rintro(_|_|_|_|_|_) U a2 r
  case normal=>
   obtain⟨⟨Q,hd,N⟩,D⟩:=r;refine p.out _ _ ?_;refine bK _ (P:=λg=>XR.wp _ _ _ g _) Q hd N λa0=>?_;dsimp only[gI,sl,lk,Nat.reduceBEq,cond]
   go_wp2
   refine o.out _ _ ?_
   go_wp2
   refine⟨.of (a+1) s A rfl ⟨A,A,A,trivial⟩ (i.trans D),?_⟩;show b-((a:Xt)+1).toNat<b-a;omega
  all_goals exact r.elim
 refine U_ λw h=>?_
 go_wp2
 exact show fK _ _ _ _ _ from⟨⟨A,A,trivial⟩,i⟩
end
variable{z:eA}{h:E->Prop}{a:K}{f:E}{l:Xq XC}{Q:Exit->XF->K->Prop}{g:Xn}{y:cz}{j:E}{k:Out}
section
variable[Inhabited aN]
noncomputable section
variable{p:E}{D x:Xn}{q:E}{r:E->Xu Xn}{m:E->Xn}
theorem Aa{v:Type}{o:v->Xq Xn}(t:∀c,(o c).length=s):∀(i:Xq v)(b j:E)(c:v),i[b]?=C c->j<s->(i.flatMap o)[b*s+j]?=(o c)[j]?
 |[],b,j,c,n,_=>by cases n
 |H::i,0,j,c,n,w=>by
  grind
 |H::i,b+1,j,c,n,w=>by
  have L:(b+1)*s=b*s+s:=by grind
  rw[ZF,YQ (by rw[t];omega),t,show(b+1)*s+j-s=b*s+j by omega];exact Aa t i b j c (by simpa using n) w
theorem NZ{base:E}(k:a.ownsRow base 51 9 g e.length (Gj e)):∃O d,g=.slice O e.length d/\qh e O a:=by
 rcases k.2 with⟨rfl,l⟩|⟨i,q,p,rfl,_,m,_,_,_,u⟩
 .refine⟨F,0,by rw[l],λb h f=>?_⟩;simp_all
 refine⟨_,q,A,λb h f=>⟨i,A,λj o c=>aa m _ ?_⟩⟩;have n:j<9:=(YM.1 c).1;have t:(Gj e)[b*9+j]?=C o:=(Aa (o:=NI) (s:=9) (λ_=>rfl) e b j h f n).trans c
 grind
theorem Ds{S v i:E}{T:Xq Out}{w:fB}(c:aK u S y T w a)(N:a.cell? ⟨v,0,F⟩=C (pt u 0))(H:i<2^20)(L:60<=i):
 Calls TP 20 #[pt v 0,Xo M i] a λo n=>∃O d,o=XB (.slice O y.tree.length d)/\qh y.tree O n/\Below a.heap.size a n:=by
 obtain⟨X,_,R⟩:=c.top;refine(Qi c.wf c.tree (aa R 0 A) (aa c.ch 2 A) N H).mono ?_;rintro o n⟨g,rfl,t,W⟩;rw[b_ (Yi c.wf.len L)]at t;obtain⟨O,d,rfl,U⟩:=NZ t;simp_all
theorem tO{d:Xq Out}{e:Xq (Xn×Xn)}{a:Xn×Xn}(f:d[b]?=C k)(g:e[b]?=C a)(h:j<16):(bT d e)[b*16+j]?=(gZ k a)[j]?:=by unfold bT;rw[Aa (o:=λc=>(gZ c.1 c.2).toList) (s:=16) (λ_=>rfl) _ b j (k,a) (aaA.2 ⟨f,g⟩) h];simp
theorem EY{a4 O a2 H:E}{a3:cz}{c e:Xq Out}{s:fB}{D:Xq (Xn×Xn)}{z:Xn}{N L:E->Prop}(m:oA p a4 O a2 a3 H c s a)(l:Je N L e D z a)(v:c.map Wt.blank=e.map Wt.blank)(a1:∀k∈e,BT k):
 ∃h c1 i c2,s.ov=.slice h c.length c1/\z=.slice i c.length c2/\qe c.length h i a:=by
 obtain⟨h,c1,Q,T⟩:=m.fu.row.form;obtain⟨i,c2,a5,U⟩:=l.row.form;have a7:e.length=c.length:=by simpa using(Zc List.length v).symm
 refine⟨h,c1,i,c2,Q,by simp_all,λb y=>?_⟩;obtain⟨R,rfl,Y⟩:=T b y;obtain⟨S,rfl,Z⟩:=U b (by omega);obtain⟨f,t⟩:∃f,c[b]?=C f:=by simp_all
 obtain⟨r,q⟩:∃r,e[b]?=C r:=by simp_all
 obtain⟨n,w⟩:∃n,s.vs[b]?=C n:=⟨_,YN (by rw[<-m.fu.outs.1];exact y)⟩;obtain⟨o,x⟩:∃o,D[b]?=C o:=⟨_,YN (by rw[<-l.len];omega)⟩;have a6:=LU v t q
 obtain⟨u,rfl⟩:∃u,r={f with idx:=u}:=⟨r.idx,by simp_all [Wt.blank]⟩
 obtain⟨a0,W⟩:=a1 _ (Yn q);have X:=l.ok b _ o q x;exact⟨R,S,f,u,n,o,A,A,W,a0,m.fu.outs.2 b f n t w,X,λj g d=>m.fu.row.cell Y _ g ((tO t w (XZ.1 d).1).trans d),λj g d=>l.row.cell Z _ g ((tO q x (XZ.1 d).1).trans d)⟩
theorem UQ{g i c1 c2:E}{B b c:Xz XG}(u:f<=s)(t:∀k o,o.heap=a.heap->Q .normal (gI 108 [(7,pt g 0),(8,pt i 0),(10,.slice b s c1),(11,.slice c s c2)] k) o):
 CW (goalAt TP F F z al h) (Go.Conc.base 5) ⟨[],[]⟩ l (iR [1,1,1,1,1,1,1,1,0] lp) Q (gI 108 [(7,pt g 0),(8,pt i 0),(9,.slice B f d),(10,.slice b s c1),(11,.slice c s c2)] m) a:=by
 show CW _ _ _ _ (.seq _ _) _ _ _;dsimp only[gI,sl,lk,Nat.reduceBEq,cond];refine aZ (cl (by decide) (ks:=[]) A (by rfl) λp n _ _=>?_);have q:=Xv t;have w:decide (s<f)=Xp:=by simp;omega
 go_wp2
 refine BL n ?_;refine ei (g:=Xp) (by decide) A (ig ?_);exact bK [(7,pt g 0),(8,pt i 0),(10,.slice b s c1),(11,.slice c s c2)] (P:=λr=>Q .normal r p) A rfl ⟨A,A,A,A,trivial⟩ λk=>q.out k p n
theorem US{y T v:E}{g:cz}{U:Xq Out}{D:fB}{s i:E}(w:oA p s y T g v U D a)(N:∀b,h b->b<a.heap.size)(R:g.tree=e)
 (L:∀O d k n,Kept a n->qh e O n->Q .normal (gI 108 [(8,pt i 0),(16,.slice O e.length d)] k) n):
 CW (goalAt TP F F z al h) (Go.Conc.base 5) ⟨[],[]⟩ l (iR [1,1,1,1,1,1,1,1,1,1,0] lp) Q (gI 108 [(7,pt s 0),(8,pt i 0)] m) a:=by
 show CW _ _ _ _ (.region _ _ _) _ _ _;dsimp only[gI,sl,lk,Nat.reduceBEq,cond];have u:=Xv L;have o:=Xv w;refine cl (by decide) (ks:=[]) A (by rfl) λZ c _ _=>?_;have x:=(o.out.eq c).fu;subst R
 go_wp2_with (go_at_call 20;refine(Ds (i:=100) x (aa (o.out.eq c).ptr 0 A) (by decide) (by decide)).mono ?_;rintro _ f⟨O,d,rfl,H,q⟩)
 have r:a.heap.size<=f.heap.size/\∀b,b<a.heap.size->f.heap[b]?=a.heap[b]?:=⟨by rw[<-c];exact q.size,λb W=>by rw[q.block b (by simp_all),c]⟩;refine show _/\_ from⟨λt S=>r.2 t (N t S),?_⟩;exact bK [(8,pt i 0),(16,.slice O g.tree.length d)] (P:=λb=>Q .normal b f) A rfl ⟨A,A,trivial⟩ λk=>u.out O d k f r H
theorem UT{a0 a7 X:E}{w:cz}{a8:Xq Out}{a1:fB}{b2 T:E}{o:Xz XG}{v t:E}(Y:oA p T a0 a7 w X a8 a1 a)(a4:∀c,h c->c<a.heap.size)(a5:w.tree=e)
 (a3:∀O d H L,Kept a L->qh e O L->Q .normal (gI 108 [(16,.slice o v t),(17,.slice O e.length d)] H) L):
 CW (goalAt TP F F z al h) (Go.Conc.base 5) ⟨[],[]⟩ l (iR [1,1,1,1,1,1,1,1,1,1,1,0] lp) Q (gI 108 [(8,pt T 0),(16,.slice o v t)] m) a:=by
 show CW _ _ _ _ (.region _ _ _) _ _ _;dsimp only[gI,sl,lk,Nat.reduceBEq,cond];have W:=Xv a3;have N:=Xv Y;refine cl (by decide) (ks:=[]) A (by rfl) λb3 i _ _=>?_;have Z:=(N.out.eq i).fu;subst a5
 go_wp2_with (go_at_call 20;refine(Ds (i:=100) Z (aa (N.out.eq i).ptr 0 A) (by decide) (by decide)).mono ?_;rintro _ n⟨O,d,rfl,a2,R⟩)
 have S:a.heap.size<=n.heap.size/\∀c,c<a.heap.size->n.heap[c]?=a.heap[c]?:=⟨by rw[<-i];exact R.size,λc a9=>by rw[R.block c (by simp_all),i]⟩;refine show _/\_ from⟨λU a6=>S.2 U (a4 U a6),?_⟩;exact bK [(16,.slice o v t),(17,.slice O w.tree.length d)] (P:=λc=>Q .normal c n) A rfl ⟨A,A,trivial⟩ λH=>W.out O d H n S a2
theorem UU{c:E}{b:Xz XG}(r:1<=f)(s:f<2^62)(q:∀g k,k.heap=a.heap->Q .normal (gI 108 [(16,.slice O f d),(17,.slice b f c)] g) k):
 CW (goalAt TP F F z al h) (Go.Conc.base 5) ⟨[],[]⟩ l (iR [1,1,1,1,1,1,1,1,1,1,1,1,0] lp) Q (gI 108 [(16,.slice O f d),(17,.slice b f c)] m) a:=by
 show CW _ _ _ _ (.seq _ _) _ _ _;dsimp only[gI,sl,lk,Nat.reduceBEq,cond];refine aZ (cl (by decide) (ks:=[]) A (by rfl) λn i _ _=>?_);have o:=Xv q;have c1:((f:Xt)==0)=Xp:=by simp;omega
 go_wp2
 refine BL i ?_;refine ei (g:=Xp) (by decide) A (ig ?_);exact bK [(16,.slice O f d),(17,.slice b f c)] (P:=λp=>Q .normal p n) A rfl ⟨A,A,trivial⟩ λg=>o.out g n i
end
end
variable{b:K}{m:E}{f:Xq XC}
section
variable[Inhabited aN]
noncomputable section
variable{a:E}{i e:Xn}{k:E}{l:E->Xu Xn}{g:E->Xn}
theorem TD{u l p v m q:E}{n o:fB}{w x:K}{s t:cz}{i k:E}{r:Xq Out}(L:4<a)(e:oA a u l p s i r n w)(c:BM h a w v m q t k o x):∃g,xC a u l p s i r n v m q t k g o x:=by
 obtain⟨g,y⟩:=c.at';refine⟨g,e.fA c.fA (λ_ _ b=>b) (λ_ _ z=>by cases z),y,λd b f=>?_,λd b f=>?_⟩
 .have:=e.TM b;have:=c.own d f;omega
 have D:=e.fu.bg f;have H:=(e.own d f).1;rcases b with b|b|rfl
 .have:=c.own d b;omega
 .rcases c.use d b with b|b|b<;>omega
 have:=c.sx;omega
theorem Rf:al.code (iR [1,1,1,1,1,1,1,1,1,0] lp)=J/\al.code (iR [1,1,1,1,1,1,1,1,1,1,1,1,1,0] lp)=J:=⟨by rfl,by rfl⟩
theorem yg{c7:K}{s X b6 T y Y b7 U:E}{n x:cz}{r b9:Xq Out}{H Z:fB}{w:Xq dA}{B:Xz XG}{m:Xq Out}{c0:Xq (Xn×Xn)}{S:Xn}
 (k:BJ h a c7 s X b6 n T r H y Y b7 x U b9 Z w B m c0 S b)(e0:∀c,h c->c<a)(b2:n=x)(R:r.map Wt.blank=m.map Wt.blank)(b1:∀b8∈m,BT b8)(a9:w.length<=r.length)(d9:m.length<2^62):
 qb (goalAt TP F F z al h) (Go.Conc.base 5) ⟨[],[]⟩ f (iR [1,1,1,1,1,1,1,1] lp) (λv c t=>v=.ret/\c.defers=[]/\c.tmps[6]?=C (.bool J)) (gI 108 [(7,pt s 0),(8,pt y 0),(9,.slice B w.length d),(10,H.ov),(11,S)] g) b:=by
 have d8:r.length=m.length:=by simpa using Zc List.length R
 obtain⟨d1,c1,d2,c2,a0,a1,O⟩:=EY k.two.x k.q R b1;rw[a0,a1];have e3:a<=b.heap.size:=by have:=k.two.x.KU;have:=(XZ.1 k.two.x.ptr).1;omega
 show qb _ _ _ _ (.seq _ _) _ _ _;refine fe (UQ a9 λe8 c8 L=>⟨A,?_⟩);have D:=k.two.fA (own:=λ_=>False) (kH L) (λ_ _ e=>e) λ_ _ e=>e;show qb _ _ _ _ (.seq _ _) _ _ _;refine Ck (Cj aC (by decide) A Rf.1 (fK 108 [(7,pt s 0),(8,pt y 0)] c8) (λt i _ _ _=>wp_mono (KY (by omega) ((O.kept (il L)).kept (il i))) λv c c6 e=>yD i e) (λc t e u b5=>e.2.2 u (by grind [Kept])) λd5 c9 a3=>⟨A,?_⟩);obtain⟨⟨q,hd,p⟩,b0,a7⟩:=a3;have o:=D.fA (own:=λ_=>False) (lu b0 λc l _=>a7 c l) (λ_ _ e=>e) λ_ _ e=>e;refine bK _ (P:=λc=>qb _ _ _ _ _ _ c _) q hd p λe9=>?_;clear q hd p O D;have d7:a<=c9.heap.size:=by grind
 show qb _ _ _ _ (.seq _ _) _ _ _;refine fe (US o.x (λc l=>by grind [Kept]) A λd3 c3 f0 f4 Q a5=>⟨A,?_⟩);have W:=o.fA (own:=λ_=>False) (lu Q.1 λc l _=>Q.2 c l) (λ_ _ e=>e) λ_ _ e=>e;have b3:x.tree=n.tree:=by rw[b2]
 show qb _ _ _ _ (.seq _ _) _ _ _;refine fe (UT (b2:=0) W.y (λc l=>by grind [Kept]) b3 λd4 c4 f1 f5 a8 a6=>⟨A,?_⟩);obtain⟨e5,e6,e1⟩:=o.x.fu.wf.head;have b4:1<=n.tree.length:=by simp_all
 have e2:=o.x.fu.wf.len;show qb _ _ _ _ (.seq _ _) _ _ _;refine fe (UU b4 (by omega) λf2 d0 N=>⟨A,?_⟩);show qb _ _ _ _ (.seq _ _) _ _ _;refine Ck (Cj aC (by decide) A Rf.2 (fK 108 [] d0) (λt i _ _ _=>wp_mono (KZ (e:=n.tree) (by omega) (((a5.kept a8).kept (il N)).kept (il i)) ((a6.kept (il N)).kept (il i))) λv c c6 e=>yD i e) (λc t e u b5=>e.2.2 u (by grind [Kept])) λd6 f6 a4=>⟨A,?_⟩);obtain⟨⟨q,hd,p⟩,_,_⟩:=a4;refine bK [] (P:=λc=>qb _ _ _ _ _ _ c _) q hd p λf3=>?_;show qb _ _ _ _ (.seq (.region _ _ _) .ret) _ _ _;refine fe (cl (by decide) (ks:=[]) A (by rfl) λf7 a2 _ _=>?_)
 go_wp2
 refine show _/\_ from⟨λu _=>by rw[a2],Sl (mQ ⟨A,A,A⟩)⟩
theorem By{R D:Xt}(e1:-2^63<=R/\R<2^63)(e2:-2^63<=D/\D<2^63)(t:pj i e O m k l)(q:xq h a b)(v:(∃a5,b.cell? ⟨1,0,F⟩=C (Xo M a5))/\ux b/\4<b.heap.size)(a3:a<=b.heap.size):
 qb (goalAt TP F F z al h) (Go.Conc.base 5) ⟨[],[(2,i)]⟩ f lp (λr n g6=>r=.ret/\n.defers=[]/\n.tmps[6]?=C (.bool J)) (gI 108 [(0,Xo M R),(1,Xo M D),(2,e)] g) b:=by
 have c6:=q.lt;have a1:=c6 4 (q.gl 4 (Xr (by decide)) (by decide));show qb _ _ _ _ (.seq (.region _ _ _) _) _ _ _;have a9:=Xv (And.intro t (And.intro q v));clear t q v;dsimp only[gI,sl,lk,Nat.reduceBEq,cond];refine fe (cl (by decide) (ks:=[2]) A (by rfl) λS H _ _=>?_)
 go_wp2
 refine Sim.kp H ?_;obtain⟨t,q,v⟩:=a9.out;refine bK [(0,Xo M R),(1,Xo M D),(2,e)] (P:=λn=>qb _ _ _ _ _ _ n _) A rfl ⟨A,A,A,trivial⟩ λf7=>?_;replace q:=q.eq H;replace v:(∃a5,S.cell? ⟨1,0,F⟩=C (Xo M a5))/\ux S/\4<S.heap.size:=⟨by simp_all [K.cell?],v.2.1.stay (by rw[H]),by simp_all⟩;rw[<-H]at a3;clear a9 H;show qb _ _ _ _ (.seq _ _) _ _ _;refine fe (Wa (u:=D) (a1:=0) e1 q v a3 λY b2 e4 d4 f8 g7 d9 w=>⟨A,?_⟩);obtain⟨f4,Z⟩:=w.at';show qb _ _ _ _ (.seq _ _) _ _ _;refine fe (Wb (a1:=0) e2 (q.keep w.ro) Z.fu.bC (Yi a3 w.size) λa8 b3 e5 b5 f9 e8 e0 T=>⟨A,?_⟩);obtain⟨e6,b0⟩:=TD a1 Z T;have e7:=λn s=>(T.ro n s).trans (w.ro n s);have f0:a<=e8.heap.size:=by have:=w.size;have:=T.size;omega
 clear w T Z;show qb _ _ _ _ (.seq _ _) _ _ _;refine fe (Wc λg0 d0 b6=>⟨A,?_⟩);have U:=b0.fA (own:=λ_=>False) (kH b6) (λ_ _ c=>c) λ_ _ c=>c;have a6:∀n,h n->d0.heap[n]?=S.heap[n]?:=by simp_all
 have d1:a<=d0.heap.size:=by simp_all
 clear b0 e7 f0 b6;show qb _ _ _ _ (.seq _ _) _ _ _;refine fe (Wd t (q.keep a6) d1 λy B d g1 g8 x b9 d6 X a4 c8 a2=>⟨A,?_⟩);have a0:=U.fA (own:=λ_=>False) (lu c8 λn s _=>a4 n s) (λ_ _ c=>c) λ_ _ c=>c;have a7:=λn s=>(a4 n (by grind)).trans (a6 n s)
 have L:∀o p,B=C ⟨o,p,F⟩->a<=o/\¬jf Y b2 Wt.sB.tree d4 o:=λo p r=>by have b8:=a2 o p r;exact⟨by omega,λc=>by have:=U.x.TM c;omega⟩
 have W:∀o p,B=C ⟨o,p,F⟩->¬jf a8 b3 Wt.sB.tree b5 o:=λo p r c=>by have b8:=a2 o p r;have:=U.y.TM c;omega
 refine MG ?_;show qb _ _ _ _ (.seq _ _) _ _ _;refine fe (We a0.x (q.keep a7) d9 (by decide) X b9 x L λb4 g2 e9 P=>⟨A,?_⟩);have b1:=(a0.symm.abF a1 P λn p r=>⟨λc=>W n p r (Xr c),λc=>W n p r (Xs (Xs c))⟩).symm;have c9:=λn s=>(P.ro n s).trans (a7 n s);have c7:=X.fA P.fA λo p r c=>(L o p r).2 (Xr c)
 have u:BJ h a S Y b2 e4 _ _ _ b4 a8 b3 e5 Wt.sB 7 e6 b5 y B [] [] (Xw F 0 0) e9:=⟨b1,c7,λo p r=>⟨(L o p r).1,λc=>by
  have b8:=(L o p r).1;have f2:=(X.lt r).2;rcases P.part c with c|c|c|c
  .simp_all
  all_goals omega,W o p r⟩,Je.nil _,c9⟩
 clear U a0 b1 a6 a7 c9 X c7 L W P a4 c8 a2 d1;show qb _ _ _ _ (.seq (.region _ _ _) _) _ _ _;have d2:=Xv (And.intro u (And.intro x (And.intro q t)));clear u x q t v;refine fe (cl (by decide) (ks:=[]) A (by rfl) λg9 b7 _ _=>?_)
 go_wp2
 refine Sim.kp b7 ?_;obtain⟨u,x,q,t⟩:=d2.out;replace u:=u.eq b7;refine bK [(7,pt Y 0),(8,pt a8 0),(9,.slice B y.length d),(10,b4.ov),(11,Xw F 0 0)] (P:=λn=>qb _ _ _ _ _ _ n _) A rfl ⟨A,A,A,A,A,trivial⟩ λg3=>?_;have d5:=u.two.y.ok;show qb _ _ _ _ (.seq _ _) _ _ _;refine fe (KX q a1 e0 b9 d6 x u λf5 f1 g5 f6 g4 h0 d3 f3=>⟨A,?_⟩);have c0:=qK y Wt.sB 0 (by omega);have d7:∀N∈y,N.op.kind≠2/\N.op.kind≠7/\N.op.kind≠11:=λN c=>by have:=(x N c).kind;omega
 have d8:=tA y Wt.sB 0;refine yg d3 c6 c0.1 c0.2 (rI y Wt.sB 7 d5 d7) d8 ?_;omega
end
end
end Go.Sv
namespace Go.Proofs.YtfgpkeppjomkmaaGreatDoor
open Go
noncomputable abbrev jW:XI:=Tryz.pinned.checked.prog
abbrev jq:=Rows.togetherRow
abbrev EW:=Rows.togetherSpec
theorem de{a b:Xy}(c:a=J)(d:b=J):(a&&b)=J:=by rw[c,d];rfl
theorem Eo:(jq.wf (OpenSpec.ofChange EW))=J:=by kernel_rfl
theorem Ep:(laidOutB jW)=J:=by kernel_rfl
theorem Er:(mapsRowed jW)=J:=by kernel_rfl
theorem Es:(Tryz.f5.params.all (jW.readableRec ·))=J:=by kernel_rfl
theorem Et:(namedTie jW jq.named EW.vars)=J:=by kernel_rfl
theorem Eu:((jq.stops==[]))=J:=by kernel_rfl
theorem Ew:((jW.stops==[]))=J:=by kernel_rfl
theorem Ex:((jq.knobs==[]))=J:=by kernel_rfl
theorem Ey:((jW.stopKnobs==[]))=J:=by kernel_rfl
theorem Ez:((jq.inPlace==jW.inPlace 5))=J:=by kernel_rfl
theorem AZ:((jq.unfollowed==jW.unfollowed 5))=J:=by kernel_rfl
theorem Ba:((jq.recurses==jW.recurses 5))=J:=by kernel_rfl
theorem Bb:((jq.named==jW.varsNamed 5))=J:=by kernel_rfl
theorem Bc:((jq.maps==(Tryz.f5.params.toList++EW.plain.varTypes jW).any (jW.mapsRec ·)))=J:=by kernel_rfl
theorem Bd:((jq.ifaces==(Tryz.f5.params.toList++EW.plain.varTypes jW).any (jW.ifacesRec ·)))=J:=by kernel_rfl
theorem Be:((jq.mapsOut==jW.mapsAmong Tryz.f5.resultTypes.toList))=J:=by kernel_rfl
theorem Bf:((jq.loops==(Tryz.f5.params.toList++EW.plain.varTypes jW).any (jW.loopsFrom ·)))=J:=by kernel_rfl
theorem Bg:((jq.wideKeys==(Tryz.f5.params.toList++EW.plain.varTypes jW++Tryz.f5.resultTypes.toList).any (jW.wideKeysFrom ·)))=J:=by kernel_rfl
theorem Bh:(EW.vars.all (jW.varReadable ·))=J:=by kernel_rfl
theorem Bi:(Tryz.f5.resultTypes.all (λa=>jW.readableRec a&&decide (a<jW.types.size)))=J:=by kernel_rfl
theorem Bj:((jq.ifacesOut==Tryz.f5.resultTypes.toList.any (jW.ifacesRec ·)))=J:=by kernel_rfl
theorem Bl:((jq.loopsOut==Tryz.f5.resultTypes.toList.any (jW.loopsFrom ·)))=J:=by kernel_rfl
theorem Bm:((jq.plainKeys==jW.plainKeys))=J:=by kernel_rfl
theorem Bn:(jq.shortTexts.isNone)=J:=by kernel_rfl
theorem Bo:(jW.stopsHeard)=J:=by kernel_rfl
theorem Bp:(jW.mayEnter)=J:=by kernel_rfl
theorem Bq:((jq.lifted==jW.liftsFinal))=J:=by kernel_rfl
theorem Br:((jW.make==C jq.make))=J:=by kernel_rfl
theorem Bt:((jq.kinds==(if jq.domain.isEmpty then[]else Tryz.f5.params.toList.map λb=>match jW.underlying b with|some (.int a)=>C a|_=>F)))=J:=by kernel_rfl
theorem Bu:((jq.pinned==jq.pinnedBy))=J:=by kernel_rfl
theorem Bv:((jq.veiled==(Tryz.f5.params.toList++EW.plain.varTypes jW++Tryz.f5.resultTypes.toList).any (jW.veiledRec ·)))=J:=by kernel_rfl
theorem Bw:(jq.veiledFits jW Tryz.f5.params.toList (Tryz.f5.params.toList++EW.plain.varTypes jW++Tryz.f5.resultTypes.toList))=J:=by kernel_rfl
theorem uk:joinedFacts jW 5 Tryz.f5 EW jq=J:=(de (de (de (de (de (de (de (de (de (de (de (de (de (de (de (de (de (de (de (de (de (de (de (de (de (de (de (de (de (de (de Eo Ep) Er) Es) Et) Eu) Ew) Ex) Ey) Ez) AZ) Ba) Bb) Bc) Bd) Be) Bf) Bg) Bh) Bi) Bj) Bl) Bm) Bn) Bo) Bp) Bq) Br) Bt) Bu) Bv) Bw)
theorem nC:jW.funcNamed jq.func=C 5:=by kernel_rfl
theorem yh:Tryz.f5.isWrapper jW jq.wrapper jq.mainSum:=by unfold Func.isWrapper;first|(rw[XN (by decide+kernel)];kernel_rfl)|(rw[XH (by decide+kernel)];exact⟨rfl,rfl⟩)
theorem ye:Tryz.f5.isInstance jW jq.origin jq.targs:=of_decide_eq_true (by kernel_rfl)
end Go.Proofs.YtfgpkeppjomkmaaGreatDoor
namespace Go.Sv
open Go.MapKept Go.Proofs Go.RowKit Go.Lib Go.WideShapes Go.Sort Go.Sim Wt
variable{q:K}{b:E}{d:Xn}{P:XI}{c:K}
def jb:Xn->Xn
 |.int .u8 _=>.tuple #[]
 |d=>d
def Rm:Obj->Obj
 |.cells a c d=>.cells (a.map jb) c (0,a.size)
 |b=>b
def xz(b:E):Prop:=0<b/\b<=7
instance:DecidablePred xz:=λb=>inferInstanceAs (Decidable (0<b/\b<=7))
def gL(q:K):K:={q with heap:=q.heap.mapIdx λb a=>if xz b then Rm a else a}
def yt:Ren:=λb a=>b=a/\xz b
def EV(q:K):Prop:=∀b,xz b->∃a f c,q.heap[b]?=C (Xx a f c)/\0<a.size/\c.1=c.2/\∀g∈a.toList,∃d e,g=.int d e
section
theorem vW:(gL q).heap.size=q.heap.size:=by simp[gL]
theorem jI(a:xz b):(gL q).heap[b]?=(q.heap[b]?).map Rm:=by simp only[gL,W_,XN a]
theorem SK(e:Ren){b:Xn}(d:∃a c,b=.int a c):an al e (jb b) b:=by obtain⟨a,c,rfl⟩:=d;cases a<;>first|exact .bS trivial|exact .int _ _
theorem Ng{b:Xn}(f:∃a d,b=.int a d):(∀c,jb b≠.int .u8 c)/\aQ (λ_=>False) (jb b):=by
 obtain⟨a,d,rfl⟩:=f;cases a
 all_goals refine⟨(λc e=>by cases e),?_⟩
 all_goals first|exact .int _ _|exact .bS
theorem Ka(g:EV q):aU al yt (gL q) q where
 inj:=λb m f n a h=>by rw[<-a.1,<-h.1]
 obj:=λb f a=>by
  obtain⟨rfl,a⟩:=a;obtain⟨o,l,p,c,_,i,k⟩:=g b a;refine⟨_,_,by rw[jI a,c];rfl,c,.cells l ⟨by simp,λr u v d e=>?_⟩ ?_⟩
  .rw[Yu,e]at d;cases d;exact SK _ (k _ (YK.2 (YE e)))
  exact Xr i
 os:=A
theorem Di(g:EV q):mF al xz (gL q):=λb c=>by
 obtain⟨e,p,m,f,n,o,h⟩:=g b c;refine⟨_,by rw[jI c,f];rfl,?_⟩;refine⟨by simp,by simp_all,λ⟨i,k,a⟩=>?_⟩;rw[Yu]at a;cases d:e[i]? with
 |none=>simp_all
 |some l=>rw[d]at a;exact(Ng (h l (YK.2 (YE d)))).1 k (YR a)
theorem Uw{a:Xn}(c:∀b,a≠.int .u8 b):jb a=a:=by simp[jb]
theorem Dj(f:xz b){a:Xu Xn}{c:XA}{e:E×E}(d:q.heap[b]?=C (Xx a c e))(i:∀h∈a.toList,∀g,h≠.int .u8 g):(gL q).heap[b]?=C (Xx a c (0,a.size)):=by
 rw[jI f,d];show C (Obj.cells (a.map jb) c (0,a.size))=_;have:a.map jb=a:=by grind [Uw]
 rw[this]
theorem vg:Base Sim.TP yt:=by
 have g:Sim.TP.globals.size=7:=by decide+kernel
 refine⟨λd e f=>⟨A,?_⟩,λb c a=>by rw[a.1]⟩
 grind [xz]
theorem Qk(e:EV q):kL al xz (gL q):=Xs λb c g i a=>by obtain⟨f,k,h,d,_⟩:=e b c;rw[jI c,d]at a;cases a
theorem VP[Inhabited aN](D:Sim.IA=xz)(f:EV q)(m:8<=q.heap.size):xq xz q.heap.size (gL q) where
 lt:=λb c=>by grind [xz]
 cl:=λb c=>by
  obtain⟨a,g,o,h,y,z,l⟩:=f b c;refine⟨a.map jb,g,(0,a.size),by rw[jI c,h];rfl,by simp_all,by simp,λs n i=>?_,λ⟨t,u,k⟩=>?_⟩
  .rw[Yu]at i;cases e:a[s]? with
   |none=>simp_all
   |some v=>rw[e]at i;cases i;exact pO (Ng (l v (YK.2 (YE e)))).2 (λ_ f=>f.elim)
  rw[Yu]at k;cases e:a[t]? with
  |none=>simp_all
  |some n=>rw[e]at k;exact(Ng (l n (YK.2 (YE e)))).1 u (YR k)
 wh:=λb c=>by obtain⟨a,g,o,h,_⟩:=f b c;rw[jI c,h];show C (Obj.cells (a.map jb) g (0,(a.map jb).size))=C (Obj.cells (a.map jb) g (0,a.size));simp
 gl:=λw d p=>by
  have m:TP.globals.size=7:=by rfl
  have r:=Yi p (l_ m);rcases d with d|d
  .exact⟨d,r⟩
  rw[d];exact⟨by simp,by simp⟩
 rb:=λb c=>by simp_all
theorem GJ{a:XC}{b:XF}{k:Xq Item}{fn:Func}(h:a.kind=.normal)(hd:b.defers=[])(f:P.funcs[a.fn]?=C fn)
 (i:(results fn b.tmps).run P c=.ok d c)(e:(results fn b.tmps).events P c #[]=#[])(g:P.inits.idxOf? a.fn=F):
 stepG P J (Sim.rg {a.at b k with mode:=.returning} []) c=.ended (.done d) c #[]:=by
 simp[Sim.rg,stepG,unwind,doReturn,Frame.at,h,hd,f,i,e,g,seen,GStep.after]
theorem Ul(d:EV q)(k:ux q)(i:∃a,q.cell? ⟨1,0,F⟩=C (Xo M a))(p:8<=q.heap.size):(∃a,(gL q).cell? ⟨1,0,F⟩=C (Xo M a))/\ux (gL q)/\4<(gL q).heap.size:=by
 obtain⟨a,n⟩:=i;have e:xz 1:=by decide
 have f:xz 4:=by decide
 refine⟨⟨a,?_⟩,k.stay ?_,by grind [vW]⟩
 .obtain⟨b,g,h,c,_⟩:=d 1 e;have l:b[0]?=C (Xo M a):=by simp_all [K.cell?]
  have:(gL q).heap[1]?=C (Xx (b.map jb) g (0,b.size)):=by rw[jI e,c];rfl
  exact aa this 0 (by rw[Yu,l];rfl)
 obtain⟨b,g,h,c,_⟩:=d 4 f;rw[Dj f c λs o r m=>?_,c]
 .rfl
 simp_all [ux,TabIs,K.var?,pW]
end
end Go.Sv
namespace Go.Sv
open Go.MapKept Go.Proofs Go.RowKit Go.Lib Go.WideShapes Go.Sort Go.Sim Wt
open Go.ChangeShapes Go.ChangeAt
variable{h:K}{b:E}{c:Xn}{q:K}
section
variable{e:Type}{d:XA×Xn->e}{base:E}{g:E->Xy}{f:Xy}{a:DataW e×Xq MemPlace}
theorem nD(e:DataW.trod d Tryz.prog h base g f b 3 [c]=C a):∃i,c=Xo M i/\(-2^63<=i/\i<2^63):=by
 cases b with
 |zero=>cases e
 |succ b=>have l:Tryz.prog.underlying 3=C (.int M):=A;unfold DataW.trod at e;rw[l]at e;cases c<;>simp at e;obtain⟨⟨rfl,k⟩,_⟩:=e;refine⟨_,A,?_⟩;simp[Lit.wf,IntKind.min,IntKind.max,IntKind.signed,IntKind.bits]at k;omega
theorem OH(e:DataW.trod d Tryz.prog h base g f b 9 [c]=C a):∃i,c=.string i/\i.size<=maxLen:=by
 cases b with
 |zero=>cases e
 |succ b=>have k:Tryz.prog.underlying 9=C .string:=A;unfold DataW.trod at e;rw[k]at e;cases c<;>simp at e;exact⟨_,A,e.1⟩
theorem QL(e:DataW.trod d Tryz.prog h base g f b 4 [c]=C a):∃i,c=.bool i:=by
 cases b with
 |zero=>cases e
 |succ b=>have k:Tryz.prog.underlying 4=C .bool:=A;unfold DataW.trod at e;rw[k]at e;cases c<;>simp at e;exact⟨_,A⟩
theorem wj{n o p:Type}{m:o->Xz p}{l:n->o}:∀i:Xq n,(i.map l).mapM m=i.mapM λk=>m (l k)
 |[]=>rfl
 |k::i=>by simp only[Zj,abr,wj i]
theorem KQ{l:Xq Xn}(e:DataW.trod d Tryz.prog h base g f b 72 l=C a):∃m p k c i n Y,l=(OC m p k c i n Y).toList/\fits m/\fits p/\fits k/\fits c/\fits i/\(n.size:Xt)<2^63:=by
 cases b with
 |zero=>cases e
 |succ b=>
  obtain⟨o,O,H⟩:∃o,Tryz.prog.underlying 72=C (.struct o)/\o.toList.map (λi=>(i.type,i.offset))=[(3,0),(3,1),(3,2),(3,3),(3,4),(9,5),(4,6)]:=⟨_,A,by decide+kernel⟩;have y:Tryz.prog.cellsOf 72=7:=by decide+kernel
  have w:Tryz.prog.cellsOf 3=1:=by decide+kernel
  have z:Tryz.prog.cellsOf 9=1:=by decide+kernel
  have x:Tryz.prog.cellsOf 4=1:=by decide+kernel
  unfold DataW.trod at e;rw[O]at e;simp only[y]at e;split at e
  .rename_i s;obtain⟨q,c1,c2,c3,c4,c5,r,rfl⟩:∃q c1 c2 c3 c4 c5 r,l=[q,c1,c2,c3,c4,c5,r]:=by
    iterate 7
     rcases l with _|⟨_,l⟩
     simp at s
    obtain rfl:l=[]:=Za.1 (by simpa using s);exact⟨_,_,_,_,_,_,_,A⟩
   obtain⟨a0,e,_⟩:=YP.1 e;have t:=wj (m:=λk=>DataW.trod d Tryz.prog h base g f b k.1 (List.take (Tryz.prog.cellsOf k.1) (List.drop k.2 [q,c1,c2,c3,c4,c5,r]))) (l:=λi:Field=>(i.type,i.offset)) o.toList;rw[H]at t;replace e:=t.trans e;simp only[abr,Xq.mapM_nil,w,z,x,Xq.drop_succ_cons,Xq.drop_zero,Xq.take_succ_cons,abi,Xz.bind_eq_bind,Yl,Xz.pure_def]at e;obtain⟨a1,R,_,⟨a2,q1,_,⟨a3,S,_,⟨a4,T,_,⟨a5,U,_,⟨a6,W,_,⟨a7,X,_⟩,_⟩,_⟩,_⟩,_⟩,_⟩,_⟩:=e;obtain⟨m,rfl,v⟩:=nD R;obtain⟨p,rfl,L⟩:=nD q1;obtain⟨k,rfl,N⟩:=nD S;obtain⟨c,rfl,Q⟩:=nD T;obtain⟨i,rfl,D⟩:=nD U;obtain⟨n,rfl,hd⟩:=OH W;obtain⟨u,rfl⟩:=QL X;exact⟨m,p,k,c,i,n,u,A,v,L,N,Q,D,by unfold maxLen at hd;omega⟩
  cases e
end
noncomputable def Rj(b:E):Xy:=match(((begin Tryz.prog (λ_ _=>0) default).world.heap[b]?).bind Obj.row?)with
 |some (zero,a)=>decide (0<zero.size)&&Tryz.prog.buildable a&&(match Tryz.prog.cellTypes Tryz.prog.depth a with
  |some c=>c.all λd=>match Tryz.prog.underlying d with
   |some (.int _)=>J
   |_=>Xp
  |none=>Xp)
 |none=>Xp
theorem Uq:(Rj 1&&Rj 2&&Rj 3&&Rj 4&&Rj 5&&Rj 6)=J:=by decide+kernel
noncomputable def WO:Xy:=match(begin Tryz.prog (λ_ _=>0) default).world.heap[7]? with
 |some (Obj.cells b _ c)=>decide (0<b.size)&&decide (c.1=c.2)&&b.all λa=>match a with
  |Xn.int _ _=>J
  |_=>Xp
 |_=>Xp
theorem VX:WO=J:=by decide+kernel
noncomputable def Uj:Xy:=match(((begin Tryz.prog (λ_ _=>0) default).world.heap[1]?).bind Obj.row?)with
 |some (zero,a)=>decide (zero.size=1)&&Tryz.prog.buildable a&&decide (Tryz.prog.cellTypes Tryz.prog.depth a=C [3])
 |none=>Xp
theorem Uk:Uj=J:=by decide+kernel
theorem Ql(w:q.ShapedOpen Tryz.prog):EV q/\8<=q.heap.size/\∃n,q.cell? ⟨1,0,F⟩=C (Xo M n):=by
 have t:Tryz.prog.globals.size=7:=by decide+kernel
 have k:∀c,Rj c=J->c<7->∃h g i,q.heap[c]?=C (Xx h g i)/\0<h.size/\i.1=i.2/\∀a∈h.toList,∃S b,a=.int S b:=λc l p=>by
  unfold Rj at l;split at l
  .rename_i zero g z;simp only[Ys,Zn]at l;obtain⟨⟨c0,a4⟩,Q⟩:=l;obtain⟨o,u,b2,y⟩:=w.1 c zero g (by rw[t];exact p) z;obtain⟨b9,r,b1,x⟩:=y a4;rw[r]at Q;refine⟨o,g,_,u,by omega,A,λa d=>?_⟩;obtain⟨b5,a6⟩:=Xq.getElem?_of_mem d;obtain⟨D,s,m⟩:=x b5 a (by rw[<-g_];exact a6);have R:=Zk.1 Q D (Yn s);split at R
   .rename_i S a7;unfold Cell.ok at m;rw[a7]at m;cases a<;>first|exact⟨_,_,rfl⟩|exact False.elim m
   cases R
  cases l
 have f:=VX;unfold WO at f;split at f
 .rename_i h g i H;simp only[Ys,Zn]at f;have a9:=(XZ.1 H).1;obtain⟨T,b7,v,L,N⟩:=w.2 7 (by rw[t];exact Ye _) a9;have a8:K.looseAt (7-Tryz.prog.globals.size)=Xp:=by rw[t];rfl
  rw[a8]at N;have U:T=b7:=by simpa using N
  rw[H]at L;have W:T=.cells h g i:=U.trans (YR L).symm;rw[W]at v;have O:=Uq;simp only[Ys]at O;obtain⟨⟨⟨⟨⟨X,Y⟩,Z⟩,a0⟩,a1⟩,a2⟩:=O;refine⟨λe a3=>?_,by have:=(XZ.1 v).1;omega,?_⟩
  .obtain⟨c6,c7⟩:=a3;rcases(by omega:e=1\/e=2\/e=3\/e=4\/e=5\/e=6\/e=7)with rfl|rfl|rfl|rfl|rfl|rfl|rfl
   .exact k 1 X (by decide)
   .exact k 2 Y (by decide)
   .exact k 3 Z (by decide)
   .exact k 4 a0 (by decide)
   .exact k 5 a1 (by decide)
   .exact k 6 a2 (by decide)
   refine⟨h,g,i,v,f.1.1,f.1.2,λa d=>?_⟩;have:=Xu.all_eq_true'.1 f.2 a (YK.1 d);split at this
   .exact⟨_,_,A⟩
   cases this
  have c:=Uk;unfold Uj at c;split at c
  .rename_i zero b8 z;simp only[Ys,Zn]at c;obtain⟨⟨c8,a5⟩,b3⟩:=c;obtain⟨o,u,b2,y⟩:=w.1 1 zero b8 (by rw[t];decide) z;obtain⟨b9,r,b1,x⟩:=y a5;rw[b3]at r;cases r;have p:0<o.size:=by omega
   obtain⟨D,s,m⟩:=x 0 o[0] (Yb p);obtain rfl:D=3:=by have:([3]:Xq XA)[0%([3]:Xq XA).length]?=C 3:=A;rw[this]at s;exact(YR s).symm
   have b4:Tryz.prog.underlying 3=C (.int M):=A
   have b6:∀a,Cell.ok Tryz.prog q .any 0 3 a->∃n,a=Xo M n:=λa d=>by unfold Cell.ok at d;rw[b4]at d;cases a<;>first|(obtain⟨rfl,_⟩:=d;exact⟨_,A⟩)|exact False.elim d
   obtain⟨n,b0⟩:=b6 _ m;exact⟨n,aa u 0 (by rw[Yb p,b0])⟩
  cases c
 cases f
theorem BY(a c b:E):(⟨a,c,F⟩:XG).add b=⟨a,c+b,F⟩:=by unfold Addr.add;split<;>simp_all
theorem Dn{d e:Type}{f:d->Xz e}:∀{c:Xq d}{b:Xq e},c.mapM f=C b->b.length=c.length
 |[],b,a=>by simp at a;subst a;rfl
 |h::c,b,a=>by simp only[abr,Xz.bind_eq_bind,Yl,Xz.pure_def,Yr]at a;obtain⟨i,k,l,g,rfl⟩:=a;simp[Dn g]
theorem Fo{base:E}{e:XG}{d:Xq Xn}(c:q.cells? base e b=C d):∀(j:E) a,d[j]?=C a->q.cell? (e.add j)=C a:=by
 unfold K.cells? at c;split at c
 .intro j a g;have k:d.length=b:=by
   have:=Dn c;simpa using this
  have i:j<b:=by rw[<-k];exact(YM.1 g).1
  obtain⟨l,f,h⟩:=Go.Lib.mapM_at c j j (by simp[i]);rw[g]at f;cases f;exact h
 cases c
theorem JZ{e:Type}{d:XA×Xn->e}{T:DataW e}{b2:Xq MemPlace}{S:E}(r:Xn.okWide Tryz.prog q .any S 22 c)(g:DataW.Trod d Tryz.prog q 0 (λ_=>J) J 22 c T b2):
 ∃b4 O b t x,@pj ⟨⟨q,xz⟩⟩ c b4 O b t x:=by
 obtain⟨c6,L⟩:=g;obtain⟨U,u⟩:∃U:Unit,Tryz.prog.underlying 22=C (.slice 72):=⟨(),A⟩;have a9:c.cells.toList=[c]:=by unfold Xn.okWide at r;rw[u]at r;unfold Cell.okWide at r;rw[u]at r;unfold Cell.ok at r;rw[u]at r;cases c<;>first|rfl|exact False.elim r
 rw[a9]at L;rcases Go.Deep.open_slice u L with⟨y,_⟩|⟨o,len,t,b1,b,b6,b7,y,c7,c8,a5,a7,_,H⟩
 .cases y;exact⟨Xw F 0 0,F,0,0,λ_=>#[],@pj.mk ⟨⟨q,xz⟩⟩ _ _ _ _ _ _ A (λb5=>.aO _ _) (by decide) λf p=>absurd p (aa5 _)⟩
 cases y;have a4:Tryz.prog.cellsOf 72=7:=by decide+kernel
 rw[a4]at H;have c9:b1=t:=by rw[a7];rfl
 have cell:∀f,f<len->∃s,(∀j a,s[j]?=C a->q.cell? ((o.add (f*7)).add j)=C a)/\∃h l m n k i swa,s=(OC h l m n k i swa).toList/\fits h/\fits l/\fits m/\fits n/\fits k/\(i.size:Xt)<2^63:=λf p=>by obtain⟨s,q1,b3⟩:=H f (by omega);exact⟨s,Fo q1,KQ b3⟩
 have spot:0<len->o.spot=F/\o.block<q.heap.size:=λa2=>by
  obtain⟨s,q1,h,l,m,n,k,i,swa,rfl,_⟩:=cell 0 a2;have g:=q1 0 _ A;rw[abB]at g;have w:((o.add 0).add 0)=o:=by simp[Addr.add]
  rw[w]at g;unfold K.cell? at g;split at g
  .rename_i b9 d0 c0 a3;refine⟨?_,(XZ.1 a3).1⟩;split at g
   .cases g
   rename_i a8;simpa using a8
  cases g
 have row:∀f,∃w:Xu Xn,f<len->∃v N h l m n k i swa,C o=C (⟨v,N,F⟩:XG)/\v<q.heap.size/\w=OC h l m n k i swa/\fits h/\fits l/\fits m/\fits n/\fits k/\(i.size:Xt)<2^63/\∀j a,(OC h l m n k i swa)[j]?=C a->q.cell? ⟨v,N+f*7+j,F⟩=C a:=λf=>by
  by_cases p:f<len
  .obtain⟨s,q1,h,l,m,n,k,i,swa,rfl,W,X,Y,Z,a0,a1⟩:=cell f p;obtain⟨z,D⟩:=spot (by omega);obtain⟨Q,R,b8⟩:=o;simp only at z D;subst z;refine⟨OC h l m n k i swa,λ_=>⟨Q,R,h,l,m,n,k,i,swa,A,D,A,W,X,Y,Z,a0,a1,λj a b0=>?_⟩⟩;have:=q1 j a (by rw[g_];exact b0);rw[BY,BY]at this;exact this
  exact⟨#[],λg=>absurd g p⟩
 obtain⟨x,a6⟩:=Classical.axiomOfChoice row;exact⟨.tuple #[],C o,len,t,x,@pj.mk ⟨⟨q,xz⟩⟩ _ _ _ _ _ _ A (λb5=>.bS trivial) (by unfold maxLen at a5;omega) λf p=>a6 f p⟩
end Go.Sv
namespace Go.Sv
open Go.Proofs Go.RowKit Go.Lib Go.MapKept Go.WideShapes
open Go.Sim (aS aQ bN Closed al an aw gQ aU Ren mF kX Base)
theorem Xi(a:Xt)(b:Xt)(c:Xn):#[Xo M a,Xo M b,c]++Array.replicate (Tryz.f5.ntmps-(#[Xo M a,Xo M b,c]).size) I=(gI 108 [(0,Xo M a),(1,Xo M b),(2,c)] λ_=>I).tmps:=by kernel_rfl
section
variable{q:K}
theorem Bz(e:EV q)(R:ux q)(U:∃k,q.cell? ⟨1,0,F⟩=C (Xo M k))(u:8<=q.heap.size){a:Xt}(N:-2^63<=a/\a<2^63){b:Xt}(O:-2^63<=b/\b<2^63){c m:Xn}{x:Xz XG}{Z D:E}{L:E->Xu Xn}(o:@pj ⟨⟨q,xz⟩⟩ c m x Z D L):
 ∃p last l n w,runNT TP (p+1) (Go.Conc.solo (Go.Conc.G (Frame.enter TP 5 #[Xo M a,Xo M b,c] .normal) []) q) #[]=(.ended l n,w)/\runN TP p (Go.Conc.solo (Go.Conc.G (Frame.enter TP 5 #[Xo M a,Xo M b,c] .normal) []) q)=.next last/\step TP last=.ended l n/\
  Go.Conc.Good TP (λa2 f=>a2=.bool J/\(∀d,d<q.heap.size->f.heap[d]?=q.heap[d]?)/\q.heap.size<=f.heap.size/\f.os=q.os/\f.output=q.output) last l n w:=by
 letI:Inhabited Go.Sim.aN:=⟨⟨q,xz⟩⟩
 have Y:Go.Sim.IA=xz:=A;have y:Go.Sim.Inv TP al xz yt (gL q):=⟨vg,Di e,Qk e⟩;have X:(∃k,(gL q).cell? ⟨1,0,F⟩=C (Xo M k))/\ux (gL q)/\4<(gL q).heap.size:=Ul e R U u;refine Go.Sim.Gz (m:=yt) (d:=gL q) (f:=al) (h:=xz) ?_ (Go.Sim.Mi vg (Ka e) (Di e) (λz d h=>h.2) λz h=>h)
 have H:Frame.enter TP 5 #[Xo M a,Xo M b,c] .normal=(Go.Conc.base 5).at ⟨#[Xo M a,Xo M b,c]++Array.replicate (Tryz.f5.ntmps-(#[Xo M a,Xo M b,c]).size) I,[]⟩ [.code (Tryz.f5.body.getD .skip)]:=by rfl
 rw[H];refine By (g:=λ_=>I) N O o (VP Y e u) X (by simp[vW]) yt [] _ A y ?_ λa8 c6 a6 r b8 a4 b0 t a0=>?_
 .have S:aw al yt #[Xo M a,Xo M b,m] #[Xo M a,Xo M b,c]:=by
   refine⟨A,λv b9 a3 g i=>?_⟩;rcases v with _|_|_|v
   .cases g;cases i;exact .int _ _
   .cases g;cases i;exact .int _ _
   .cases g;cases i;exact o.rel _
   simp at g
  refine⟨?_,⟨[],A,.nil⟩,λb3 b2=>?_⟩
  .rw[<-Xi a b m];exact S.append (Go.Sim.aw.replicate _ Go.Sim.aX)
  simp_all
 obtain⟨rfl,hd,Q⟩:=a0;intro b5;have W:r.defers=[]:=by obtain⟨a7,a9,s⟩:=t.defers;rw[hd]at s;cases s;simp_all
 have b1:r.tmps[6]?=C (.bool J):=by obtain⟨a3,q1,a1⟩:=t.tmps.get Q;cases a1;exact q1
 refine Go.Sim.PM A λf hrel jV=>⟨.bool J,GJ A W Tryz.func5 ?_ ?_ (by decide+kernel),A,?_⟩
 .simp_all [results]
 .simp[results]
 exact⟨λd T=>jV.heap d T,jV.size,jV.os,jV.out⟩
end
end Go.Sv
namespace Go.Proofs.YtfgpkeppjomkmaaGreatDoor
open Go.ChangeShapes Go.WideShapes Go.ChangeAt Go.RowKit Go.Conc
theorem Tryz.own:ownKnob Tryz.prog.godebug=F:=by kernel_rfl
theorem Tryz.laidOut:laidOutB Tryz.prog=J:=by kernel_rfl
theorem um(f:Os)(d6:f.Started)(N:Type)(d:XA×Xn->N):
 ReturnsInLeavingWide jq.assume Tryz.checked f 5 .any (jq.pre d Tryz.prog Tryz.f5 (OpenSpec.ofChange EW)) (EW.post d Tryz.prog Tryz.f5 jq.apart jq.fresh jq.handsOn jq.again):=by
 refine returnsInLeavingWide_of_good (C:=Tryz.checked) Tryz.own d6 ?_ ?_
 .exact ChangeSpec.witness_shaped (enc:=d) (C:=Tryz.checked) (os:=f) (fn:=Tryz.f5) (s:=EW) (conds:=[]) (apart:=Xp) (X:=λa _=>laidMetH Tryz.prog jq.laid a) Xp (K.laidAll Tryz.prog f jq.laid) #[Xo M 0,Xo M 0,Xw F 0 0] 8 (K.laidAll_os _ _ _)
   (K.shaped_of_ZipB (by kernel_rfl) (by kernel_rfl)) (by kernel_rfl) (by kernel_rfl) (by kernel_rfl)
   (by exact laidMet_laidAll _ (by kernel_rfl) (by kernel_rfl))
 intro a tape b g1 b6 g3 b0 b4 g0;obtain⟨_,_,_,f4,a5,_,_,_,_,b9⟩:=b0;obtain rfl:=YR (a5.symm.trans Tryz.func5);obtain⟨⟨⟨f2,f6,e5,c6,f9⟩,l⟩,g4⟩:=b4;have h:=DataW.Whole.of_heap (w':=a.forCall tape b) (by rfl) c6;have u:laidMetH Tryz.prog jq.laid (a.forCall tape b):=laidMetH.of_heap (by rfl) l;have x:(a.forCall tape b).ShapedOpen Tryz.prog:=b6;have c:∀(j:E) D p,Tryz.f5.params[j]?=C D->b.args[j]?=C p->Xn.okWide Tryz.prog (a.forCall tape b) .any a.heap.size D p:=b9;generalize f8:a.forCall tape b=q at h u x c⊢
 generalize b.args=e4 at h c⊢
 have v:=h;obtain⟨g5,g8,X,Z,rfl,_,_⟩:=h;have t:=X;rw[Tryz.params5]at t c;obtain⟨d7,d8,H,e9,f0,f1,g6,g7,y,rfl,rfl,rfl,d1,q1,z⟩:=trodAll_three t;obtain⟨rfl,rfl⟩:=trodVars_none Z;obtain⟨nums,c7,a9⟩:=Go.Sv.Ql x;have Y:Go.Sv.ux q:=by
  obtain⟨f5,o,s,R,d0,a6,g2,c0,hd⟩:=Go.Lib.laidMet.reads u (n:= "internal/strconv.uint64pow10") (d:=Rows.laid_internal_strconv_uint64pow10) (.tail _ (.tail _ (.head _)));obtain rfl:=(YR (Go.Sv.pW.symm.trans a6)).symm;obtain rfl:o=386:=by
   have f7:(Tryz.prog.globals[4]?).map (·.type)=C 386:=by kernel_rfl
   simp_all
  obtain⟨g,e,b8,a4,a0,a2⟩:∃g e,Tryz.prog.underlying 386=C (.array e g)/\Tryz.prog.underlying g=C (.int .u64)/\Tryz.prog.cellsOf g=1/\Tryz.prog.cellsOf 386=e:=⟨_,_,A,A,by kernel_rfl,A⟩;have a3:DataW.trod (λ_=>()) Tryz.prog q 0 (λ_=>J) Xp R 386 s.toList=C (Go.Lib.tabData .u64 Go.Lib.pow10Tab,d0):=hd;have a1:=Go.Lib.cells_of_tab b8 a4 a0 a2 a3;show Go.Lib.TabIs _ _ _ _ _;unfold Go.Lib.TabIs;rw[show q.var? Go.Sim.TP "internal/strconv.uint64pow10"=C s from c0,<-a1]
 obtain⟨h0,e1,e,e6,f3,O⟩:=Go.Sv.JZ (c 2 _ H A rfl) z;have W:=z;obtain⟨m,rfl,rfl,rfl,d9⟩:=open_int Tryz.underlying3 (c 0 _ d7 A rfl) d1;have T:-2^63<=m/\m<2^63:=by grind [Lit.wf,IntKind.min,IntKind.max,IntKind.signed,IntKind.bits]
 obtain⟨n,rfl,rfl,rfl,e0⟩:=open_int Tryz.underlying3 (c 1 _ d8 A rfl) q1;have U:-2^63<=n/\n<2^63:=by grind [Lit.wf,IntKind.min,IntKind.max,IntKind.signed,IntKind.bits]
 obtain⟨Q,last,c9,i,o,d2,d3,d4,d5⟩:=Go.Sv.Bz nums Y a9 c7 T U O;refine⟨Q,last,c9,i,o,d2,d3,d4,d5.mono λp k=>?_⟩;obtain⟨rfl,b1,b7,b2,b3⟩:=k;have w:Below q.heap.size q {i with tape:=q.tape}:=⟨b2,A,b3,b7,λc8 a7=>b1 c8 a7⟩;have a8:∀r∈y,r.block<q.heap.size:=λr l=>v.lt r (by simp[l])
 have k:EW.post d Tryz.prog Tryz.f5 jq.apart jq.fresh jq.handsOn jq.again q #[Xo M m,Xo M n,H] (.bool J) {i with tape:=q.tape}:=
  ⟨_,_,_,[],[]++([]++y),[],v,trodAll_mk1 (shut_bool Tryz.underlying4 _),trodAll_mk3 (shut_int Tryz.underlying3 d9) (shut_int Tryz.underlying3 e0) (Below.trod Tryz.laidOut (by kernel_rfl) (of_decide_eq_true (by kernel_rfl)) W w a8),A,w.frame _,λS=>by cases S⟩
 have b5:=ChangeSpec.post_blind k;exact b5
end Go.Proofs.YtfgpkeppjomkmaaGreatDoor
namespace Go.Proofs.YtfgpkeppjomkmaaGreatDoor
open Go.ChangeShapes Go.WideShapes Go.ChangeAt Go.RowKit Go.Conc
theorem wZ:Rows.TogetherSaid:=
 OpenClaim.holds_of_wide_leaving 5 Tryz.f5 A rfl rfl rfl rfl rfl rfl ⟨A,A,A,A,A⟩ A rfl rfl rfl rfl nC Tryz.func5 uk ye yh
  (λc d a b _=>um c d a b)
theorem uo:jq.wfByText (OpenSpec.ofChange EW)=J:=by kernel_rfl
theorem yf:jW.mainIs=C (J,"4ca961c1605857c738903d8913d06c658404b6c38c60f97ea9f6d2ec8fdb8f47".toList):=by kernel_rfl
theorem xa:J=jW.looks []:=by kernel_rfl
theorem yd:J=jq.goesBy jW:=by kernel_rfl
theorem xd:([3,3,22].all λa=>!Tryz.prog.wantsStandIn a)=J:=by kernel_rfl
theorem togetherCard:Rows.TogetherCardSaid:=by
 have h:∀b fn,jW.funcNamed jq.func=C b->jW.funcs[b]?=C fn->J=jW.looks []/\∀(j:E) a,fn.params[j]?=C a->jW.wantsStandIn a=Xp:=λb fn f g=>by
  obtain rfl:=(YR (nC.symm.trans f)).symm;obtain rfl:=(YR (Tryz.func5.symm.trans g)).symm
  exact⟨xa,λj a i=>by
   rw[Tryz.params5]at i
   exact(show Tryz.prog.wantsStandIn a=Xp by grind [xd])⟩
 have d:Claim7.isSixth {stood:={row:=jq,standIns:=[],harness:=(J,"4ca961c1605857c738903d8913d06c658404b6c38c60f97ea9f6d2ec8fdb8f47"),looks:=J},kinds:=[]}=Xp:=A;exact⟨Claim7.tied_new_at .later [.data,.data,.data,.data,.pinned] J (Claim7.new_of_sixth wZ (J,"4ca961c1605857c738903d8913d06c658404b6c38c60f97ea9f6d2ec8fdb8f47") J rfl ⟨A,A⟩ yf d h) uo,(λk e=>by cases e),together_row_tie,(λc=>by cases c),yd⟩
end Go.Proofs.YtfgpkeppjomkmaaGreatDoor
