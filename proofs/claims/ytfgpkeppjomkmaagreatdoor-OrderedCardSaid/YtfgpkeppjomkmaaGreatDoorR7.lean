/- Proved here: parts of the proof of the claimed theorem, no conditions; the last text states it -/
import Derived.Test.YtfgpkeppjomkmaaGreatDoorTie
import Derived.Test.YtfgpkeppjomkmaaGreatDoorCards
import Derived.Test.YtfgpkeppjomkmaaGreatDoorR6
set_option linter.all false
set_option maxRecDepth 100000
set_option maxHeartbeats 16000000
open _root_ renaming rfl->A,Nat->E,List->Xg,Int->Xj,Array->Xk,Bool->Xo,Option->Xp,if_neg->Xx,ByteArray->XB,if_pos->XC
open Option renaming some->C,none->F
open Go renaming undef->I,World->M,Value->Xe,TypeId->Xq,Frame->Xr,Goroutine->Xt,Act->Xu,Addr->Xw,Program->Xy,Sem->Xz,Trace->XD,Event->XF,Code->XG,MapEntry->XH,FuncId->XI,Operand->XJ
open Bool renaming true->J,false->Xf
open Go.Lib renaming hid->Xl
open Go.MemOp renaming ofEvents->XE
open Go.Op renaming operands->XK
open Go.MemAct renaming ofEvent->XM
open Go.IntKind renaming i64->K
open Go.Value renaming int->Xd,slice->Xm,pointer->XA
open Or renaming inl->Xh,inr->Xi
open Go.Obj renaming cells->Xn
open Go.Ending renaming returned->Xs
open Go.Item renaming inRegion->Xv
namespace Go.Sv
open Go.MapKept Go.Proofs Go.RowKit Go.Lib Go.WideShapes Go.Sort Go.Sim Wt
variable{u:E}{y:cN}{c:M}{w':M}{b:E}{R:E}{i:E}{f:E->Prop}{m:Xe}{z:dB}{Q:Xp Xw}
section
variable[Inhabited aM]
def fG.clear(d:fG):fG:={d with ov:=Xm F 0 0,vs:=[]}
section
variable{q:Xj}{o:Xg Out}{d:fG}
theorem jo(a:aI u y.tree d.clear b):aI u y.tree d b:=by
 rcases a with a|a|a|a|a
 .exact Xh a
 .exact Xi (Xh a)
 .exact Xi (Xi (Xh a))
 .exact Xi (Xi (Xi (Xh a)))
 cases a
theorem sU(a:dw d.clear b):b=1\/b=4:=by
 rcases a with a|a|⟨m,c,_⟩
 .exact Xh a
 .exact Xi a
 cases c
theorem aK.clear(a:aK u q y o d c)(xo:w'.heap[u]?=C (Xn (EJ y.timeout q d.tb d.tw d.hb y.now y.aL y.next (Xm F 0 0) .nilFunc) 98 (0,0)))(U:c.heap.size<=w'.heap.size)(w:∀b,b<c.heap.size->b≠u->w'.heap[b]?=c.heap[b]?):aK u q y [] d.clear w':=by
 obtain⟨jc,Y,Z,a0,D,a8,a1⟩:=a.jc;have kp:∀b,aI u y.tree d b->jc b≠3->w'.heap[b]?=c.heap[b]?:=λb g O=>w b (a.bj g) (λv=>O (v▸D));have t:=λb g=>kp b (Xi (Xh g)) (by simp_all);have T:=λb g=>kp b (Xi (Xi (Xh g))) (by simp_all)
 have W:∀b,b=1\/b=4->w'.heap[b]?=c.heap[b]?:=λb g=>by have X:dw d b:=g.elim Xh (λl=>Xi (Xh l));exact w b (a.iY X) (λv=>by simp_all)
 exact{
  tree:=a.tree.stay λH x=>⟨t _ (Xi ⟨H,x,Xh A⟩),t _ (Xi ⟨H,x,Xi A⟩)⟩
  top:=by obtain⟨a3,L,n⟩:=a.top;exact⟨a3,L,by show w'.heap[d.tb]?=_;rw[t _ (.inl A)];exact n⟩
  wf:=a.wf
  cd:=a.cd.stay T
  jB:=by show∃a6 a5,w'.heap[d.hb]?=_/\_;rw[kp d.hb (.inr (.inr (.inr (.inl A)))) (by omega)];exact a.jB
  ch:=xo
  row:=cr.nil _ _ _ _
  outs:=⟨A,λa7 a9 m l _=>by simp at l⟩
  bF:=by obtain⟨⟨a2,S⟩,n,N⟩:=a.bF;exact⟨⟨a2,bW (W 1 (Xh A)) S⟩,n.stay (by simp_all),XY N U⟩
  jc:=⟨jc,Y,Z,a0,D,λb l=>(by cases l),λb g=>a1 b ((sU g).elim Xh (λl=>Xi (Xh l)))⟩}
structure pX(h R u:E)(q:Xj)(y:cN)(k:E)(o:Xg Out)(d:fG)(c:M):Prop where
 gI:aK u q y o d c
 ptr:c.heap[R]?=C (Xn #[pt u 0] 78 (0,0))
 ok:Ok y k
 own:∀b,aI u y.tree d b->h<=b/\b≠R
 KY:h<=R
 use:∀b,dw d b->b=1\/b=4\/h<=b
theorem pX.old{h k:E}(a:pX h R u q y k o d c)(l:c.heap.size<=w'.heap.size)(g:∀b,b<c.heap.size->w'.heap[b]?=c.heap[b]?):pX h R u q y k o d w':=
 ⟨a.gI.old l g,by rw[g R (XN.1 a.ptr).1];exact a.ptr,a.ok,a.own,a.KY,a.use⟩
end
section
variable{e:E->ew}
theorem foldl_congr{n w:Type}{t g:n->w->n}:∀(a:Xg w)(b:n),(∀b,∀l∈a,t b l=g b l)->a.foldl t b=a.foldl g b
 |[],_,_=>rfl
 |l::a,b,v=>by rw[ZW,ZW,v b l (YZ ..)];exact foldl_congr a _ λb D x=>v b D (Ym _ x)
theorem th(y:cN)(a:Xj)(b:ew)(c:Xg ew):Wt.handle y a (b::c)=((Wt.handle (Wt.step y a b).1 (a+1) c).1,(Wt.step y a b).2++(Wt.handle (Wt.step y a b).1 (a+1) c).2):=A
theorem CG(e:E->ew):∀(b:Xg ew)(a:E)(c:Sg),(∀f d,b[f]?=C d->e (a+f)=d)->
 (Xg.range' a b.length).foldl (wm e) c=⟨(Wt.handle c.gI a b).1,c.outs++(Wt.handle c.gI a b).2,c.cnt+b.length⟩
 |[],a,c,_=>by simp[Wt.handle]
 |d::b,a,c,g=>by
  have h:e a=d:=by simpa using g 0 d (by simp)
  rw[Yl,Xg.range'_succ,ZW,CG e b (a+1) _ λf k i=>by
   have:=g (f+1) k (by simpa using i)
   rw[<-this];congr 1;omega]
  rw[th];unfold wm;simp only[h,ZJ,Xj.natCast_add,Xj.cast_ofNat_Int,Sg.mk.injEq,true_and];omega
theorem KD(D:i<=64)(a:Sg){l:Xg ew}(v:l.length=i)(x:∀g n,l[g]?=C n->e g=n):
 (Xg.range i).foldl (Sim.stepT (Ga e) (wm e) (tq e)) a=⟨(Wt.handle a.gI 0 l).1,a.outs++(Wt.handle a.gI 0 l).2,a.cnt+i⟩:=by
 rw[foldl_congr (g:=wm e) _ _ λb g t=>?_]
 .rw[W_,<-v];exact CG e l 0 a λg n t=>by simp_all
 unfold Sim.stepT;cases H:tq e g with
 |true=>grind [Ij]
 |false=>rfl
end
structure xv(f:E->Prop)(h:E)(c:M):Prop where
 lt:∀b,f b->b<h
 cl:Closed f c
 wh:∀b,f b->(c.heap[b]?).map Sim.Obj.whole=c.heap[b]?
 gl:∀a,(0<a\/a=TP.globals.size)->a<=TP.globals.size->f a
 rb:∀b,Im b->f b
theorem xv.keep{h:E}(a:xv f h c)(e:∀b,f b->w'.heap[b]?=c.heap[b]?):xv f h w':=
 ⟨a.lt,λb d=>by rw[e b d];exact a.cl b d,λb d=>by rw[e b d];exact a.wh b d,a.gl,a.rb⟩
def oU(h R:E)(own:E->Prop)(Q:Xp Xw)(i:E)(rq:E->RV)(c:M):Prop:=
 (Q=F/\i=0)\/∃b f a l e,Q=C ⟨b,f,F⟩/\c.heap[b]?=C (Xn a l e)/\0<a.size/\e.2<=a.size/\(∀(k:E) g,a[k]?=C g->aR (λ_=>False) g)/\¬aT a/\(∀d,d<i->∀j,j<8->a[f+d*8+j]?=(rq d).jf[j]?)/\h<=b/\b≠R/\¬own b
theorem pI{a c:E->Prop}(d:aR a m)(e:∀b,a b->c b):aR c m:=aR.mono e d
theorem ve(a:gd c w' b){d:Xk Xe}{f:Xq}{e:E×E}(n:c.heap[b]?=C (Xn d f e))(o:¬aT d):w'.heap[b]?=c.heap[b]?:=by
 rcases a with a|⟨g,p,h,i,k,l,m⟩
 .exact a
 simp_all
section
variable{h r k s:E}{o:Xg Out}{d:fG}{rq:E->RV}{e:E->ew}{p:Xg ew}
structure dH(ro:E->Prop)(h R u r:E)(y:cN)(k:E)(d:fG)(Q:Xp Xw)(p:Xg ew)(c:M)(m:Xe)(w':M)(a:fG):Prop where
 at':pX h R u r (Wt.handle y 0 p).1 (k+p.length) (Wt.handle y 0 p).2 a w'
 val:m=a.ov
 keep:∀b,b<c.heap.size->¬aI u y.tree d b->(∀g,Q≠C ⟨b,g,F⟩)->gd c w' b
 ro:∀b,ro b->w'.heap[b]?=c.heap[b]?
 size:c.heap.size<=w'.heap.size
 own:∀b,aI u (Wt.handle y 0 p).1.tree a b->aI u y.tree d b\/c.heap.size<=b
 use:∀b,dw a b->b=1\/b=4\/c.heap.size<=b
 iK:∀b g,Q=C ⟨b,g,F⟩->w'.heap[b]?=(c.heap[b]?).map Sim.Obj.whole
theorem Fp(t:pX h R u r y k o d c)(w:xv f h c)(d4:1<=r/\r<2^16)(O:oU h R (aI u y.tree d) Q i rq c)(a9:i<=64)(c8:k<2^16)
 (b1:∀g,g<i->RQ (rq g) (e g))(d7:∀g,g<i->qc (e g).op)(a7:∀g,g<i->(e g).op.kind=1\/(e g).op.kind=3\/(e g).op.kind=4\/(e g).op.kind=5\/(e g).op.kind=6\/(e g).op.kind=8\/(e g).op.kind=9\/(e g).op.kind=10)
 (d6:∀g,(rq g).oa=F)(d2:p.length=i)(d8:∀g b3,p[g]?=C b3->e g=b3):
 Co (goalAt TP F F z al f) 31 #[pt u 0,.slice Q i s] c λm w'=>∃c0,dH f h R u r y k d Q p c m w' c0:=by
 obtain⟨x,c9⟩:∃x:E->Prop,x=λb=>f b\/∃v,Q=C ⟨b,v,F⟩:=by simp
 have S:∀b,f b->x b:=by simp_all
 have Y:∀b,x b->f b\/∃v,Q=C ⟨b,v,F⟩:=by simp_all
 have bj:∀b,aI u y.tree d b->b<c.heap.size:=λb a=>t.gI.bj a
 have b2:∀b,aI u y.tree d b->¬x b:=λb a H=>by
  rcases Y b H with q|⟨v,q⟩
  .have:=w.lt b q;have:=(t.own b a).1;omega
  rcases O with⟨l,_⟩|⟨U,W,T,X,N,l,_,_,_,_,_,_,_,_,a5⟩
  .rw[q]at l;cases l
  simp_all
 have d0:Closed x c:=λb n=>by
  rcases Y b n with q|⟨v,q⟩
  .obtain⟨a2,g4,N,q1,a1,e5,e6,e7⟩:=w.cl b q
   grind [pI]
  rcases O with⟨l,_⟩|⟨U,W,T,X,N,l,q1,a1,e5,e6,e7,_⟩
  .rw[q]at l;cases l
  grind [pI]
 have e4:=S 1 (w.gl 1 (Xh (by decide)) (by simp));have HC:=SB (p:=k) (u:=u) b1 d7 a7 c8 a9 e4 d4;have xo:=b2 u (Xh A)
 have c7:Ls x c Q i s rq (KI e rq):={
  closed:=d0
  bF:=λa4 q l=>S a4 (w.gl a4 q l)
  list:=λb n=>by
   rcases O with⟨l,_⟩|⟨U,W,T,X,N,l,_⟩
   .rw[n]at l;cases l
   grind
  elem:=λg a0=>by
   rcases O with⟨_,l⟩|⟨U,W,T,X,N,l,q1,_,_,_,_,g0,_⟩
   .omega
   grind
  NS:=λg a0 w' _=>SZ (b1 g a0) (a7 g a0) (by omega) w'
  only:=λg=>by
   refine .iface _ (.agg λf6 g9 H=>?_);have a8:=Yz.2 (Ys H);simp only[aP,XV,Yd,YS]at a8;rcases a8 with rfl|rfl|rfl|rfl|rfl|rfl|rfl|rfl|rfl
   case inr.inr.inr.inr.inr.inr.inr.inr=>rw[d6 g];exact .aO _ _
   all_goals first|exact .int _ _|exact .string _|exact .bool _
  small:=by omega}
 have base:=JD (z:=z) (h:=⟨y,[],0⟩) (c:=aI u y.tree d.clear) (i:=dw d.clear) (f:=f) HC A c7 t.gI.ch (by simp) A xo (Xh A) S w.rb (λb n=>⟨bj b (jo n),b2 b (jo n)⟩) (λe9 Z=>?_) (λg2 own g5 g8⟨a3,L,_⟩=>⟨_,_,_,_,L.ch,A⟩)
 .intro f0 b8 a2 b9 b5 n next
  refine base f0 b8 a2 b9 b5 n λf1 m e8 b4 b6 c6 e3⟨f8,g6,⟨a3,L,d5,e2,q1,a1⟩,f4,D,a6⟩=>next f1 m e8 b4 b6 c6 e3 ?_
  subst d5 e2;have d1:=KD (e:=e) a9 ⟨y,[],0⟩ d2 d8;rw[d1]at L D q1 a1;have b0:=λb a=>(D.more b a).imp jo id;have e0:b4.heap[R]?=c.heap[R]?:=by
   refine ve (D.keep R (XN.1 t.ptr).1 (λa=>(t.own R (jo a)).2 A) (λa=>?_)) t.ptr ?_
   .rcases Y R a with q|⟨v,q⟩
    .have:=w.lt R q;have:=t.KY;omega
    rcases O with⟨l,_⟩|⟨U,W,T,X,N,l,_,_,_,_,_,_,_,a5,_⟩
    .rw[q]at l;cases l
    rw[q]at l;cases l;exact a5 A
   simp[mZ]
  refine⟨a3,⟨L,by rw[e0];exact t.ptr,by simp_all,λb n=>?_,t.KY,λb n=>?_⟩,?_,λb n d3 f5=>?_,λb n=>?_,D.size,b0,λb n=>?_,λb v a=>D.list b (by rw[c9];exact Xi ⟨v,a⟩)⟩
  .have e1:=(XN.1 t.ptr).1;have d9:=t.KY;rcases b0 b n with a|a
   .exact t.own b a
   omega
  .have e1:=(XN.1 t.ptr).1;have d9:=t.KY;rcases a6 b n with a|a
   .rcases sU a with a|a
    .exact Xh a
    exact Xi (Xh a)
   omega
  .have:=aa L.ch 8 A;simp_all
  .by_cases H:x b
   .rcases Y b H with q|⟨v,q⟩
    .exact Xh (by rw[D.list b (S b q)];exact w.wh b q)
    simp_all
   exact D.keep b n (λa=>d3 (jo a)) H
  .rw[D.list b (S b n)];exact w.wh b n
  rcases a6 b n with a|a
  .exact(sU a).imp id Xh
  omega
 have b7:=t.gI.clear (w':=e9) (by rw[Z.xo];rfl) (by rw[Z.size];omega) Z.old;refine⟨d.clear,b7.same ⟨by simp[qy],λb n=>uq ?_,λb _=>yv _ _ _⟩,A,A,t.ok,by simp⟩;have q:=jo n;have l:=bj b q;rintro(a|a|a)
 .simp_all
 .omega
 omega
end
end
end Go.Sv
namespace Go.Sim
open Go.Conc Go.Proofs Go.RowKit
open Go.ConcN (PermW PermW.app PermW.of fork_knows WgLive RelBy sumTo)
open Go.ConcR (KK wgBlock WgAt stA smA rd wr mk DC0)
variable{P:Xy}{h:Set}{f:E->Prop}{c:M}{m:Xr}{n:Xg Xr}{D:Xk Oper}{N:Exit->Xu->M->Prop}{d:Xu}{l:E}{g:Oper}
section
variable[Inhabited aM]
section
variable{main:Xo}{k:Goal P h main f}
variable{e:Rt}
def Lo(P:Xy)(h:Set)(e:Rt)(D:Xk Oper)(a:Xg E):Prop:=∀l∈a,∀g,D[l]?=C g->jd P h.fn h.bi h.bZ g.op=J/\e.free g.dst=J
theorem qW(G:Good P h){w:Xu->M->Prop}:∀(H:Xg E){b:Ren}{c n:M}{d o:Xu},Lo P h e D H->Base P b->aV h b c n->ar h b e d o->Tp (λc=>wpOps P D (eP w) H d c) c->
 ∃m s y r x,Base P m/\aV h m r x/\b.le m/\ar h m e s y/\Tp (w s) r/\kT h c r
 |[],b,c,n,d,o,_,i,f,k,a=>⟨b,d,o,c,n,i,f,Ren.le_refl _,k,a,.refl _⟩
 |l::q,b,c,n,d,o,z,i,f,k,a=>by
  have v:Lo P h e D q:=λj Q=>z j (Ym _ Q);cases u:D[l]? with
  |none=>simp only[wpOps,u]at a;exact qW G q v i f k a
  |some g=>
   have t:=z l (YZ ..) g u;simp only[wpOps,u]at a;by_cases p:Region.wanted g (yielded D d.tmps)=J
   .simp only[p,Yc]at a;obtain⟨m,s,y,r,x,q1,R,S,T,U,W⟩:=NL G i f k t.1 t.2 (a.mono λc p=>p.resolve_right λa4=>fQ a4.2);obtain⟨a5,N,O,a3,L,X,Y,Z,a0,a1,a2⟩:=qW G q v q1 R T U;exact⟨a5,N,O,a3,L,X,Y,Ren.le_trans S Z,a0,a1,W.trans a2⟩
   simp only[p]at a;exact qW G q v i f (k.put g.dst t.2 aY) a
theorem lI(p:Good P h)(t:h.fr m.fn=J)(u:m.kind≠.early){y:Xu->M->Prop}{more:Xg E}:∀(Q:Xg E){d:Xu}{c:M},Lo P h e D Q->Tp (λc=>wpOps P D (eP y) Q d c) c->
 (∀o i,Tp (y o) i->gO h f c i)->(∀o i,Tp (y o) i->CO k m e n D more N o i)->CO k m e n D (Q++more) N d c
 |[],d,c,_,a,q,next=>next d c a
 |l::s,d,c,a0,a,q,next=>by
  have v:Lo P h e D s:=λj a8=>a0 j (Ym _ a8);intro a4 O a7 x w L;cases b:D[l]? with
  |none=>simp only[wpOps,b]at a;refine k.pure A rfl (λa6=>stepG_unwanted (by rw[b];rfl)) ?_;rw[b];exact lI p t u s v a q next a4 O a7 x w L
  |some g=>
   have H:=a0 l (YZ ..) g b;simp only[wpOps,b]at a;by_cases r:Region.wanted g (yielded D d.tmps)=J
   .simp only[r,Yc]at a;refine He p k t u b r H.1 H.2 x w (a.mono λc r=>r.resolve_right λa3=>fQ a3.2) (λa5 o Z i b2 q1 R a1 S T=>?_) λa5 o Z i q1 R a1 S T a9 b0=>?_
    .obtain⟨c0,z,b4,X,b3,b6,b7,b8,b9,U,b1⟩:=qW p s v q1 R S T;obtain⟨Y,W,a2⟩:=q z X U;exact⟨Y,b1.trans W,a2⟩
    refine lI p t u s v b0 (λz X U=>?_) next a5 O Z q1 a9 (L.grow ⟨R,a1,S,T⟩)
    obtain⟨Y,W,a2⟩:=q z X U;exact⟨Y,W,λa3 b5=>by simp_all⟩
   simp only[r]at a;refine k.pure A rfl (λa6=>stepG_unwanted ?_) ?_
   .rw[<-ga w.tmps];simp_all
   rw[b];exact lI p t u s v a q next a4 O _ x (w.put g.dst H.2 aY) L
theorem co_take(x:Good P h)(z:h.fr m.fn=J)(O:m.kind≠.early){v:Xg E}(Q:e.kn.map (·.1)=v)(b o:E){more:Xg E}{a:Xg Oper}(t:a.map C=(Xg.range' b o).map (λl=>D[l]?))(S:lT P h v a.toArray=J)
 (q:∀r:M,r.heap=c.heap->r.os=c.os->r.output=c.output->wpList P D (eP λp i=>tV f c i/\CO k m e n D more N p i) a d r):CO k m e n D (Xg.range' b o++more) N d c:=by
 have R:a.length=o:=by simpa using YU List.length t
 have y:∀j,j<a.length->a[j]?=D[b+j]?:=λj L=>by
  have X:=YU (λs=>s[j]?) t
  grind
 have T:Lo P h e D (Xg.range' b o):=λl H g Y=>by
  obtain⟨j,L,rfl⟩:∃j,j<o/\l=b+j:=by have:=Xg.mem_range'_1.1 H;exact⟨l-b,by omega,by omega⟩
  exact jF (nf Q S) (D:=a.toArray) (H:=j) (by simp_all)
 refine lI x z O (y:=λp i=>tV f c i/\CO k m e n D more N p i) (Xg.range' b o) T (.all λw=>by rw[<-R,GG a b y];exact q _ A rfl rfl) (λp i q=>⟨i,.refl _,?_⟩) λp i q=>Ha ?_
 .obtain⟨w,u⟩:=q.one;exactλs U=>u.1 s U
 obtain⟨w,u⟩:=q.one
 grind
end
section
variable{k:Goal P h J f}
variable{e:Rt}
theorem vm(t:Good P h){a:XI}{b r:Xk Xe}{fn:Func}{q:XG}(z:h.fr a=J)(y:P.funcs[a]?=C fn)(x:fn.body=C q){p:Xe->M->Prop}(H:b++Array.replicate (fn.ntmps-b.size) I=r)
 (v:∀u n,CW k (base a) ⟨[],[]⟩ (u::n) q N ⟨r,[]⟩ c)
 (w:∀i d c,N i d c->(i=.normal\/i=.ret)/\d.defers=[]/\∀o,∃s,(results fn d.tmps).run P {c with tape:=o}=.ok s {c with tape:=o}/\p s {c with tape:=o}):Co k a b c p:=by
 subst H;exact GZ t z y x v w
theorem Jj(u:Good P h){a:XI}{r:Xg (E×Xe)}{b s:Xk Xe}{fn:Func}{q:XG}(H:h.fr a=J)(z:P.funcs[a]?=C fn)(y:fn.body=C q){p:Xe->M->Prop}(L:b++Array.replicate (fn.ntmps-b.size) I=s)
 (w:∀v n,CW k (base a) ⟨[],r⟩ (v::n) q N ⟨s,[]⟩ c)
 (x:∀i d c,N i d c->(i=.normal\/i=.ret)/\d.defers=[]/\∀o,∃t,(results fn d.tmps).run P {c with tape:=o}=.ok t {c with tape:=o}/\p t {c with tape:=o}):UT k a r b c p:=by
 subst L;exact Mi u H z y w x
theorem kY{more:Xg E}{i:XI}{b:Xk XJ}{r:Xk Xq}{fn:Func}{s:XG}(H:m.kind≠.early)(y:e.free g.dst=J)(O:D[l]?=C g)(S:Region.wanted g (yielded D d.tmps)=J)(Q:g.op=.call {callee:=.value (.func i),args:=b,argTypes:=r})
 (z:P.funcs[i]?=C fn)(L:(fn.name== "runtime.NumGoroutine")=Xf)(w:fn.body=C s)(R:b.toList.all (du P h.fn)=J){o:Xe->M->Prop}{a:Xk Xe}(v:b.map d.eval=a)(x:Co k i a c o)
 (next:∀p q,o p q->CO k m e n D more N (d.put g.dst p) q):CO k m e n D (l::more) N d c:=by
 grind [Po]
end
end
end Go.Sim
namespace Go.Sv
open Go.MapKept Go.Proofs Go.RowKit Go.Lib Go.WideShapes Go.Sort Go.Sim Wt
variable{z:dB}{f:E->Prop}{R:E}{u:E}{h:E}{y:cN}{q:fG}{b:M}{Q:Xp Xw}{g:M}{c:Xe}{H:Xg Xr}{D:Xk Oper}{N:Exit->Xu->M->Prop}{k:Out}{e:Xk Xe}
section
variable[Inhabited aM]
variable{i m p S:E}{s:Xg Out}{rq:E->RV}{r:E->ew}{t:Xg ew}
theorem xv.eq(c:xv f i b)(d:g.heap=b.heap):xv f i g:=c.keep λa _=>by rw[d]
theorem oU.eq{own:E->Prop}(c:oU i R own Q h rq b)(a:g.heap=b.heap):oU i R own Q h rq g:=by simp_all [oU]
theorem pX.eq(c:pX i R u m y p s q b)(d:g.heap=b.heap):pX i R u m y p s q g:=c.old (by simp_all) λa _=>by rw[d]
theorem EF{c d:M}{a:E}(h:gd b g a)(e:c.heap=b.heap)(f:d.heap=g.heap):gd c d a:=by simp_all [gd]
theorem dH.eq{n:fG}{o r:M}(d:dH f i R u m y p q Q t b c g n)(h:o.heap=b.heap)(k:r.heap=g.heap):dH f i R u m y p q Q t o c r n where
 at':=d.at'.eq k
 val:=d.val
 keep:=λa x s v=>EF (d.keep a (by simp_all) s v) h k
 ro:=λa e=>by rw[k,h];exact d.ro a e
 size:=by rw[k,h];exact d.size
 own:=λa e=>by rw[h];exact d.own a e
 use:=λa e=>by rw[h];exact d.use a e
 iK:=λa w e=>by rw[k,h];exact d.iK a w e
section
variable{O:XI}{L:Sim.Rt}{a:Xu}{ks:Xg E}{l:Xg Oper}
theorem ct(w:al.fr O=J)(x:L.kn.map (·.1)=ks)(h d:E){more:Xg E}(T:l.map C=(Xg.range' h d).map (λW=>D[W]?))(U:lT TP al ks l.toArray=J)
 (v:∀g:M,g.heap=b.heap->g.os=b.os->g.output=b.output->wpList TP D (eP λo n=>tV f b n/\CO (goalAt TP F F z al f) (Go.Conc.base O) L H D more N o n) l a g):CO (goalAt TP F F z al f) (Go.Conc.base O) L H D (Xg.range' h d++more) N a b:=
 Sim.co_take aC w (by simp[Go.Conc.base]) x h d T U v
theorem cl(v:al.fr O=J)(w:L.kn.map (·.1)=ks)(x:lT TP al ks l.toArray=J){id:E}
 (o:∀g:M,g.heap=b.heap->g.os=b.os->g.output=b.output->wpList TP l.toArray (eP λn d=>tV f b d/\N .normal n d) l a g):CW (goalAt TP F F z al f) (Go.Conc.base O) L H (.region id l.toArray Xf) N a b:=
 Pr aC v (by simp[Go.Conc.base]) w x o
end
theorem DD(a0:pX i R u m y p s q b)(Z:xv f i b)(a7:1<=m/\m<2^16)(a2:oU i R (aI u y.tree q) Q h rq b)(a6:h<=64)(a3:p<2^16)
 (b0:∀d,d<h->RQ (rq d) (r d))(a9:∀d,d<h->qc (r d).op)(a4:∀d,d<h->(r d).op.kind=1\/(r d).op.kind=3\/(r d).op.kind=4\/(r d).op.kind=5\/(r d).op.kind=6\/(r d).op.kind=8\/(r d).op.kind=9\/(r d).op.kind=10)
 (a8:∀d,(rq d).oa=F)(a5:t.length=h)(b1:∀d X,t[d]?=C X->r d=X):
 Co (goalAt TP F F z al f) 18 #[pt R 0,.slice Q h S] b λc g=>∃n,dH f i R u m y p q Q t b c g n:=by
 refine GZ aC (by decide) (fn:=Tryz.f18) Tryz.func18 A (N:=λU a g=>U=.ret/\a.defers=[]/\∃c,a.tmps[4]?=C c/\∃n,dH f i R u m y p q Q t b c g n) (λb4 H=>?_) ?_
 .show CW _ _ _ _ _ _ ⟨#[pt R 0,.slice Q h S,I,I,I,I,I,I,I,I,I],[]⟩ b;refine aQ (cl (by decide) (ks:=[]) A (by rfl) λb2 o _ _=>?_)
  go_wp2
  refine Sim.kp o ?_;have a1:pX i R u m y p s q b2:=a0.old (by simp_all) λa _=>by rw[o]
  refine aQ (eT (R:=7) A (ct (by decide) (ks:=[]) A 0 5 (l:=[_,_,_,_,_]) A (by rfl) λY v _ _=>?_));have T:pX i R u m y p s q Y:=a1.old (by simp_all) λa _=>by rw[v]
  have b6:Y.cell? ⟨R,0,F⟩=C (pt u 0):=by simp[M.cell?,T.ptr]
  go_wp2
  refine Sim.kp v ?_;refine kY (a:=#[pt u 0,.slice Q h S]) (l:=5) (more:=[6]) (by decide) A rfl rfl rfl Tryz.func31 (by decide) A (by decide) (by simp[Act.eval]) (Fp T (Z.eq (v.trans o)) a7 (a2.eq (v.trans o)) a6 a3 b0 a9 a4 a8 a5 b1) λc b9 w=>?_;refine ct (by decide) (ks:=[]) A 6 1 (more:=[]) (l:=[_]) A (by rfl) λc0 W _ _=>?_
  go_wp2
  refine show _/\_ from⟨λe _=>by rw[W],dC (mJ ?_)⟩;obtain⟨n,w⟩:=w;exact⟨A,A,c,A,n,w.eq (v.trans o).symm W⟩
 rintro U a g⟨rfl,hd,c,b5,x⟩;refine⟨Xi A,hd,λb8=>⟨c,?_,?_⟩⟩
 .simp_all [results]
 obtain⟨n,x⟩:=x;exact⟨n,x.eq A rfl⟩
theorem pe(b:M)(k:Obj):(b.alloc k).heap.size=b.heap.size+1:=by simp
def Qx(a:ew):RV:=⟨a.ak,a.op.kind,bs a.op.path,bs a.op.data,a.op.aE,a.op.flags,a.watch,F,0,0⟩
abbrev Ip(a:ew):Xk Xe:=#[Xd K a.ak,Xd K a.op.kind,.string (bs a.op.path),.string (bs a.op.data),Xd K a.op.aE,Xd K a.op.flags,.bool a.watch,Xm F 0 0]
theorem RP{d:ew}(X:pX i R u m y p s q b)(a6:xv f i b)(d3:1<=m/\m<2^16)(d0:p<2^16)(d4:qc d.op)(b4:d.op.kind=1\/d.op.kind=3\/d.op.kind=4\/d.op.kind=5\/d.op.kind=6\/d.op.kind=8\/d.op.kind=9\/d.op.kind=10):
 Co (goalAt TP F F z al f) 28 #[pt R 0,Xd K d.ak,Xd K d.op.kind,.string (bs d.op.path),.string (bs d.op.data),Xd K d.op.aE,Xd K d.op.flags,.bool d.watch] b λc g=>∃T,dH f i R u m y p q F [d] b c g T:=by
 refine vm aC (by decide) (fn:=Tryz.f28) Tryz.func28 A (N:=λY a g=>Y=.ret/\a.defers=[]/\∃c,a.tmps[16]?=C c/\∃T,dH f i R u m y p q F [d] b c g T) (r:=#[pt R 0,Xd K d.ak,Xd K d.op.kind,.string (bs d.op.path),.string (bs d.op.data),Xd K d.op.aE,Xd K d.op.flags,.bool d.watch,I,I,I,I,I,I,I,I,I,I,I,I,I,I,I,I,I,I,I,I,I,I,I,I]) (by kernel_rfl) (λe1 H=>?_) ?_
 .refine aQ (cl (by decide) (ks:=[]) A (by rfl) λf9 b8 _ _=>?_)
  go_wp2
  refine Sim.kp b8 ?_;refine aQ (cl (by decide) (ks:=[]) A (by rfl) λg0 e2 _ _=>?_)
  go_wp2
  have e8:=(XN.1 X.ptr).1;have e9:=X.KY;have a3:∀e,f e->e<b.heap.size:=λe x=>by have:=a6.lt e x;omega
  refine show _/\_ from⟨λe x=>?_,?_⟩
  .simp_all [XQ]
  refine aQ (cl (by decide) (ks:=[]) A (by rfl) λa4 b9 _ _=>?_)
  have n:a4.heap[b.heap.size]?=C (Xn #[Xd K d.ak,Xd K 0,.string ⟨#[]⟩,.string ⟨#[]⟩,Xd K 0,Xd K 0,.bool d.watch,Xm F 0 0] 31 (0,0)):=by grind [Go.MapKept.heap_alloc]
  have d6:∀a,a<b.heap.size->a4.heap[a]?=b.heap[a]?:=by simp_all [XQ]
  have f2:a4.heap.size=b.heap.size+1:=by simp_all
  clear b9;have a9:=aa n 1 A;have b0:=aa n 2 A;have b1:=aa n 3 A;have b2:=aa n 4 A;have b3:=aa n 5 A;have c0:=frozenAt n 1;have c6:=frozenAt n 2;have c7:=frozenAt n 3;have c8:=frozenAt n 4;have c9:=frozenAt n 5
  go_wp2
  refine show _/\_ from⟨λe x=>?_,?_⟩
  .grind [ai,Below.heap_alloc]
  refine aQ (eT (R:=5) A (ct (by decide) (ks:=[]) A 0 3 (l:=[_,_,_]) A (by rfl) λW a7 _ _=>?_))
  have w:W.heap[b.heap.size]?=C (Xn (Ip d) 31 (0,0)):=by rw[a7];exact aA (aA (aA (aA (aA n))))
  have d7:∀a,a<b.heap.size->W.heap[a]?=b.heap[a]?:=by grind [ai]
  have f3:W.heap.size=b.heap.size+1:=by simp_all
  clear a7 n a9 b0 b1 b2 b3 c0 c6 c7 c8 c9;have a9:=aa w 0 A;have b0:=aa w 1 A;have b1:=aa w 2 A;have b2:=aa w 3 A;have b3:=aa w 4 A;have e3:=aa w 5 A;have e4:=aa w 6 A;have e5:=aa w 7 A
  go_wp2
  generalize f0:W.alloc _=a5
  have d1:a5.heap[b.heap.size+1]?=C (Xn (Ip d) 31 (0,0)):=by grind [Go.MapKept.heap_alloc]
  have d8:∀a,a<b.heap.size+1->a5.heap[a]?=W.heap[a]?:=by grind [Below.heap_alloc]
  have f4:a5.heap.size=b.heap.size+2:=by grind [pe]
  have a0:=λa o=>(d8 a (by omega)).trans (d7 a o);refine show _/\_ from⟨λe x=>?_,?_⟩
  .have b6:=a3 e x;rw[a0 e b6,ai (by omega),ai (by omega),ai (by omega),ai (by omega),ai (by omega),d6 e b6]
  have b7:=X.old (by omega) a0;refine kY (a:=#[pt R 0,Xm (C ⟨b.heap.size+1,0,F⟩) 1 1]) (l:=3) (more:=[4]) (by decide) A rfl rfl rfl Tryz.func18 (by decide) A (by decide) (by kernel_rfl) (DD (rq:=λ_=>Qx d) (r:=λ_=>d) (t:=[d]) b7 (a6.keep λa o=>a0 a (a3 a o)) d3 ?_ (by decide) d0 (λ_ _=>⟨A,A,A,A,A,A,A⟩) (λ_ _=>d4) (λ_ _=>b4) (λ_=>rfl) A (λZ e v=>?_)) λc g1 a2=>?_
  .refine Xi ⟨_,0,Ip d,31,(0,0),A,d1,(by simp),(by simp),λd5 e x=>?_,?_,λZ b4 j e7=>?_,by omega,by omega,λv=>?_⟩
   .have b5:=Yz.2 (Ys x);simp only[XV,Yd,YS]at b5;rcases b5 with rfl|rfl|rfl|rfl|rfl|rfl|rfl|rfl
    all_goals first|exact .int _ _|exact .string _|exact .bool _|exact .aO _ _
   .refine fP λe x f1 Y=>?_;simp_all
   .obtain rfl:Z=0:=by omega
    rw[E.zero_mul,Zk];rfl
   have:=X.gI.bj v;omega
  .rcases Z with _|Z
   .simp_all
   cases v
  refine ct (by decide) (ks:=[]) A 4 1 (more:=[]) (l:=[_]) A (by rfl) λg2 a8 _ _=>?_
  go_wp2
  refine show _/\_ from⟨λe _=>by rw[a8],dC (mJ ?_)⟩;obtain⟨T,a2⟩:=a2;refine⟨A,A,c,A,T,?_⟩;have U:=a2.eq A a8
  exact{
   at':=U.at'
   val:=U.val
   keep:=λa o d2 _=>by have:=U.keep a (by omega) d2 (λd9 Y=>by simp_all);simp_all [gd]
   ro:=λa o=>(U.ro a o).trans (a0 a (a3 a o))
   size:=by have:=U.size;omega
   own:=λa o=>(U.own a o).imp id λv=>by omega
   use:=λa o=>(U.use a o).imp id λv=>v.imp id λv=>by omega
   iK:=λa d9 v=>by cases v}
 rintro Y a g⟨rfl,hd,c,e6,a1⟩;refine⟨Xi A,hd,λf5=>⟨c,?_,?_⟩⟩
 .simp_all [results]
 obtain⟨T,a1⟩:=a1;exact⟨T,a1.eq A rfl⟩
abbrev Az:Xk Xe:=#[Xd K 0,Xd K 0,Xd K 0,Xd K 0,.string ⟨#[]⟩,.string ⟨#[]⟩,.bool Xf,Xd K 0,Xd K 0,Xd K 0,Xd K 0,Xd K 0,Xd K 0,Xd K 0,Xm F 0 0,Xm F 0 0]
theorem qY:∀{l:Xg Out}{d:Xg (Xe×Xe)},l.length=d.length->(gB l d).length=l.length*16
 |[],[],_=>rfl
 |k::l,c::d,n=>by
  have:=qY (l:=l) (d:=d) (by simpa using n);simp only[gB,Xg.zip_cons_cons,Zu,Yw,Yl]at this⊢
  rw[this];show 16+l.length*16=_;omega
theorem NM{c:Xe×Xe}(d:jX k c b):(iC k c).all (·.oneCell')=J:=by
 obtain⟨i,m⟩:=c;obtain⟨a,h,e,f⟩:∃a h e,i=.slice a h e:=by rcases d.1 with⟨d,_⟩|⟨_,_,_,_,_,d,_⟩<;>exact⟨_,_,_,d⟩
 obtain⟨n,p,o,g⟩:∃a h e,m=.slice a h e:=by rcases d.2 with⟨d,_⟩|⟨_,_,_,_,_,d,_⟩<;>exact⟨_,_,_,d⟩
 subst f g
 kernel_rfl
theorem Ay{c:Xe×Xe}(d:jX k c b):∃a h e f i g,c=(.slice a h e,.slice f i g):=by
 obtain⟨m,n⟩:=c;obtain⟨a,h,e,o⟩:∃a h e,m=.slice a h e:=by rcases d.1 with⟨d,_⟩|⟨_,_,_,_,_,d,_⟩<;>exact⟨_,_,_,d⟩
 obtain⟨f,i,g,p⟩:∃a h e,n=.slice a h e:=by rcases d.2 with⟨d,_⟩|⟨_,_,_,_,_,d,_⟩<;>exact⟨_,_,_,d⟩
 simp_all
theorem FA{l:Xg Out}{b:Xg (Xe×Xe)}{d:Xk Xe}(i:(l++[k]).length=b.length)(h:d.toList.take ((l++[k]).length*16)=gB (l++[k]) b):∃a,b[l.length]?=C a/\∀j c,(iC k a).toList[j]?=C c->d[l.length*16+j]?=C c:=by
 obtain⟨f,a,rfl⟩:∃f a,b=f++[a]:=by
  rcases g:b.reverse with _|⟨e,r⟩
  .simp at g;subst g;simp at i
  simp_all
 have m:l.length=f.length:=by simp_all
 rw[qX m]at h;refine⟨a,by simp_all,λj c o=>?_⟩
 have n:(d.toList.take ((l++[k]).length*16))[l.length*16+j]?=C c:=by simp_all [YP,qY]
 grind
def uJ(s:Xg Out)(i:Xg (Xe×Xe))(c:Xe):Prop:=(s=[]/\c=.agg (iC {err:=-1} ln))\/∃k b,s.getLast?=C k/\i[s.length-1]?=C b/\c=.agg (iC k b)/\∃a h e d g f,b=(.slice a h e,.slice d g f)
def TK(f:E->Prop)(i R u m:E)(y:cN)(p:E)(q:fG)(d:ew)(b:M)(h:Exit)(a:Xu)(g:M):Prop:=h=.ret/\a.defers=[]/\∃e k c,a.tmps.getD 16 I=pt b.heap.size 0/\g.heap[b.heap.size]?=C (Xn e 38 k)/\e.size=16/\dH f i R u m y p q F [d] b c.ov g c/\uJ (Wt.handle y 0 [d]).2 c.vs (.agg e)
theorem Uy{g:fG}{k:ew}{s n:M}{a:Xu}{t:E×E}(h:dH f i R u m y p q F [k] b c s g)(N:∀a,f a->a<b.heap.size)(S:R<b.heap.size)(D:∀a,aI u (Wt.handle y 0 [k]).1.tree g a\/dw g a->a≠b.heap.size)(o:∀r,r≠b.heap.size->n.heap[r]?=s.heap[r]?)(T:n.heap.size=s.heap.size)(hd:a.defers=[])(w:a.tmps.getD 16 I=pt b.heap.size 0)(z:n.heap[b.heap.size]?=C (Xn e 38 t))(O:e.size=16)(H:uJ (Wt.handle y 0 [k]).2 g.vs (.agg e)):TK f i R u m y p q k b .ret a n:=by
 refine⟨A,hd,e,t,g,w,z,O,?_,H⟩;have Q:=h.at'
 exact{
  at':=⟨Q.gI.same ⟨by omega,λa d=>o a (D a (Xh d)),λa d=>by simp_all⟩,by rw[o R (by omega)];exact Q.ptr,Q.ok,Q.own,Q.KY,Q.use⟩
  val:=A
  keep:=λa d L x=>by
   have:=h.keep a d L x
   grind [gd]
  ro:=λa d=>by have:=N a d;rw[o a (by omega)];exact h.ro a d
  size:=by grind
  own:=h.own
  use:=h.use
  iK:=λa U v=>by cases v}
theorem SO{d:ew}(W:pX i R u m y p s q b)(b7:xv f i b)(e2:1<=m/\m<2^16)(d9:p<2^16)(e3:qc d.op)(a2:d.op.kind=1\/d.op.kind=3\/d.op.kind=4\/d.op.kind=5\/d.op.kind=6\/d.op.kind=8\/d.op.kind=9\/d.op.kind=10):
 Co (goalAt TP F F z al f) 16 #[pt R 0,Xd K d.ak,Xd K d.op.kind,.string (bs d.op.path),.string (bs d.op.data),Xd K d.op.aE,Xd K d.op.flags,.bool d.watch] b λc g=>∃v,dH f i R u m y p q F [d] b v.ov g v/\uJ (Wt.handle y 0 [d]).2 v.vs c:=by
 refine vm aC (by decide) (fn:=Tryz.f16) Tryz.func16 A (N:=TK f i R u m y p q d b) (r:=#[pt R 0,Xd K d.ak,Xd K d.op.kind,.string (bs d.op.path),.string (bs d.op.data),Xd K d.op.aE,Xd K d.op.flags,.bool d.watch,I,I,I,I,I,I,I,I,I,I,I,I,I,I,I,I,I,I,I,I,I,I,I,I,I,I,I,I,I]) (by kernel_rfl) (λf2 H=>?_) ?_
 .refine aQ (cl (by decide) (ks:=[]) A (by rfl) λh2 d5 _ _=>?_)
  go_wp2
  have d1:=(XN.1 W.ptr).1;have g4:=W.KY;have a6:∀e,f e->e<b.heap.size:=λe a3=>by have:=b7.lt e a3;omega
  refine show _/\_ from⟨λe a3=>?_,?_⟩
  .simp_all [XQ]
  refine aQ (eT (R:=10) A (ct (by decide) (ks:=[]) A 0 8 (l:=[_,_,_,_,_,_,_,_]) A (by rfl) λb6 b8 _ _=>?_))
  have b2:b6.heap[b.heap.size]?=C (Xn Az 38 (0,0)):=by grind [Go.MapKept.heap_alloc]
  have a7:∀a,a<b.heap.size->b6.heap[a]?=b.heap[a]?:=by simp_all [XQ]
  have e8:b6.heap.size=b.heap.size+1:=by simp_all
  go_wp2
  refine Sim.kp b8 ?_;clear b8;refine kY (a:=#[pt R 0,Xd K d.ak,Xd K d.op.kind,.string (bs d.op.path),.string (bs d.op.data),Xd K d.op.aE,Xd K d.op.flags,.bool d.watch]) (l:=8) (more:=[9]) (by decide) A rfl rfl rfl Tryz.func28 (by decide) A (by decide) (by kernel_rfl) (RP (d:=d) (W.old (by omega) a7) (b7.keep λa w=>a7 a (a6 a w)) e2 d9 e3 a2) λc a8 o=>?_;obtain⟨v,o⟩:=o
  have f7:a8.heap[b.heap.size]?=C (Xn Az 38 (0,0)):=by rw[<-b2];refine ve (o.keep _ (by omega) (λn=>by have:=W.gI.bj n;omega) (λ_ n=>by cases n)) b2 (fP λe a3 g7 a4=>?_);simp_all
  have a1:dH f i R u m y p q F [d] b v.ov a8 v:={
   at':=o.at'
   val:=A
   keep:=λa w e1 _=>by have:=o.keep a (by omega) e1 (λe7 a4=>by cases a4);simp_all [gd]
   ro:=λa w=>(o.ro a w).trans (a7 a (a6 a w))
   size:=by grind
   own:=λa w=>(o.own a w).imp id λn=>by omega
   use:=λa w=>(o.use a w).imp id λn=>n.imp id λn=>by omega
   iK:=λa e7 n=>by cases n}
  have d0:∀a,aI u (Wt.handle y 0 [d]).1.tree v a\/dw v a->a≠b.heap.size:=λa w a4=>by
   have f5:=W.gI.bF.2.2;rcases w with w|w
   .rcases o.own a w with n|n
    .have:=W.gI.bj n;omega
    omega
   rcases o.use a w with n|n|n<;>omega
  have e4:=o.val;subst e4;have g5:b.heap.size<a8.heap.size:=by grind
  clear o b2 a7 e8 d5;have b1:=a1.at'.gI.row;obtain⟨Z,b3⟩:∃Z,(Wt.handle y 0 [d]).2=Z:=by simp
  refine ct (by decide) (ks:=[]) A 9 1 (more:=[]) (l:=[_]) A (by rfl) λe9 d6 _ _=>?_
  go_wp2
  refine WS d6 ?_;obtain⟨a9,b0,b4⟩:∃a9 b0,v.ov=.slice a9 Z.length b0:=by
   rcases b1.2 with⟨a5,a0⟩|⟨X,T,U,a5,_⟩
   .simp_all
   simp_all
  rw[b4];have f8:e9.heap[b.heap.size]?=C (Xn Az 38 (0,0)):=by simp_all
  refine aQ (aQ (cl (by decide) (ks:=[]) A (by rfl) λh3 b9 _ _=>?_));rcases f9:Z.reverse with _|⟨k,r⟩
  .obtain rfl:Z=[]:=by simp_all
   go_wp2
   refine vN b9 ?_;refine cH (g:=J) (by decide) A ?_;show CW _ _ _ _ (.seq _ _) _ _ _;refine(aQ (eT (R:=2) A (ct (by decide) (ks:=[]) A 0 1 (more:=[1]) (l:=[_]) A (by rfl) λh4 d7 _ _=>?_)))
   go_wp2
   refine Sim.kp d7 ?_;refine ct (by decide) (ks:=[]) A 1 1 (more:=[]) (l:=[_]) A (by rfl) λd4 c0 _ _=>?_;have c8:d4.heap[b.heap.size]?=C (Xn Az 38 (0,0)):=by simp_all
   refine Zc A 38 _ _ A b.heap.size (iC {err:=-1} ln) A rfl 38 Az c8 A rfl (by kernel_rfl) ?_;refine show _/\_ from⟨λe a3=>?_,dC (show CW _ _ _ _ _ _ _ _ from mJ ?_)⟩
   .grind [setRow_other]
   refine Uy a1 a6 d1 d0 (λY a2=>?_) ?_ A rfl (ZY _ _ _ _ _ _ c8) A (Xh ⟨b3,A⟩)
   .simp_all [ZD]
   simp_all
  obtain⟨l,rfl⟩:∃l,Z=l++[k]:=by simp_all
  obtain⟨X,T,U,a5,a0,o,c6,c7,f6,_⟩:=(by
   rw[b3]at b1;rcases b1.2 with⟨_,a0⟩|n
   .simp at a0
   exact n:∃X T U,v.ov=Xm (C ⟨X,0,F⟩) (l++[k]).length T/\a8.heap[X]?=C (Xn U 38 (0,0))/\(l++[k]).length<=T/\T<=maxLen/\U.size=T*16/\U.toList.take ((l++[k]).length*16)=gB (l++[k]) v.vs/\∀e∈U.toList,NB e)
  obtain⟨rfl,rfl⟩:a9=C ⟨X,0,F⟩/\b0=T:=by simp_all
  obtain⟨x,b5,e6⟩:∃x,v.vs[l.length]?=C x/\∀j c,(iC k x).toList[j]?=C c->U[l.length*16+j]?=C c:=by
   have g3:=a1.at'.gI.outs.1
   grind [FA]
  have d2:=a1.at'.gI.outs.2 l.length k x (by simp_all) b5;have e5:=Xl (show v.vs[(l++[k]).length-1]?=C x by simpa using b5);clear b5;have e0:(l++[k]).length=l.length+1:=by simp
  rw[e0]at o b4⊢
  have a2:l.length+1<2^63:=by grind [maxLen]
  generalize l.length=Y at o b4 e6 a2⊢
  have g2:((Y:Xj)+1==0)=Xf:=by simp;omega
  have g1:wrap64 ((Y:Xj)+1-1)=Y:=by grind [wrap64]
  go_wp2
  refine vN b9 ?_;refine cH (g:=Xf) (by decide) (by rfl) ?_;refine eL (show CW _ _ _ _ _ _ _ _ from ?_);refine aQ (eT (R:=7) A (ct (by decide) (ks:=[]) A 0 5 (more:=[5,6]) (l:=[_,_,_,_,_]) A (by rfl) λd4 c0 _ _=>?_))
  go_wp2
  refine Sim.kp c0 ?_;refine ct (by decide) (ks:=[]) A 5 2 (more:=[]) (l:=[_,_]) A (by rfl) λf0 f3 _ _=>?_;have c9:f0.heap[b.heap.size]?=C (Xn Az 38 (0,0)):=by simp_all
  refine wpList_load_mid A 38 _ A X (Y*16) A (iC k x).toList _ (λj c g0=>?_) A rfl rfl ?_
  .grind [aa]
  refine Zc A 38 _ _ A b.heap.size (iC k x) A rfl 38 Az c9 A rfl (NM d2) ?_;refine show _/\_ from⟨λe a3=>?_,dC (show CW _ _ _ _ _ _ _ _ from mJ ?_)⟩
  .grind [setRow_other]
  refine Uy a1 a6 d1 d0 (λY a2=>?_) ?_ A rfl (ZY _ _ _ _ _ _ c9) A (Xi ⟨k,x,by simp_all,by rw[b3];exact e5.out,A,Ay d2⟩)
  .simp_all [ZD]
  simp_all
 rintro a4 a g⟨rfl,hd,e,d8,v,a5,a0,o,c6,c7⟩;refine⟨Xi A,hd,λd3=>⟨.agg e,?_,v,c6.eq A rfl,c7⟩⟩;exact aaJ (ty:=38) A _ _ b.heap.size 38 e d8 _ a5 a0 A rfl (by rw[o];rfl)
end
variable{d:E}{a:M}{e:Path}{b:E}{c:M}
theorem To(a:M):Calls TP 51 #[] a λd c=>d=Xs (pt (a.heap.size+2) 0)/\c=((a.alloc (.map #[] 0)).alloc (.cells (cU [] {} 0 a.heap.size) 192)).alloc (.cells #[pt (a.heap.size+1) 0,Xd K 1,Xm F 0 0] 195):=by
 have e:=λb=>aav (P:=TP) 188 b;go_enter Tryz.func51,Tryz.ntmps51
 go_wp2
 go_ret;exact⟨A,A⟩
theorem Ty(a:M):Calls TP 52 #[] a λd c=>d=Xs (pt (a.heap.size+1) 0)/\c=(a.alloc (.map #[] 0)).alloc (.cells #[.map (C a.heap.size)] 198):=by
 have e:=λb=>aav (P:=TP) 196 b;go_enter Tryz.func52,Tryz.ntmps52
 go_wp2
 go_ret;simp
structure QV(b:E)(h g:Xj)(a c:M):Prop where
 size:c.heap.size=b+9
 old:∀f,f<b->c.heap[f]?=a.heap[f]?
 h1:c.heap[b+1]?=C (.map #[] 0)
 h2:c.heap[b+2]?=C (Xn (cU [] {} 0 (b+1)) 192 (0,0))
 h3:c.heap[b+3]?=C (Xn #[pt (b+2) 0,Xd K 1,Xm F 0 0] 195 (0,0))
 h4:c.heap[b+4]?=C (.map #[] 0)
 h5:c.heap[b+5]?=C (Xn #[.map (C (b+4))] 198 (0,0))
 h6:c.heap[b+6]?=C (.map #[] 0)
 h7:c.heap[b+7]?=C (Xn (EJ h g (b+3) (b+5) (b+6) 0 0 1 (Xm F 0 0) .nilFunc) 98 (0,0))
 h8:c.heap[b+8]?=C (Xn #[pt (b+7) 0] 78 (0,0))
theorem eC(a:M)(b:Obj)(c:a.heap.size=d):(a.alloc b).heap[d]?=C b:=by grind [heap_alloc]
theorem bh(c:Obj){b:Obj}(e:a.heap[d]?=C b):(a.alloc c).heap[d]?=C b:=by grind [heap_alloc]
theorem rB(g:Obj)(f:a.heap.size=d):(a.alloc g).heap.size=d+1:=by simp[f]
theorem RN(a:M)(b c d e f g h k l:Obj):(((((((((a.alloc b).alloc c).alloc d).alloc e).alloc f).alloc g).alloc h).alloc k).alloc l).heap.size=a.heap.size+9/\(∀i,i<a.heap.size->(((((((((a.alloc b).alloc c).alloc d).alloc e).alloc f).alloc g).alloc h).alloc k).alloc l).heap[i]?=a.heap[i]?)/\(((((((((a.alloc b).alloc c).alloc d).alloc e).alloc f).alloc g).alloc h).alloc k).alloc l).heap[a.heap.size+1]?=C c/\(((((((((a.alloc b).alloc c).alloc d).alloc e).alloc f).alloc g).alloc h).alloc k).alloc l).heap[a.heap.size+2]?=C d/\(((((((((a.alloc b).alloc c).alloc d).alloc e).alloc f).alloc g).alloc h).alloc k).alloc l).heap[a.heap.size+3]?=C e/\(((((((((a.alloc b).alloc c).alloc d).alloc e).alloc f).alloc g).alloc h).alloc k).alloc l).heap[a.heap.size+4]?=C f/\(((((((((a.alloc b).alloc c).alloc d).alloc e).alloc f).alloc g).alloc h).alloc k).alloc l).heap[a.heap.size+5]?=C g/\(((((((((a.alloc b).alloc c).alloc d).alloc e).alloc f).alloc g).alloc h).alloc k).alloc l).heap[a.heap.size+6]?=C h/\(((((((((a.alloc b).alloc c).alloc d).alloc e).alloc f).alloc g).alloc h).alloc k).alloc l).heap[a.heap.size+7]?=C k/\(((((((((a.alloc b).alloc c).alloc d).alloc e).alloc f).alloc g).alloc h).alloc k).alloc l).heap[a.heap.size+8]?=C l:=by
 have n:(a.alloc b).heap.size=a.heap.size+1:=by simp
 have o:((a.alloc b).alloc c).heap.size=a.heap.size+2:=by simp
 have p:(((a.alloc b).alloc c).alloc d).heap.size=a.heap.size+3:=by simp
 have q:((((a.alloc b).alloc c).alloc d).alloc e).heap.size=a.heap.size+4:=by simp
 have r:(((((a.alloc b).alloc c).alloc d).alloc e).alloc f).heap.size=a.heap.size+5:=by simp
 have s:((((((a.alloc b).alloc c).alloc d).alloc e).alloc f).alloc g).heap.size=a.heap.size+6:=by simp
 have t:(((((((a.alloc b).alloc c).alloc d).alloc e).alloc f).alloc g).alloc h).heap.size=a.heap.size+7:=by simp
 have v:((((((((a.alloc b).alloc c).alloc d).alloc e).alloc f).alloc g).alloc h).alloc k).heap.size=a.heap.size+8:=by simp
 have u:(((((((((a.alloc b).alloc c).alloc d).alloc e).alloc f).alloc g).alloc h).alloc k).alloc l).heap.size=a.heap.size+9:=by simp
 refine⟨u,λi m=>?_,?_,?_,?_,?_,?_,?_,?_,?_⟩
 .rw[(ZC _ _).2 i (by omega),(ZC _ _).2 i (by omega),(ZC _ _).2 i (by omega),(ZC _ _).2 i (by omega),(ZC _ _).2 i (by omega),(ZC _ _).2 i (by omega),(ZC _ _).2 i (by omega),(ZC _ _).2 i (by omega),(ZC _ _).2 i m]
 .exact bh _ (bh _ (bh _ (bh _ (bh _ (bh _ (bh _ (eC _ _ n)))))))
 .exact bh _ (bh _ (bh _ (bh _ (bh _ (bh _ (eC _ _ o))))))
 .exact bh _ (bh _ (bh _ (bh _ (bh _ (eC _ _ p)))))
 .exact bh _ (bh _ (bh _ (bh _ (eC _ _ q))))
 .exact bh _ (bh _ (bh _ (eC _ _ r)))
 .exact bh _ (bh _ (eC _ _ s))
 .exact bh _ (eC _ _ t)
 grind [eC]
theorem RY{d b:Xj}(a:M):Calls TP 34 #[Xd K d,Xd K b] a λf c=>f=Xs (pt (a.heap.size+6) 0)/\c=((((((a.alloc (.map #[] 0)).alloc (.cells (cU [] {} 0 a.heap.size) 192)).alloc (.cells #[pt (a.heap.size+1) 0,Xd K 1,Xm F 0 0] 195)).alloc (.map #[] 0)).alloc (.cells #[.map (C (a.heap.size+3))] 198)).alloc (.map #[] 0)).alloc (.cells (EJ d b (a.heap.size+2) (a.heap.size+4) (a.heap.size+5) 0 0 1 (Xm F 0 0) .nilFunc) 98):=by
 have g:=λe=>aav (P:=TP) 96 e;go_enter Tryz.func34,Tryz.ntmps34
 go_wp2_with (first
  |(go_at_call 51;refine(To _).mono ?_;rintro _ _⟨rfl,rfl⟩)
  |(go_at_call 52;refine(Ty _).mono ?_;rintro _ _⟨rfl,rfl⟩))
 go_ret;simp
theorem Qa{d b:Xj}(r:1<=d/\d<=100)(q:1<=b/\b<=8)(a:M):Calls TP 26 #[.agg #[Xd K d,Xd K b]] a λp c=>p=Xs (.tuple #[pt (a.heap.size+8) 0,.nilIface])/\QV a.heap.size d b a c:=by
 go_enter Tryz.func26,Tryz.ntmps26
 go_wp2_with (go_at_call 34;refine(RY _).mono ?_;rintro _ _⟨rfl,rfl⟩)
 go_ret2;refine⟨A,?_⟩
 obtain⟨e,o,f,g,h,i,k,l,m,n⟩:=RN a (.cells #[Xd K d,Xd K b] 69) (.map #[] 0) (.cells (cU [] {} 0 (a.heap.size+1)) 192) (.cells #[pt (a.heap.size+1+1) 0,Xd K 1,Xm F 0 0] 195) (.map #[] 0) (.cells #[.map (C (a.heap.size+1+3))] 198) (.map #[] 0)
  (.cells (EJ d b (a.heap.size+1+2) (a.heap.size+1+4) (a.heap.size+1+5) 0 0 1 (Xm F 0 0) .nilFunc) 98) (.cells #[pt (a.heap.size+1+6) 0] 78)
 exact⟨e,o,f,g,h,i,k,l,m,n⟩
theorem nk:Stamped #[] 0:=⟨by simp,by simp,by simp⟩
theorem jl{b:Nd}(a:Wt.find [([],{})] e=C b):e=[]/\b={}:=by
 rcases e with _|⟨c,e⟩
 .exact⟨A,(YF a).symm⟩
 simp_all [Wt.find]
theorem Qb{q p:Xj}(f:QV b q p a c)(n:b=a.heap.size)(x:(∃m,a.cell? ⟨1,0,F⟩=C (Xd K m))/\uQ a/\4<a.heap.size):
 ∃i,aK (b+7) p {timeout:=q} [] i c/\(∀g,aI (b+7) [([],{})] i g->b<=g/\g≠b+8)/\∀g,dw i g->g=1\/g=4:=by
 subst n;obtain⟨b,n⟩:∃b,a.heap.size=b:=by simp
 rw[n]at f⊢
 let i:fG:={tb:=b+3,nb:=λ_=>b+2,mb:=λ_=>b+1,tw:=b+5,mw:=b+4,f:=λ_=>F,hb:=b+6,ov:=Xm F 0 0,vs:=[]}
 have u:∀g,pJ [([],{})] i.nb i.mb i.tb g->g=b+1\/g=b+2\/g=b+3:=λg h=>by
  rcases h with f|⟨e,_,f|f⟩
  .exact Xi (Xi f)
  .exact Xi (Xh f)
  grind
 have w:∀g,eF i.tw i.mw i.f g->g=b+4\/g=b+5:=λg h=>by
  rcases h with f|f|⟨d,k,f⟩
  .exact Xi f
  .exact Xh f
  cases f
 have v:∀g,dw i g->g=1\/g=4:=λg h=>by
  rcases h with f|f|⟨r,f,_⟩
  .exact Xh f
  .exact Xi f
  cases f
 have s:Kids #[] 0 (bX [([],{})] i.nb []):=⟨nk,λo f=>by simp at f,λa1 H f=>by grind [bX,Option.isSome_iff_exists,jl]⟩
 refine⟨i,⟨?_,?_,IF,?_,?_,?_,?_,?_,?_,?_⟩,λg h=>?_,v⟩
 .exact{
   nd:=λe m l=>by obtain⟨rfl,rfl⟩:=jl l;exact f.h2
   kd:=λe m l=>by obtain⟨rfl,rfl⟩:=jl l;exact⟨_,_,f.h1,s⟩
   inj:=λe k l z _=>by grind [Option.isSome_iff_exists,jl]
   xM:=λe k l z _=>by grind [Option.isSome_iff_exists,jl]}
 .exact⟨Xm F 0 0,Xi ⟨_,_,_,A⟩,f.h3⟩
 .exact⟨f.h5,⟨_,_,f.h4,nk,λo f=>by simp at f,(λd r f=>by cases f)⟩,(λd k=>Xh ⟨A,_,A⟩),(λd k S a0 N f=>by cases f),(λd k=>Xg.Pairwise.nil),(λd k a6 D=>by cases D)⟩
 .refine⟨_,_,f.h6,nk,λo f=>by simp at f,λd r f=>?_⟩;unfold fL at f
  grind
 .exact f.h7
 .exact cr.nil _ _ _ _
 .grind
 .obtain⟨⟨m,y⟩,t,O⟩:=x;exact⟨⟨m,bW (f.old 1 (by omega)) y⟩,t.stay (by rw[f.old 4 (by omega)]),by rw[f.size];omega⟩
 .refine⟨λg=>if g<=b+3 then(if g<=b then 5 else 0)else if g<=b+5 then 1 else if g=b+6 then 2 else 3,λg h=>?_,λg h=>?_,?_,?_,λg h=>(by cases h),λg h=>?_⟩
  .have:=u g h;show(if g<=b+3 then(if g<=b then 5 else 0)else if g<=b+5 then 1 else if g=b+6 then 2 else 3)=0;rw[XC (by omega),Xx (by omega)]
  .have:=w g h;dsimp only;rw[Xx (by omega),XC (by omega)]
  .show(if b+6<=b+3 then(if b+6<=b then 5 else 0)else if b+6<=b+5 then 1 else if b+6=b+6 then 2 else 3)=2;rw[Xx (by omega),Xx (by omega),XC A]
  .show(if b+7<=b+3 then(if b+7<=b then 5 else 0)else if b+7<=b+5 then 1 else if b+7=b+6 then 2 else 3)=3;rw[Xx (by omega),Xx (by omega),Xx (by omega)]
  grind
 rcases h with f|f|f|f|f
 .omega
 .grind
 .grind
 .grind
 cases f
variable{r:Xe}{t:E}{o:fG}{s:Xg Xr}{g:E}{j:E}
section
variable[Inhabited aM]
def Rx(b:Xj):Prop:=b=1\/b=3\/b=4\/b=5\/b=6\/b=8\/b=9\/b=10
structure zq(ro:E->Prop)(p R u h:E)(y:cN)(m:E)(o:fG)(i:ew)(c:M)(n:Xk Xe)(e:E)(k:M)(d:fG):Prop where
 at':pX p R u h (Wt.handle y 0 [i]).1 (m+1) (Wt.handle y 0 [i]).2 d k
 keep:∀a,a<c.heap.size->¬aI u y.tree o a->gd c k a
 ro:∀a,ro a->k.heap[a]?=c.heap[a]?
 size:c.heap.size<=k.heap.size
 own:∀a,aI u (Wt.handle y 0 [i]).1.tree d a->aI u y.tree o a\/c.heap.size<=a
 use:∀a,dw d a->a=1\/a=4\/c.heap.size<=a
 blk:k.heap[e]?=C (Xn n 38 (0,0))
 new:c.heap.size<=e
 free:¬aI u (Wt.handle y 0 [i]).1.tree d e
 last:uJ (Wt.handle y 0 [i]).2 d.vs (.agg n)
 ok:n.all (·.oneCell')=J
 En:¬aT n
 sz:n.size=16
theorem Cl{q:Xg Out}{g:Xg (Xe×Xe)}(d:uJ q g r):∃b,r=.agg b/\b.all (·.oneCell')=J/\¬aT b/\b.size=16:=by
 rcases d with⟨_,rfl⟩|⟨m,n,_,_,rfl,a,t,i,h,l,k,rfl⟩
 .refine⟨_,A,by kernel_rfl,fP λb e f c=>?_,A⟩;simp_all [iC]
 refine⟨_,A,by kernel_rfl,fP λb e f c=>?_,A⟩;simp_all [iC]
section
variable{p h m x:E}{q:Xg Out}
variable{e:Xr}{a:Xu}
theorem nE{H:Sim.Rt}{i:ew}{more:Xg E}{O:Xk XJ}{a6:Xk Xq}{a4:Xg E}(a1:H.kn.map (·.1)=a4)(d7:H.free (C j)=J)(b5:(a4.all λy=>C b !=C y)=J)(a0:al.fr e.fn=J)(S:e.kind≠.early)
 (a9:bN D g (C j) (.call {callee:=.value (.func 16),args:=O,argTypes:=a6}))(b0:bN D (g+1) (C b) (.alloc 38))(b1:bN D (g+2) F (.store 38 (.tmp b) (.tmp j)))
 (d8:j<a.tmps.size)(e0:b<a.tmps.size)(d9:j≠b)(c0:jd TP al.fn al.bi al.bZ (.store 38 (.tmp b) (.tmp j))=J)(b4:O.toList.all (du TP al.fn)=J)
 (b3:O.map a.eval=#[pt R 0,Xd K i.ak,Xd K i.op.kind,.string (bs i.op.path),.string (bs i.op.data),Xd K i.op.aE,Xd K i.op.flags,.bool i.watch])
 (L:pX p R u h y m q o c)(W:xv f p c)(b8:1<=h/\h<2^16)(b2:m<2^16)(b9:qc i.op)(b6:Rx i.op.kind)
 (next:∀k X a5 Q,zq f p R u h y m o i c k X a5 Q->CO (goalAt TP F F z al f) e H s D more N ((a.put (C j) (.agg k)).put (C b) (pt X 0)) a5):
 CO (goalAt TP F F z al f) e H s D (g::(g+1)::(g+2)::more) N a c:=by
 obtain⟨e4,c8,c9,d0,e6⟩:=a9;refine kY S (by simp_all) c8 (by simp_all [Region.wanted]) d0 Tryz.func16 (by decide) A b4 b3 (SO (d:=i) L W b8 b2 b9 b6) λr l v=>?_;obtain⟨Q,n,Y⟩:=v;rw[c9];obtain⟨k,rfl,a3,c7,T⟩:=Cl Y;have e1:=(XN.1 L.ptr).1;have e2:∀k,f k->k<c.heap.size:=λk c6=>by have:=W.lt k c6;have:=L.KY;omega
 have e3:=n.size;refine nG (zI aC a0 S b0 a1 (by decide) b5 λe9 a8 _ _ d2 d1 a7=>?_)
 go_wp2
 refine⟨λd w=>(XQ _ _ _ (by grind)).trans (by rw[a8]),?_⟩;refine zI aC a0 S b1 a1 c0 (by simp) λU d6 _ _ d2 d1 a7=>?_;have Z:U.heap[l.heap.size]?=C (Xn Az 38 (0,0)):=by grind [heap_alloc]
 have e5:∀d,d<l.heap.size->U.heap[d]?=l.heap[d]?:=by simp_all [XQ]
 refine wp_store_row 38 _ _ A l.heap.size k ?_ ?_ 38 Az Z (by rw[T];rfl) (by rw[T];rfl) a3 ?_
 .simp_all [Act.eval]
 .simp_all [Act.eval,YX]
 have a2:∀d,d<l.heap.size->(U.setRow l.heap.size k).heap[d]?=l.heap[d]?:=by grind [setRow_other]
 refine⟨λd w=>?_,next k l.heap.size _ Q ?_⟩
 .grind
 exact{
  at':=n.at'.old (by simp_all) a2
  keep:=λd w b7=>by
   have:=n.keep d w b7 (λ_ v=>by cases v)
   grind [gd]
  ro:=λd w=>by rw[a2 d (by grind)];exact n.ro d w
  size:=by grind [setRow_size]
  own:=n.own
  use:=n.use
  blk:=ZY _ _ _ _ _ _ Z
  new:=by omega
  free:=λv=>by have:=n.at'.gI.bj v;omega
  last:=Y
  ok:=a3
  En:=c7
  sz:=T}
end
variable{v:E}{c:E}{g:fG}{e:Xk Xe}{q:E}{D:Out}
theorem TU{a:Xk Xe}(b:a.size=v):a=((Xg.range v).map λc=>a.getD c I).toArray:=by refine aaj (by simp[b]) λc d e=>?_;simp[Yu,d]
abbrev Th(b:Xj)(R:E)(c:E)(a:E->Xe):Xu:=⟨#[Xd K b,a 1,XA F,pt R 0,.nilIface,Xd K (c+1),a 6,a 7,a 8,a 9,a 10,a 11,a 12,a 13,a 14,a 15,a 16,a 17,a 18,a 19,a 20,a 21,a 22,a 23,a 24,a 25,a 26,a 27,a 28,a 29,a 30,a 31,a 32,a 33,a 34,a 35,a 36,a 37,a 38,a 39,a 40,a 41,a 42,a 43,a 44,a 45,a 46,a 47,a 48,a 49,a 50,a 51,a 52,a 53,a 54,a 55,a 56,a 57,a 58,a 59,a 60,a 61,a 62,a 63,a 64,a 65,a 66,a 67,a 68,a 69,a 70,a 71,a 72,a 73,a 74,a 75,a 76,a 77],[]⟩
theorem Is{b:Xj}{a:Xu}(d:a.tmps.size=78)(hd:a.defers=[])(i:a.tmps[0]?=C (Xd K b))(k:a.tmps[2]?=C (XA F))(l:a.tmps[3]?=C (pt R 0))(m:a.tmps[4]?=C (.nilIface))(n:a.tmps[5]?=C (Xd K (c+1))):∃g,a=Th b R c g:=by obtain⟨f,h⟩:=a;subst hd;exact⟨λc=>f.getD c I,YU (λe=>(⟨e,[]⟩:Xu)) ((TU d).trans (by simp_all [Xg.range,Xg.range.loop]))⟩
structure Eo(ro:E->Prop)(k:E)(a:M)(sx u h:E)(y:cN)(t:E)(g:fG)(d:M):Prop where
 at':∃i,pX k sx u h y t i g d
 keep:∀b,b<a.heap.size->gd a d b
 ro:∀b,ro b->d.heap[b]?=a.heap[b]?
 size:a.heap.size<=d.heap.size
 own:∀b,aI u y.tree g b->a.heap.size<=b
 use:∀b,dw g b->b=1\/b=4\/a.heap.size<=b
 sx:a.heap.size<=sx
section
variable{k h t:E}{m:fG}{s r:M}
theorem Eo.eq(b:Eo f k a R u h y t g s)(c:r.heap=s.heap):Eo f k a R u h y t g r where
 at':=by obtain⟨D,i⟩:=b.at';exact⟨D,i.eq c⟩
 keep:=λd e=>EF (b.keep d e) A c
 ro:=λd e=>by rw[c];exact b.ro d e
 size:=by rw[c];exact b.size
 own:=b.own
 use:=b.use
 sx:=b.sx
theorem Eo.one{p:ew}(c:Eo f k a R u h y t g s)(o:∀b,f b->b<a.heap.size)(P:zq f k R u h y t g p s e q r m):Eo f k a R u h (Wt.handle y 0 [p]).1 (t+1) m r where
 at':=⟨_,P.at'⟩
 keep:=λb d=>(c.keep b d).trans (P.keep b (by have:=c.size;omega) λn=>by have:=c.own b n;omega)
 ro:=λb d=>(P.ro b d).trans (c.ro b d)
 size:=XZ c.size P.size
 own:=λb d=>(P.own b d).elim (c.own b) λi=>XZ c.size i
 use:=λb d=>(P.use b d).imp id λi=>i.imp id λl=>XZ c.size l
 sx:=c.sx
end
structure Rp(u:E)(y:cN)(g:fG)(q:E)(e:Xk Xe)(a:M):Prop where
 blk:a.heap[q]?=C (Xn e 38 (0,0))
 free:¬aI u y.tree g q
 En:¬aT e
section
variable{k h t:E}{m:fG}{s r:M}{p:ew}{H:E}{Y:Xk Xe}
theorem Rp.eq(a:Rp u y g q e s)(b:r.heap=s.heap):Rp u y g q e r:=⟨by rw[b];exact a.blk,a.free,a.En⟩
theorem zq.UY(P:zq f k R u h y t g p s e q r m):Rp u (Wt.handle y 0 [p]).1 m q e r:=⟨P.blk,P.free,P.En⟩
theorem Rp.next(a:Rp u y g q e s)(P:zq f k R u h y t g p s Y H r m):Rp u (Wt.handle y 0 [p]).1 m q e r:=by have b:=(XN.1 a.blk).1;refine⟨?_,λc=>(P.own q c).elim a.free λd=>by omega,a.En⟩;rw[<-a.blk];exact ve (P.keep q b a.free) a.blk a.En
end
structure Ld(f:E->Prop)(k:E)(a:M)(b:Xe)(d:M)(R u h:E)(m:fG):Prop where
 val:b=pt R 0
 WT:1<=h/\h<=8
 gI:Eo f k a R u h Wt.sB 7 m d
theorem lG:∀a,(b:a<7)->Wt.handle (rE a) 0 [Qu[a]'b]=(rE (a+1),[UE[a]'b]):=λa b=>by rw[Gr a b,<-EB a b,th];exact V_ A (YT _)
theorem OZ:∀c:E,c<3->Wt.handle (rE c) 0 [Wt.rq 0 1 [] [] 0 0 Xf]=(rE (c+1),[{ak:=(c:Xj)+1}])
 |0,_=>lG 0 (by decide)
 |1,_=>lG 1 (by decide)
 |2,_=>lG 2 (by decide)
theorem Ck{c:Xg (Xe×Xe)}(b:uJ [D] c (.agg e)):∃a,c[0]?=C a/\e=iC D a:=by
 rcases b with⟨b,_⟩|⟨h,a,d,f,g,_⟩
 .cases b
 cases d;cases g;exact⟨a,f,A⟩
theorem lf{b:Xg (Xe×Xe)}(a:uJ [D] b (.agg e)):∃c,e=iC D c:=(Ck a).imp λ_ a=>a.2
def Rf(b:E)(a:Xu):E:=match a.tmps[b]? with
 |some (.int _ v)=>v.toNat
 |_=>0
theorem SN{c:Xj}:Ok {timeout:=c} 0 where
 wf:=IF
 xU:=Xg.Pairwise.nil
 key:=λb a=>by cases a
 kR:=show(1:Xj)<=1/\(1:Xj)<=(0:E)+1 by decide
 yt:=by simp
 aL:=show(0:Xj)<=0/\(0:Xj)<=512*(0:E)by decide
 uf:=λb p=>Xg.Pairwise.nil
 ue:=λb p e a=>by cases a
 LQ:=λf v a=>by obtain⟨rfl,rfl⟩:=jl a;simp
section
variable{k:E}
theorem LN{Z:Xj}(d3:-2^63<=Z/\Z<2^63)(O:xv f k a)(d0:(∃L,a.cell? ⟨1,0,F⟩=C (Xd K L))/\uQ a/\4<a.heap.size)(f8:k<=a.heap.size):
 Co (goalAt TP F F z al f) 14 #[Xd K Z] a λT U=>∃R u h m,Ld f k a T U R u h m:=by
 refine vm aC (by decide) (fn:=Tryz.f14) Tryz.func14 A (N:=λb6 d U=>b6=.ret/\d.defers=[]/\∃T,d.tmps[2]?=C T/\∃R u h m,Ld f k a T U R u h m) (r:=#[Xd K Z,I,I,I,I,I,I,I,I,I,I,I,I,I,I,I,I,I,I,I,I,I,I,I,I,I,I,I,I,I,I,I,I,I,I,I,I,I,I,I,I,I,I,I,I,I,I,I,I,I,I,I,I,I,I,I,I,I,I,I,I,I,I,I,I,I,I,I,I,I,I,I,I,I,I,I,I,I]) (by kernel_rfl) (λe1 e2=>?_) ?_
 .have S:∀e,f e->e<a.heap.size:=λe d4=>by have:=O.lt e d4;omega
  refine aQ (cl (by decide) (ks:=[]) A (by rfl) λs a8 _ _=>?_)
  go_wp2
  refine vN a8 ?_;refine aQ (cl (by decide) (ks:=[]) A (by rfl) λr b7 _ _=>?_)
  go_wp2_with (first
   |(go_at_call 21;refine(kM d3 (by decide) _).mono ?_;rintro _ _⟨L,f7,rfl,rfl⟩)
   |(go_at_call 26;refine(Qa (by decide) (by omega) _).mono ?_;rintro _ _⟨rfl,H⟩))
  rename_i d6 _ _ d7
  obtain⟨g,B⟩:∃g,Eo f k a (a.heap.size+8) (a.heap.size+7) (1+L) UL 0 g d7:=by
   have W:=b7.trans a8;have d2:(1+(L:Xj))=((1+L:E):Xj):=by omega
   rw[W,d2]at H;obtain⟨g,c0,b2,b8⟩:=Qb (a:=d6) H (by rw[W]) ⟨by grind [World.cell?],d0.2.1.stay (by rw[W]),by grind⟩;refine⟨g,⟨[],c0,H.h8,SN,λd w=>⟨by have:=(b2 d w).1;omega,(b2 d w).2⟩,by omega,λd w=>(b8 d w).imp id Xh⟩,λd w=>?_,λd w=>?_,?_,λd w=>(b2 d w).1,λd w=>(b8 d w).imp id Xh,by omega⟩
   .exact Xh (by rw[H.old d w,W])
   .rw[H.old d (S d w),W]
   rw[H.size];omega
  refine show _/\_ from⟨λb4 b3=>(B.ro b4 b3).trans (by rw[a8]),(show CW _ _ _ _ _ _ _ _ from ?_)⟩;clear H;generalize a.heap.size+8=R at B⊢
  generalize a.heap.size+7=u at B;refine aQ (aQ (cl (by decide) (ks:=[]) A (by rfl) λg5 a9 _ _=>?_))
  go_wp2
  replace B:=B.eq a9;refine vN a9 ?_;clear a9 b7;refine cH (g:=Xf) (by decide) A (eL (show CW _ _ _ _ _ _ _ _ from ?_));refine aQ (aQ (cl (by decide) (ks:=[]) A (by rfl) λd8 b0 _ _=>?_))
  go_wp2
  replace B:=B.eq b0;refine vN b0 ?_;clear b0;refine iu (um (w:=λd U=>∃c,c<=3/\(∃b9,d=Th Z R c b9)/\∃g,Eo f k a R u (1+L) (rE c) c g U) (Q:=λd a=>4-Rf 5 d) ⟨0,by decide,Is A rfl rfl rfl rfl rfl rfl,g,B⟩ ?_);rintro d d8⟨c,f5,⟨b9,rfl⟩,g,B⟩;dsimp only[Th];refine aQ (aQ (cl (by decide) (ks:=[]) A (by rfl) λg6 Q _ _=>?_));rcases(by omega:c=3\/c<3)with rfl|d1
  .go_wp2
   replace B:=B.eq Q;refine vN Q ?_;clear Q;refine cH (g:=Xf) (by decide) A (qo ?_);show CW _ _ _ _ _ _ _ _;refine aQ (eT (R:=4) A (ct (by decide) (ks:=[]) A 0 1 (more:=[1,2,3]) (l:=[_]) A (by rfl) λa5 b _ _=>?_))
   go_wp2
   replace B:=B.eq b;refine TF b ?_;clear b;obtain⟨a4,t⟩:=B.at';refine nE (a4:=[]) A rfl rfl (i:=Wt.rq 1 3 Wt.pA Wt.first 0 0 Xf) (j:=41) (b:=7) (by decide) (by decide) ⟨_,A,A,A,A⟩ ⟨_,A,A,A,A⟩ ⟨_,A,A,A,A⟩ (show 41<78 by decide) (show 7<78 by decide) (by decide) (by rfl) (by decide) (by kernel_rfl) t (O.keep B.ro) (by omega) (by omega) ⟨by decide,by decide,by decide,by decide⟩ (Xi (Xh A)) λe c6 a6 e3 P=>?_;replace B:=B.one S P;have l:=P.last;have i:=P.UY;have o:=lG 3 (by decide)
   change Wt.handle _ _ [Wt.rq 1 3 Wt.pA Wt.first 0 0 Xf]=_ at o
   rw[o]at B l i;obtain⟨g2,rfl⟩:=lf l;clear t l P o;refine dC (show CW _ _ _ _ _ _ _ _ from ?_);dsimp only[Act.put];refine aQ (eT (R:=4) A (ct (by decide) (ks:=[]) A 0 1 (more:=[1,2,3]) (l:=[_]) A (by rfl) λa5 b _ _=>?_))
   go_wp2
   replace B:=B.eq b;replace i:=i.eq b;refine TF b ?_;clear b;obtain⟨a4,t⟩:=B.at';refine nE (a4:=[]) A rfl rfl (i:=Wt.rq 2 3 Wt.pB [] 0 0 Xf) (j:=43) (b:=8) (by decide) (by decide) ⟨_,A,A,A,A⟩ ⟨_,A,A,A,A⟩ ⟨_,A,A,A,A⟩ (show 43<78 by decide) (show 8<78 by decide) (by decide) (by rfl) (by decide) (by kernel_rfl) t (O.keep B.ro) (by omega) (by omega) ⟨by decide,by decide,by decide,by decide⟩ (Xi (Xh A)) λe c7 a6 e4 P=>?_;replace B:=B.one S P;have l:=P.last;have q:=P.UY;replace i:=i.next P;have o:=lG 4 (by decide)
   change Wt.handle _ _ [Wt.rq 2 3 Wt.pB [] 0 0 Xf]=_ at o
   rw[o]at B l q i;obtain⟨g3,rfl⟩:=lf l;clear t l P o;refine dC (show CW _ _ _ _ _ _ _ _ from ?_);dsimp only[Act.put];refine aQ (eT (R:=4) A (ct (by decide) (ks:=[]) A 0 1 (more:=[1,2,3]) (l:=[_]) A (by rfl) λa5 b _ _=>?_))
   go_wp2
   replace B:=B.eq b;replace i:=i.eq b;replace q:=q.eq b;refine TF b ?_;clear b;obtain⟨a4,t⟩:=B.at';refine nE (a4:=[]) A rfl rfl (i:=Wt.rq 3 3 Rm Iy 0 0 Xf) (j:=45) (b:=9) (by decide) (by decide) ⟨_,A,A,A,A⟩ ⟨_,A,A,A,A⟩ ⟨_,A,A,A,A⟩ (show 45<78 by decide) (show 9<78 by decide) (by decide) (by rfl) (by decide) (by kernel_rfl) t (O.keep B.ro) (by omega) (by omega) ⟨by decide,by decide,by decide,by decide⟩ (Xi (Xh A)) λe c8 a6 e5 P=>?_;replace B:=B.one S P;have l:=P.last;have y:=P.UY;replace i:=i.next P;replace q:=q.next P;have o:=lG 5 (by decide)
   change Wt.handle _ _ [Wt.rq 3 3 Rm Iy 0 0 Xf]=_ at o
   rw[o]at B l y i q;obtain⟨g4,rfl⟩:=lf l;clear t l P o;refine dC (show CW _ _ _ _ _ _ _ _ from ?_);dsimp only[Act.put];refine aQ (eT (R:=4) A (ct (by decide) (ks:=[]) A 0 1 (more:=[1,2,3]) (l:=[_]) A (by rfl) λa5 b _ _=>?_))
   go_wp2
   replace B:=B.eq b;replace i:=i.eq b;replace q:=q.eq b;replace y:=y.eq b;refine TF b ?_;clear b;obtain⟨a4,t⟩:=B.at';refine nE (a4:=[]) A rfl rfl (i:=Wt.rq 1 8 Rm [] 0 0 Xf) (j:=47) (b:=10) (by decide) (by decide) ⟨_,A,A,A,A⟩ ⟨_,A,A,A,A⟩ ⟨_,A,A,A,A⟩ (show 47<78 by decide) (show 10<78 by decide) (by decide) (by rfl) (by decide) (by kernel_rfl) t (O.keep B.ro) (by omega) (by omega) ⟨by decide,by decide,by decide,by decide⟩ (Xi (Xi (Xi (Xi (Xi (Xh A)))))) λe a7 a6 c9 P=>?_;replace B:=B.one S P;have l:=P.last;have N:=P.UY;replace i:=i.next P;replace q:=q.next P;replace y:=y.next P;have o:=lG 6 (by decide)
   change Wt.handle _ _ [Wt.rq 1 8 Rm [] 0 0 Xf]=_ at o
   rw[o]at B l N i q y;obtain⟨g1,rfl⟩:=lf l;clear t l P o;refine dC (show CW _ _ _ _ _ _ _ _ from ?_);dsimp only[Act.put];refine aQ (aQ (cl (by decide) (ks:=[]) A (by rfl) λD x _ _=>?_));replace B:=B.eq x;replace i:=i.eq x;have e9:D.cell? ⟨c6,3,F⟩=C (Xd K 0):=aa i.blk 3 A;replace q:=q.eq x;have f0:D.cell? ⟨c7,3,F⟩=C (Xd K 0):=aa q.blk 3 A;replace y:=y.eq x;have f1:D.cell? ⟨c8,3,F⟩=C (Xd K 0):=aa y.blk 3 A;replace N:=N.eq x;have e7:D.cell? ⟨a7,3,F⟩=C (Xd K 0):=aa N.blk 3 A;have f2:D.cell? ⟨a7,5,F⟩=C (.string ⟨#[116,104,105,114,100]⟩):=aa N.blk 5 A;have f3:D.cell? ⟨a7,7,F⟩=C (Xd K 6):=aa N.blk 7 A
   go_wp2
   refine vN x ?_;refine cH (g:=Xf) (by decide) A (eL (show CW _ _ _ _ _ _ _ _ from ?_));refine aQ (cl (by decide) (ks:=[]) A (by rfl) λd5 X _ _=>?_)
   go_wp2
   refine show _/\_ from⟨λb4 b3=>by rw[X],(show CW _ _ _ _ _ _ _ _ from mJ ?_)⟩;exact⟨A,A,_,A,R,u,1+L,c9,A,⟨by omega,by omega⟩,B.eq X⟩
  have f6:decide (((c:Xj)+1)<=3)=J:=by simp;omega
  go_wp2
  replace B:=B.eq Q;refine vN Q ?_;clear Q;refine cH (g:=J) (by decide) A (eL (show CW _ _ _ _ _ _ _ _ from ?_));refine aQ (iu (aQ (eT (R:=4) A (ct (by decide) (ks:=[]) A 0 1 (more:=[1,2,3]) (l:=[_]) A (by rfl) λa5 b _ _=>?_))))
  go_wp2
  replace B:=B.eq b;refine TF b ?_;clear b;obtain⟨a4,t⟩:=B.at';refine nE (a4:=[]) A rfl rfl (i:=Wt.rq 0 1 [] [] 0 0 Xf) (j:=30) (b:=6) (by decide) (by decide) ⟨_,A,A,A,A⟩ ⟨_,A,A,A,A⟩ ⟨_,A,A,A,A⟩ (show 30<78 by decide) (show 6<78 by decide) (by decide) (by rfl) (by decide) (by kernel_rfl) t (O.keep B.ro) (by omega) (by omega) ⟨by decide,by decide,by decide,by decide⟩ (Xh A) λe b5 a6 m P=>?_;have a1:=B.one S P;have l:=P.last;rw[OZ c d1]at a1 l;obtain⟨g0,rfl⟩:=lf l;have b1:=P.blk;refine dC (show CW _ _ _ _ _ _ _ _ from ?_);refine aQ (cl (by decide) (ks:=[]) A (by rfl) λD x _ _=>?_);rw[<-x]at b1;have e8:D.cell? ⟨b5,3,F⟩=C (Xd K 0):=aa b1 3 A;have e6:D.cell? ⟨b5,0,F⟩=C (Xd K (c+1)):=aa b1 0 A
  go_wp2
  refine vN x ?_;replace a1:=a1.eq x;refine cH (g:=Xf) (by decide) A (eL (show CW _ _ _ _ _ _ _ _ from ?_));refine cl (by decide) (ks:=[]) A (by rfl) λd5 X _ _=>?_
  go_wp2
  refine show _/\_ from⟨λb4 b3=>by rw[X],(show(∃_,_)/\_ from⟨⟨c+1,by omega,Is A rfl rfl rfl rfl rfl (by rfl),m,a1.eq X⟩,?_⟩)⟩;show 4-((c:Xj)+1+1).toNat<4-((c:Xj)+1).toNat;omega
 rintro b6 d U⟨rfl,hd,T,f4,Y⟩;refine⟨Xi A,hd,λa0=>⟨T,?_,?_⟩⟩
 .simp_all [results]
 obtain⟨R,u,h,m,Y⟩:=Y;exact⟨R,u,h,m,⟨Y.val,Y.WT,Y.gI.eq A⟩⟩
end
end
variable{q:M}
def fits(a:Xj):Prop:=-2^63<=a/\a<2^63
abbrev AK(ak d:Xj)(e a:XB)(aE b:Xj)(c:Xo):Xk Xe:=#[Xd K ak,Xd K d,.string e,.string a,Xd K aE,Xd K b,.bool c,Xm F 0 0]
def OQ(ak a:Xj)(d c:XB)(aE b:Xj):Prop:=
 (1<=ak/\ak<=3)/\(a=3\/a=4\/a=5\/a=8\/a=9\/a=10\/a=6)/\(∃e∈AE,d=⟨e.toArray⟩)/\c.size<=16/\(-1<=aE/\aE<=2)/\0<=b/\b<=3
theorem wrap_small{a:Xj}(b:-2^63<=a)(c:a<2^63):IntKind.i64.wrap a=a:=by grind [IntKind.wrap_i64]
structure mv(a q:M)(f h e d g:Xj)(b:XB)(c:Xo)(ak:Xj):Prop where
 h0:q.heap[a.heap.size]?=C (Xn #[Xd K f,Xd K h,Xd K e,Xd K d,Xd K g,.string b,.bool c] 72 (0,0))
 h1:q.heap[a.heap.size+1]?=C (Xn (AK 0 0 ⟨#[]⟩ ⟨#[]⟩ 0 0 Xf) 31 (0,0))
 h2:q.heap[a.heap.size+1+1]?=C (Xn #[Xd K 3,Xd K 4,Xd K 5,Xd K 8,Xd K 9,Xd K 10,Xd K 6] 3 (0,0))
 h3:q.heap[a.heap.size+1+1+1]?=C (Xn (AK ak 0 ⟨#[]⟩ ⟨#[]⟩ 0 0 c) 31 (0,0))
 size:a.heap.size+4<=q.heap.size
 OL:Below a.heap.size a q
theorem Vo(a:M)(f h e d g:Xj)(b:XB)(c:Xo)(ak:Xj):mv a ((((a.alloc (.cells #[Xd K f,Xd K h,Xd K e,Xd K d,Xd K g,.string b,.bool c] 72)).alloc (.cells (AK 0 0 ⟨#[]⟩ ⟨#[]⟩ 0 0 Xf) 31)).alloc (.cells #[Xd K 3,Xd K 4,Xd K 5,Xd K 8,Xd K 9,Xd K 10,Xd K 6] 3)).alloc (.cells (AK ak 0 ⟨#[]⟩ ⟨#[]⟩ 0 0 c) 31)).drew f h e d g b c ak:=by
 have i:=rB (a:=a) (.cells #[Xd K f,Xd K h,Xd K e,Xd K d,Xd K g,.string b,.bool c] 72) A;have k:=rB (.cells (AK 0 0 ⟨#[]⟩ ⟨#[]⟩ 0 0 Xf) 31) i;have l:=rB (.cells #[Xd K 3,Xd K 4,Xd K 5,Xd K 8,Xd K 9,Xd K 10,Xd K 6] 3) k;have m:=rB (.cells (AK ak 0 ⟨#[]⟩ ⟨#[]⟩ 0 0 c) 31) l
 exact⟨bh _ (bh _ (bh _ (eC _ _ A))),bh _ (bh _ (eC _ _ i)),bh _ (eC _ _ k),eC _ _ l,ZZ m.symm,⟨A,A,A,XZ (by omega) (ZZ m.symm),λn o=>by
  show((((a.alloc _).alloc _).alloc _).alloc _).heap[n]?=_
  grind [Go.MapKept.heap_alloc]⟩⟩
section
variable{i:M}{f h e d g ak:Xj}{b:XB}{c:Xo}
theorem mv.stay(k:mv a q f h e d g b c ak)(l:Below q.heap.size q i):mv a i f h e d g b c ak:=by have p:=k.size;have n:=l.size;exact⟨by rw[l.block _ (by omega)];exact k.h0,by rw[l.block _ (by omega)];exact k.h1,by rw[l.block _ (by omega)];exact k.h2,by rw[l.block _ (by omega)];exact k.h3,by omega,⟨l.os.trans k.OL.os,l.tape.trans k.OL.tape,l.output.trans k.OL.output,XZ k.OL.size n,λm o=>(l.block m (by omega)).trans (k.OL.block m o)⟩⟩
theorem mv.c1(i:mv a q f h e d g b c ak):q.cell? ⟨a.heap.size,1,F⟩=C (Xd K h):=aa i.h0 1 A
theorem mv.c2(i:mv a q f h e d g b c ak):q.cell? ⟨a.heap.size,2,F⟩=C (Xd K e):=aa i.h0 2 A
theorem mv.c3(i:mv a q f h e d g b c ak):q.cell? ⟨a.heap.size,3,F⟩=C (Xd K d):=aa i.h0 3 A
theorem mv.c4(i:mv a q f h e d g b c ak):q.cell? ⟨a.heap.size,4,F⟩=C (Xd K g):=aa i.h0 4 A
theorem mv.c5(i:mv a q f h e d g b c ak):q.cell? ⟨a.heap.size,5,F⟩=C (.string b):=aa i.h0 5 A
theorem mv.Wr(l:mv a q f h e d g b c ak)(i:E)(m:(i:Xj)<7):∃k,(k=3\/k=4\/k=5\/k=8\/k=9\/k=10\/k=6)/\q.cell? ⟨a.heap.size+1+1,i,F⟩=C (Xd K k):=by
 obtain rfl|rfl|rfl|rfl|rfl|rfl|rfl:i=0\/i=1\/i=2\/i=3\/i=4\/i=5\/i=6:=by omega
 .exact⟨3,by omega,aa l.h2 0 A⟩
 .exact⟨4,by omega,aa l.h2 1 A⟩
 .exact⟨5,by omega,aa l.h2 2 A⟩
 .exact⟨8,by omega,aa l.h2 3 A⟩
 .exact⟨9,by omega,aa l.h2 4 A⟩
 .exact⟨10,by omega,aa l.h2 5 A⟩
 exact⟨6,by omega,aa l.h2 6 A⟩
end
theorem Hh{i:M}{f h e d g ak:Xj}{b:XB}{c:Xo}(l:mv a q f h e d g b c ak)(m:∀k,k≠a.heap.size+1+1+1->i.heap[k]?=q.heap[k]?)(s:i.heap.size=q.heap.size)(n:i.os=q.os)(o:i.tape=q.tape)(p:i.output=q.output):Below a.heap.size a i:=
 ⟨n.trans l.OL.os,o.trans l.OL.tape,p.trans l.OL.output,by rw[s];exact l.OL.size,λk r=>(m k (by omega)).trans (l.OL.block k r)⟩
theorem BO{k:Xk Xe}(B:Below a.heap.size a q):Below a.heap.size a (q.setRow (a.heap.size+1) k):=
 ⟨B.os,B.tape,B.output,by rw[abg];exact B.size,λm l=>(ZD _ _ _ _ (by omega)).trans (B.block m l)⟩
theorem OY{f h e d g:Xj}{b:XB}{c:Xo}(b1:fits f)(X:fits h)(b2:fits e)(a0:fits d)(W:fits g)(hd:(b.size:Xj)<2^63)(a:M):
 Calls KP 27 #[.agg #[Xd K f,Xd K h,Xd K e,Xd K d,Xd K g,.string b,.bool c]] a λb8 c9=>(∃ak b4 b5 a8 aE a9 c,OQ ak b4 b5 a8 aE a9/\b8=Xs (.agg (AK ak b4 b5 a8 aE a9 c)))/\Below a.heap.size a c9:=by
 unfold fits at b1 X b2 a0 W;go_enter Tryz.func27,Tryz.ntmps27
 go_upto_region 2 with fail
 go_region_held3 (λq=>q.cell? ⟨a.heap.size,0,F⟩=C (Xd K f)/\q.cell? ⟨a.heap.size,6,F⟩=C (.bool c)) (go_keep)
  (first
    |(go_at_call 21;refine(kM b1 (by decide) _).mono ?_;rintro _ _⟨p,d0,rfl,rfl⟩))
 go_upto_region 3 with fail
 all_goals (
  refine(show∀H:M,mv a H f h e d g b c (IntKind.i64.wrap (1+p))->XG.wp KP _ _ _ H fromλH i=>?_) _ (Vo _ _ _ _ _ _ _ _ _);have c6:IntKind.i64.wrap (1+(p:Xj))=1+p:=by grind [wrap_small]
  rw[c6]at i⊢
  have c2:=i.c2
  go_upto_region 4 with(go_at_call 35;refine(Qj b2 _).mono ?_;rintro _ o⟨⟨l,b3,rfl⟩,v⟩)
  replace i:=i.stay v;clear v c2;have c5:=i.c5;rcases H_ 16 b.size with b0|b0
  .have Z:decide ((16:Xj)<b.size)=J:=by simp;omega
   go_upto_region 7 with fail
   have c1:=i.c1;have c3:=i.c3;have c4:=i.c4;clear c5 Z
   go_upto_region 8 with(go_at_call 21;refine(kM X (by decide) _).mono ?_;rintro _ o⟨a2,Y,rfl,rfl⟩;obtain⟨n,c0,U⟩:=i.Wr a2 Y)
   clear c1 U
   go_upto_region 9 with(go_at_call 21;refine(kM a0 (by decide) _).mono ?_;rintro _ o⟨k,c7,rfl,rfl⟩;have a1:wrap64 ((k:Xj)-1)=k-1:=by grind [wrap64])
   clear c3 a1
   go_upto_region 10 with(go_at_call 21;refine(kM W (by decide) _).mono ?_;rintro _ o⟨m,b9,rfl,rfl⟩)
   clear c4;have a3:_=C (Xe.int K 0):=aa i.h3 1 A;have a4:_=C (Value.string ⟨#[]⟩):=aa i.h3 2 A;have a5:_=C (Value.string ⟨#[]⟩):=aa i.h3 3 A;have a6:_=C (Xe.int K 0):=aa i.h3 4 A;have a7:_=C (Xe.int K 0):=aa i.h3 5 A;have L:=frozenAt i.h3 1;have N:=frozenAt i.h3 2;have O:=frozenAt i.h3 3;have Q:=frozenAt i.h3 4;have R:=frozenAt i.h3 5
   go_upto_region 11 with fail
   clear a3 a4 a5 a6 a7 L N O Q R;have w:=aA (l:=5) (g:=Xd K m) (aA (l:=4) (g:=Xd K (k-1)) (aA (l:=3) (g:=.string (b.extract 0 16)) (aA (l:=2) (g:=.string ⟨l.toArray⟩) (aA (l:=1) (g:=Xd K n) i.h3))))
   have s:∀u,u≠a.heap.size+1+1+1->(((((o.setCell ⟨a.heap.size+1+1+1,1,F⟩ (Xd K n)).setCell ⟨a.heap.size+1+1+1,2,F⟩ (.string ⟨l.toArray⟩)).setCell ⟨a.heap.size+1+1+1,3,F⟩ (.string (b.extract 0 16))).setCell ⟨a.heap.size+1+1+1,4,F⟩ (Xd K (k-1))).setCell ⟨a.heap.size+1+1+1,5,F⟩ (Xd K m)).heap[u]?=o.heap[u]?:=λu c8=>by simp_all [ai]
   have x:(((((o.setCell ⟨a.heap.size+1+1+1,1,F⟩ (Xd K n)).setCell ⟨a.heap.size+1+1+1,2,F⟩ (.string ⟨l.toArray⟩)).setCell ⟨a.heap.size+1+1+1,3,F⟩ (.string (b.extract 0 16))).setCell ⟨a.heap.size+1+1+1,4,F⟩ (Xd K (k-1))).setCell ⟨a.heap.size+1+1+1,5,F⟩ (Xd K m)).heap.size=o.heap.size:=by simp
   have v:=Hh i s x A rfl rfl;generalize S:(((((o.setCell ⟨a.heap.size+1+1+1,1,F⟩ (Xd K n)).setCell ⟨a.heap.size+1+1+1,2,F⟩ (.string ⟨l.toArray⟩)).setCell ⟨a.heap.size+1+1+1,3,F⟩ (.string (b.extract 0 16))).setCell ⟨a.heap.size+1+1+1,4,F⟩ (Xd K (k-1))).setCell ⟨a.heap.size+1+1+1,5,F⟩ (Xd K m))=r at w s x v⊢
   have T:r.heap[a.heap.size+1+1+1]?=C (Xn (AK (1+p) n ⟨l.toArray⟩ (b.extract 0 16) (k-1) m c) 31 (0,0)):=w;have z:r.heap[a.heap.size+1]?=C (Xn (AK 0 0 ⟨#[]⟩ ⟨#[]⟩ 0 0 Xf) 31 (0,0)):=by rw[s _ (by omega)];exact i.h1
   clear w s x S;refine ZH ?_;refine Zv A 31 _ A (a.heap.size+1+1+1) A 31 (AK (1+p) n ⟨l.toArray⟩ (b.extract 0 16) (k-1) m c) (0,0) _ T A rfl rfl ?_;refine Zc A 31 _ _ A (a.heap.size+1) (AK (1+p) n ⟨l.toArray⟩ (b.extract 0 16) (k-1) m c) A rfl 31 _ z A rfl (by kernel_rfl) ?_;have D:=ZY r _ _ (AK (1+p) n ⟨l.toArray⟩ (b.extract 0 16) (k-1) m c) _ _ z;have y:=BO (k:=AK (1+p) n ⟨l.toArray⟩ (b.extract 0 16) (k-1) m c) v;generalize r.setRow (a.heap.size+1) _=b6 at D y⊢
   go_wp2
   exact Zm (aaJ A _ _ (a.heap.size+1) 31 _ _ _ A D A rfl rfl) A ⟨⟨_,_,_,_,_,_,_,⟨⟨by omega,by omega⟩,by omega,⟨l,b3,A⟩,(by grind [ByteArray.size_extract]),⟨by omega,by omega⟩,by omega,by omega⟩,A⟩,y⟩
  have Z:decide ((16:Xj)<b.size)=Xf:=by simp;omega
  go_upto_region 7 with fail
  have c1:=i.c1;have c3:=i.c3;have c4:=i.c4;clear c5 Z
  go_upto_region 8 with(go_at_call 21;refine(kM X (by decide) _).mono ?_;rintro _ o⟨a2,Y,rfl,rfl⟩;obtain⟨n,c0,U⟩:=i.Wr a2 Y)
  clear c1 U
  go_upto_region 9 with(go_at_call 21;refine(kM a0 (by decide) _).mono ?_;rintro _ o⟨k,c7,rfl,rfl⟩;have a1:wrap64 ((k:Xj)-1)=k-1:=by grind [wrap64])
  clear c3 a1
  go_upto_region 10 with(go_at_call 21;refine(kM W (by decide) _).mono ?_;rintro _ o⟨m,b9,rfl,rfl⟩)
  clear c4;have a3:_=C (Xe.int K 0):=aa i.h3 1 A;have a4:_=C (Value.string ⟨#[]⟩):=aa i.h3 2 A;have a5:_=C (Value.string ⟨#[]⟩):=aa i.h3 3 A;have a6:_=C (Xe.int K 0):=aa i.h3 4 A;have a7:_=C (Xe.int K 0):=aa i.h3 5 A;have L:=frozenAt i.h3 1;have N:=frozenAt i.h3 2;have O:=frozenAt i.h3 3;have Q:=frozenAt i.h3 4;have R:=frozenAt i.h3 5
  go_upto_region 11 with fail
  clear a3 a4 a5 a6 a7 L N O Q R;have w:=aA (l:=5) (g:=Xd K m) (aA (l:=4) (g:=Xd K (k-1)) (aA (l:=3) (g:=.string b) (aA (l:=2) (g:=.string ⟨l.toArray⟩) (aA (l:=1) (g:=Xd K n) i.h3))))
  have s:∀u,u≠a.heap.size+1+1+1->(((((o.setCell ⟨a.heap.size+1+1+1,1,F⟩ (Xd K n)).setCell ⟨a.heap.size+1+1+1,2,F⟩ (.string ⟨l.toArray⟩)).setCell ⟨a.heap.size+1+1+1,3,F⟩ (.string b)).setCell ⟨a.heap.size+1+1+1,4,F⟩ (Xd K (k-1))).setCell ⟨a.heap.size+1+1+1,5,F⟩ (Xd K m)).heap[u]?=o.heap[u]?:=λu c8=>by simp_all [ai]
  have x:(((((o.setCell ⟨a.heap.size+1+1+1,1,F⟩ (Xd K n)).setCell ⟨a.heap.size+1+1+1,2,F⟩ (.string ⟨l.toArray⟩)).setCell ⟨a.heap.size+1+1+1,3,F⟩ (.string b)).setCell ⟨a.heap.size+1+1+1,4,F⟩ (Xd K (k-1))).setCell ⟨a.heap.size+1+1+1,5,F⟩ (Xd K m)).heap.size=o.heap.size:=by simp
  have v:=Hh i s x A rfl rfl;generalize S:(((((o.setCell ⟨a.heap.size+1+1+1,1,F⟩ (Xd K n)).setCell ⟨a.heap.size+1+1+1,2,F⟩ (.string ⟨l.toArray⟩)).setCell ⟨a.heap.size+1+1+1,3,F⟩ (.string b)).setCell ⟨a.heap.size+1+1+1,4,F⟩ (Xd K (k-1))).setCell ⟨a.heap.size+1+1+1,5,F⟩ (Xd K m))=r at w s x v⊢
  have T:r.heap[a.heap.size+1+1+1]?=C (Xn (AK (1+p) n ⟨l.toArray⟩ b (k-1) m c) 31 (0,0)):=w;have z:r.heap[a.heap.size+1]?=C (Xn (AK 0 0 ⟨#[]⟩ ⟨#[]⟩ 0 0 Xf) 31 (0,0)):=by rw[s _ (by omega)];exact i.h1
  clear w s x S;refine ZH ?_;refine Zv A 31 _ A (a.heap.size+1+1+1) A 31 (AK (1+p) n ⟨l.toArray⟩ b (k-1) m c) (0,0) _ T A rfl rfl ?_;refine Zc A 31 _ _ A (a.heap.size+1) (AK (1+p) n ⟨l.toArray⟩ b (k-1) m c) A rfl 31 _ z A rfl (by kernel_rfl) ?_;have D:=ZY r _ _ (AK (1+p) n ⟨l.toArray⟩ b (k-1) m c) _ _ z;have y:=BO (k:=AK (1+p) n ⟨l.toArray⟩ b (k-1) m c) v;generalize r.setRow (a.heap.size+1) _=b6 at D y⊢
  go_wp2
  exact Zm (aaJ A _ _ (a.heap.size+1) 31 _ _ _ A D A rfl rfl) A ⟨⟨_,_,_,_,_,_,_,⟨⟨by omega,by omega⟩,by omega,⟨l,b3,A⟩,b0,⟨by omega,by omega⟩,by omega,by omega⟩,A⟩,y⟩)
variable{e:E}{a:E}{k:fG}
section
variable[Inhabited aM]
abbrev Ou(a c d e b:Xj)(k:XB)(f:Xo):Xk Xe:=#[Xd K a,Xd K c,Xd K d,Xd K e,Xd K b,.string k,.bool f]
theorem PW{b:E}{n x D H w:Xj}{k:XB}{L:Xo}(d:∀j i,(Ou n x D H w k L)[j]?=C i->q.cell? ⟨e,b+j,F⟩=C i):
 ∃new,(Instr.loadAt 72 (XA (C ⟨e,b,F⟩))).runT TP q #[]=(.ok (.agg (Ou n x D H w k L)) q,new)/\∀N∈new,N.write=Xf/\∃i,N.loc=.cell i/\i.block=e:=by
 have O:q.cell? ⟨e,b,F⟩=C (Xd K n):=d 0 _ A;have S:q.cell? ⟨e,b+1,F⟩=C (Xd K x):=d 1 _ A;have T:q.cell? ⟨e,b+2,F⟩=C (Xd K D):=d 2 _ A;have U:q.cell? ⟨e,b+3,F⟩=C (Xd K H):=d 3 _ A;have W:q.cell? ⟨e,b+4,F⟩=C (Xd K w):=d 4 _ A;have X:q.cell? ⟨e,b+5,F⟩=C (.string k):=d 5 _ A;have Y:q.cell? ⟨e,b+6,F⟩=C (.bool L):=d 6 _ A;refine⟨_,V_ ?_ A,?_⟩
 .go_simp
 simp[go_sem,Instr.loadAt,Instr.sureAddr,loadVar,loadCells,loadCellsFrom,isAgg,O,S,T,U,W,X,Y]
structure oT(l h:Xe)(Q:Xp Xw)(g o:E)(p:E->Xk Xe):Prop where
 val:l=.slice Q g o
 rel:∀L:Ren,an al L h l
 small:g<2^63
 row:∀a,a<g->∃e x b i n w d k D,Q=C ⟨e,x,F⟩/\e<dA.heap.size/\p a=Ou b i n w d k D/\fits b/\fits i/\fits n/\fits w/\fits d/\(k.size:Xj)<2^63/\∀j H,(Ou b i n w d k D)[j]?=C H->dA.cell? ⟨e,x+a*7+j,F⟩=C H
structure uL(b:ew):Prop where
 ak:1<=b.ak/\b.ak<=3
 kind:b.op.kind=3\/b.op.kind=4\/b.op.kind=5\/b.op.kind=8\/b.op.kind=9\/b.op.kind=10\/b.op.kind=6
 path:b.op.path∈AE
 data:b.op.data.length<=16
 aE:-1<=b.op.aE/\b.op.aE<=2
 flags:0<=b.op.flags/\b.op.flags<=3
def CR(a:Xe):Prop:=aR (λ_=>False) a/\NB a
theorem QZ{d:ew}{b:Xe}(a:b∈(Ip d).toList):CR b:=by
 simp only[XV,Yd,YS]at a;rcases a with rfl|rfl|rfl|rfl|rfl|rfl|rfl|rfl
 all_goals refine⟨?_,λe c=>by cases c⟩
 all_goals first|exact .int _ _|exact .string _|exact .bool _|exact .aO _ _
theorem UJ(d:ew):∀a∈(Ip d).toList,a.oneCell'=J/\CR a:=λa b=>⟨by
 have c:=b;simp only[XV,Yd,YS]at c
 rcases c with rfl|rfl|rfl|rfl|rfl|rfl|rfl|rfl<;>rfl,QZ b⟩
def uM(a:Xg ew)(d:Xe)(c:M):Prop:=cr CR c 31 8 d a.length (a.flatMap λb=>(Ip b).toList)
abbrev Ti(h:Xe)(c:Xe)(a:E)(b:E->Xe):Xu:=⟨#[h,b 1,Xm F 0 0,c,Xd K a,b 5,b 6,b 7,b 8,b 9,b 10,b 11,b 12,b 13,b 14,b 15,b 16,b 17,b 18,b 19,b 20,b 21,b 22,b 23,b 24,b 25],[]⟩
theorem It{h:Xe}{i:Xe}{b:Xu}(g:b.tmps.size=26)(hd:b.defers=[])(c:b.tmps[0]?=C (h))(d:b.tmps[2]?=C (Xm F 0 0))(e:b.tmps[3]?=C (i))(f:b.tmps[4]?=C (Xd K a)):∃m,b=Ti h i a m:=by obtain⟨l,n⟩:=b;simp only at g hd c d e f;subst hd;exact⟨λa=>l.getD a I,YU (λk=>(⟨k,[]⟩:Xu)) ((TU g).trans (by simp only[Xg.range,Xg.range.loop,Xg.map,Yu,c,d,e,f,Zz]))⟩
section
variable{m:E}{l h:Xe}{o:E}{p:E->Xk Xe}
theorem NH:∀fn,TP.funcs[(Go.Conc.base 15).fn]?=C fn->fn.norace=Xf:=λfn a=>by grind [Go.Conc.base,Tryz.f15,Tryz.func15]
theorem UH:∃a c,TP.underlying 25=C (.slice 31)/\(TP.info? 31=C a/\a.zero=C c/\a.size=8/\a.bytes<=1000/\c.cells.size=8/\0<8)/\∀b∈c.cells.toList,CR b:=by refine⟨_,_,A,⟨A,A,A,by decide,A,by decide⟩,?_⟩;intro b d;have e:b∈(Ip {}).toList:=d;exact QZ e
def TM(h:Xe)(g:E)(c:M)(b:Xu)(e:M):Prop:=∃a d,a.length<=40/\a.length<=g/\(∃k,b=Ti h d a.length k)/\(∀i∈a,uL i)/\uM a d e/\(∀b,b<c.heap.size->e.heap[b]?=c.heap[b]?)/\c.heap.size<=e.heap.size/\(a=[]->d=Xm F 0 0)/\∀f,d.ownBlock=C f->c.heap.size<=f
theorem Dw(X:oT l h Q g o p)(f5:xv f m c)(k7:m<=c.heap.size):
 UT (goalAt TP F F z al f) 15 [(0,l)] #[h] c λx R=>∃n:Xg ew,(∀d∈n,uL d)/\n.length<=40/\uM n x R/\(∀b,b<c.heap.size->R.heap[b]?=c.heap[b]?)/\c.heap.size<=R.heap.size/\(n=[]->x=Xm F 0 0)/\∀w,x.ownBlock=C w->c.heap.size<=w:=by
 refine Jj aC (by decide) (fn:=Tryz.f15) Tryz.func15 A (N:=λt b R=>t=.ret/\b.defers=[]/\∃x,b.tmps[2]?=C x/\∃n:Xg ew,(∀d∈n,uL d)/\n.length<=40/\uM n x R/\(∀b,b<c.heap.size->R.heap[b]?=c.heap[b]?)/\c.heap.size<=R.heap.size/\(n=[]->x=Xm F 0 0)/\∀w,x.ownBlock=C w->c.heap.size<=w) (s:=#[h,I,I,I,I,I,I,I,I,I,I,I,I,I,I,I,I,I,I,I,I,I,I,I,I,I]) (by kernel_rfl) (λm0 m1=>?_) ?_
 .have k9:∀i,f i->i<c.heap.size:=λi L=>by have:=f5.lt i L;omega
  refine aQ (cl (by decide) (ks:=[0]) A (by rfl) λr a2 _ _=>?_)
  go_wp2
  refine vN a2 ?_;refine aQ (cl (by decide) (ks:=[0]) A (by rfl) λs a4 _ _=>?_)
  go_wp2
  refine vN a4 ?_;refine aQ (aQ (cl (by decide) (ks:=[0]) A (by rfl) λn7 d1 _ _=>?_))
  go_wp2
  refine vN d1 ?_;have f6:=d1.trans (a4.trans a2);clear d1 a4 a2;refine iu (um (w:=TM h g c) (Q:=λb _=>40-Rf 4 b) ⟨[],Xm F 0 0,by decide,YA _,It A rfl rfl rfl rfl rfl,(λd Y=>by cases Y),cr.nil _ _ _ _,(λb _=>by rw[f6]),(by simp_all),(λ_=>rfl),(λw Y=>by cases Y)⟩ ?_);rintro b i5⟨n,e5,g7,h6,⟨a1,rfl⟩,a8,Z,b9,e1,b8,a9⟩;replace b8:=Xl b8;dsimp only[Ti];generalize b7:n.length=a at g7 h6⊢
  refine aQ (aQ (eT (R:=8) A (nG ?_)));refine zI aC (by decide) (by decide) (L:=0) (more:=[1,2,3,4,5,6,7]) ⟨_,A,A,A,A⟩ (n:=[0]) A (by rfl) (by decide) λn8 a5 _ _ D N t=>?_
  go_wp2
  refine⟨λi _=>by rw[a5],?_⟩;refine ji NH (by decide) (L:=1) (more:=[2,3,4,5,6,7]) (j:=7) ⟨_,A,A,A,A⟩ (v:=h) (V:=l) A (show 7<26 by decide) (λq a6 S U _ _=>⟨#[],λD N t=>?_,by simp⟩) X.rel ?_
  .show(Sem.pure (Next.value (S (.tmp 0)))).runT TP q #[]=_;simp_all
  refine ji NH (by decide) (L:=2) (more:=[3,4,5,6,7]) (j:=8) ⟨_,A,A,A,A⟩ (v:=Xd K g) (V:=Xd K g) A (show 8<26 by decide) (λq a6 S U _ _=>⟨#[],λD N t=>?_,by simp⟩) (λ_=>.int _ _) ?_
  .have d5:=U 7 l (by simp);rw[X.val]at d5;rw[s_];refine V_ ?_ ?_
   .simp[execOp,d5,go_sem]
   simp[execOp,d5,go_sem]
  refine zH A (λN k8=>by simp_all) ?_;dsimp only[Act.put];refine ct (by decide) (ks:=[0]) A 3 5 (more:=[]) (l:=[_,_,_,_,_]) A (by rfl) λn9 T _ _=>?_;by_cases b6:a<g/\a<40
  .have c1:decide ((a:Xj)<g)=J:=by simp;omega
   have c2:decide ((a:Xj)<40)=J:=by simp;omega
   go_wp2
   refine Sim.kp T (dC (show CW _ _ _ _ _ _ _ _ from ?_));refine cH (g:=J) (by decide) A (eL (show CW _ _ _ _ _ _ _ _ from ?_));obtain⟨e,e4,e7,f0,f1,f2,e9,e8,swa,g8,h0,k6,f9,g2,g3,g4,g1,g0,h2⟩:=X.row a b6.1;clear c1 c2;refine aQ (iu (aQ (eT (R:=7) A (nG ?_))));refine ji NH (by decide) (L:=0) (more:=[1,2,3,4,5,6]) (j:=16) ⟨_,A,A,A,A⟩ (v:=h) (V:=l) A (show 16<26 by decide) (λq a6 S U _ _=>⟨#[],λD N t=>?_,by simp⟩) X.rel ?_
   .show(Sem.pure (Next.value (S (.tmp 0)))).runT TP q #[]=_;simp_all
   refine zI aC (by decide) (by decide) (L:=1) (more:=[2,3,4,5,6]) ⟨_,A,A,A,A⟩ (n:=[16,0]) A (by rfl) (by decide) λi6 H _ _ D N t=>?_
   go_wp2
   refine⟨λi _=>by rw[H],?_⟩;refine ji NH (by decide) (L:=2) (more:=[3,4,5,6]) (j:=18) ⟨_,A,A,A,A⟩ (v:=.tuple #[]) (V:=XA (C ⟨e,e4+a*7,F⟩)) A (show 18<26 by decide) (λq a6 S U _ g6=>⟨#[],λD N t=>?_,by simp⟩) (λ_=>.bS trivial) ?_
   .have d3:=U 16 l (by simp);have g5:=g6 17 K a A;rw[X.val,g8]at d3;refine V_ ?_ ?_
    .simp[execOp,d3,g5,go_sem];omega
    simp[execOp,d3,g5,go_sem,Instr.indexAt];omega
   refine ji NH (by decide) (L:=3) (more:=[4,5,6]) (j:=19) ⟨_,A,A,A,A⟩ (v:=.agg (Ou e7 f0 f1 f2 e9 e8 swa)) (V:=.agg (Ou e7 f0 f1 f2 e9 e8 swa)) A (show 19<26 by decide) (λq a6 S U _ g6=>?_) (λo3=>?_) ?_
   .have k0:S (.tmp 18)=XA (C ⟨e,e4+a*7,F⟩):=U 18 _ (by simp)
    obtain⟨new,a2,a4⟩:=PW (q:=q) (e:=e) (b:=e4+a*7) (n:=e7) (x:=f0) (D:=f1) (H:=f2) (w:=e9) (k:=e8) (L:=swa) λj i L=>by
     have:=h2 j i L;unfold M.cell? at this⊢
     rw[a6.heap e h0];exact this
    refine⟨new,λD N t=>?_,λt k5=>⟨(a4 t k5).1,?_⟩⟩
    .show Xz.runT TP ((Instr.loadAt 72 (S (.tmp 18))).bind λi=>Sem.pure (Next.value i)) q #[]=_;rw[k0,Go.Sem.runT_bind',a2];rfl
    grind
   .refine .agg A λa i o2 L l2=>?_;obtain rfl:=YF (L.symm.trans l2);have h7:=Yz.2 (Ys L);simp only[XV,Yd,YS]at h7;rcases h7 with rfl|rfl|rfl|rfl|rfl|rfl|rfl
    all_goals first|exact .int _ _|exact .string _|exact .bool _
   refine zH A (λN k8=>by simp_all) ?_;dsimp only[Act.put];refine ct (by decide) (ks:=[0]) A 4 3 (more:=[]) (l:=[_,_,_]) A (by rfl) λo0 f8 _ _=>?_
   go_wp2_with (go_at_call 27;refine(OY f9 g2 g3 g4 g1 g0 _).mono ?_;rintro _ v⟨⟨ak,l3,n0,c9,aE,j9,i7,k2,rfl⟩,d6⟩)
   obtain⟨i2,h5,⟨l4,h9,rfl⟩,k4,i3,h3⟩:=k2;obtain⟨d0,rfl⟩:∃d0:Xg UInt8,c9=bs d0:=⟨c9.data.toList,by cases c9;rfl⟩;obtain⟨d,d9⟩:∃d:ew,d={ak:=ak,op:={kind:=l3,path:=l4,data:=d0,aE:=aE,flags:=j9},watch:=i7}:=⟨_,A⟩;have e0:uL d:=by rw[d9];exact⟨i2,h5,h9,by grind [bs,ByteArray.size],i3,h3⟩
   generalize e3:v.alloc _=W;have d4:=f8.trans (H.trans (T.trans a5))
   have y:W.heap[v.heap.size]?=C (Xn (Ip d) 31 (0,0)):=by rw[<-e3,d9];exact(ZC _ _).1
   have c8:=d6.size;rw[d4]at c8;have c7:W.heap.size=v.heap.size+1:=by grind [pe]
   have b2:∀b,b<i5.heap.size->W.heap[b]?=i5.heap[b]?:=λb a7=>by rw[<-e3,XQ _ _ _ (by omega),d6.block b (by simp_all),d4]
   clear e3 d6 d9;refine show _/\_ from⟨λi L=>?_,dC (show CW _ _ _ _ _ _ _ _ from ?_)⟩
   .grind
   refine eT (R:=5) A (ct (by decide) (ks:=[0]) A 0 3 (more:=[3,4]) (l:=[_,_,_]) A (by rfl) λO f7 _ _=>?_);rw[<-f7]at y;have j1:O.cell? ⟨v.heap.size,0,F⟩=C (Xd K d.ak):=aa y 0 A;have j2:O.cell? ⟨v.heap.size,1,F⟩=C (Xd K d.op.kind):=aa y 1 A;have j3:O.cell? ⟨v.heap.size,2,F⟩=C (.string (bs d.op.path)):=aa y 2 A;have j4:O.cell? ⟨v.heap.size,3,F⟩=C (.string (bs d.op.data)):=aa y 3 A;have j5:O.cell? ⟨v.heap.size,4,F⟩=C (Xd K d.op.aE):=aa y 4 A;have j6:O.cell? ⟨v.heap.size,5,F⟩=C (Xd K d.op.flags):=aa y 5 A;have j7:O.cell? ⟨v.heap.size,6,F⟩=C (.bool d.watch):=aa y 6 A;have j8:O.cell? ⟨v.heap.size,7,F⟩=C (Xm F 0 0):=aa y 7 A
   go_wp2
   generalize l1:O.alloc _=f3
   have h1:f3.heap[W.heap.size]?=C (Xn (Ip d) 31 (0,0)):=by grind [heap_alloc]
   have a0:∀b,b<W.heap.size->f3.heap[b]?=W.heap[b]?:=λb a7=>by grind [Below.heap_alloc]
   have e6:f3.heap.size=W.heap.size+1:=by grind [pe]
   clear l1 j1 j2 j3 j4 j5 j6 j7 j8 y;refine show _/\_ from⟨λi L=>a0 i (by grind),?_⟩;refine ct (by decide) (ks:=[0]) A 3 1 (more:=[4]) (l:=[_]) A (by rfl) λl5 a3 _ _=>?_;rw[<-a3,c7]at h1
   have g9:cr CR l5 31 8 e5 a (n.flatMap λd=>(Ip d).toList):=by rw[<-b7];exact Z.stay λb0 h4=>by rw[a3,a0 b0 (by have:=Z.lt b0 h4;omega),b2 b0 (Z.lt b0 h4)]
   obtain⟨n2,n3,e2,i0,i1⟩:=UH;refine mr A (.tmp 21) (.tmp 23) 25 A rfl g9 e2 i0 i1 (r:=⟨v.heap.size+1,0,F⟩) (s:=1) A (Ip d).toList A (λj a1 e2=>by grind [qe,aa]) (UJ d) (by omega) ?_;intro i4 l6 b5 d8 h8
   have c0:∀b,b<c.heap.size->l6.heap[b]?=c.heap[b]?:=λb a7=>by rw[d8.block b (by grind) (λt=>by have:=a9 b t.symm;omega),a3,a0 b (by omega),b2 b (by omega),b9 b a7]
   have b3:=d8.size;rw[a3]at b3;have b1:=λw d7=>(h8 w d7).elim (a9 w) λY=>by grind
   have f4:=Xl (And.intro b5 (And.intro c0 (And.intro b3 b1)));have i8:=Xl (And.intro b2 (And.intro a0 b9));clear d8 h8 b5 c0 b3 b1 h1 b2 a0 b9 Z g9 e2 i0 i1 h2 k6 a3;refine show tV _ _ _/\_ from⟨λi L=>?_,(show CO _ _ _ _ _ [4] _ (Act.put _ (C 24) i4) _ from ?_)⟩
   .obtain⟨b5,c0,b3,b1⟩:=f4.out;obtain⟨b2,a0,b9⟩:=i8.out
    grind
   dsimp only[Act.put];refine ct (by decide) (ks:=[0]) A 4 1 (more:=[]) (l:=[_]) A (by rfl) λn6 b4 _ _=>?_
   go_wp2
   refine Sim.kp b4 (dC (show CW _ _ _ _ _ _ _ _ from ?_));refine cl (by decide) (ks:=[0]) A (by rfl) λn5 j0 _ _=>?_;have l0:wrap64 ((a:Xj)+1)=a+1:=by grind [wrap64]
   have i9:=Xl (And.intro b6 (And.intro b7 (And.intro a8 (And.intro e0 (And.intro e1 (And.intro c8 (And.intro c7 (And.intro e6 b4))))))));clear b6 b7 a8 e0 e1 c8 c7 e6 b4 d4 f8 f7 h9 h5 i2 k4 i3 h3 f9 g2 g3 g4 g1 g0 g8 h0 H T a5 a9 g7 h6 X f5 k7 k9 f6
   go_wp2
   refine Sim.kp j0 ?_;obtain⟨b5,c0,b3,b1⟩:=f4.out;obtain⟨b6,b7,a8,e0,e1,c8,c7,e6,b4⟩:=i9.out;refine show TM _ _ _ _ _/\_ from⟨⟨n++[d],i4,?_,?_,It A rfl rfl rfl rfl ?_,?_,?_,?_,?_,(λY=>absurd Y (by simp)),?_⟩,?_⟩
   .simp;omega
   .simp;omega
   .simp_all
   .grind
   .simp_all [cr,uM]
   .simp_all
   .grind
   .exact b1
   show 40-(wrap64 ((a:Xj)+1)).toNat<40-(a:Xj).toNat;rw[l0];omega
  rcases(by omega:g<=a\/(a<g/\40<=a))with k3|k3
  .go_wp2
   refine Sim.kp T (dC (show CW _ _ _ _ _ _ _ _ from ?_));refine cH (g:=Xf) (by decide) A (qo ?_);show CW _ _ _ _ _ _ _ _;refine aQ (cl (by decide) (ks:=[0]) A (by rfl) λi6 H _ _=>?_)
   go_wp2
   refine show _/\_ from⟨λi _=>by rw[H],(show CW _ _ _ _ _ _ _ _ from mJ ?_)⟩;have d2:=H.trans (T.trans a5);exact⟨A,A,e5,A,n,a8,by omega,Z.stay λw d7=>by rw[d2],λb a7=>by simp_all,by simp_all,b8.out,a9⟩
  have c2:decide ((a:Xj)<40)=Xf:=by simp;omega
  go_wp2
  refine Sim.kp T (dC (show CW _ _ _ _ _ _ _ _ from ?_));refine cH (g:=Xf) (by decide) A (qo ?_);show CW _ _ _ _ _ _ _ _;refine aQ (cl (by decide) (ks:=[0]) A (by rfl) λi6 H _ _=>?_)
  go_wp2
  refine show _/\_ from⟨λi _=>by rw[H],(show CW _ _ _ _ _ _ _ _ from mJ ?_)⟩;have d2:=H.trans (T.trans a5);exact⟨A,A,e5,A,n,a8,by omega,Z.stay λw d7=>by rw[d2],λb a7=>by simp_all,by simp_all,b8.out,a9⟩
 rintro t b R⟨rfl,hd,x,m5,k1⟩;refine⟨Xi A,hd,λD=>⟨x,?_,k1⟩⟩;simp_all [results]
end
section
variable{m v t:E}{r s:M}
theorem Eo.base(b:Eo f m r R u v y t k s)(d:r.heap=c.heap):Eo f m c R u v y t k s:=⟨b.at',λa e=>EF (b.keep a (by simp_all)) d.symm A,λa e=>by rw[<-d];exact b.ro a e,by rw[<-d];exact b.size,λa e=>by rw[<-d];exact b.own a e,λa e=>by rw[<-d];exact b.use a e,by rw[<-d];exact b.sx⟩
theorem BQ{d:ew->Xg Xe}(f:∀b,(d b).length=8):∀(c:Xg ew)(a j:E)(b:ew),c[a]?=C b->j<8->(c.flatMap d)[a*8+j]?=(d b)[j]?
 |[],a,j,b,e,_=>by cases e
 |h::c,0,j,b,e,g=>by
  grind
 |h::c,a+1,j,b,e,g=>by rw[Zu,YP (by grind),f,show(a+1)*8+j-8=a*8+j by omega];simp_all [BQ]
end
variable{h:M}{m:Xe}{g:Xq}{s:Out}
def RI(c h:M)(b:E):Prop:=(h.heap[b]?).map Sim.Obj.whole=(c.heap[b]?).map Sim.Obj.whole
theorem abv(a:gd c h b):RI c h b:=by
 rcases a with a|⟨d,k,e,f,_,g,i⟩
 .simp[RI,a]
 simp_all [RI,Sim.Obj.whole]
structure Bc(own:E->Prop)(Q:Xp Xw)(c h:M):Prop where
 size:c.heap.size<=h.heap.size
 wh:∀b,b<c.heap.size->¬own b->RI c h b
 keep:∀b,b<c.heap.size->¬own b->(∀a,Q≠C ⟨b,a,F⟩)->(∀d n e,c.heap[b]?=C (Xn d n e)->¬aT d)->h.heap[b]?=c.heap[b]?
 iK:∀b a,Q=C ⟨b,a,F⟩->h.heap[b]?=(c.heap[b]?).map Sim.Obj.whole
section
variable{p r q:E}{x:Xg Out}{z:fG}{D:M}{own:E->Prop}{B:Xp Xw}{i:Xg ew}
theorem dH.vW(a:dH f p R u r y q k Q i c m h z):Bc (aI u y.tree k) Q c h where
 size:=a.size
 wh:=λb l n=>by
  by_cases e:∃d,Q=C ⟨b,d,F⟩
  .obtain⟨d,g⟩:=e;rw[RI,a.iK b d g];cases c.heap[b]? with
   |none=>rfl
   |some s=>cases s<;>rfl
  exact abv (a.keep b l n λd g=>e ⟨d,g⟩)
 keep:=λb l n e N=>by
  rcases a.keep b l n e with g|⟨o,O,v,w,L,H,_⟩
  .exact g
  grind
 iK:=a.iK
theorem Eo.vW(a:Eo f p c R u r y q k h):Bc (λ_=>False) F c h where
 size:=a.size
 wh:=λb d _=>abv (a.keep b d)
 keep:=λb d _ _ w=>by
  rcases a.keep b d with g|⟨e,L,l,n,v,o,_⟩
  .exact g
  grind
 iK:=λb H g=>by cases g
theorem mU(f:c.heap.size<=h.heap.size)(e:∀b,b<c.heap.size->¬own b->h.heap[b]?=c.heap[b]?):Bc own F c h where
 size:=f
 wh:=λb a d=>by simp_all [RI]
 keep:=λb a d _ _=>e b a d
 iK:=λb i g=>by cases g
theorem Hw(g:h.heap=c.heap):Bc own F c h:=mU (by simp[g]) λb _ _=>by rw[g]
theorem pX.vW(a:pX p R u r y q x k c)(l:Bc own Q c h)(o:∀b,aI u y.tree k b\/dw k b\/b=R->¬own b)(v:∀b e,Q=C ⟨b,e,F⟩->¬aI u y.tree k b/\b≠R):pX p R u r y q x k h where
 gI:=a.gI.same ⟨l.size,λb d=>l.keep b (a.gI.bj d) (o b (Xh d)) (λe g=>(v b e g).1 d) (λw L H n=>a.gI.En d n),λb d=>l.wh b (a.gI.iY d) (o b (Xi (Xh d)))⟩
 ptr:=by
  have n:=a.ptr;rw[l.keep R (XN.1 n).1 (o R (.inr (.inr A))) (λe g=>(v R e g).2 A) λw L H N=>?_]
  .exact n
  simp_all [mZ]
 ok:=a.ok
 own:=a.own
 KY:=a.KY
 use:=a.use
theorem cr.vW{e:Xe->Prop}{size:E}{v:Xg Xe}(l:cr e c g size m t v)(U:∀o,e o->NB o)(w:Bc own Q c h)(n:∀a,m.ownBlock=C a->¬own a/\∀H,Q≠C ⟨a,H,F⟩):cr e h g size m t v:=
 l.stay λa d=>w.keep a (l.lt a d) (n a d).1 (n a d).2 λL X O W=>by
  obtain⟨N,S,T⟩:=l.blk a d
  grind [fP]
theorem jX.vW{e:Xe×Xe}(d:jX s e c)(l:Bc own Q c h)(n:∀b,e.1.ownBlock=C b\/e.2.ownBlock=C b->¬own b):jX s e h:=
 ⟨d.1.stay λb a=>l.wh b (d.lt (Xh a)) (n b (Xh a)),d.2.stay λb a=>l.wh b (d.lt (Xi a)) (n b (Xi a))⟩
def uO(i:Xg ew)(B:Xp Xw)(c:M):Prop:=(B=F/\i=[])\/∃b a g d,B=C ⟨b,0,F⟩/\c.heap[b]?=C (Xn a g d)/\0<a.size/\d.2<=a.size/\(∀h∈a.toList,CR h)/\∀(e:E) f,i[e]?=C f->∀j,j<8->a[e*8+j]?=(Ip f)[j]?
theorem uO.of(q:uM i m c)(w:i=[]->m=Xm F 0 0):∃B f,m=.slice B i.length f/\i.length<=f/\uO i B c/\∀d k,B=C ⟨d,k,F⟩->m.ownBlock=C d:=by
 rcases q.2 with⟨g,a⟩|⟨p,l,n,g,s,a,x,y,z,r⟩
 .refine⟨F,0,by rw[g,a],by omega,Xh ⟨A,YR.1 a⟩,λ_ _ g=>by cases g⟩
 refine⟨_,l,g,a,Xi ⟨p,n,31,(0,0),A,s,?_,by simp,r,λh b u j t=>?_⟩,λd k o=>by cases o;rw[g];rfl⟩
 .grind
 obtain⟨e,v⟩:∃e,(Ip b)[j]?=C e:=by simp_all
 have D:(i.flatMap λb=>(Ip b).toList)[h*8+j]?=C e:=by rw[BQ (λ_=>rfl) i h j b u t];simpa using v
 grind
theorem uO.vW(n:uO i B c)(v:Bc own Q c h)(U:∀a d,B=C ⟨a,d,F⟩->¬own a):uO i B h:=by
 rcases n with n|⟨a,l,O,S,rfl,e,w,T,o,H⟩
 .exact Xh n
 by_cases L:∃d,Q=C ⟨a,d,F⟩
 .obtain⟨d,g⟩:=L;exact Xi ⟨a,l,O,(0,l.size),A,by rw[v.iK a d g,e];rfl,w,XS _,o,H⟩
 refine Xi ⟨a,l,O,S,A,?_,w,T,o,H⟩;rw[v.keep a (XN.1 e).1 (U a 0 A) (λd g=>L ⟨d,g⟩) λY a0 Z N=>?_]
 .exact e
 rw[e]at N;cases N;exact fP λX W=>(o X W).2
theorem uO.list(u:uO i B c)(g:E)(f:Xg ew)(m:∀a d,f[a]?=C d->i[g+a]?=C d)(D:∀e L,B=C ⟨e,L,F⟩->p<=e/\e≠R/\¬own e):
 oU p R own (B.map λb=>⟨b.block,g*8,F⟩) f.length (λa=>Qx (f.getD a {})) c:=by
 rcases u with⟨rfl,rfl⟩|⟨e,o,N,t,rfl,v,w,x,l,y⟩
 .refine Xh ⟨A,?_⟩;rcases f with _|⟨d,f⟩
  .rfl
  have:=m 0 d A;simp at this
 obtain⟨q,r,s⟩:=D e 0 A;refine Xi ⟨e,g*8,o,N,t,A,v,w,x,λa k h=>(l k (Yz.2 (Ys h))).1,fP λk h=>(l k h).2,λa O j H=>?_,q,r,s⟩;obtain⟨d,n⟩:∃d,f[a]?=C d:=by simp_all
 have z:=y (g+a) d (m a d n) j H;rw[<-aat,z];show _=(Qx (f.getD a {})).jf[j]?;rw[Xg.getD_eq_getElem?_getD,n];rfl
end
variable{g:M}{Y:M}{T:Xe}
def ya(R c:E)(d:Tree)(a:fG)(b:E):Prop:=aI c d a b\/dw a b\/b=R
structure OK(k R c n:E)(e:cN)(m:E)(o:Xg Out)(d:fG)(p h r:E)(l:cN)(q:E)(s:Xg Out)(i:fG)(g:M):Prop where
 x:pX k R c n e m o d g
 y:pX k p h r l q s i g
 xy:∀b,ya R c e.tree d b->¬aI h l.tree i b
 yx:∀b,ya p h l.tree i b->¬aI c e.tree d b
section
variable{k c n m p h r q:E}{e l:cN}{o s:Xg Out}{d i H:fG}{own:E->Prop}{S:Xg ew}
theorem pX.WU(f:pX k R c n e m o d g)(a:ya R c e.tree d b):b<g.heap.size:=by
 rcases a with a|a|rfl
 .exact f.gI.bj a
 .exact f.gI.iY a
 exact(XN.1 f.ptr).1
variable{z D t u:E->Prop}{L N:Xg Out}{W X:Xg (Xe×Xe)}{O U:Xe}
end
end
end Go.Sv
namespace Go.Sim
open Go.Conc Go.Proofs Go.RowKit
open Go.ConcN (PermW PermW.app PermW.of fork_knows WgLive RelBy sumTo)
open Go.ConcR (KK wgBlock WgAt stA smA rd wr mk DC0)
variable{P:Xy}{h:Set}{f:E->Prop}{g:Xr}{i:Xg Xr}{N:Exit->Xu->M->Prop}{e:Xu}{c:M}
section
variable[Inhabited aM]
section
variable{main:Xo}{d:Goal P h main f}{k:Rt}{l:Xg Deferred}
def pY(d:Goal P h main f)(g:Xr)(k:Rt)(i:Xg Xr)(m:XG)(N:Exit->Xu->M->Prop)(e:Xu)(c:M):Prop:=
 ∀(a:Ren)(b:Xg Item)(l:Xu),jG b=J->Inv P h f a c->ar h a k e l->mB P h main f d g ⟨k.d0,[]⟩ i b N a c->d.G a c (rg (g.at l (.code m::b)) i)
theorem Se{a:XG}(h:CW d g ⟨k.d0,[]⟩ i a N e c):pY d g k i a N e c:=λo n f _ b m l=>h o n f b (m.less A (by simp)) l
theorem eM{l b:XG}(r:CW d g k i l (λf e c=>f=.normal/\pY d g k i b N e c) e c):pY d g k i (.seq l b) N e c:=λw h o t m u s=>by refine d.pure A rfl (λy=>by rfl) (r w (.code b::h) o m u λf x z p D n q v a=>?_);obtain⟨rfl,a⟩:=a;exact a x h p t n v (s.grow q)
theorem Mu{a:XG}(h:pY d g ⟨k.d0,[]⟩ i a N e c):pY d g k i a N e c:=λp o f m b n l=>h p o f m b (n.less A (by simp)) l
theorem Mw{m b:XG}(s:pY d g ⟨l,[]⟩ i m (λf e c=>f=.normal/\pY d g ⟨l,[]⟩ i b N e c) e c):pY d g ⟨l,[]⟩ i (.seq m b) N e c:=λw k p h n u t=>by refine d.pure A rfl (λy=>by rfl) (s w (.code b::k) p (by simpa[jG,wE]using h) n u λf x z q D o r v a=>?_);obtain⟨rfl,a⟩:=a;exact a x k q h o v (t.grow r)
theorem Mv(o:Good P h)(x:h.fr g.fn=J)(v:g.kind=.normal){m:XG}(w:h.code m=J)(l:Xu->M->Prop)
 (t:∀k:M,k.heap=c.heap->k.drawn=c.drawn->k.os=c.os->k.output=c.output->m.wp P (eP l) e k)(z:∀b a,l b a->∀n,f n->a.heap[n]?=c.heap[n]?)(next:∀b a,l b a->N .normal b a):pY d g ⟨[],[]⟩ i m N e c:=
 λS R Q y p D u=>g_lone o x v w y p D l t z λO b r a q s H L=>u .normal O b r a q s H (next _ _ L)
end
end
end Go.Sim
namespace Go.Sv
open Go.MapKept Go.Proofs Go.RowKit Go.Lib Go.WideShapes Go.Sort Go.Sim Wt
open Go
variable{b:E}{a:E}{c:M}{d:M}{f:E}{j:E}{e:Xe}{s:E}
def lk(b:E)(a:Xe):Xg (E×Xe)->Xe
 |[]=>a
 |(j,e)::c=>bif b==j then e else lk b a c
def sl(c:Xg (E×Xe))(d:E->Xe):E->Xg Xe->Xg Xe
 |0,b=>b
 |a+1,b=>sl c d a (lk a (d a) c::b)
def fq(a:E)(b:Xg (E×Xe))(c:E->Xe):Xu:=⟨(sl b c a []).toArray,[]⟩
def sX(a:Xu):Xg (E×Xe)->Prop
 |[]=>True
 |b::c=>a.tmps[b.1]?=C b.2/\sX a c
theorem Ri{a:Xk Xe}(f:b<a.size):∀{c:Xg (E×Xe)},sX ⟨a,[]⟩ c->lk b (a.getD b I) c=a[b]
 |[],_=>by simp[lk,f]
 |(j,e)::c,g=>by
  unfold lk;by_cases d:b=j
  .subst d;have:=g.1;simp_all
  rw[beq_false_of_ne d];exact Ri f g.2
theorem On{c:Xk Xe}{f:Xg (E×Xe)}(e:sX ⟨c,[]⟩ f):∀a,a<=c.size->∀d,sl f (λb=>c.getD b I) a d=c.toList.take a++d
 |0,_,d=>by simp[sl]
 |a+1,g,d=>by rw[sl,On e a (by omega),Ri (by omega) e,ZX];simp[show a<c.size by omega]
theorem bm(i:Xg (E×Xe)){g:Xu}{P:Xu->Prop}(o:g.tmps.size=a)(hd:g.defers=[])(n:sX g i)(l:∀q,P (fq a i q)):P g:=by obtain⟨h,k⟩:=g;have m:k=[]:=hd;subst m;have p:h.size=a:=o;subst p;rw[show(⟨h,[]⟩:Xu)=fq h.size i λb=>h.getD b I by rw[fq,On n _ (XS _),YT,Zs (by simp)]];exact l _
def ja:Xg E->XG->XG
 |[],b=>b
 |0::a,.seq c _=>ja a c
 |_::a,.seq _ d=>ja a d
 |_::a,.block _ b=>ja a b
 |_::a,.loop b=>ja a b
 |0::a,.cond _ c _=>ja a c
 |_::a,.cond _ _ d=>ja a d
 |_,b=>b
noncomputable section
end
def qF(c:E)(b:Xu):E:=match b.tmps[c]? with
 |some (.int _ a)=>a.toNat
 |_=>0
def Kept(c d:M):Prop:=c.heap.size<=d.heap.size/\∀a,a<c.heap.size->d.heap[a]?=c.heap[a]?
theorem Kept.trans{l m:M}(g:Kept c l)(h:Kept l m):Kept c m:=⟨XZ g.1 h.1,λk i=>(h.2 k (XY i g.1)).trans (g.2 k i)⟩
theorem gy(a:d.heap=c.heap):Kept c d:=⟨by rw[a];exact XS _,λb _=>by rw[a]⟩
theorem Kept.cell(g:Kept c d)(i:c.cell? ⟨f,j,F⟩=C e):d.cell? ⟨f,j,F⟩=C e:=by have h:=g.2 f (by grind [World.cell?]);simpa only[M.cell?,h]using i
def GM(a:E)(f:E->Xg (E×Xe))(s:E)(c:M)(e:Xu)(d:M):Prop:=∃(b:E)(g:E->Xe),b<=s/\e=fq a (f b) g/\Kept c d
theorem GM.of{f:E->Xg (E×Xe)}{e:Xu}(b:E)(h:b<=s)(k:e.tmps.size=a)(hd:e.defers=[])(i:sX e (f b))(g:Kept c d):GM a f s c e d:=
 bm (f b) (P:=λe=>GM a f s c e d) k hd i λl=>⟨b,l,h,A,g⟩
def kE(a:E)(e:Xg (E×Xe))(c:M)(b:Xu)(d:M):Prop:=(b.tmps.size=a/\b.defers=[]/\sX b e)/\Kept c d
theorem Jm{b:Xg (E×Xe)}{f:M}(h:c.heap=f.heap){g:Exit}{e:Xu}(i:eP (kE a b c) g e d):eP (kE a b f) g e d:=by rwa [show kE a b f=kE a b c by funext e d;simp only[kE,Kept,h]]
end Go.Sv
namespace Go.Sv
open Go.MapKept Go.Proofs Go.RowKit Go.Lib Go.WideShapes Go.Sort Go.Sim Wt
variable{z:dB}{f:E->Prop}{a:M}{Q:Xp Xw}{l:E}{h:Xg Xr}{N:Exit->Xu->M->Prop}{R:E}{y:cN}{c:fG}{e:E}{s:E}
section
variable[Inhabited aM]
noncomputable section
variable{b:E}{p o:Xe}{g:E}{k:E->Xk Xe}{m:E->Xe}
theorem Oj{w t v:E}{b0:Xg Out}{S n:Xg ew}{B u:Xp Xw}{a9:E}(U:pX b R w t y v b0 c a)(T:xv f b a)(a6:1<=t/\t<=8)(a2:v<2^16)(a8:uO S B a)(a4:∀d r,n[d]?=C r->S[e+d]?=C r)(a5:n.length=s)(a0:s<=64)(O:∀r∈n,uL r)
 (a3:∀q D,B=C ⟨q,D,F⟩->b<=q/\¬ya R w y.tree c q)(a1:u=B.map λW=>⟨W.block,e*8,F⟩):
 Co (goalAt TP F F z al f) 18 #[pt R 0,.slice u s a9] a λb2 b3=>∃X,dH f b R w t y v c u n a b2 b3 X:=by
 subst a1 a5;have L:∀d,d<n.length->n.getD d {}∈n:=by simp_all
 refine DD (rq:=λd=>Qx (n.getD d {})) (r:=λd=>n.getD d {}) U T ⟨a6.1,by omega⟩ (a8.list e n a4 λq D Y=>?_) a0 a2 (λ_ _=>⟨A,A,A,A,A,A,A⟩) (λd x=>?_) (λd x=>?_) (λ_=>rfl) A λd r i=>by simp[i]
 .obtain⟨Z,H⟩:=a3 q D Y;exact⟨Z,λi=>H (Xi (Xi i)),λi=>H (Xh i)⟩
 .have i:=O _ (L d x);refine⟨?_,?_,?_,?_⟩
  .have a7:∀b1∈AE,b1.length<2^30:=by decide
   exact a7 _ i.path
  .have:=i.data;omega
  .have:=i.flags;omega
  have:=i.flags;omega
 have:=(O _ (L d x)).kind;omega
end
end
end Go.Sv
namespace Wt
variable{b:Tree}{a:Path}{c:Path×Nd}{d:Nd}
def under(b:Tree)(a:Path):Tree:=b.filter λc=>a.isPrefixOf c.1
theorem jm:c∈under b a↔c∈b/\a<+:c.1:=by unfold under;rw[j_,Xg.isPrefixOf_iff_prefix]
theorem pS(b:Tree):under b []=b:=by unfold under;rw[aac];intro c _;simp[Xg.isPrefixOf]
theorem yP(c:Ord b)(a:Path):Ord (under b a):=aa8 _ c
theorem SP{b:Path}(e:a<+:b)(c:b≠a):a<b:=by
 obtain⟨d,rfl⟩:=e;cases d with
 |nil=>exact absurd (YT a) c
 |cons g d=>
  clear c
  induction a with
  |nil=>exact Xg.nil_lt_cons _ _
  |cons h a f=>rw[Yp,ZT];exact Xi ⟨A,f⟩
theorem SH{d e:B}{b c:Path}(f:d<e)(g:(a++[d])<+:b)(h:(a++[e])<+:c):b<c:=by
 obtain⟨k,rfl⟩:=g;obtain⟨l,rfl⟩:=h
 induction a with
 |nil=>simp only[Zj,Yp];rw[ZT];exact Xh f
 |cons m a i=>simp only[Yp];rw[ZT];exact Xi ⟨A,i⟩
theorem WF.Wn(h:WF b):∀(g:E)(d:Xg B)(a:Path),d.length=g->(find b (a++d)).isSome=J->(find b a).isSome=J
 |0,d,a,f,e=>by
  rw[YR.1 f,YT]at e;exact e
 |g+1,d,a,f,e=>by
  have k:d≠[]:=λc=>by rw[c]at f;cases f
  have i:=h.up (a++d) (by simp[k]) e;rw[Xg.dropLast_append_of_ne_nil k]at i;exact WF.Wn h g d.dropLast a (by rw[S_];omega) i
theorem Ee(i:WF b)(m:find b a=C d):under b a=(a,d)::(be b a).flatMap λg=>under b (a++[g]):=by
 refine Ie (yP i.ord a) (gA.2 ⟨λz k=>?_,?_⟩) λc=>?_
 .obtain⟨g,_,k⟩:=aaK.1 k;obtain⟨_,f,e⟩:=jm.1 k;refine SP ⟨g::f,?_⟩ ?_
  .rw[<-e];simp
  intro c;have:=YU List.length e;rw[c]at this;simp at this
 .have n:=fC (a:=a) i.ord;generalize be b a=o at n
  induction o with
  |nil=>exact Ar
  |cons g o t=>obtain⟨h,p⟩:=YJ.1 n;rw[Zu];refine Y_.2 ⟨yP i.ord _,t p,λw q x l=>?_⟩;obtain⟨v,s,l⟩:=aaK.1 l;exact SH (h v s) (jm.1 q).2 (jm.1 l).2
 rw[jm,XV,aaK];constructor
 .rintro⟨h,f,e⟩;obtain⟨u,y⟩:=c;simp only at e;cases f with
  |nil=>left;rw[YT]at e;subst e;have:=iA i.ord h;rw[m]at this;cases this;rfl
  |cons g f=>
   right
   have r:(find b (a++[g]++f)).isSome=J:=by
    have c:a++[g]++f=u:=by rw[<-e];simp
    rw[c,iA i.ord h];rfl
   exact⟨g,ei.2 (i.Wn _ f _ A r),jm.2 ⟨h,f,by rw[<-e];simp⟩⟩
 rintro(rfl|⟨g,_,k⟩)
 .exact⟨jz m,Xg.prefix_refl _⟩
 obtain⟨h,f,e⟩:=jm.1 k;exact⟨h,g::f,by rw[<-e];simp⟩
theorem WF.head(a:WF b):∃d e,b=([],d)::e:=by obtain⟨d,c,_⟩:=a.root;have:=Ee a c;rw[pS]at this;exact⟨d,_,this⟩
theorem sum_add{e:Type}(b c:e->E):∀a:Xg e,(a.map λd=>b d+c d).sum=(a.map b).sum+(a.map c).sum
 |[]=>rfl
 |d::a=>by simp only[YG,C_,sum_add b c a];omega
theorem rI{b:Type}:∀a:Xg b,(a.map λ_=>0).sum=0
 |[]=>rfl
 |c::a=>by simp only[YG,C_,rI a]
theorem Ix{b:Type}:∀a:Xg b,(a.map λ_=>1).sum=a.length
 |[]=>rfl
 |c::a=>by simp only[YG,C_,Ix a,Yl];omega
theorem vo{d:Type}(b:d->Xo):∀a:Xg d,a.countP b=(a.map λc=>if b c then 1 else 0).sum
 |[]=>rfl
 |c::a=>by rw[d_,vo b a,YG,C_];omega
theorem DV{f g:Type}(c:f->g->Xo)(d:Xg g):∀b:Xg f,(b.map λa=>d.countP (c a)).sum=(d.map λe=>b.countP λa=>c a e).sum
 |[]=>by simp[rI]
 |h::b=>by
  rw[YG,C_,DV c d b,vo,<-sum_add]
  congr 1
  refine c_ λe _=>?_;rw[d_];omega
theorem zJ(f:WF b){a:Path}(m:(find b a).isSome=J):(b.countP λc=>iy c.1 a)=if a=[]then 0 else 1:=by
 split
 .rename_i e;subst e;rw[aah];intro c _;unfold iy;simp
 rename_i e;have h:=f.up a e m;obtain⟨d,k⟩:=XR.1 h;have l:=vt f.ord k;rw[l.countP_eq,d_]
 have:(del b a.dropLast).countP (λc=>iy c.1 a)=0:=by rw[aah];intro c i;have:=(uw.1 i).2;unfold iy;simp only[YV];rintro⟨_,g⟩;exact this g.symm
 rw[this];unfold iy;simp[e]
theorem Nb(e:WF b):(b.map λc=>(be b c.1).length).sum+1=b.length:=by
 have l:(b.map λc=>(be b c.1).length)=b.map λc=>b.countP λg=>iy c.1 g.1:=c_ λc _=>dD b c.1;rw[l,DV (λ(c g:Path×Nd)=>iy c.1 g.1) b b];have m:(b.map λq=>b.countP λa=>iy a.1 q.1)=b.map λc=>if c.1=[]then 0 else 1:=c_ λc f=>zJ e (by rw[iA e.ord f];rfl);rw[m];obtain⟨d,i,p⟩:=e.head;have h:=e.ord;rw[p]at h⊢
 obtain⟨n,_⟩:=gA.1 h;rw[YG,C_,XC A,Yl,Zk]
 have o:(i.map λc=>if c.1=[]then 0 else 1)=i.map λ_=>1:=c_ λc f=>Xx λk=>by have:=n c f;rw[k]at this;exact ep _ this
 rw[o,Ix]
end Wt
namespace Go.Sv
open Go.MapKept Go.Proofs Go.RowKit Go.Lib Go.WideShapes Go.Sort Go.Sim Wt
variable{a:M}{d:M}{b:Tree}{g:Xe}{s:E}{e:E}{f:E}
attribute [local go_sem] Oper.semAt_some
def Rk(a:Path×Nd):Xe:=.agg #[.string (bs (Wt.join a.1)),.string (bs a.2.data),Xd K a.2.stat.made,Xd K a.2.stat.set,Xd K a.2.stat.aE,Xd K a.2.stat.ez,Xd K a.2.stat.own,Xd K a.2.stat.size,Xd K a.2.stat.kids]
structure gJ(m:E)(a d:M):Prop where
 size:a.heap.size<=d.heap.size
 cell:∀(c:E)(e:Xk Xe)(b:Xq)(k:E×E),b=192\/b=9->a.heap[c]?=C (Xn e b k)->d.heap[c]?=C (Xn e b k)
 map:∀(c:E)(i:Xk XH)(h:E),c<m->a.heap[c]?=C (.map i h)->d.heap[c]?=C (.map i h)
theorem gJ.trans{l:E}{m n e:M}(i:gJ l m n)(h:gJ l n e):gJ l m e:=
 ⟨XZ i.size h.size,λc o b r u k=>h.cell c o b r u (i.cell c o b r u k),λc q p t k=>h.map c q p t (i.map c q p t k)⟩
theorem gJ.of{h:E}(g:Below a.heap.size a d):gJ h a d:=
 ⟨g.size,λf e b l _ c=>by rw[g.block f (XN.1 c).1];exact c,λf k i _ c=>by rw[g.block f (XN.1 c).1];exact c⟩
theorem bw.Rh{l:E}{k g:Path->E}(e:bw b k g a)(q:∀c,(Wt.find b c).isSome=J->g c<l)(i:gJ l a d):bw b k g d where
 nd:=λc h f=>i.cell _ _ _ _ (Xh A) (e.nd c h f)
 kd:=λc h f=>by obtain⟨n,m,o,p⟩:=e.kd c h f;exact⟨n,m,i.map _ _ _ (q c (by rw[f];rfl)) o,p⟩
 inj:=e.inj
 xM:=e.xM
theorem zo.len{b:Xg B}{f:E}(d:zo g b f a):∃c e,g=.slice c b.length e:=by rcases d with⟨rfl,rfl⟩|⟨h,i,_,rfl,_⟩<;>exact⟨_,_,A⟩
theorem zo.at{q:E}{i:Xg B}{p:E}{g:Xp Xw}(k:zo (.slice g s e) i p a)(n:gJ q a d){c:B}(h:i[f]?=C c):∃b,g=C ⟨b,0,F⟩/\d.cell? ⟨b,f,F⟩=C (.string (bs c)):=by
 rcases k with⟨_,rfl⟩|⟨b,r,t,o,_,_,l,_,_,m⟩
 .simp at h
 cases o;exact⟨b,A,aa (n.cell _ _ _ _ (Xi A) l) f (m f c h)⟩
theorem Mz{N:E}{b:Tree}{t L:Path->E}{D a1:E}{w U:Tree->M->Prop}(k:WF b)(b0:∀c,(Wt.find b c).isSome=J->L c<N)
 (W:∀n a d,w n a->Below a.heap.size a d->w n d)
 (a6:∀n b6 a,w n a->n.length<a1->YieldAt Fence.wide 0 TP D #[Rk b6] a λq d=>(q=Xs (.bool J)/\w (n++[b6]) d/\gJ N a d)\/(q=Xs (.bool Xf)/\U (n++[b6]) d)):
 ∀(b5:E)(c:Path)(h:Nd),Wt.find b c=C h->5<=b5+c.length->∀(n:Tree)(a:M),bw b t L a->w n a->n.length+(under b c).length<=a1->
  Calls TP 114 #[pt (t c) 0,.func (.yield D) #[] #[]] a λq d=>(q=Xs (.bool J)/\w (n++under b c) d/\gJ N a d)\/(q=Xs (.bool Xf)/\∃m,m<+:under b c/\U (n++m) d)
 |0,c,h,u,g5,n,a,H,a7,X=>by have:=(k.names c h u).1;omega
 |b5+1,c,h,u,g5,n,a,H,a7,X=>by
  have d7:(Wt.find b c).isSome=J:=by rw[u];rfl
  have j4:=k.names c h u;have d9:=Ee k u;have x:=H.nd c h u
  have d8:∀v,Below a.heap.size a v->Calls TP 156 #[pt (t c) 0] v λq y=>q=Xs (.string (bs (Wt.join c)))/\Below a.heap.size a y:=λv z=>(sH (H.old z.block) k.up d7 (eB k u).1 (eB k u).2).mono λq y o=>⟨o.1,z.trans (o.2.mono z.size)⟩
  have e0:a.cell? ⟨t c,1,F⟩=C (.string (bs h.data)):=aa x 1 A;have e1:a.cell? ⟨t c,2,F⟩=C (Xd K h.stat.made):=aa x 2 A;have e2:a.cell? ⟨t c,3,F⟩=C (Xd K h.stat.set):=aa x 3 A;have e3:a.cell? ⟨t c,4,F⟩=C (Xd K h.stat.aE):=aa x 4 A;have b3:a.cell? ⟨t c,5,F⟩=C (Xd K h.stat.ez):=aa x 5 A;have e4:a.cell? ⟨t c,6,F⟩=C (Xd K h.stat.own):=aa x 6 A;have e5:a.cell? ⟨t c,7,F⟩=C (Xd K h.stat.size):=aa x 7 A;have e6:a.cell? ⟨t c,8,F⟩=C (Xd K h.stat.kids):=aa x 8 A;have Y:=Xl d8
  have c8:∀v,Below a.heap.size a v->YieldAt Fence.wide 0 TP D #[Rk (c,h)] v λq d=>∃r:Xo,q=Xs (.bool r)/\Hid ((r=J/\w (n++[(c,h)]) d/\gJ N a d)\/(r=Xf/\U (n++[(c,h)]) d)):=λv z=>
   YieldAt.mono (a6 n (c,h) v (W _ _ _ a7 z) (by grind)) λq y o=>o.elim
    (λ⟨a4,a5,f9⟩=>⟨J,a4,Xl (Xh ⟨A,a5,(gJ.of z).trans f9⟩)⟩) λ⟨a4,a5⟩=>⟨Xf,a4,Xl (Xi ⟨A,a5⟩)⟩
  have b4:=(H.lt d7).1;have e8:=Xl W;have f5:=Xl (Mz (t:=t) (L:=L) k b0 W a6 b5);have S:=Xl u;have b9:=Xl H;have Z:=Xl d9;obtain⟨l,R⟩:∃l,t c=l:=by simp
  rw[R]at Y e0 e1 e2 e3 b3 e4 e5 e6 b4⊢
  have c0:=Xl R
  have c6:∀k,Below a.heap.size a k->k.cell? ⟨l,1,F⟩=C (.string (bs h.data))/\k.cell? ⟨l,2,F⟩=C (Xd K h.stat.made)/\k.cell? ⟨l,3,F⟩=C (Xd K h.stat.set)/\k.cell? ⟨l,4,F⟩=C (Xd K h.stat.aE)/\k.cell? ⟨l,5,F⟩=C (Xd K h.stat.ez)/\k.cell? ⟨l,6,F⟩=C (Xd K h.stat.own)/\k.cell? ⟨l,7,F⟩=C (Xd K h.stat.size)/\k.cell? ⟨l,8,F⟩=C (Xd K h.stat.kids):=λk g0=>by refine⟨?_,?_,?_,?_,?_,?_,?_,?_⟩<;>(rw[g0.cell (p:=⟨l,_,F⟩) b4];assumption)
  clear d8 x u W a6 a7 d9 H R;have c9:Below a.heap.size a a.drew:=⟨A,A,A,XS _,λ_ _=>rfl⟩;refine Zr (n:=0).1 (callsIn_of_wp Tryz.func114 A trivial ?_ A);simp only[Tryz.ntmps114,Yt,Yl,Zd,E.reduceAdd,E.reduceSub,Zh,Zi,Zt,Zn,Zj,Yp]
  gi_wp2
  refine wpIn_mono (Q:=λ|.normal,f8,d=>∃r:Xo,f8=⟨#[pt l 0,.func (.yield D) #[] #[],I,I,.bool Xf,I,I,.func (.yield D) #[] #[],pt l 0,.string (bs (Wt.join c)),pt l 0,pt l 0,pt l 0,pt l 1,.string (bs h.data),pt l 0,pt l 0,pt l 0,pt l 2,.agg #[Xd K h.stat.made,Xd K h.stat.set,Xd K h.stat.aE,Xd K h.stat.ez,Xd K h.stat.own,Xd K h.stat.size,Xd K h.stat.kids],Rk (c,h),.bool r,.bool !r,I,I,I,I,I,I,I,I,I,I,I,I,I,I,I,I,I,I,I,I,I],[]⟩/\Hid ((r=J/\w (n++[(c,h)]) d/\gJ N a d)\/(r=Xf/\U (n++[(c,h)]) d))|_,_,_=>False) ?region ?rest
  case region=>
   gi_region_with (first
    |(refine⟨trivial,rfl,?_⟩;gi_at_call 156;refine(Zr.2 (Y.out _ c9)).mono ?_;rintro q v⟨rfl,d0⟩;have f7:=c6 _ d0;obtain⟨j8,j9,k0,k1,k2,k3,k4,k5⟩:=f7;obtain⟨fn,k7,i2,i4,R,d1⟩:=c8 v d0;dsimp only[Rk]at R)
    |(refine⟨rfl,?_⟩;refine d1.mono ?_;clear d1;rintro q y⟨r,rfl,O⟩))
   all_goals exact⟨r,A,O⟩
  clear Y c6 c8 c9 e0 e1 e2 e3 b3 e4 e5 e6 b4;rintro(_|_|_|_|_|_) _ y o
  all_goals first|exact o.elim|skip
  obtain⟨r,rfl,O⟩:=o;cases r with
  |false=>
   gi_wp2
   go_ret;rcases O.out with⟨o,_⟩|⟨_,o⟩
   .cases o
   exact Xi ⟨A,[(c,h)],by rw[Z.out];simp,o⟩
  |true=>
   obtain⟨d2,a8⟩:=O.out.elim (λo=>o.2) λo=>by cases o.1
   clear O;have e7:=Xl d2;have e9:=Xl a8;have a3:=b9.out.Rh b0 a8;have b2:=a3.nd c h S.out;rw[c0.out]at b2;have j7:y.cell? ⟨l,11,F⟩=C (.map (C (L c))):=aa b2 11 A;obtain⟨i8,i6,d5,a0⟩:=a3.kd c h S.out;have Q:=DL (c:=y) d5 a0 (by rw[sC a0 k];have:=ld b c;have:=k.len;omega) (λi r z=>GF k (d:=c++[i]) (by simp_all [bX]) i (by simp)) (b:=be b c) (λi=>by simp[ei,bX]) (fC k.ord);have b8:=Xl Q;clear Q d2 a8 b2 d5 a0 a3;obtain⟨p,b1⟩:∃D,be b c=D:=by simp
   rw[b1]at b8;have T:=Xl b1;have f1:=Xl X;clear b1 X
   gi_wp2_with (first
    |((try refine⟨trivial,?_⟩);(try refine⟨rfl,?_⟩);gi_at_call 98;refine(Zr.2 (MZ _)).mono ?_;rintro q k8⟨rfl,h6⟩;subst h6)
    |((try refine⟨trivial,?_⟩);(try refine⟨rfl,?_⟩);gi_at_call 97;refine(Zr.2 b8.out).mono ?_;rintro q h9⟨g,rfl,d6,g2⟩;obtain⟨i0,i5,rfl⟩:=d6.len))
   have g1:=(ck y _).trans (g2.mono (ZN _));have b7:=Xl g1;have f2:=Xl d6;have j3:p.length<=60:=by rw[<-T.out];exact XZ (ld b c) k.len
   gi_loopw [30] (λf wr=>∃m:E,m<=p.length/\f=Xd K m/\w (n++(c,h)::((p.take m).flatMap λi=>under b (c++[i]))) wr/\gJ N h9 wr) (λf _=>p.length-(Lib.intOf f).toNat)
   case atStart=>exact⟨0,YA _,A,by simpa using e8.out _ _ _ e7.out b7.out,⟨XS _,λ_ _ _ _ _ o=>o,λ_ _ _ _ o=>o⟩⟩
   case round=>
    obtain⟨m,j5,rfl,g4,a9⟩:=hrel;have d4:=e9.out.trans ((gJ.of b7.out).trans a9);by_cases g9:m<p.length
    .obtain⟨i,Q⟩:∃i,p[m]?=C i:=by simp_all
     obtain⟨r,rfl,j0⟩:=f2.out.at a9 Q;have a2:=b9.out.Rh b0 d4;have d3:(Wt.find b (c++[i])).isSome=J:=ei.1 (by rw[T.out];grind);have c2:wr.cell? ⟨l,11,F⟩=C (.map (C (L c))):=by rw[<-c0.out];exact aa (a2.nd c h S.out) 11 A
     obtain⟨i9,i7,h0,f6⟩:=a2.kd c h S.out;have g7:=pP h0 f6 i;rw[bX,XC d3]at g7;obtain⟨h7,h1⟩:=XR.1 d3;have h5:p.take (m+1)=p.take m++[i]:=by grind [List.take_add_one]
     obtain⟨c7,h4⟩:∃c7,under b c=(c,h)::(((p.take m).flatMap λi=>under b (c++[i]))++(under b (c++[i])++c7)):=by
      have hd:p.drop m=i::p.drop (m+1):=by rw[w_ g9,(YH.1 Q).2]
      have j1:p=p.take m++i::p.drop (m+1):=by rw[<-hd,aa5]
      refine⟨(p.drop (m+1)).flatMap λi=>under b (c++[i]),?_⟩;rw[Z.out,T.out]
      grind
     have g8:(n++(c,h)::((p.take m).flatMap λi=>under b (c++[i]))).length+(under b (c++[i])).length<=a1:=by have X:=f1.out;grind
     have f3:=Xl h4;have g3:=f5.out (c++[i]) h7 h1 (by simp;omega) _ wr a2 g4 g8;have HC:=Xl g3;have f4:=Xl h5;have f0:=Xl a9
     gi_wp2_with (first
      |((try refine⟨trivial,?_⟩);(try refine⟨rfl,?_⟩);gi_at_call 114;refine(Zr.2 HC.out).mono ?_;rintro q k9(⟨rfl,j2,g6⟩|⟨rfl,h8,h2,b3⟩)))
     .refine⟨⟨m+1,by omega,A,?_,f0.out.trans g6⟩,by simp only[Lib.intOf];omega⟩;rw[f4.out,Xg.flatMap_append,Zu,Xg.flatMap_nil,YT];simp_all
     go_ret;obtain⟨k6,h3⟩:=h2;exact Xi ⟨A,(c,h)::(((p.take m).flatMap λi=>under b (c++[i]))++h8),by rw[f3.out,<-h3];simp,by simp_all⟩
    have j6:m=p.length:=by omega
    gi_wp2
    go_ret;exact Xh ⟨A,by rw[Z.out,T.out];simp_all,d4⟩
variable{c:Xe}{P:Xy}{q:M}{d:Tree}{O:E}{u:E}{R:E}{o:E}
theorem Bp{b:E}(d:a.cell? ⟨f,b,F⟩=C c):f<a.heap.size:=by grind [World.cell?]
theorem El{l:E}{e:E}{b:Xk Xe}{a:Ending->M->Prop}(i:YieldAt Fence.wide s P e b q a):YieldAt Fence.wide l P e b q a:=by obtain⟨fn,m,d,f,k,c⟩:=i;exact⟨fn,m,d,f,k,c.1,λg h _=>c.2 g h (room_wide _)⟩
section
variable{k:E}{i h:Path->E}{e m:E}{g l:Tree->M->Prop}
theorem Sj(q:WF d)(L:∀w,(Wt.find d w).isSome=J->h w<k)
 (z:∀n a b,g n a->Below a.heap.size a b->g n b)
 (D:∀n t a,g n a->n.length<m->YieldAt Fence.wide 0 TP e #[Rk t] a λp b=>(p=Xs (.bool J)/\g (n++[t]) b/\gJ k a b)\/(p=Xs (.bool Xf)/\l (n++[t]) b))
 (x:bw d i h a)(Q:a.cell? ⟨O,0,F⟩=C (pt (i []) 0))(H:g [] a)(T:d.length<=m):
 Calls TP 66 #[pt O 0,.func (.yield e) #[] #[]] a λp b=>(∃c,p=Xs c)/\(g d b\/∃r,r<+:d/\l r b):=by
 obtain⟨o,N,_⟩:=q.root;have v:=Mz (t:=i) (L:=h) q L z D 5 [] o N (by simp) [] a x H (by simp_all [pS]);rw[pS]at v;have HC:=Xl v;go_enter Tryz.func66,Tryz.ntmps66
 go_wp2_with (go_at_call 114;refine HC.out.mono ?_;rintro p U(⟨rfl,y,_⟩|⟨rfl,r,y,S⟩))
 .go_end0
  simp_all
 go_end0
 grind
theorem Si{f:Ending->M->Prop}(l:Calls TP 66 #[pt O 0,.func (.yield e) #[] #[]] a λb d=>(∃c,b=Xs c)/\f b d)(m:a.cell? ⟨u,2,F⟩=C (pt O 0))(k:∀b h d,f b d->f h d):
 Calls TP 42 #[pt u 0,.func (.yield e) #[] #[]] a λb d=>(∃c,b=Xs c)/\f b d:=by
 have HC:=Xl l;have g:=Xl k;go_enter Tryz.func42,Tryz.ntmps42
 go_wp2_with (go_at_call 66;refine HC.out.mono ?_;rintro b n⟨⟨c,rfl⟩,i⟩)
 go_end0
 exact⟨⟨_,A⟩,g.out _ _ _ i⟩
theorem Sh{p:Ending->M->Prop}{r:E}(y:Calls TP 42 #[pt u 0,.func (.yield e) #[] #[]] a λb n=>(∃c,b=Xs c)/\p b n)(z:a.cell? ⟨r,0,F⟩=C (pt R 0))(D:a.cell? ⟨R,0,F⟩=C (pt u 0))(x:∀b v n,p b n->p v n):
 Calls TP 41 #[.func (.yield e) #[] #[],pt r 0] a λb n=>(∃c,b=Xs c)/\p b n:=by
 have HC:=Xl y;have t:=Xl x;go_enter Tryz.func41,Tryz.ntmps41
 go_wp2_with (go_at_call 42;refine HC.out.mono ?_;rintro b H⟨⟨c,rfl⟩,w⟩)
 go_end0
 exact⟨⟨_,A⟩,t.out _ _ _ w⟩
theorem Qd(R:E)(a:M):Calls TP 32 #[pt R 0] a λb c=>b=Xs (.func (.func 41) #[] #[pt a.heap.size 0])/\c=a.alloc (.cells #[pt R 0] 23):=by
 go_enter Tryz.func32,Tryz.ntmps32
 go_wp2
 go_ret;simp
theorem CC{x:E}(q:WF d)(W:∀t,(Wt.find d t).isSome=J->h t<k)(D:bw d i h a)(L:a.cell? ⟨O,0,F⟩=C (pt (i []) 0))(Q:a.cell? ⟨u,2,F⟩=C (pt O 0))(X:a.cell? ⟨R,0,F⟩=C (pt u 0))(n:a.cell? ⟨x,0,F⟩=C (pt R 0)):
 SeqStopsK Fence.wide o TP 41 #[pt x 0] (λa2:Path×Nd=>#[Rk a2]) (gJ k) (λa3=>a3=d) (λv=>v<+:d) d.length a:=λe g l Z z S _ a5 N=>by
 have cl:∀{f p:E}{c:Xe},a.cell? ⟨f,p,F⟩=C c->Z.cell? ⟨f,p,F⟩=C c:=λ{f p c} b=>by rw[z.cell (p:=⟨f,p,F⟩) (Bp b)];exact b
 refine Zr.2 ((Sh (p:=λ_ w=>g d w\/∃r,r<+:d/\l r w) (Si (Sj (k:=k) (m:=d.length) q W ?_ ?_ (D.old z.block) (cl L) N (XS _)) (cl Q) λ_ _ _ b=>b) (cl n) (cl X) λ_ _ _ b=>b).mono λy w b=>⟨b.1,b.2.elim (λb=>Xh ⟨d,A,b⟩) λ⟨r,H,f⟩=>Xi ⟨r,H,f⟩⟩)
 .exactλv a0 a1 T n=>S v a0 a1 F T ⟨n.os,n.tape,n.output,n.size,λY U _=>n.block Y U⟩ (λa6 y=>by cases y)
 grind [El]
end
attribute [local go_sem] Oper.semAt_some
theorem SC:∃a b,TP.info? 51=C a/\a.zero=C b/\a.size=9/\a.bytes=88/\b.cells.size=9:=⟨_,_,A,A,A,A,A⟩
theorem UQ:TP.underlying 48=C (.slice 51):=A
def Nw(a:Path×Nd):Xg Xe:=[.string (bs (Wt.join a.1)),.string (bs a.2.data),Xd K a.2.stat.made,Xd K a.2.stat.set,Xd K a.2.stat.aE,Xd K a.2.stat.ez,Xd K a.2.stat.own,Xd K a.2.stat.size,Xd K a.2.stat.kids]
def Cz(b:Tree):Xg Xe:=b.flatMap Nw
theorem NC(a:M)(c:Path×Nd):∀(j:E) b,(Nw c)[j]?=C b->(a.alloc (.cells (Nw c).toArray 51)).cell? ((⟨a.heap.size,0,F⟩:Xw).add j)=C b:=λj b d=>by grind [aa,World.alloc_heap_new,Addr.add]
theorem ND(c:Path×Nd):∀b∈Nw c,b.oneCell'=J:=λb a=>by simp only[Nw,XV,Yd,YS]at a;rcases a with rfl|rfl|rfl|rfl|rfl|rfl|rfl|rfl|rfl<;>rfl
theorem Qc{d0 f2:Path->E}{h:E}(c:WF b)(b0:bw b d0 f2 a)(b4:a.cell? ⟨O,0,F⟩=C (pt (d0 []) 0))(w:a.cell? ⟨u,2,F⟩=C (pt O 0))(e6:a.cell? ⟨R,0,F⟩=C (pt u 0))(e5:h<2^20):
 Calls TP 20 #[pt R 0,Xd K h] a λl d2=>∃i,l=Xs i/\d2.ownsRow a.heap.size 51 9 i (b.take h).length (Cz (b.take h))/\Below a.heap.size a d2:=by
 refine Zr (n:=5).1 (callsIn_of_wp_marks Tryz.func20 A trivial ?_ A);simp only[Tryz.ntmps20,Yt,Yl,Zd,E.reduceAdd,E.reduceSub,Zh,Zi,Zt,Zn,Zj,Yp];have a9:=Xl b0;clear b0;rcases Xj.lt_or_le (h:Xj) 1 with b8|b8
 all_goals gi_wp2_with (first|((try refine⟨trivial,?_⟩);gi_at_call 32;refine(Zr.2 (Qd R _)).mono ?_;rintro l a8⟨rfl,e9⟩;subst e9))
 focus (have b2:(h:Xj)=0:=by omega);(rw[<-b2]);(clear b2 b8)
 all_goals
  obtain⟨d,r⟩:∃d,a.heap.size=d:=by simp
  obtain⟨m,T⟩:∃m,((a.alloc (.cells #[Xd K h] 3)).alloc (.cells #[Xm F 0 0] 48)).alloc (.cells #[pt R 0] 23)=m:=by simp
  have i3:m.heap.size=d+3:=by rw[<-T,<-r];simp
  have Q:Below d a m:=by rw[<-T,<-r];exact((ck a _).trans ((ck _ _).mono (by simp))).trans ((ck _ _).mono (by simp;omega))
  have d6:Boxed m d 3 (Xd K h):=by rw[<-T,<-r];exact((Boxed.new a _ _).alloc _).alloc _
  have d7:Boxed m (d+1) 48 (Xm F 0 0):=by have:=(Boxed.new (a.alloc (.cells #[Xd K h] 3)) 48 (Xm F 0 0)).alloc (.cells #[pt R 0] 23);simp_all
  have d8:m.cell? ⟨d+2,0,F⟩=C (pt R 0):=by have:=(Boxed.new ((a.alloc (.cells #[Xd K h] 3)).alloc (.cells #[Xm F 0 0] 48)) 23 (pt R 0)).cell;simp_all
  have cl:∀{L q:E}{i:Xe},a.cell? ⟨L,q,F⟩=C i->m.cell? ⟨L,q,F⟩=C i:=λ{L q i} z=>by rw[Q.cell (p:=⟨L,q,F⟩) (by rw[<-r];exact Bp z)];exact z
  have e7:=CC (k:=d) (o:=4) (x:=d+2) c (λf3 a5=>by rw[<-r];exact(a9.out.lt a5).2) (a9.out.old (λg n=>Q.block g (by omega))) (cl b4) (cl w) (cl e6) d8;rw[T];simp only[r]
  refine wpIn_rangeFunc_ownH (n:=5) A (by omega) (gf:=41) (lb:=#[pt (d+2) 0]) A trivial (enters_of Tryz.func41 (by kernel_rfl) A) e7 (λz a1=>z.trans a1)
   (λc a7 q i9 e3 S D w=>⟨by simp,?k1,?k2⟩) (ZP _ _) (λ_=>rfl)
   (λf c=>((∃i,Boxed c (d+1) 48 i/\c.ownsRow d 51 9 i f.length (Cz f)/\f.length<=h)/\Boxed c d 3 (Xd K h))/\Below d m c)
   (λy f c=>((∃i,Boxed c (d+1) 48 i/\c.ownsRow d 51 9 i (f.length-1) (Cz f.dropLast)/\y=.exit 0/\f.length=h+1))/\Below d m c)
   ?hI ?hIx ?h0 (λe Z c=>∃k O,m.heap.size<=k/\c.heap[k]?=C (Xn (Nw e).toArray 51 (0,0))/\Z=⟨#[pt R 0,Xd K h,I,pt d 0,Xm F 0 0,pt (d+1) 0,pt k 0,Xd K h,.bool O,pt R 0,.func (.func 41) #[] #[pt (d+2) 0],Rk e,I,I,I,I,I,I,I,I,I],[]⟩) ?hAx ?assign ?body ?done ?stop
  case k1=>
   intro g y b a0 _ n;by_cases l:g=a7
   .subst l;rw[S]at n;cases n;cases D
   simp_all [aaL]
  case k2=>grind [World.putObj_heap_other]
  case hI=>
   refine OwnFrom.and (OwnFrom.and (Own.from (holdsRow_own d (d+1) 48 51 9 (λf:Tree=>f.length) Cz λf _=>f.length<=h) _) (Own.from (boxed_own d 3 λ_=>Xd K h) _)) (ownFrom_below ?_ ?_)
   .omega
   omega
  case hIx=>simp_all [OwnFrom.and,Own.from,holdsRow_own,ownFrom_below]
  case h0=>exact⟨⟨⟨_,d7,aas _ _ _ _,YA _⟩,d6⟩,ZP _ _⟩
  case hAx=>rintro e Z _ g1 g2 row⟨k,O,D,w,a2⟩ b6 a6;refine⟨k,O,D,(b6.block k (XN.1 w).1 λl=>?_).trans w,a2⟩;obtain⟨_,q,S,d9⟩:=a6 k l.symm;rw[w]at S;cases S;cases d9
  case assign=>
   intro a7 f e c g0 e1 t;have i1:Rk e=.agg #[.string (bs (Wt.join e.1)),.string (bs e.2.data),Xd K e.2.stat.made,Xd K e.2.stat.set,Xd K e.2.stat.aE,Xd K e.2.stat.ez,Xd K e.2.stat.own,Xd K e.2.stat.size,Xd K e.2.stat.kids]:=A
   gi_wp2
   obtain⟨⟨⟨i,o,p,U⟩,x⟩,s⟩:=e1;have b7:=s.size;exact t _ _ ((KeepsOthers.alloc _ _).from _) (gJ.of (ck c _)) ⟨⟨⟨i,o.alloc _,p.alloc _,U⟩,x.alloc _⟩,s.trans ((ck c _).mono (by omega))⟩ ⟨c.heap.size,_,b7,YN c _,A⟩
  case body=>
   rintro a7 f e Z c e3 a6⟨⟨⟨i,o,p,U⟩,x⟩,s⟩⟨k,O,j2,v,rfl⟩ e4;have c7:=o.cell;have i4:=o.frozen;have i5:=x.cell;obtain⟨W,N,H⟩:∃W N,i=.slice W f.length N:=by
    rcases p.2 with⟨rfl,z⟩|⟨a1,N,d4,rfl,_⟩
    .exact⟨F,0,by rw[z]⟩
    simp
   subst H;have g6:c.cell? ⟨k,0,F⟩=C (.string (bs (Wt.join e.1))):=aa v 0 A;have c1:c.cell? ⟨k,1,F⟩=C (.string (bs e.2.data)):=aa v 1 A;have c2:c.cell? ⟨k,2,F⟩=C (Xd K e.2.stat.made):=aa v 2 A;have c3:c.cell? ⟨k,3,F⟩=C (Xd K e.2.stat.set):=aa v 3 A;have c4:c.cell? ⟨k,4,F⟩=C (Xd K e.2.stat.aE):=aa v 4 A;have c5:c.cell? ⟨k,5,F⟩=C (Xd K e.2.stat.ez):=aa v 5 A;have g7:c.cell? ⟨k,6,F⟩=C (Xd K e.2.stat.own):=aa v 6 A;have g8:c.cell? ⟨k,7,F⟩=C (Xd K e.2.stat.size):=aa v 7 A;have g9:c.cell? ⟨k,8,F⟩=C (Xd K e.2.stat.kids):=aa v 8 A;by_cases e0:f.length=h
   .gi_wp2
    exact⟨KeepsOthers.refl _ |>.from _,⟨_,o,by simp_all,A,by simp[e0]⟩,s⟩
   have h8:((f.length:Xj)==h)=Xf:=by simp;omega
   have b7:=s.size;have e4:=e5;obtain⟨f0,f9,q1,f4,f5,f6,f7⟩:=SC
   gi_wp2_with (gi_at_builtin;refine wpListIn_append_own _ A _ _ 48 A d 51 f0 f9 9 88 UQ q1 f4 f5 f6 f7 (by decide) _ _ _ A (p.alloc _) ⟨c.heap.size,0,F⟩ 1 1 (Nw e) A rfl (NC c e) (ND e) (by grind [maxLen]) (by omega) (by simp;omega) ?_;intro j1 a8 b9 a4 _;obtain⟨b3,b1,rfl⟩:=ownsRow_succ b9;obtain⟨c6,e8,i2,e2,b5⟩:=o.appended (by decide) p (by omega) (by omega) b9 a4;have h7:=c6.cell;have h9:=c6.frozen)
   have f1:∀g,g<c.heap.size->g≠d+1->C g≠(Value.slice W f.length N).ownBlock->(a8.setCell ⟨d+1,0,F⟩ (Xm (C ⟨b3,0,F⟩) (f.length+1) b1)).heap[g]?=c.heap[g]?:=λg D w a2=>by rw[ai w];exact(a4.block g (by simp;omega) a2).trans (XQ _ _ _ D)
   have c8:∀(g:E)(q:Obj),c.heap[g]?=C q->(∀y b a0,q=.cells y b a0->b≠48/\b≠51)->(a8.setCell ⟨d+1,0,F⟩ (Xm (C ⟨b3,0,F⟩) (f.length+1) b1)).heap[g]?=C q:=λg q n i0=>by
    rw[f1 g (XN.1 n).1 (λl=>?_) λl=>?_];exact n
    .subst l;rw[show c.heap[d+1]?=_ from o]at n;grind
    rcases p.2 with⟨H,_⟩|⟨a1,h1,d4,H,_,b6,_⟩
    .rw[H]at l;cases l
    rw[H]at l;cases l;grind
   exact⟨e2.from _,⟨b5.size,λg y b a0 c0 n=>c8 g _ n λd3 f8 d5 l=>by grind,λg h2 h0 _ n=>c8 g _ n λd3 f8 d5 l=>by cases l⟩,
    ⟨⟨_,e8,by simp_all [Cz],by simp;omega⟩,((x.alloc _).kept a4 (x.not_row (by decide) p)).other (by omega) _⟩,s.trans b5⟩
  case done=>
   rintro X j3 Y a3 rfl⟨⟨⟨i,o,p,U⟩,x⟩,s⟩ t;have c7:=o.cell
   gi_wp2
   refine⟨by simp,Xh ⟨_,_,A,run_takeDeferred t,?_⟩⟩;refine⟨_,results_tmp A _ _ _,i,A,?_,by rw[r];exact(Q.trans s).trans (belowK_b (w:=m) (n₀:=d) (by omega) Y X _ _ a3 t A rfl)⟩;rw[r];rw[Zs U];exact ownsRow_putObj p _ t A
  case stop=>
   rintro X y f Y a3 a5⟨⟨i,o,p,rfl,x⟩,s⟩ t;have c7:=o.cell
   gi_wp2
   refine⟨by simp,Xh ⟨_,_,A,run_takeDeferred t,?_⟩⟩;refine⟨_,results_tmp A _ _ _,i,A,?_,by rw[r];exact(Q.trans s).trans (belowK_b (w:=m) (n₀:=d) (by omega) Y X _ _ a3 t A rfl)⟩;rw[r];obtain⟨j0,a6⟩:=a5;have c0:b.take h=f.dropLast:=by grind [List.dropLast_eq_take]
   rw[c0,S_];exact ownsRow_putObj p _ t A
variable{e:Xe}{d:M}{a:E}{f:M}{b:E}
theorem eY.len{b:Xg B}(f:eY b e d):∃c a,e=.slice c b.length a:=by rcases f with⟨rfl,rfl⟩|⟨i,g,a,k,h,rfl,_⟩<;>exact⟨_,_,A⟩
theorem eY.at{l:Xg B}{e:Xp Xw}(m:eY l (.slice e s a) d)(o:Below d.heap.size d f){c:B}(k:l[b]?=C c):∃g,e=C ⟨g,0,F⟩/\f.cell? ⟨g,b,F⟩=C (.string (bs c)):=by
 rcases m with⟨_,rfl⟩|⟨h,q,r,u,t,p,i,_,_,n⟩
 .simp at k
 cases p;exact⟨h,A,aa (by rw[o.block h (XN.1 i).1];exact i) b (n b c k)⟩
variable{a:Xe}{b:M}
noncomputable section
theorem sZ.nil(d:sZ [] a b):∃c e,a=.slice c 0 e:=by rcases d with⟨rfl,_⟩|⟨i,g,f,k,h,rfl,_⟩<;>exact⟨_,_,A⟩
end
variable{a:Tree}{Q:Xp Xw}{c:M}
noncomputable section
def oj(a:Tree)(Q:Xp Xw)(b:M):Prop:=∀(d:E) f,a[d]?=C f->∃c,Q=C ⟨c,0,F⟩/\∀(j:E) e,(Nw f)[j]?=C e->b.cell? ⟨c,d*9+j,F⟩=C e
theorem oj.kept(f:oj a Q b)(d:Kept b c):oj a Q c:=λl n k=>by obtain⟨e,g,h⟩:=f l n k;exact⟨e,g,λj m i=>d.cell (h j m i)⟩
end
variable{z:dB}{f:E->Prop}{h:E}{e:Xg Xr}{N:Exit->Xu->M->Prop}{c:Xe}
section
variable[Inhabited aM]
noncomputable section
variable{i:E}{m l:Xe}{b:E}{g:E->Xk Xe}{k:E->Xe}
theorem Hi{u:Type}{r:u->Xg Xe}(t:∀o,(r o).length=s):∀(p:Xg u)(n j:E)(o:u),p[n]?=C o->j<s->(p.flatMap r)[n*s+j]?=(r o)[j]?
 |[],n,j,o,q,_=>by cases q
 |w::p,0,j,o,q,v=>by
  grind
 |w::p,n+1,j,o,q,v=>by
  have x:(n+1)*s=n*s+s:=by grind
  rw[Zu,YP (by rw[t];omega),t,show(n+1)*s+j-s=n*s+j by omega];exact Hi t p n j o (by simpa using q) v
theorem NO{base:E}(l:d.ownsRow base 51 9 c a.length (Cz a)):∃Q i,c=.slice Q a.length i/\oj a Q d:=by
 rcases l.2 with⟨rfl,m⟩|⟨k,b,q,rfl,_,n,_,_,_,u⟩
 .refine⟨F,0,by rw[m],λe h g=>?_⟩;simp_all
 refine⟨_,b,A,λe h g=>⟨k,A,λj p f=>aa n _ ?_⟩⟩;have o:j<9:=(YH.1 f).1;have t:(Cz a)[e*9+j]?=C p:=(Hi (r:=Nw) (s:=9) (λ_=>rfl) a e j h g o).trans f
 grind
end
end
end Go.Sv
namespace Wt
variable{y:cN}{a:Path}{b:Nd}
theorem Ch(y:cN)(id a:Xj):known (heard y id) a=known y a:=by
 unfold known heard;simp only[Xg.any_map]
 grind
theorem Kp(d:WF y.tree)(i:known y 1=J)(c:find y.tree a=C b):
 step y 0 {ak:=1,op:={kind:=10,path:=join a}}=(heard y 1,[{ak:=1,path:=join a,found:=J,stat:=b.stat,names:=be y.tree a}]):=by
 obtain⟨e,f⟩:=d.names a b c
 have k:look y.tree (join a)=.yes ⟨b.data,b.stat,be y.tree a⟩:=by unfold look;rw[Gl e f];simp only[c]
 unfold step;simp_all [task,eN]
theorem Gc(y:cN)(b:Xj)(c:ew)(a:Bb):keys (eN y b c a).1=keys y:=by
 unfold eN;split
 .rfl
 split
 .split
  .split<;>exact eh y _
  simp[eh]
 split<;>exact eh y _
theorem KE{c:Xj}{b:ew}(k:b.op.kind≠1)(f:b.op.kind≠2)(g:b.op.kind≠7)(l:b.op.kind≠11):keys (step y c b).1=keys y:=by
 unfold step;split
 .rfl
 .grind [task]
 .grind [task]
 .split
  .rfl
  unfold write;simp only[Xx f,Xx g];split
  .exact eh y _
  rename_i h a e _;obtain⟨i,d,_⟩:=AS c e {heard y b.ak with aL:=(heard y b.ak).aL+1,tree:=h};split<;>(simp only[d];exact eh y _)
 simp[Gc]
theorem qD:∀(b:Xg ew)(y:cN)(c:Xj),(∀a∈b,a.op.kind≠1/\a.op.kind≠2/\a.op.kind≠7/\a.op.kind≠11)->keys (handle y c b).1=keys y
 |[],y,c,_=>rfl
 |a::b,y,c,d=>by obtain⟨e,f,g,h⟩:=d a (YZ ..);exact(qD b _ _ λk i=>d k (Ym _ i)).trans (KE e f g h)
theorem Ng{a:cN}{id:Xj}(b:keys a=keys y)(c:known y id=J):known a id=J:=
 gW.2 (by simp_all [gW])
end Wt
namespace Go.Sv
open Go.MapKept Go.Proofs Go.RowKit Go.Lib Go.WideShapes Go.Sort Go.Sim Wt
variable{z:dB}{f:E->Prop}{a:M}{Q:Xp Xw}{m:E}{l:Xg Xr}{N:Exit->Xu->M->Prop}{R:E}{g:E}{y:cN}{h:fG}
section
variable[Inhabited aM]
noncomputable section
variable{e:E}{i b:Xe}{o:E}{p:E->Xk Xe}{k:E->Xe}
abbrev lQ:XG:=Tryz.f6.body.getD .skip
theorem VB{g o:Xj}(H:-2^63<=g/\g<2^63)(u:xv f e a)(y:(∃Q,a.cell? ⟨1,0,F⟩=C (Xd K Q))/\uQ a/\4<a.heap.size)(T:e<=a.heap.size)
 (x:∀R n c h p r,1<=c/\c<=8->Eo f e a R n c Wt.sB 7 h r->N .normal (fq 139 [(1,b),(2,Xd K o),(7,pt R 0)] p) r):
 CW (goalAt TP F F z al f) (Go.Conc.base 6) ⟨[],[(1,i)]⟩ l (ja [1,0] lQ) N (fq 139 [(0,Xd K g),(1,b),(2,Xd K o)] k) a:=by
 show CW _ _ _ _ (.region _ _ _) _ _ _;dsimp only[fq,sl,lk,Nat.reduceBEq,cond];refine eT (R:=3) A (ct (by decide) (ks:=[1]) A 0 1 (more:=[1,2]) (l:=[_]) A (by rfl) λX d _ _=>?_);have t:=Xl x
 go_wp2
 refine Sim.kp d ?_;refine kY (a:=#[Xd K g]) (l:=1) (more:=[2]) (by decide) A rfl rfl rfl Tryz.func14 (by decide) A (by decide) (by kernel_rfl) (LN H (u.eq d) ⟨by simp_all [M.cell?],y.2.1.stay (by rw[d]),by simp_all⟩ (by simp_all)) λW Y w=>?_;obtain⟨R,n,c,h,rfl,D,B⟩:=w;replace B:=B.base d;refine ct (by decide) (ks:=[1]) A 2 1 (more:=[]) (l:=[_]) A (by rfl) λs q _ _=>?_
 go_wp2
 replace B:=B.eq q;refine Sim.kp q (dC ?_);exact bm [(1,b),(2,Xd K o),(7,pt R 0)] (P:=λv=>N .normal v s) A rfl ⟨A,A,A,trivial⟩ λp=>t.out R n c h p s D B
theorem VC{c:Xj}(o:∀d g,g.heap=a.heap->N .normal (fq 139 [(1,b),(2,Xd K c),(7,pt R 0)] d) g):CW (goalAt TP F F z al f) (Go.Conc.base 6) ⟨[],[(1,i)]⟩ l (ja [1,1,0] lQ) N (fq 139 [(1,b),(2,Xd K c),(7,pt R 0)] k) a:=by
 show CW _ _ _ _ (.seq _ _) _ _ _;dsimp only[fq,sl,lk,Nat.reduceBEq,cond];refine aQ (cl (by decide) (ks:=[1]) A (by rfl) λh e _ _=>?_);have m:=Xl o
 go_wp2
 refine vN e ?_;refine cH (g:=Xf) (by decide) A (eL ?_);exact bm [(1,b),(2,Xd K c),(7,pt R 0)] (P:=λn=>N .normal n h) A rfl ⟨A,A,A,trivial⟩ λd=>m.out d h e
theorem Ux:∀fn,TP.funcs[(Go.Conc.base 6).fn]?=C fn->fn.norace=Xf:=λfn a=>by grind [Go.Conc.base,Tryz.f6,Tryz.func6]
theorem VD{r:Xj}(t:oT i b Q m o p)(L:xv f e a)(a0:e<=a.heap.size)
 (w:∀c B g s n,(∀a5∈c,uL a5)->c.length<=40->c.length<=g->uO c B n->(∀d,d<a.heap.size->n.heap[d]?=a.heap[d]?)->a.heap.size<=n.heap.size->(∀h q,B=C ⟨h,q,F⟩->a.heap.size<=h)->N .normal (fq 139 [(2,Xd K r),(7,pt R 0),(8,.slice B c.length g)] s) n):
 CW (goalAt TP F F z al f) (Go.Conc.base 6) ⟨[],[(1,i)]⟩ l (ja [1,1,1,0] lQ) N (fq 139 [(1,b),(2,Xd K r),(7,pt R 0)] k) a:=by
 show CW _ _ _ _ (.region _ _ _) _ _ _;dsimp only[fq,sl,lk,Nat.reduceBEq,cond];have H:=Xl w;clear w;refine eT (R:=3) A (nG ?_);refine ji Ux (by decide) (L:=0) (more:=[1,2]) (j:=21) ⟨_,A,A,A,A⟩ (v:=b) (V:=i) A (show 21<139 by decide) (λO a9 a6 a8 _ _=>⟨#[],λb7 x u=>?_,by simp⟩) t.rel ?_
 .show(Sem.pure (Next.value (a6 (.tmp 1)))).runT TP O #[]=_;simp_all
 refine Mj (Z:=[(0,i)]) (o:=#[b]) (L:=1) (more:=[2]) (by decide) A rfl rfl rfl Tryz.func15 (by decide) A (by decide) (λx a1=>⟨21,by simp_all,by simp_all⟩) (by kernel_rfl) (Dw t L a0) λb6 b8 W=>?_;obtain⟨c,a2,U,Y,b1,b2,T,a3⟩:=W;refine zH A (λx a1=>by simp_all) ?_;obtain⟨B,g,rfl,Z,X,Sz⟩:=uO.of Y T;refine ct (by decide) (ks:=[1]) A 2 1 (more:=[]) (l:=[_]) A (by rfl) λy v _ _=>?_;have D:=Xl X
 go_wp2
 refine Sim.kp v (dC ?_);exact bm [(2,Xd K r),(7,pt R 0),(8,.slice B c.length g)] (P:=λd=>N .normal d y) A rfl ⟨A,A,A,trivial⟩ λs=>H.out c B g s y a2 U Z (D.out.vW (own:=λ_=>False) (Hw v) λ_ _ _ S=>S) (λd b0=>by simp_all) (by simp_all) λh q u=>a3 h (Sz h q u)
theorem VE{t:Xj}{q o p:E}{a0:Xg Out}{b:Xg ew}{B:Xp Xw}(O:pX e R q o y p a0 h a)(L:xv f e a)(X:1<=o/\o<=8)(T:p<2^16)(n:uO b B a)(a4:b.length<=40)(s:∀v∈b,uL v)(W:∀d Z,B=C ⟨d,Z,F⟩->e<=d/\¬ya R q y.tree h d)
 (U:∀i u w,dH f e R q o y p h B b a i.ov w i->N .normal (fq 139 [(2,Xd K t),(7,pt R 0)] u) w):
 CW (goalAt TP F F z al f) (Go.Conc.base 6) ⟨[],[]⟩ l (ja [1,1,1,1,0] lQ) N (fq 139 [(2,Xd K t),(7,pt R 0),(8,.slice B b.length g)] k) a:=by
 show CW _ _ _ _ (.region _ _ _) _ _ _;dsimp only[fq,sl,lk,Nat.reduceBEq,cond];have H:=Xl U;refine eT (R:=3) A (ct (by decide) (ks:=[]) A 0 2 (more:=[2]) (l:=[_,_]) A (by rfl) λb0 c _ _=>?_);have D:=Xl (And.intro n s)
 go_wp2
 obtain⟨n,s⟩:=D.out;refine Sim.kp c ?_;refine kY (a:=#[pt R 0,.slice B b.length g]) (l:=2) (more:=[]) (by decide) A rfl rfl rfl Tryz.func18 (by decide) A (by decide) (by kernel_rfl) (Oj (e:=0) (O.eq c) (L.eq c) X T (n.vW (own:=λ_=>False) (Hw c) λ_ _ _ r=>r) (λa5 v r=>by simpa using r) A (by omega) s W ?_) λa9 x S=>?_
 .rcases n with⟨rfl,_⟩|⟨d,a1,a8,a3,rfl,_⟩
  .rfl
  simp
 obtain⟨i,P⟩:=S;obtain rfl:=P.val;replace P:=P.eq c.symm A;refine dC ?_;exact bm [(2,Xd K t),(7,pt R 0)] (P:=λQ=>N .normal Q x) A rfl ⟨A,A,trivial⟩ λu=>H.out i u x P
end
end
variable{b:E}{r:Xg Xr}{q:Xe}{o:Tree}{u:E}{H:fG}{e:E}{h:E}{s:E}{l:E}
section
variable[Inhabited aM]
noncomputable section
variable{x:E}{S O:Xe}{D:E}{L:E->Xk Xe}{p:E->Xe}
theorem Qh{base:E}(c:a.ownsRow base 51 9 q o.length (Cz o)):∀l,q.ownBlock=C l->base<=l:=λl b=>by
 rcases c.2 with⟨rfl,_⟩|⟨f,D,e,rfl,d,_⟩
 .cases b
 cases b;exact d
theorem CE{X g:E}{Y:Xg Out}(c:aK u X y Y H a)(U:a.cell? ⟨R,0,F⟩=C (pt u 0))(T:g<2^20):
 Calls TP 20 #[pt R 0,Xd K g] a λd i=>∃Q e,d=Xs (.slice Q (y.tree.take g).length e)/\oj (y.tree.take g) Q i/\(∀l n,Q=C ⟨l,n,F⟩->a.heap.size<=l)/\Below a.heap.size a i:=by
 obtain⟨Z,_,W⟩:=c.top;refine(Qc c.wf c.tree (aa W 0 A) (aa c.ch 2 A) U T).mono ?_;rintro d i⟨q,rfl,k,v⟩;have w:=Qh k;obtain⟨Q,e,rfl,t⟩:=NO k;exact⟨Q,e,A,t,λl n d=>w l (by rw[d];rfl),v⟩
theorem VF{H W y:E}{b:cN}{X:Xg Out}{L:fG}{h:Xj}(D:pX x R H W b y X L a)(S:∀c,f c->c<a.heap.size)(T:b.tree=o)
 (O:∀Q e i k,Kept a k->oj o Q k->(∀l Y,Q=C ⟨l,Y,F⟩->a.heap.size<=l)->N .normal (fq 139 [(2,Xd K h),(7,pt R 0),(9,.slice Q o.length e)] i) k):
 CW (goalAt TP F F z al f) (Go.Conc.base 6) ⟨[],[]⟩ r (ja [1,1,1,1,1,0] lQ) N (fq 139 [(2,Xd K h),(7,pt R 0)] p) a:=by
 show CW _ _ _ _ (.region _ _ _) _ _ _;dsimp only[fq,sl,lk,Nat.reduceBEq,cond];have w:=Xl O;have m:=Xl D;refine cl (by decide) (ks:=[]) A (by rfl) λa1 d _ _=>?_;have g:=(m.out.eq d).gI;subst T
 go_wp2_with (go_at_call 20;refine(CE (g:=100) g (aa (m.out.eq d).ptr 0 A) (by decide)).mono ?_;rintro _ u⟨Q,e,rfl,n,t,q⟩)
 have s:=(gy d).trans ⟨q.size,q.block⟩;refine show _/\_ from⟨λv U=>s.2 v (S v U),?_⟩;rw[Zs (XZ g.wf.len (by decide))]at n;rw[show min 100 b.tree.length=b.tree.length by have:=g.wf.len;omega];rw[d]at t;exact bm [(2,Xd K h),(7,pt R 0),(9,.slice Q b.tree.length e)] (P:=λc=>N .normal c u) A rfl ⟨A,A,A,trivial⟩ λi=>w.out Q e i u s n t
theorem VG{c:Xj}(o:-2^63<=c/\c<2^63)(n:∀(h:E) d i,h<70->i.heap=a.heap->N .normal (fq 139 [(7,pt R 0),(9,.slice Q b e),(10,Xd K h)] d) i):CW (goalAt TP F F z al f) (Go.Conc.base 6) ⟨[],[]⟩ r (ja [1,1,1,1,1,1,0] lQ) N (fq 139 [(2,Xd K c),(7,pt R 0),(9,.slice Q b e)] p) a:=by
 show CW _ _ _ _ (.region _ _ _) _ _ _;dsimp only[fq,sl,lk,Nat.reduceBEq,cond];refine cl (by decide) (ks:=[]) A (by rfl) λk g _ _=>?_;have l:=Xl n
 go_wp2_with (go_at_call 21;refine(kM o (by decide) _).mono ?_;rintro _ u⟨h,q,rfl,s⟩)
 refine Sim.kp g ?_;exact bm [(7,pt R 0),(9,.slice Q b e),(10,Xd K h)] (P:=λm=>N .normal m k) A rfl ⟨A,A,A,trivial⟩ λd=>l.out h d k (by omega) g
theorem VH{H X w:E}{k:cN}{Y:Xg Out}{L:fG}(y:pX x R H X k w Y L a)(T:∀d,f d->d<a.heap.size)(U:k.tree=o)(Z:h<70)
 (S:∀c g l m,Kept a m->oj (o.take h) c m->N .normal (fq 139 [(7,pt R 0),(9,.slice Q b e),(10,Xd K h),(11,.slice c (min h o.length) g)] l) m):
 CW (goalAt TP F F z al f) (Go.Conc.base 6) ⟨[],[]⟩ r (ja [1,1,1,1,1,1,1,0] lQ) N (fq 139 [(7,pt R 0),(9,.slice Q b e),(10,Xd K h)] p) a:=by
 show CW _ _ _ _ (.region _ _ _) _ _ _;dsimp only[fq,sl,lk,Nat.reduceBEq,cond];have v:=Xl S;have n:=Xl y;refine cl (by decide) (ks:=[]) A (by rfl) λa3 i _ _=>?_;have D:=(n.out.eq i).gI;subst U
 go_wp2_with (go_at_call 20;refine(CE (g:=h) D (aa (n.out.eq i).ptr 0 A) (by omega)).mono ?_;rintro _ t⟨c,g,rfl,O,a0,q⟩)
 have s:=(gy i).trans ⟨q.size,q.block⟩;refine show _/\_ from⟨λu W=>s.2 u (T u W),?_⟩;exact bm [(7,pt R 0),(9,.slice Q b e),(10,Xd K h),(11,.slice c (min h k.tree.length) g)] (P:=λd=>N .normal d t) A rfl ⟨A,A,A,A,trivial⟩ λl=>v.out c g l t s O
theorem VI{d:E}{c:Xp Xw}(w:1<=b)(t:∃l,Q=C ⟨l,0,F⟩/\a.cell? ⟨l,0,F⟩=C (.string ⟨#[47]⟩))(u:∀g m,m.heap=a.heap->N .normal (fq 139 [(7,pt R 0),(9,.slice Q b e),(10,Xd K h),(11,.slice c s d)] g) m):CW (goalAt TP F F z al f) (Go.Conc.base 6) ⟨[],[]⟩ r (ja [1,1,1,1,1,1,1,1,0] lQ) N (fq 139 [(7,pt R 0),(9,.slice Q b e),(10,Xd K h),(11,.slice c s d)] p) a:=by
 show CW _ _ _ _ (.seq _ _) _ _ _;dsimp only[fq,sl,lk,Nat.reduceBEq,cond];refine aQ (cl (by decide) (ks:=[]) A (by rfl) λi k _ _=>?_);have n:=Xl u;obtain⟨l,rfl,v⟩:=t;replace v:i.cell? ⟨l,0,F⟩=C (.string ⟨#[47]⟩):=by simp_all [M.cell?]
 have q1:((b:Xj)==0)=Xf:=by simp;omega
 go_wp2
 refine vN k ?_;refine cH (g:=Xf) (by decide) A (eL ?_);exact bm [(7,pt R 0),(9,Xm (C ⟨l,0,F⟩) b e),(10,Xd K h),(11,.slice c s d)] (P:=λq=>N .normal q i) A rfl ⟨A,A,A,A,trivial⟩ λg=>n.out g i k
theorem Uz{i:E}{d:Xp Xw}(v:∀c q,q.heap=a.heap->N .normal (fq 139 [(7,pt R 0),(9,.slice Q b e),(10,Xd K (min h b:E)),(11,.slice d s i)] c) q):CW (goalAt TP F F z al f) (Go.Conc.base 6) ⟨[],[]⟩ r (ja [1,1,1,1,1,1,1,1,1,0] lQ) N (fq 139 [(7,pt R 0),(9,.slice Q b e),(10,Xd K h),(11,.slice d s i)] p) a:=by
 show CW _ _ _ _ (.seq _ _) _ _ _;dsimp only[fq,sl,lk,Nat.reduceBEq,cond];refine aQ (cl (by decide) (ks:=[]) A (by rfl) λt k _ _=>?_);have g:=Xl v;by_cases x:b<h
 .have m:min h b=b:=by omega
  go_wp2
  refine vN k ?_;refine cH (g:=J) (by decide) A (show CW _ _ _ _ (.region _ _ _) _ _ _ from ?_);refine cl (by decide) (ks:=[]) A (by rfl) λu n _ _=>?_
  go_wp2
  refine Sim.kp n ?_;rw[m]at g;exact bm [(7,pt R 0),(9,.slice Q b e),(10,Xd K b),(11,.slice d s i)] (P:=λl=>N .normal l u) A rfl ⟨A,A,A,A,trivial⟩ λc=>g.out c u (n.trans k)
 have m:min h b=h:=by omega
 go_wp2
 refine vN k ?_;refine cH (g:=Xf) (by decide) A (eL ?_);rw[m]at g;exact bm [(7,pt R 0),(9,.slice Q b e),(10,Xd K h),(11,.slice d s i)] (P:=λl=>N .normal l t) A rfl ⟨A,A,A,A,trivial⟩ λc=>g.out c t k
theorem UA{d:E}{c:Xp Xw}(n:∀g i,i.heap=a.heap->N .normal (fq 139 [(7,pt R 0),(9,.slice Q b e),(10,Xd K s),(11,.slice c s d)] g) i):CW (goalAt TP F F z al f) (Go.Conc.base 6) ⟨[],[]⟩ r (ja [1,1,1,1,1,1,1,1,1,1,0] lQ) N (fq 139 [(7,pt R 0),(9,.slice Q b e),(10,Xd K s),(11,.slice c s d)] p) a:=by
 show CW _ _ _ _ (.seq _ _) _ _ _;dsimp only[fq,sl,lk,Nat.reduceBEq,cond];refine aQ (cl (by decide) (ks:=[]) A (by rfl) λk h _ _=>?_);have l:=Xl n
 go_wp2
 refine vN h ?_;refine cH (g:=Xf) (by decide) A (eL ?_);exact bm [(7,pt R 0),(9,.slice Q b e),(10,Xd K s),(11,.slice c s d)] (P:=λm=>N .normal m k) A rfl ⟨A,A,A,A,trivial⟩ λg=>l.out g k h
end
noncomputable section
variable{p:E->Xe}
theorem UB{h f:E}(W:b<2^62)(U:s<2^62)(S:m<s)(T:m<b){g:Path×Nd}
 (c:∀(j:E) q,(Nw g)[j]?=C q->a.cell? ⟨l,m*9+j,F⟩=C q)
 (d:∀(j:E) q,(Nw g)[j]?=C q->a.cell? ⟨f,m*9+j,F⟩=C q):
 (ja [1,1,1,1,1,1,1,1,1,1,1,0,1,0,0,1,0,0,0] lQ).wp TP (eP (kE 139 [(7,pt R 0),(9,Xm (C ⟨l,0,F⟩) b e),(10,Xd K s),(11,Xm (C ⟨f,0,F⟩) s h),(12,Xd K m),(66,.bool Xf)] a)) (fq 139 [(7,pt R 0),(9,Xm (C ⟨l,0,F⟩) b e),(10,Xd K s),(11,Xm (C ⟨f,0,F⟩) s h),(12,Xd K m)] p) a:=by
 show XG.wp _ (.region _ _ J) _ _ _;dsimp only[fq,sl,lk,Nat.reduceBEq,cond];have i:a.cell? ⟨l,m*9,F⟩=C (.string (bs (Wt.join g.1))):=c 0 _ A;have x:a.cell? ⟨f,m*9,F⟩=C (.string (bs (Wt.join g.1))):=d 0 _ A;have k:=c 1 _ A;have y:=d 1 _ A;have n:=c 2 _ A;have z:=d 2 _ A;have o:=c 3 _ A;have D:=d 3 _ A;have r:=c 4 _ A;have H:=d 4 _ A;have t:=c 5 _ A;have L:=d 5 _ A;have u:=c 6 _ A;have N:=d 6 _ A;have v:=c 7 _ A;have O:=d 7 _ A;have w:=c 8 _ A;have Q:=d 8 _ A;clear c d
 go_region
 all_goals exact show kE _ _ _ _ _ from⟨⟨A,A,A,A,A,A,A,A,trivial⟩,gy A⟩
theorem JZ{k:E}{i:Xp Xw}(N:b<2^62)(a1:o.length=b)(a0:s=min h b)(x:oj o Q a)(y:oj (o.take h) i a):
 (ja [1,1,1,1,1,1,1,1,1,1,1,0] lQ).wp TP (eP (kE 139 [(7,pt R 0),(9,.slice Q b e)] a)) (fq 139 [(7,pt R 0),(9,.slice Q b e),(10,Xd K s),(11,.slice i s k)] p) a:=by
 show XG.wp _ (.seq (.region _ _ _) (.block _ (.loop _))) _ _ _;dsimp only[fq,sl,lk,Nat.reduceBEq,cond];refine abq λT r=>?_;replace r:=Xl r
 go_wp2
 refine r.out _ _ (wp_block (wp_loop (GM 139 (λm=>[(7,pt R 0),(9,.slice Q b e),(10,Xd K s),(11,.slice i s k),(12,Xd K m)]) s a) (λc _=>s-qF 12 c) ?_ ?_))
 .exact .of 0 (YA _) A rfl ⟨A,A,A,A,A,trivial⟩ (gy A)
 rintro _ a4⟨m,p,Z,rfl,f⟩;dsimp only[fq,sl,lk,Nat.reduceBEq,cond];rcases H_ m s with u|Y
 .refine abq λv d=>?_;replace d:=Xl d
  go_wp2
  refine d.out _ _ (abq λU n=>wp_block (abq λW q=>?_));replace n:=Xl n;replace q:=Xl q;obtain⟨g,O⟩:∃g,o[m]?=C g:=⟨_,Yy (by omega)⟩;obtain⟨l,rfl,D⟩:=(x.kept f) m g O;obtain⟨w,rfl,H⟩:=(y.kept f) m g (by grind);refine bm [(7,pt R 0),(9,Xm (C ⟨l,0,F⟩) b e),(10,Xd K s),(11,Xm (C ⟨w,0,F⟩) s k),(12,Xd K m)] (P:=λc=>XG.wp _ _ _ c _) A rfl ⟨A,A,A,A,A,trivial⟩ λa2=>wp_mono (UB N (by omega) u (by omega) D H) ?_;rintro(_|_|_|_|_|_) X a5 t
  case normal=>
   obtain⟨⟨S,hd,L⟩,z⟩:=t;refine q.out _ _ ?_;refine bm _ (P:=λc=>XG.wp _ _ _ c _) S hd L λa3=>?_;dsimp only[fq,sl,lk,Nat.reduceBEq,cond]
   go_wp2
   refine n.out _ _ ?_
   go_wp2
   refine⟨.of (m+1) u A rfl ⟨A,A,A,A,A,trivial⟩ (f.trans z),?_⟩;show s-((m:Xj)+1).toNat<s-m;omega
  all_goals exact t.elim
 refine abq λv d=>?_
 go_wp2
 exact show kE _ _ _ _ _ from⟨⟨A,A,A,A,trivial⟩,f⟩
end
end
end Go.Sv
namespace Go.Sim
open Go.Conc Go.Proofs Go.RowKit
open Go.ConcN (PermW PermW.app PermW.of fork_knows WgLive RelBy sumTo)
open Go.ConcR (KK wgBlock WgAt stA smA rd wr mk DC0)
variable{P:Xy}{h:Set}{f:E->Prop}{e:Xr}{k:Xg Xr}{N:Exit->Xu->M->Prop}{d:Xu}{c:M}
section
variable[Inhabited aM]
section
variable{main:Xo}{i:Goal P h main f}{g:Rt}
theorem Bv(v:Good P h)(w:h.fr e.fn=J)(x:e.kind≠.early){l:Xg Oper}{s:Xg E}(y:g.kn.map (·.1)=s)(D:lT P h s l.toArray=J)(z:P.follows .mixedOrders=J)(q:Region.lexB .any l.toArray=J){id:E}(p:Xu->Prop)
 (a:∀t:M,t.heap=c.heap->wpQuiet P l.toArray (λo=>∃n,o=t.drewN n) p l d)
 (next:∀b m,m.heap=c.heap->p b->N .normal b m):CW i e g k (.region id l.toArray J) N d c:=by
 refine ot v w x (nf y D) z (i:=λb m=>p b/\m.heap=c.heap) (λr=>?_) (λb m a Q _=>by rw[a.2]) λb m a=>next b m a.2 a.1
 simp only[Region.lexB,Yg]at q;refine wpAny_of_quiet (C:=λo=>∃n,o=({c with tape:=r}:M).drewN n) (Q:=p) (λd o H a=>?_) _ _ _ _ ⟨0,A⟩ ?_
 .obtain⟨n,rfl⟩:=H;exact⟨a,A⟩
 have:=wpAnyQ_lex (C:=λo=>∃n,o=({c with tape:=r}:M).drewN n) (md:=.any) q.1 l 0 (Array.replicate l.toArray.size Xf) d (by simp) (by simpa using q.2) (a {c with tape:=r} A);omega
end
end
end Go.Sim
namespace Go.Sv
open Go.MapKept Go.Proofs Go.RowKit Go.Lib Go.WideShapes Go.Sort Go.Sim Wt
variable{z:dB}{f:E->Prop}{e:M}{Q:Xp Xw}{b:E}{m:Xg Xr}{N:Exit->Xu->M->Prop}{d:E}{a:E}{R:E}{h:E}{s:E}{l:Out}
section
variable[Inhabited aM]
noncomputable section
variable{r:E}{u t:Xe}{p:E}{q:E->Xk Xe}{k:E->Xe}
theorem Ht:∀{a b:Xg UInt8},a<b->Go.Op.bytesLess a b=J
 |a,[],c=>absurd c (Xg.not_lt_nil a)
 |[],_::_,_=>rfl
 |e::a,f::b,c=>by
  rcases ZT.1 c with d|⟨rfl,d⟩
  .simp[Go.Op.bytesLess,d]
  simp[Go.Op.bytesLess,Ht d]
theorem Pc{a b:B}(c:a<b):Go.Op.bytesLess (bs a).toList (bs b).toList=J:=by rw[aaW,aaW];exact Ht c
theorem UC{g:E}{o:Xj}{x W:Xp Xw}{y a3:E}{i:B}(a7:a<b)(a8:b<2^62)(v:e.heap[g]?=C (Xn (iC l (.slice x s y,.slice W 0 a3)) 38 (0,0)))(L:l.err=0)
 (a0:e.cell? ⟨h,a*9+8,F⟩=C (Xd K s))(hd:e.cell? ⟨h,a*9+1,F⟩=C (.string (bs i)))(a2:e.cell? ⟨h,a*9+7,F⟩=C (Xd K i.length))
 (H:∀w S,S.heap=e.heap->N .normal (fq 139 [(7,pt R 0),(9,Xm (C ⟨h,0,F⟩) b d),(13,Xd K o),(14,Xd K a),(15,pt g 0)] w) S):CW (goalAt TP F F z al f) (Go.Conc.base 6) ⟨[],[]⟩ m (ja [1,1,1,1,1,1,1,1,1,1,1,1,1,0,1,0,0,1,0,0,1,0] lQ) N (fq 139 [(7,pt R 0),(9,Xm (C ⟨h,0,F⟩) b d),(13,Xd K o),(14,Xd K a),(15,pt g 0)] k) e:=by
 show CW _ _ _ _ (.seq (.region _ _ J) (.cond _ _ _)) _ _ _;dsimp only[fq,sl,lk,Nat.reduceBEq,cond];have U:=Xl H;clear H;refine aQ (Bv aC (by decide) (by decide) (s:=[]) A (by rfl) lx (by decide+kernel) (λc=>c.tmps.size=139/\c.defers=[]/\sX c [(7,pt R 0),(9,Xm (C ⟨h,0,F⟩) b d),(13,Xd K o),(14,Xd K a),(15,pt g 0),(109,.bool Xf)]) (λn D=>?_) λa4 T X Y=>(show CW _ _ _ _ (.cond _ _ _) _ _ _ from ?_))
 .have a6:n.cell? ⟨g,3,F⟩=C (Xd K 0):=aa (by rw[D];exact v) 3 (by rw[<-L];rfl);have a5:n.cell? ⟨g,14,F⟩=C (.slice x s y):=aa (by rw[D];exact v) 14 A;have b1:n.cell? ⟨h,a*9+8,F⟩=C (Xd K s):=by simp_all [M.cell?]
  have a9:n.cell? ⟨h,a*9+1,F⟩=C (.string (bs i)):=by simp_all [M.cell?]
  have b0:n.cell? ⟨h,a*9+7,F⟩=C (Xd K i.length):=by simp_all [M.cell?]
  have O:(bs i).size=i.length:=by rfl
  clear a0 hd a2 v L
  repeat (quiet_step (fail))
  refine wpQuiet_nil ?_;exact⟨A,A,A,A,A,A,A,A,trivial⟩
 obtain⟨O,Z,a1⟩:=Y;refine bm _ (P:=λc=>CW _ _ _ _ _ _ c _) O Z a1 λb4=>?_;refine cH (g:=Xf) (by decide) A (eL ?_);exact bm [(7,pt R 0),(9,Xm (C ⟨h,0,F⟩) b d),(13,Xd K o),(14,Xd K a),(15,pt g 0)] (P:=λc=>N .normal c T) A rfl ⟨A,A,A,A,A,trivial⟩ λw=>U.out w T X
theorem Kb{i:E}{n:Xj}{S b6:Xp Xw}{T d0:E}{g:Xg B}(W:e.heap[i]?=C (Xn (iC l (.slice S g.length T,.slice b6 0 d0)) 38 (0,0)))(e0:g.length<2^61)
 (x:∀(j:E) y,g[j]?=C y->∃w,S=C ⟨w,0,F⟩/\e.cell? ⟨w,j,F⟩=C (.string (bs y)))(L:g.Pairwise (·<·))
 (a9:∀v O,O.heap=e.heap->N .normal (fq 139 [(7,pt R 0),(9,.slice Q b d),(13,Xd K n),(14,Xd K a),(15,pt i 0)] v) O):CW (goalAt TP F F z al f) (Go.Conc.base 6) ⟨[],[]⟩ m (ja [1,1,1,1,1,1,1,1,1,1,1,1,1,0,1,0,0,1,0,0,1,1,0] lQ) N (fq 139 [(7,pt R 0),(9,.slice Q b d),(13,Xd K n),(14,Xd K a),(15,pt i 0)] k) e:=by
 show CW _ _ _ _ (.seq (.region _ _ _) (.block _ (.loop _))) _ _ _;dsimp only[fq,sl,lk,Nat.reduceBEq,cond];have b5:=Xl a9;have b4:=Xl (And.intro x L);clear a9 x L;refine aQ (cl (by decide) (ks:=[]) A (by rfl) λd1 U _ _=>?_)
 go_wp2
 refine vN U ?_;refine iu (um (w:=λc O=>∃(j:E)(k:E->Xe),1<=j/\c=fq 139 [(7,pt R 0),(9,.slice Q b d),(13,Xd K n),(14,Xd K a),(15,pt i 0),(16,Xd K j)] k/\O.heap=e.heap) (Q:=λc _=>g.length-qF 16 c) ?_ ?_)
 .exact bm [(7,pt R 0),(9,.slice Q b d),(13,Xd K n),(14,Xd K a),(15,pt i 0),(16,Xd K (1:E))] (P:=λc=>∃(j:E)(k:E->Xe),1<=j/\c=fq 139 [(7,pt R 0),(9,.slice Q b d),(13,Xd K n),(14,Xd K a),(15,pt i 0),(16,Xd K j)] k/\d1.heap=e.heap) A rfl ⟨A,A,A,A,A,A,trivial⟩ λv=>⟨1,v,XS _,A,U⟩
 clear U;rintro _ e7⟨j,k,d8,rfl,a4⟩;have b1:qF 16 (fq 139 [(7,pt R 0),(9,.slice Q b d),(13,Xd K n),(14,Xd K a),(15,pt i 0),(16,Xd K j)] k)=j:=A;rw[b1];clear b1;dsimp only[fq,sl,lk,Nat.reduceBEq,cond];refine aQ (aQ (cl (by decide) (ks:=[]) A (by rfl) λa1 H _ _=>?_));have D:=H.trans a4;have a6:a1.cell? ⟨i,14,F⟩=C (.slice S g.length T):=aa (by rw[D];exact W) 14 A;rcases H_ j g.length with d9|d7
 .have c1:decide ((j:Xj)<g.length)=J:=by simp;omega
  go_wp2
  refine vN H ?_;clear c1 a6;refine cH (g:=J) (by decide) A (eL (show CW _ _ _ _ (.seq (.block _ (.seq (.region _ _ J) _)) _) _ _ _ from ?_));obtain⟨x,L⟩:=b4.out;obtain⟨o,b2⟩:∃o,j=o+1:=⟨j-1,by omega⟩;obtain⟨Y,a7⟩:∃y,g[o]?=C y:=⟨_,Yy (by omega)⟩;obtain⟨Z,a8⟩:∃y,g[j]?=C y:=⟨_,Yy (by omega)⟩;obtain⟨w,rfl,b9⟩:=x o Y a7;obtain⟨d5,c7,c0⟩:=x j Z a8;cases c7;have b0:Y<Z:=by grind [List.pairwise_iff_getElem]
  have d6:=Pc b0;have e1:o<g.length:=by omega
  have e3:IntKind.i64.wrap ((j:Xj)-1)=o:=by grind [IntKind.wrap_i64]
  have e2:=Xl b2;clear x L a7 a8 b0 b2;refine aQ (iu (aQ (Bv aC (by decide) (by decide) (s:=[]) A (by rfl) lx (by decide+kernel) (λc=>c.tmps.size=139/\c.defers=[]/\sX c [(7,pt R 0),(9,.slice Q b d),(13,Xd K n),(14,Xd K a),(15,pt i 0),(16,Xd K j),(128,.bool Xf)]) (λa0 a2=>?_) λd4 e8 b7 b8=>(show CW _ _ _ _ (.cond _ _ _) _ _ _ from ?_))))
  .have a3:=a2.trans D;have a6:a0.cell? ⟨i,14,F⟩=C (Xm (C ⟨w,0,F⟩) g.length T):=aa (by rw[a3];exact W) 14 A;have e4:a0.cell? ⟨w,o,F⟩=C (.string (bs Y)):=by simp_all [M.cell?]
   have e5:a0.cell? ⟨w,j,F⟩=C (.string (bs Z)):=by simp_all [M.cell?]
   clear b9 c0 W a3 D a2 a4 H
   repeat (quiet_step (fail))
   refine wpQuiet_nil ?_;exact⟨A,A,A,A,A,A,A,A,A,trivial⟩
  obtain⟨c9,c6,c8⟩:=b8;refine bm _ (P:=λc=>CW _ _ _ _ _ _ c _) c9 c6 c8 λe6=>?_;dsimp only[fq,sl,lk,Nat.reduceBEq,cond];refine cH (g:=Xf) (by decide) A (eL (show CW _ _ _ _ (.region _ _ _) _ _ _ from ?_));refine cl (by decide) (ks:=[]) A (by rfl) λd2 a5 _ _=>?_
  go_wp2
  refine Sim.kp a5 ⟨?_,?_⟩
  .exact bm [(7,pt R 0),(9,.slice Q b d),(13,Xd K n),(14,Xd K a),(15,pt i 0),(16,Xd K ((j+1:E):Xj))] (P:=λc=>∃(j:E)(k:E->Xe),1<=j/\c=fq 139 [(7,pt R 0),(9,.slice Q b d),(13,Xd K n),(14,Xd K a),(15,pt i 0),(16,Xd K j)] k/\d2.heap=e.heap) A rfl ⟨A,A,A,A,A,A,trivial⟩ λv=>⟨j+1,v,by omega,A,a5.trans (b7.trans D)⟩
  show g.length-((j:Xj)+1).toNat<g.length-j;omega
 have c2:decide (j<g.length)=Xf:=by simp;omega
 go_wp2
 refine vN H ?_;refine cH (g:=Xf) (by decide) A (qo ?_);exact bm [(7,pt R 0),(9,.slice Q b d),(13,Xd K n),(14,Xd K a),(15,pt i 0)] (P:=λc=>N .normal c a1) A rfl ⟨A,A,A,A,A,trivial⟩ λv=>b5.out v a1 D
end
end
variable{m:M}{k:E}{T:Xg Xr}{L:M}{j:E}{U:Xe}{l:Path}{e:Tree}{y:cN}{H:fG}{S:E}{D:Xk Xe}{q:E}{g:E}{u:Out}
section
variable[Inhabited aM]
noncomputable section
variable{r:E}{Z Y:Xe}{W:E}{X:E->Xk Xe}{O:E->Xe}
theorem LP(a:gd m L h)(g:m.cell? ⟨h,j,F⟩=C U):L.cell? ⟨h,j,F⟩=C U:=by rcases a with a|⟨q,e,b,c,_,d,f⟩<;>simp_all [M.cell?]
theorem MV(i:l.length<=4)(d:∀D∈l,cz D=J):(Wt.join l).length<2^30:=by
 have:∀(a:Xg B),(∀D∈a,cz D=J)->([47].intercalate a).length<=a.length*13:=λa b=>by
  induction a with
  |nil=>simp
  |cons h c f=>
   have:=Am (b h (by simp));cases c with
   |nil=>simp[Xg.intercalate];omega
   |cons S c=>
    have g:=f (λD e=>b D (Ym _ e));simp[Xg.intercalate]at g⊢
    omega
 have:=this l d;show([47].intercalate l).length+1<2^30;omega
structure xu(ro:E->Prop)(r:E)(n:M)(R b d:E)(e:Tree)(Q:Xp Xw)(y:cN)(c:E)(u:Xg Out)(H:fG)(m:M):Prop where
 at':pX r R b d y c u H m
 tree:y.tree=e
 known:Wt.known y 1=J
 SK:oj e Q m
 free:∀a i,Q=C ⟨a,i,F⟩->a<m.heap.size/\¬aI b y.tree H a
 ro:∀h,ro h->m.heap[h]?=n.heap[h]?
theorem xu.eq{i:M}{d g c:E}{u:Xg Out}(a:xu f r i R d g e Q y c u H m)(b:L.heap=m.heap):xu f r i R d g e Q y c u H L:=
 ⟨a.at'.eq b,a.tree,a.known,a.SK.kept (gy b),λl o k=>by rw[b];exact a.free l o k,λh n=>by rw[b];exact a.ro h n⟩
theorem xu.one{v:M}{k l i:E}{d:cN}{u q:Xg Out}{o:fG}{t:ew}(a:xu f r v R k l e Q y i u H m)(P:zq f r R k l y i H t m D S L o)(O:Wt.handle y 0 [t]=(d,q))(U:d.tree=e)(T:Wt.known d 1=J):xu f r v R k l e Q d (i+1) q o L:=by
 obtain⟨n,Y,w,Z,x,_⟩:=P;rw[O]at n x;refine⟨n,U,T,λg X W=>?_,λc s b=>⟨?_,λa1=>?_⟩,λh p=>(w h p).trans (a.ro h p)⟩
 .obtain⟨c,b,a0⟩:=a.SK g X W;obtain⟨z,N⟩:=a.free c 0 b
  grind [LP]
 .have:=(a.free c s b).1;omega
 obtain⟨z,N⟩:=a.free c s b
 grind
theorem eY.cells{c:Xg B}{a:Xp Xw}(d:eY c (.slice a s q) m):∀(j:E) y,c[j]?=C y->∃b,a=C ⟨b,0,F⟩/\m.cell? ⟨b,j,F⟩=C (.string (bs y)):=λj y e=>d.at (ZP _ _) e
theorem UD{b a:E}{n t:Xp Xw}{o x:E}(w:m.heap[b]?=C (Xn (iC u (.slice n s o,.slice t 0 x)) 38 (0,0)))(a1:a+s<2^62)
 (v:∀d L,L.heap=m.heap->N .normal (fq 139 [(7,pt R 0),(9,.slice Q k q),(13,Xd K (a+s:E)),(14,Xd K g)] d) L):CW (goalAt TP F F z al f) (Go.Conc.base 6) ⟨[],[]⟩ T (ja [1,1,1,1,1,1,1,1,1,1,1,1,1,0,1,0,0,1,0,0,1,1,1] lQ) N (fq 139 [(7,pt R 0),(9,.slice Q k q),(13,Xd K (a:E)),(14,Xd K g),(15,pt b 0)] O) m:=by
 show CW _ _ _ _ (.region _ _ _) _ _ _;dsimp only[fq,sl,lk,Nat.reduceBEq,cond];refine cl (by decide) (ks:=[]) A (by rfl) λi c _ _=>?_;have p:=Xl v;have a0:i.cell? ⟨b,14,F⟩=C (.slice n s o):=aa (by rw[c];exact w) 14 A
 go_wp2
 refine Sim.kp c ?_;exact bm [(7,pt R 0),(9,.slice Q k q),(13,Xd K (a+s:E)),(14,Xd K g)] (P:=λh=>N .normal h i) A rfl ⟨A,A,A,A,trivial⟩ λd=>p.out d i c
def sA(e:Tree)(g:E):E:=((e.take g).map λa=>(be e a.1).length).sum
theorem yF{D:Path×Nd}(a:e[g]?=C D):sA e (g+1)=sA e g+(be e D.1).length:=by simp_all [sA,ZX]
theorem PO(g:E):sA e g<=e.length*g:=by
 induction g with
 |zero=>simp[sA]
 |succ g b=>
  by_cases a:g<e.length
  .rw[yF (Yy a),E.mul_succ];have:(be e e[g].1).length<=e.length:=B_ _ _;omega
  grind [sA,List.take_of_length_le]
def RD(f:E->Prop)(r:E)(i:M)(R c d b:E)(e:Tree)(Q:Xp Xw)(k q:E)(h:Xu)(m:M):Prop:=
 ∃(g:E)(O:E->Xe)(a:E)(y:cN)(u:Xg Out)(H:fG),g<=k/\h=fq 139 [(7,pt R 0),(9,.slice Q k q),(13,Xd K a),(14,Xd K g)] O/\a=sA e g/\xu f r i R c d e Q y (b+g) u H m
theorem Ka{W:M}{X w x:E}{u:Xg Out}(b:WF e)(g0:e.length=k)(c:xv f r W)(d9:1<=w/\w<=8)(f5:x<=100)(a:xu f r W R X w e Q y x u H m)
 (b6:∀v L,N .normal (fq 139 [(9,.slice Q k q),(13,Xd K (sA e k:E))] v) L):CW (goalAt TP F F z al f) (Go.Conc.base 6) ⟨[],[]⟩ T (ja [1,1,1,1,1,1,1,1,1,1,1,1,1,0] lQ) N (fq 139 [(7,pt R 0),(9,.slice Q k q),(13,Xd K (0:E))] O) m:=by
 show CW _ _ _ _ (.seq (.region _ _ _) (.block _ (.loop _))) _ _ _;dsimp only[fq,sl,lk,Nat.reduceBEq,cond];have d2:=Xl b6;have o:=Xl (And.intro a (And.intro b c));have b5:=b.len;clear b6 a c b;refine aQ (cl (by decide) (ks:=[]) A (by rfl) λe5 a4 _ _=>?_)
 go_wp2
 refine vN a4 ?_;refine iu (um (w:=RD f r W R X w x e Q k q) (Q:=λh _=>k-qF 14 h) ?_ ?_)
 .exact bm [(7,pt R 0),(9,.slice Q k q),(13,Xd K (0:E)),(14,Xd K (0:E))] (P:=λh=>RD f r W R X w x e Q k q h e5) A rfl ⟨A,A,A,A,trivial⟩ λv=>⟨0,v,0,y,u,H,YA _,A,A,o.out.1.eq a4⟩
 clear a4;obtain⟨_,b,c⟩:=o.out;clear o;rintro _ h2⟨g,O,n,y,u,H,f8,rfl,d,a⟩;have c7:qF 14 (fq 139 [(7,pt R 0),(9,.slice Q k q),(13,Xd K n),(14,Xd K g)] O)=g:=A;rw[c7];clear c7;dsimp only[fq,sl,lk,Nat.reduceBEq,cond];have o:=Xl (And.intro a (And.intro b (And.intro c d)));clear a b c d;refine aQ (aQ (cl (by decide) (ks:=[]) A (by rfl) λd1 Y _ _=>?_));rcases H_ g k with c6|f7
 .have c1:decide ((g:Xj)<k)=J:=by simp;omega
  go_wp2
  refine vN Y ?_;clear c1;refine cH (g:=J) (by decide) A (eL (show CW _ _ _ _ (.seq (.block _ (.seq (.region _ _ _) _)) _) _ _ _ from ?_));obtain⟨a,b,c,d⟩:=o.out;replace a:=a.eq Y;clear Y o;obtain⟨⟨l,a3⟩,t⟩:∃D,e[g]?=C D:=⟨_,Yy (by omega)⟩;have i:=iA b.ord (Yj t);obtain⟨a0,rfl,U⟩:=a.SK g _ t;have b1:=Xl (And.intro a (And.intro b (And.intro c (And.intro d (And.intro t (And.intro i U))))));clear a b c d t i;refine aQ (iu (aQ (eT (R:=9) A (ct (by decide) (ks:=[]) A 0 6 (more:=[6,7,8]) (l:=[_,_,_,_,_,_]) A (by rfl) λe6 Z _ _=>?_))));have d5:e6.cell? ⟨a0,g*9,F⟩=C (.string (bs (Wt.join l))):=(gy Z).cell (U 0 _ A);clear U
  go_wp2
  refine TF Z ?_;clear d5;obtain⟨a,b,c,d,t,i,U⟩:=b1.out;replace a:=a.eq Z;clear Z b1;have c8:=b.names l a3 i;have jB:=Kp (y:=y) (by rw[a.tree];exact b) a.known (by rw[a.tree];exact i);refine nE (a4:=[]) A rfl rfl (i:={ak:=1,op:={kind:=10,path:=Wt.join l}}) (j:=79) (b:=15) (by decide) (by decide) ⟨_,A,A,A,A⟩ ⟨_,A,A,A,A⟩ ⟨_,A,A,A,A⟩ (show 79<139 by decide) (show 15<139 by decide) (by decide) (by rfl) (by decide) (by kernel_rfl) a.at' (c.keep a.ro) ⟨d9.1,by omega⟩ (by omega) ⟨MV c8.1 c8.2,(show 0<2^30 by decide),(show(-2^63:Xj)<=0 by decide),(show(0:Xj)<2^63 by decide)⟩ (Xi (Xi (Xi (Xi (Xi (Xi (Xi A))))))) λD d3 h3 f1 P=>?_;have b0:Wt.handle y 0 [{ak:=1,op:={kind:=10,path:=Wt.join l}}]=_:=(xE _ _).trans jB;have S:=a.one P b0 (by exact a.tree) (by rw[Ch];exact a.known);obtain⟨f4,d7,a1⟩:=S.SK g _ t;cases d7;have p:=P.blk;have a6:=P.last;have a8:=P.at'.gI.outs.2;rw[b0]at a6 a8;obtain⟨⟨h0,h1⟩,d0,rfl⟩:=Ck a6;obtain⟨a7,b7⟩:=a8 0 _ _ A d0;obtain⟨e8,f3,rfl⟩:=a7.len;obtain⟨f0,g5,rfl⟩:=b7.nil;have a9:=a7.cells;have c0:=fC (a:=l) b.ord;have b9:=b.kids l a3 i;have c9:=b.size l a3 i;have f9:(be e l).length<=60:=XZ (B_ _ _) b5;have d8:=PO (e:=e) g;have f6:e.length*g<=60*60:=aap b5 (by omega);rw[a.tree]at p a9;clear a6 a8 a7 b7 P jB b0;refine dC (show CW _ _ _ _ _ _ _ _ from ?_);dsimp only[Act.put];refine bm [(7,pt R 0),(9,Xm (C ⟨a0,0,F⟩) k q),(13,Xd K n),(14,Xd K g),(15,pt d3 0)] (P:=λh=>CW _ _ _ _ _ _ h _) A rfl ⟨A,A,A,A,A,trivial⟩ λg6=>?_;refine aQ (UC (o:=n) (s:=(be e l).length) (i:=a3.data) c6 (by omega) p A (by rw[<-b9];exact a1 8 _ A) (a1 1 _ A) (by rw[<-c9];exact a1 7 _ A) λg7 h4 a5=>(show CW _ _ _ _ _ _ _ _ from ?_));rw[<-a5]at p;refine aQ (Kb (n:=n) (g:=be e l) p (by omega) (λj y e0=>?_) c0 λg8 h5 b3=>(show CW _ _ _ _ _ _ _ _ from ?_))
  .obtain⟨d6,q1,e4⟩:=a9 j y e0;exact⟨d6,q1,(gy a5).cell e4⟩
  rw[<-b3]at p;refine UD (s:=(be e l).length) p (by omega) λg9 h6 d4=>?_;replace S:=S.eq (d4.trans (b3.trans a5));have b8:n+(be e l).length=sA e (g+1):=by grind [yF]
  have b2:=Xl (And.intro S b8);clear S a a1 U a9 c0 b9 c9 p d0 i t b c d b8 d8;show CW _ _ _ _ (.region _ _ _) _ _ _;dsimp only[fq,sl,lk,Nat.reduceBEq,cond];refine cl (by decide) (ks:=[]) A (by rfl) λe7 b4 _ _=>?_
  go_wp2
  refine Sim.kp b4 ⟨?_,?_⟩
  .exact bm [(7,pt R 0),(9,Xm (C ⟨a0,0,F⟩) k q),(13,Xd K (n+(be e l).length:E)),(14,Xd K ((g+1:E):Xj))] (P:=λh=>RD f r W R X w x e (C ⟨a0,0,F⟩) k q h e7) A rfl ⟨A,A,A,A,trivial⟩ λv=>⟨g+1,v,_,_,_,_,c6,A,b2.out.2,b2.out.1.eq b4⟩
  show k-((g:Xj)+1).toNat<k-g;omega
 obtain rfl:g=k:=by omega
 go_wp2
 refine vN Y ?_;refine cH (g:=Xf) (by decide) A (qo ?_);obtain⟨a,b,c,d⟩:=o.out;subst d;exact bm [(9,.slice Q g q),(13,Xd K (sA e g:E))] (P:=λh=>N .normal h d1) A rfl ⟨A,A,trivial⟩ λv=>d2.out v d1
end
end
variable{b:M}{c:E}{h:Xg Xr}{e:fG}
section
variable[Inhabited aM]
noncomputable section
variable{a:E}{k g:Xe}{l:E}{m:E->Xk Xe}{i:E->Xe}
theorem TY:al.code (ja [1,1,1,1,1,1,1,1,1,1,1,0] lQ)=J:=by rfl
theorem Aw{S:M}{O H L U:E}{a4:Xg Out}{a5:Xj}(e2:-2^63<=a5/\a5<2^63)(s:pX a R O H y L a4 e b)(D:xv f a S)(d9:1<=H/\H<=8)(d6:L<=100)(b8:Wt.known y 1=J)(a2:∀d,f d->b.heap[d]?=S.heap[d]?):
 pY (goalAt TP F F z al f) (Go.Conc.base 6) ⟨[],[]⟩ h (ja [1,1,1,1,1] lQ) (λn d c9=>n=.ret/\d.defers=[]/\d.tmps[6]?=C (.bool J)) (fq 139 [(2,Xd K a5),(7,pt R 0)] i) b:=by
 have f6:=D.lt;have f8:a<=b.heap.size:=by have:=s.KY;have:=(XN.1 s.ptr).1;omega
 have v:=s.gI.wf;obtain⟨c8,g0,e1⟩:=v.head;have b3:1<=y.tree.length:=by simp_all
 have d4:=v.len;show pY _ _ _ _ (.seq _ _) _ _ _;refine eM (VF s (λd q=>by grind) A λQ U g1 d0 x Z b7=>⟨A,?_⟩);have T:=s.vW (own:=λ_=>False) (mU x.1 λd q _=>x.2 d q) (λ_ _ r=>r) λ_ _ n=>by cases n
 have a1:∀o t,Q=C ⟨o,t,F⟩->o<d0.heap.size/\¬aI O y.tree e o:=λo t n=>by
  obtain⟨f4,a8,a0⟩:=Z 0 ([],c8) (by simp_all);rw[n]at a8;cases a8;refine⟨?_,λe0=>?_⟩
  .have:=a0 0 _ A
   grind [World.cell?]
  have:=b7 o 0 n;have:=s.gI.bj e0;omega
 have c6:=λd q=>(x.2 d (by grind)).trans (a2 d q);have e3:a<=d0.heap.size:=by have:=x.1;omega
 generalize a3:y.tree.length=c at b3 d4;show pY _ _ _ _ (.seq _ _) _ _ _;refine eM (VG e2 λe5 g2 h2 d7 W=>⟨A,?_⟩);show pY _ _ _ _ (.seq _ _) _ _ _;refine eM (VH (T.eq W) (λd q=>by grind) A d7 λf1 f3 g3 a6 a7 b4=>⟨A,?_⟩);have u:=(gy W).trans a7;have p:xu f a S R O H y.tree Q y L a4 e a6:=⟨T.vW (own:=λ_=>False) (mU u.1 λd q _=>u.2 d q) (λ_ _ r=>r) (λ_ _ n=>by cases n),A,b8,Z.kept u,λo t n=>⟨XY (a1 o t n).1 u.1,(a1 o t n).2⟩,λd q=>(u.2 d (by grind)).trans (c6 d q)⟩;have e4:a<=a6.heap.size:=by have:=u.1;omega
 rw[a3];generalize c0:min e5 c=f9
 have b6:∃o,Q=C ⟨o,0,F⟩/\a6.cell? ⟨o,0,F⟩=C (.string ⟨#[47]⟩):=by obtain⟨o,n,a0⟩:=p.SK 0 ([],c8) (by grind);exact⟨o,n,by have r:=a0 0 _ A;exact r⟩
 clear T a1 c6 e3 Z b7 x u a7 W;show pY _ _ _ _ (.seq _ _) _ _ _;refine eM (VI b3 b6 λg4 h3 a9=>⟨A,?_⟩);show pY _ _ _ _ (.seq _ _) _ _ _;refine eM (Uz λg5 h4 b0=>⟨A,?_⟩);rw[c0];show pY _ _ _ _ (.seq _ _) _ _ _;refine eM (UA λg6 e8 b1=>⟨A,?_⟩);have X:=b1.trans (b0.trans a9);replace p:=p.eq X;show pY _ _ _ _ (.seq _ _) _ _ _;refine Mw (Mv aC (by decide) A TY (kE 139 [(7,pt R 0),(9,.slice Q c U)] e8) (λc9 Y _ _ _=>wp_mono (JZ (by omega) a3 c0.symm (p.SK.kept (gy Y)) ((b4.kept (gy X)).kept (gy Y))) λn d h0 r=>Jm Y r) (λd c9 r f0 f7=>r.2.2 f0 (by grind)) λf2 e9 d5=>⟨rfl,?_⟩);obtain⟨⟨c7,b5,b9⟩,w⟩:=d5;replace p:xu f a S R O H y.tree Q y L a4 e e9:=⟨p.at'.vW (own:=λ_=>False) (mU w.1 λd q _=>w.2 d q) (λ_ _ r=>r) (λ_ _ n=>by cases n),A,b8,p.SK.kept w,λo t n=>⟨XY (p.free o t n).1 w.1,(p.free o t n).2⟩,λd q=>(w.2 d (by grind)).trans (p.ro d q)⟩;refine bm _ (P:=λd=>pY _ _ _ _ _ _ d _) c7 b5 b9 λg7=>?_;clear c7 b5 b9 w X b1 b0 a9 b6 b4 e4;have d1:=Xl (And.intro p (And.intro v (And.intro D (And.intro s a2))));have f5:=Nb v;clear p v D s a2 e1;show pY _ _ _ _ (.seq (.region _ _ _) _) _ _ _;dsimp only[fq,sl,lk,Nat.reduceBEq,cond];refine eM (cl (by decide) (ks:=[]) A (by rfl) λh5 b2 _ _=>?_)
 go_wp2
 refine Sim.kp b2 ?_;obtain⟨p,v,D,_,_⟩:=d1.out;refine bm [(7,pt R 0),(9,.slice Q c U),(13,Xd K (0:E))] (P:=λd=>pY _ _ _ _ _ _ d _) A rfl ⟨A,A,A,trivial⟩ λg8=>?_;show pY _ _ _ _ (.seq _ _) _ _ _;refine eM (Ka v a3 D d9 d6 (p.eq b2) λg9 h6=>⟨A,?_⟩);have d8:sA y.tree c+1=c:=by grind [sA]
 generalize sA y.tree c=e6 at d8⊢
 show pY _ _ _ _ (.seq (.region _ _ _) .ret) _ _ _;dsimp only[fq,sl,lk,Nat.reduceBEq,cond];refine eM (cl (by decide) (ks:=[]) A (by rfl) λh1 d3 _ _=>?_)
 go_wp2
 refine Sim.kp d3 ?_;exact Se (mJ ⟨A,A,YU (λd2=>C (Xe.bool d2)) (show((e6:Xj)==(c:Xj)-1)=J by simp;omega)⟩)
theorem Dl{v w:Xj}(b2:-2^63<=v/\v<2^63)(b3:-2^63<=w/\w<2^63)(u:oT k g Q c l m)(n:xv f a b)(p:(∃O,b.cell? ⟨1,0,F⟩=C (Xd K O))/\uQ b/\4<b.heap.size)(L:a<=b.heap.size):
 pY (goalAt TP F F z al f) (Go.Conc.base 6) ⟨[],[(1,k)]⟩ h lQ (λr d d5=>r=.ret/\d.defers=[]/\d.tmps[6]?=C (.bool J)) (fq 139 [(0,Xd K v),(1,g),(2,Xd K w)] i) b:=by
 have b0:=n.lt;have c0:=b0 4 (n.gl 4 (Xh (by decide)) (by decide));show pY _ _ _ _ (.seq (.region _ _ _) _) _ _ _;have T:=Xl (And.intro u (And.intro n p));clear u n p;dsimp only[fq,sl,lk,Nat.reduceBEq,cond];refine eM (cl (by decide) (ks:=[1]) A (by rfl) λx s _ _=>?_)
 go_wp2
 refine Sim.kp s ?_;obtain⟨u,n,p⟩:=T.out;refine bm [(0,Xd K v),(1,g),(2,Xd K w)] (P:=λd=>pY _ _ _ _ _ _ d _) A rfl ⟨A,A,A,trivial⟩ λd0=>?_;replace n:=n.eq s;replace p:(∃O,x.cell? ⟨1,0,F⟩=C (Xd K O))/\uQ x/\4<x.heap.size:=⟨by simp_all [M.cell?],p.2.1.stay (by rw[s]),by simp_all⟩;rw[<-s]at L;clear T s;show pY _ _ _ _ (.seq _ _) _ _ _;refine eM (VB b2 n p L λR a5 c8 a6 d1 d6 W D=>⟨A,?_⟩);obtain⟨c9,a2⟩:=D.at';show pY _ _ _ _ (.seq _ _) _ _ _;refine eM (VC λd2 a1 H=>⟨A,?_⟩);have b7:a<=a1.heap.size:=by rw[H];exact XZ L D.size
 have U:=a2.eq H;have Z:∀d,f d->a1.heap[d]?=x.heap[d]?:=λd o=>by rw[H];exact D.ro d o
 show pY _ _ _ _ (.seq _ _) _ _ _;refine eM (VD u (n.keep Z) b7 λb6 B a4 d3 d7 Y a8 c6 b1 X b4 a9=>⟨A,?_⟩);have a3:=U.vW (own:=λ_=>False) (mU b4 λd o _=>X d o) (λ_ _ t=>t) λ_ _ r=>by cases r
 have a0:=λd o=>(X d (by grind)).trans (Z d o)
 have a7:∀q S,B=C ⟨q,S,F⟩->a<=q/\¬ya R a5 Wt.sB.tree a6 q:=λq S r=>by have b9:=a9 q S r;exact⟨by omega,λt=>by have:=U.WU t;omega⟩
 refine Mu ?_;show pY _ _ _ _ (.seq _ _) _ _ _;refine eM (VE a3 (n.keep a0) W (by decide) b1 a8 Y a7 λb8 d4 d8 P=>⟨A,?_⟩);refine Aw (U:=0) b3 P.at' n W (by omega) (Ng (qD b6 Wt.sB 0 λb5 t=>?_) (by decide)) λd o=>(P.ro d o).trans (a0 d o);have:=(Y b5 t).kind;omega
end
end
variable{q:M}{b:E}{d:Xe}{P:Xy}{c:M}
def jb:Xe->Xe
 |.int .u8 _=>.tuple #[]
 |d=>d
def Rg:Obj->Obj
 |.cells a c d=>.cells (a.map jb) c (0,a.size)
 |b=>b
def xp(b:E):Prop:=0<b/\b<=7
instance:DecidablePred xp:=λb=>inferInstanceAs (Decidable (0<b/\b<=7))
def gL(q:M):M:={q with heap:=q.heap.mapIdx λb a=>if xp b then Rg a else a}
def yi:Ren:=λb a=>b=a/\xp b
def Ew(q:M):Prop:=∀b,xp b->∃a f c,q.heap[b]?=C (Xn a f c)/\0<a.size/\c.1=c.2/\∀g∈a.toList,∃d e,g=.int d e
section
theorem vQ:(gL q).heap.size=q.heap.size:=by simp[gL]
theorem jC(a:xp b):(gL q).heap[b]?=(q.heap[b]?).map Rg:=by simp only[gL,M_,XC a]
theorem SE(e:Ren){b:Xe}(d:∃a c,b=.int a c):an al e (jb b) b:=by obtain⟨a,c,rfl⟩:=d;cases a<;>first|exact .bS trivial|exact .int _ _
theorem MT{b:Xe}(f:∃a d,b=.int a d):(∀c,jb b≠.int .u8 c)/\aR (λ_=>False) (jb b):=by
 obtain⟨a,d,rfl⟩:=f;cases a
 all_goals refine⟨(λc e=>by cases e),?_⟩
 all_goals first|exact .int _ _|exact .bS
theorem JM(g:Ew q):aV al yi (gL q) q where
 inj:=λb m f n a h=>by rw[<-a.1,<-h.1]
 obj:=λb f a=>by
  obtain⟨rfl,a⟩:=a;obtain⟨o,l,p,c,_,i,k⟩:=g b a;refine⟨_,_,by rw[jC a,c];rfl,c,.cells l ⟨by simp,λr u v d e=>?_⟩ ?_⟩
  .rw[Yk,e]at d;cases d;exact SE _ (k _ (Yz.2 (Ys e)))
  exact Xh i
 os:=A
theorem Cq(g:Ew q):my al xp (gL q):=λb c=>by
 obtain⟨e,p,m,f,n,o,h⟩:=g b c;refine⟨_,by rw[jC c,f];rfl,?_⟩;refine⟨by simp,by simp_all,λ⟨i,k,a⟩=>?_⟩;rw[Yk]at a;cases d:e[i]? with
 |none=>simp_all
 |some l=>rw[d]at a;exact(MT (h l (Yz.2 (Ys d)))).1 k (YF a)
theorem Ur{a:Xe}(c:∀b,a≠.int .u8 b):jb a=a:=by simp[jb]
theorem Cr(f:xp b){a:Xk Xe}{c:Xq}{e:E×E}(d:q.heap[b]?=C (Xn a c e))(i:∀h∈a.toList,∀g,h≠.int .u8 g):(gL q).heap[b]?=C (Xn a c (0,a.size)):=by
 rw[jC f,d];show C (Obj.cells (a.map jb) c (0,a.size))=_;have:a.map jb=a:=by grind [Ur]
 rw[this]
theorem uZ:Base Sim.TP yi:=by
 have g:Sim.TP.globals.size=7:=by decide+kernel
 refine⟨λd e f=>⟨A,?_⟩,λb c a=>by rw[a.1]⟩
 grind [xp]
theorem Qe(e:Ew q):kF al xp (gL q):=Xi λb c g i a=>by obtain⟨f,k,h,d,_⟩:=e b c;rw[jC c,d]at a;cases a
theorem VL[Inhabited aM](D:Sim.Im=xp)(f:Ew q)(m:8<=q.heap.size):xv xp q.heap.size (gL q) where
 lt:=λb c=>by grind [xp]
 cl:=λb c=>by
  obtain⟨a,g,o,h,y,z,l⟩:=f b c;refine⟨a.map jb,g,(0,a.size),by rw[jC c,h];rfl,by simp_all,by simp,λs n i=>?_,λ⟨t,u,k⟩=>?_⟩
  .rw[Yk]at i;cases e:a[s]? with
   |none=>simp_all
   |some v=>rw[e]at i;cases i;exact pI (MT (l v (Yz.2 (Ys e)))).2 (λ_ f=>f.elim)
  rw[Yk]at k;cases e:a[t]? with
  |none=>simp_all
  |some n=>rw[e]at k;exact(MT (l n (Yz.2 (Ys e)))).1 u (YF k)
 wh:=λb c=>by obtain⟨a,g,o,h,_⟩:=f b c;rw[jC c,h];show C (Obj.cells (a.map jb) g (0,(a.map jb).size))=C (Obj.cells (a.map jb) g (0,a.size));simp
 gl:=λw d p=>by
  have m:TP.globals.size=7:=by rfl
  have r:=XZ p (ZZ m);rcases d with d|d
  .exact⟨d,r⟩
  rw[d];exact⟨by simp,by simp⟩
 rb:=λb c=>by simp_all
theorem Gt{a:Xr}{b:Xu}{k:Xg Item}{fn:Func}(h:a.kind=.normal)(hd:b.defers=[])(f:P.funcs[a.fn]?=C fn)
 (i:(results fn b.tmps).run P c=.ok d c)(e:(results fn b.tmps).events P c #[]=#[])(g:P.inits.idxOf? a.fn=F):
 stepG P J (Sim.rg {a.at b k with mode:=.returning} []) c=.ended (.done d) c #[]:=by
 simp[Sim.rg,stepG,unwind,doReturn,Frame.at,h,hd,f,i,e,g,seen,GStep.after]
theorem Ug(d:Ew q)(k:uQ q)(i:∃a,q.cell? ⟨1,0,F⟩=C (Xd K a))(p:8<=q.heap.size):(∃a,(gL q).cell? ⟨1,0,F⟩=C (Xd K a))/\uQ (gL q)/\4<(gL q).heap.size:=by
 obtain⟨a,n⟩:=i;have e:xp 1:=by decide
 have f:xp 4:=by decide
 refine⟨⟨a,?_⟩,k.stay ?_,by grind [vQ]⟩
 .obtain⟨b,g,h,c,_⟩:=d 1 e;have l:b[0]?=C (Xd K a):=by simp_all [M.cell?]
  have:(gL q).heap[1]?=C (Xn (b.map jb) g (0,b.size)):=by rw[jC e,c];rfl
  exact aa this 0 (by rw[Yk,l];rfl)
 obtain⟨b,g,h,c,_⟩:=d 4 f;rw[Cr f c λs o r m=>?_,c]
 .rfl
 simp_all [uQ,TabIs,M.var?,pQ]
end
end Go.Sv
namespace Go.Sv
open Go.MapKept Go.Proofs Go.RowKit Go.Lib Go.WideShapes Go.Sort Go.Sim Wt
open Go.ChangeShapes Go.ChangeAt
variable{h:M}{b:E}{c:Xe}{q:M}
section
variable{e:Type}{d:Xq×Xe->e}{base:E}{g:E->Xo}{f:Xo}{a:DataW e×Xg MemPlace}
theorem nl(e:DataW.trod d Tryz.prog h base g f b 3 [c]=C a):∃i,c=Xd K i/\(-2^63<=i/\i<2^63):=by
 cases b with
 |zero=>cases e
 |succ b=>have l:Tryz.prog.underlying 3=C (.int K):=A;unfold DataW.trod at e;rw[l]at e;cases c<;>simp at e;obtain⟨⟨rfl,k⟩,_⟩:=e;refine⟨_,A,?_⟩;simp[Lit.wf,IntKind.min,IntKind.max,IntKind.signed,IntKind.bits]at k;omega
theorem Oy(e:DataW.trod d Tryz.prog h base g f b 9 [c]=C a):∃i,c=.string i/\i.size<=maxLen:=by
 cases b with
 |zero=>cases e
 |succ b=>have k:Tryz.prog.underlying 9=C .string:=A;unfold DataW.trod at e;rw[k]at e;cases c<;>simp at e;exact⟨_,A,e.1⟩
theorem QG(e:DataW.trod d Tryz.prog h base g f b 4 [c]=C a):∃i,c=.bool i:=by
 cases b with
 |zero=>cases e
 |succ b=>have k:Tryz.prog.underlying 4=C .bool:=A;unfold DataW.trod at e;rw[k]at e;cases c<;>simp at e;exact⟨_,A⟩
theorem vV{n o p:Type}{m:o->Xp p}{l:n->o}:∀i:Xg n,(i.map l).mapM m=i.mapM λk=>m (l k)
 |[]=>rfl
 |k::i=>by simp only[YG,abh,vV i]
theorem KG{l:Xg Xe}(e:DataW.trod d Tryz.prog h base g f b 72 l=C a):∃m p k c i n Y,l=(Ou m p k c i n Y).toList/\fits m/\fits p/\fits k/\fits c/\fits i/\(n.size:Xj)<2^63:=by
 cases b with
 |zero=>cases e
 |succ b=>
  obtain⟨o,O,H⟩:∃o,Tryz.prog.underlying 72=C (.struct o)/\o.toList.map (λi=>(i.type,i.offset))=[(3,0),(3,1),(3,2),(3,3),(3,4),(9,5),(4,6)]:=⟨_,A,by decide+kernel⟩;have y:Tryz.prog.cellsOf 72=7:=by decide+kernel
  have w:Tryz.prog.cellsOf 3=1:=by decide+kernel
  have z:Tryz.prog.cellsOf 9=1:=by decide+kernel
  have x:Tryz.prog.cellsOf 4=1:=by decide+kernel
  unfold DataW.trod at e;rw[O]at e;simp only[y]at e;split at e
  .rename_i s;obtain⟨q,c1,c2,c3,c4,c5,r,rfl⟩:∃q c1 c2 c3 c4 c5 r,l=[q,c1,c2,c3,c4,c5,r]:=by
    iterate 7
     rcases l with _|⟨_,l⟩
     simp at s
    obtain rfl:l=[]:=YR.1 (by simpa using s);exact⟨_,_,_,_,_,_,_,A⟩
   obtain⟨a0,e,_⟩:=YE.1 e;have t:=vV (m:=λk=>DataW.trod d Tryz.prog h base g f b k.1 (List.take (Tryz.prog.cellsOf k.1) (List.drop k.2 [q,c1,c2,c3,c4,c5,r]))) (l:=λi:Field=>(i.type,i.offset)) o.toList;rw[H]at t;replace e:=t.trans e;simp only[abh,Xg.mapM_nil,w,z,x,Xg.drop_succ_cons,Xg.drop_zero,Xg.take_succ_cons,aa9,Xp.bind_eq_bind,Yb,Xp.pure_def]at e;obtain⟨a1,R,_,⟨a2,q1,_,⟨a3,S,_,⟨a4,T,_,⟨a5,U,_,⟨a6,W,_,⟨a7,X,_⟩,_⟩,_⟩,_⟩,_⟩,_⟩,_⟩:=e;obtain⟨m,rfl,v⟩:=nl R;obtain⟨p,rfl,L⟩:=nl q1;obtain⟨k,rfl,N⟩:=nl S;obtain⟨c,rfl,Q⟩:=nl T;obtain⟨i,rfl,D⟩:=nl U;obtain⟨n,rfl,hd⟩:=Oy W;obtain⟨u,rfl⟩:=QG X;exact⟨m,p,k,c,i,n,u,A,v,L,N,Q,D,by unfold maxLen at hd;omega⟩
  cases e
end
noncomputable def Rc(b:E):Xo:=match(((begin Tryz.prog (λ_ _=>0) default).world.heap[b]?).bind Obj.row?)with
 |some (zero,a)=>decide (0<zero.size)&&Tryz.prog.buildable a&&(match Tryz.prog.cellTypes Tryz.prog.depth a with
  |some c=>c.all λd=>match Tryz.prog.underlying d with
   |some (.int _)=>J
   |_=>Xf
  |none=>Xf)
 |none=>Xf
theorem Uk:(Rc 1&&Rc 2&&Rc 3&&Rc 4&&Rc 5&&Rc 6)=J:=by decide+kernel
noncomputable def WC:Xo:=match(begin Tryz.prog (λ_ _=>0) default).world.heap[7]? with
 |some (Obj.cells b _ c)=>decide (0<b.size)&&decide (c.1=c.2)&&b.all λa=>match a with
  |Xe.int _ _=>J
  |_=>Xf
 |_=>Xf
theorem VT:WC=J:=by decide+kernel
noncomputable def Ue:Xo:=match(((begin Tryz.prog (λ_ _=>0) default).world.heap[1]?).bind Obj.row?)with
 |some (zero,a)=>decide (zero.size=1)&&Tryz.prog.buildable a&&decide (Tryz.prog.cellTypes Tryz.prog.depth a=C [3])
 |none=>Xf
theorem Uf:Ue=J:=by decide+kernel
theorem Qf(w:q.ShapedOpen Tryz.prog):Ew q/\8<=q.heap.size/\∃n,q.cell? ⟨1,0,F⟩=C (Xd K n):=by
 have t:Tryz.prog.globals.size=7:=by decide+kernel
 have k:∀c,Rc c=J->c<7->∃h g i,q.heap[c]?=C (Xn h g i)/\0<h.size/\i.1=i.2/\∀a∈h.toList,∃S b,a=.int S b:=λc l p=>by
  unfold Rc at l;split at l
  .rename_i zero g z;simp only[Yg,YV]at l;obtain⟨⟨c0,a4⟩,Q⟩:=l;obtain⟨o,u,b2,y⟩:=w.1 c zero g (by rw[t];exact p) z;obtain⟨b9,r,b1,x⟩:=y a4;rw[r]at Q;refine⟨o,g,_,u,by omega,A,λa d=>?_⟩;obtain⟨b5,a6⟩:=Xg.getElem?_of_mem d;obtain⟨D,s,m⟩:=x b5 a (by rw[<-ZS];exact a6);have R:=Za.1 Q D (Yj s);split at R
   .rename_i S a7;unfold Cell.ok at m;rw[a7]at m;cases a<;>first|exact⟨_,_,rfl⟩|exact False.elim m
   cases R
  cases l
 have f:=VT;unfold WC at f;split at f
 .rename_i h g i H;simp only[Yg,YV]at f;have a9:=(XN.1 H).1;obtain⟨T,b7,v,L,N⟩:=w.2 7 (by rw[t];exact XS _) a9;have a8:M.looseAt (7-Tryz.prog.globals.size)=Xf:=by rw[t];rfl
  rw[a8]at N;have U:T=b7:=by simpa using N
  rw[H]at L;have W:T=.cells h g i:=U.trans (YF L).symm;rw[W]at v;have O:=Uk;simp only[Yg]at O;obtain⟨⟨⟨⟨⟨X,Y⟩,Z⟩,a0⟩,a1⟩,a2⟩:=O;refine⟨λe a3=>?_,by have:=(XN.1 v).1;omega,?_⟩
  .obtain⟨c6,c7⟩:=a3;rcases(by omega:e=1\/e=2\/e=3\/e=4\/e=5\/e=6\/e=7)with rfl|rfl|rfl|rfl|rfl|rfl|rfl
   .exact k 1 X (by decide)
   .exact k 2 Y (by decide)
   .exact k 3 Z (by decide)
   .exact k 4 a0 (by decide)
   .exact k 5 a1 (by decide)
   .exact k 6 a2 (by decide)
   refine⟨h,g,i,v,f.1.1,f.1.2,λa d=>?_⟩;have:=Xk.all_eq_true'.1 f.2 a (Yz.1 d);split at this
   .exact⟨_,_,A⟩
   cases this
  have c:=Uf;unfold Ue at c;split at c
  .rename_i zero b8 z;simp only[Yg,YV]at c;obtain⟨⟨c8,a5⟩,b3⟩:=c;obtain⟨o,u,b2,y⟩:=w.1 1 zero b8 (by rw[t];decide) z;obtain⟨b9,r,b1,x⟩:=y a5;rw[b3]at r;cases r;have p:0<o.size:=by omega
   obtain⟨D,s,m⟩:=x 0 o[0] (XP p);obtain rfl:D=3:=by have:([3]:Xg Xq)[0%([3]:Xg Xq).length]?=C 3:=A;rw[this]at s;exact(YF s).symm
   have b4:Tryz.prog.underlying 3=C (.int K):=A
   have b6:∀a,Cell.ok Tryz.prog q .any 0 3 a->∃n,a=Xd K n:=λa d=>by unfold Cell.ok at d;rw[b4]at d;cases a<;>first|(obtain⟨rfl,_⟩:=d;exact⟨_,A⟩)|exact False.elim d
   obtain⟨n,b0⟩:=b6 _ m;exact⟨n,aa u 0 (by rw[XP p,b0])⟩
  cases c
 cases f
theorem Bj(a c b:E):(⟨a,c,F⟩:Xw).add b=⟨a,c+b,F⟩:=by unfold Addr.add;split<;>simp_all
theorem Cv{d e:Type}{f:d->Xp e}:∀{c:Xg d}{b:Xg e},c.mapM f=C b->b.length=c.length
 |[],b,a=>by simp at a;subst a;rfl
 |h::c,b,a=>by simp only[abh,Xp.bind_eq_bind,Yb,Xp.pure_def,Yh]at a;obtain⟨i,k,l,g,rfl⟩:=a;simp[Cv g]
theorem EI{base:E}{e:Xw}{d:Xg Xe}(c:q.cells? base e b=C d):∀(j:E) a,d[j]?=C a->q.cell? (e.add j)=C a:=by
 unfold M.cells? at c;split at c
 .intro j a g;have k:d.length=b:=by
   have:=Cv c;simpa using this
  have i:j<b:=by rw[<-k];exact(YH.1 g).1
  obtain⟨l,f,h⟩:=Go.Lib.mapM_at c j j (by simp[i]);rw[g]at f;cases f;exact h
 cases c
theorem JL{e:Type}{d:Xq×Xe->e}{T:DataW e}{b2:Xg MemPlace}{S:E}(r:Xe.okWide Tryz.prog q .any S 22 c)(g:DataW.Trod d Tryz.prog q 0 (λ_=>J) J 22 c T b2):
 ∃b4 O b t x,@oT ⟨⟨q,xp⟩⟩ c b4 O b t x:=by
 obtain⟨c6,L⟩:=g;obtain⟨U,u⟩:∃U:Unit,Tryz.prog.underlying 22=C (.slice 72):=⟨(),A⟩;have a9:c.cells.toList=[c]:=by unfold Xe.okWide at r;rw[u]at r;unfold Cell.okWide at r;rw[u]at r;unfold Cell.ok at r;rw[u]at r;cases c<;>first|rfl|exact False.elim r
 rw[a9]at L;rcases Go.Deep.open_slice u L with⟨y,_⟩|⟨o,len,t,b1,b,b6,b7,y,c7,c8,a5,a7,_,H⟩
 .cases y;exact⟨Xm F 0 0,F,0,0,λ_=>#[],@oT.mk ⟨⟨q,xp⟩⟩ _ _ _ _ _ _ A (λb5=>.aO _ _) (by decide) λf p=>absurd p (aaV _)⟩
 cases y;have a4:Tryz.prog.cellsOf 72=7:=by decide+kernel
 rw[a4]at H;have c9:b1=t:=by rw[a7];rfl
 have cell:∀f,f<len->∃s,(∀j a,s[j]?=C a->q.cell? ((o.add (f*7)).add j)=C a)/\∃h l m n k i swa,s=(Ou h l m n k i swa).toList/\fits h/\fits l/\fits m/\fits n/\fits k/\(i.size:Xj)<2^63:=λf p=>by obtain⟨s,q1,b3⟩:=H f (by omega);exact⟨s,EI q1,KG b3⟩
 have spot:0<len->o.spot=F/\o.block<q.heap.size:=λa2=>by
  obtain⟨s,q1,h,l,m,n,k,i,swa,rfl,_⟩:=cell 0 a2;have g:=q1 0 _ A;rw[E.zero_mul]at g;have w:((o.add 0).add 0)=o:=by simp[Addr.add]
  rw[w]at g;unfold M.cell? at g;split at g
  .rename_i b9 d0 c0 a3;refine⟨?_,(XN.1 a3).1⟩;split at g
   .cases g
   rename_i a8;simpa using a8
  cases g
 have row:∀f,∃w:Xk Xe,f<len->∃v N h l m n k i swa,C o=C (⟨v,N,F⟩:Xw)/\v<q.heap.size/\w=Ou h l m n k i swa/\fits h/\fits l/\fits m/\fits n/\fits k/\(i.size:Xj)<2^63/\∀j a,(Ou h l m n k i swa)[j]?=C a->q.cell? ⟨v,N+f*7+j,F⟩=C a:=λf=>by
  by_cases p:f<len
  .obtain⟨s,q1,h,l,m,n,k,i,swa,rfl,W,X,Y,Z,a0,a1⟩:=cell f p;obtain⟨z,D⟩:=spot (by omega);obtain⟨Q,R,b8⟩:=o;simp only at z D;subst z;refine⟨Ou h l m n k i swa,λ_=>⟨Q,R,h,l,m,n,k,i,swa,A,D,A,W,X,Y,Z,a0,a1,λj a b0=>?_⟩⟩;have:=q1 j a (by rw[ZS];exact b0);rw[Bj,Bj]at this;exact this
  exact⟨#[],λg=>absurd g p⟩
 obtain⟨x,a6⟩:=Classical.axiomOfChoice row;exact⟨.tuple #[],C o,len,t,x,@oT.mk ⟨⟨q,xp⟩⟩ _ _ _ _ _ _ A (λb5=>.bS trivial) (by unfold maxLen at a5;omega) λf p=>a6 f p⟩
end Go.Sv
namespace Go.Sv
open Go.Proofs Go.RowKit Go.Lib Go.MapKept Go.WideShapes
open Go.Sim (aT aR bO Closed al an aw gP aV Ren my kS Base)
theorem WY(a:Xj)(b:Xj)(c:Xe):#[Xd K a,c,Xd K b]++Array.replicate (Tryz.f6.ntmps-(#[Xd K a,c,Xd K b]).size) I=(fq 139 [(0,Xd K a),(1,c),(2,Xd K b)] λ_=>I).tmps:=by kernel_rfl
section
variable{q:M}
theorem Dm(e:Ew q)(R:uQ q)(U:∃k,q.cell? ⟨1,0,F⟩=C (Xd K k))(u:8<=q.heap.size){a:Xj}(N:-2^63<=a/\a<2^63){b:Xj}(O:-2^63<=b/\b<2^63){c m:Xe}{x:Xp Xw}{Z D:E}{L:E->Xk Xe}(o:@oT ⟨⟨q,xp⟩⟩ c m x Z D L):
 ∃p last l n w,runNT TP (p+1) (Go.Conc.solo (Go.Conc.G (Frame.enter TP 6 #[Xd K a,c,Xd K b] .normal) []) q) #[]=(.ended l n,w)/\runN TP p (Go.Conc.solo (Go.Conc.G (Frame.enter TP 6 #[Xd K a,c,Xd K b] .normal) []) q)=.next last/\step TP last=.ended l n/\
  Go.Conc.Good TP (λa2 f=>a2=.bool J/\(∀d,d<q.heap.size->f.heap[d]?=q.heap[d]?)/\q.heap.size<=f.heap.size/\f.os=q.os/\f.output=q.output) last l n w:=by
 letI:Inhabited Go.Sim.aM:=⟨⟨q,xp⟩⟩
 have Y:Go.Sim.Im=xp:=A;have y:Go.Sim.Inv TP al xp yi (gL q):=⟨uZ,Cq e,Qe e⟩;have X:(∃k,(gL q).cell? ⟨1,0,F⟩=C (Xd K k))/\uQ (gL q)/\4<(gL q).heap.size:=Ug e R U u;refine Go.Sim.Gi (m:=yi) (d:=gL q) (h:=al) (f:=xp) ?_ (Go.Sim.LV uZ (JM e) (Cq e) (λz d h=>h.2) λz h=>h)
 have H:Frame.enter TP 6 #[Xd K a,c,Xd K b] .normal=(Go.Conc.base 6).at ⟨#[Xd K a,c,Xd K b]++Array.replicate (Tryz.f6.ntmps-(#[Xd K a,c,Xd K b]).size) I,[]⟩ [.code (Tryz.f6.body.getD .skip)]:=by rfl
 rw[H];refine Dl (i:=λ_=>I) N O o (VL Y e u) X (by simp[vQ]) yi [] _ A y ?_ λa8 c6 a6 r b8 a4 b0 t a0=>?_
 .have S:aw al yi #[Xd K a,m,Xd K b] #[Xd K a,c,Xd K b]:=by
   refine⟨A,λv b9 a3 g i=>?_⟩;rcases v with _|_|_|v
   .cases g;cases i;exact .int _ _
   .cases g;cases i;exact o.rel _
   .cases g;cases i;exact .int _ _
   simp at g
  refine⟨?_,⟨[],A,.nil⟩,λb3 b2=>?_⟩
  .rw[<-WY a b m];exact S.append (Go.Sim.aw.replicate _ Go.Sim.aY)
  simp_all
 obtain⟨rfl,hd,Q⟩:=a0;intro b5;have W:r.defers=[]:=by obtain⟨a7,a9,s⟩:=t.defers;rw[hd]at s;cases s;simp_all
 have b1:r.tmps[6]?=C (.bool J):=by obtain⟨a3,q1,a1⟩:=t.tmps.get Q;cases a1;exact q1
 refine Go.Sim.Pz A λf hrel jP=>⟨.bool J,Gt A W Tryz.func6 ?_ ?_ (by decide+kernel),A,?_⟩
 .simp_all [results]
 .simp[results]
 exact⟨λd T=>jP.heap d T,jP.size,jP.os,jP.out⟩
end
end Go.Sv
namespace Go.Proofs.YtfgpkeppjomkmaaGreatDoor
open Go.ChangeShapes Go.WideShapes Go.ChangeAt Go.RowKit Go.Conc
theorem Tryz.own:ownKnob Tryz.prog.godebug=F:=by kernel_rfl
theorem Tryz.laidOut:laidOutB Tryz.prog=J:=by kernel_rfl
theorem wx(f:Os)(d6:f.Started)(L:Type)(d:Xq×Xe->L):
 ReturnsInLeavingWide jh.assume Tryz.checked f 6 .any (jh.pre d Tryz.prog Tryz.f6 (OpenSpec.ofChange Ex)) (Ex.post d Tryz.prog Tryz.f6 jh.apart jh.fresh jh.handsOn jh.again):=by
 refine returnsInLeavingWide_of_good (C:=Tryz.checked) Tryz.own d6 ?_ ?_
 .exact ChangeSpec.witness_shaped (enc:=d) (C:=Tryz.checked) (os:=f) (fn:=Tryz.f6) (s:=Ex) (conds:=[]) (apart:=Xf) (X:=λa _=>laidMetH Tryz.prog jh.laid a) Xf (M.laidAll Tryz.prog f jh.laid) #[Xd K 0,Xm F 0 0,Xd K 0] 8 (M.laidAll_os _ _ _)
   (M.shaped_of_ZipB (by kernel_rfl) (by kernel_rfl)) (by kernel_rfl) (by kernel_rfl) (by kernel_rfl)
   (by exact laidMet_laidAll _ (by kernel_rfl) (by kernel_rfl))
 intro a tape b g1 b5 g3 a9 b3 g0;obtain⟨_,_,_,f4,a4,_,_,_,_,b8⟩:=a9;obtain rfl:=YF (a4.symm.trans Tryz.func6);obtain⟨⟨⟨f2,f6,e5,c0,f9⟩,l⟩,g4⟩:=b3;have h:=DataW.Whole.of_heap (w':=a.forCall tape b) (by rfl) c0;have u:laidMetH Tryz.prog jh.laid (a.forCall tape b):=laidMetH.of_heap (by rfl) l;have x:(a.forCall tape b).ShapedOpen Tryz.prog:=b5;have c:∀(j:E) z p,Tryz.f6.params[j]?=C z->b.args[j]?=C p->Xe.okWide Tryz.prog (a.forCall tape b) .any a.heap.size z p:=b8;generalize f8:a.forCall tape b=q at h u x c⊢
 generalize b.args=e4 at h c⊢
 have v:=h;obtain⟨g5,g8,W,Y,rfl,_,_⟩:=h;have t:=W;rw[Tryz.params6]at t c;obtain⟨d7,D,d8,e9,f0,f1,g6,y,g7,rfl,rfl,rfl,d0,q1,d1⟩:=trodAll_three t;obtain⟨rfl,rfl⟩:=trodVars_none Y;obtain⟨nums,c6,a8⟩:=Go.Sv.Qf x;have X:Go.Sv.uQ q:=by
  obtain⟨f5,o,s,Q,c9,a5,g2,b9,hd⟩:=Go.Lib.laidMet.reads u (n:= "internal/strconv.uint64pow10") (d:=Rows.laid_internal_strconv_uint64pow10) (.tail _ (.tail _ (.head _)));obtain rfl:=(YF (Go.Sv.pQ.symm.trans a5)).symm;obtain rfl:o=386:=by
   have f7:(Tryz.prog.globals[4]?).map (·.type)=C 386:=by kernel_rfl
   simp_all
  obtain⟨g,e,b7,a3,Z,a1⟩:∃g e,Tryz.prog.underlying 386=C (.array e g)/\Tryz.prog.underlying g=C (.int .u64)/\Tryz.prog.cellsOf g=1/\Tryz.prog.cellsOf 386=e:=⟨_,_,A,A,by kernel_rfl,A⟩;have a2:DataW.trod (λ_=>()) Tryz.prog q 0 (λ_=>J) Xf Q 386 s.toList=C (Go.Lib.tabData .u64 Go.Lib.pow10Tab,c9):=hd;have a0:=Go.Lib.cells_of_tab b7 a3 Z a1 a2;show Go.Lib.TabIs _ _ _ _ _;unfold Go.Lib.TabIs;rw[show q.var? Go.Sim.TP "internal/strconv.uint64pow10"=C s from b9,<-a0]
 obtain⟨h0,e1,e,e6,f3,N⟩:=Go.Sv.JL (c 1 _ D A rfl) q1;have T:=q1;obtain⟨m,rfl,rfl,rfl,d9⟩:=open_int Tryz.underlying3 (c 0 _ d7 A rfl) d0;have S:-2^63<=m/\m<2^63:=by grind [Lit.wf,IntKind.min,IntKind.max,IntKind.signed,IntKind.bits]
 obtain⟨n,rfl,rfl,rfl,e0⟩:=open_int Tryz.underlying3 (c 2 _ d8 A rfl) d1;have U:-2^63<=n/\n<2^63:=by grind [Lit.wf,IntKind.min,IntKind.max,IntKind.signed,IntKind.bits]
 obtain⟨O,last,c8,i,o,d2,d3,d4,d5⟩:=Go.Sv.Dm nums X a8 c6 S U N;refine⟨O,last,c8,i,o,d2,d3,d4,d5.mono λp k=>?_⟩;obtain⟨rfl,b0,b6,b1,b2⟩:=k;have w:Below q.heap.size q {i with tape:=q.tape}:=⟨b1,A,b2,b6,λc7 a6=>b0 c7 a6⟩;have a7:∀r∈y,r.block<q.heap.size:=λr l=>v.lt r (by simp[l])
 have k:Ex.post d Tryz.prog Tryz.f6 jh.apart jh.fresh jh.handsOn jh.again q #[Xd K m,D,Xd K n] (.bool J) {i with tape:=q.tape}:=
  ⟨_,_,_,[],[]++(y++[]),[],v,trodAll_mk1 (shut_bool Tryz.underlying4 _),trodAll_mk3 (shut_int Tryz.underlying3 d9) (Below.trod Tryz.laidOut (by kernel_rfl) (of_decide_eq_true (by kernel_rfl)) T w a7) (shut_int Tryz.underlying3 e0),A,w.frame _,λR=>by cases R⟩
 have b4:=ChangeSpec.post_blind k;exact b4
end Go.Proofs.YtfgpkeppjomkmaaGreatDoor
namespace Go.Proofs.YtfgpkeppjomkmaaGreatDoor
open Go.ChangeShapes Go.WideShapes Go.ChangeAt Go.RowKit Go.Conc
theorem xN:Rows.OrderedSaid:=
 OpenClaim.holds_of_wide_leaving 6 Tryz.f6 A rfl rfl rfl rfl rfl rfl ⟨A,A,A,A,A⟩ A rfl rfl rfl rfl oF Tryz.func6 wv Au Ax
  (λc d a b _=>wx c d a b)
theorem wy:jh.wfByText (OpenSpec.ofChange Ex)=J:=by kernel_rfl
theorem Av:jQ.mainIs=C (J,"4ca961c1605857c738903d8913d06c658404b6c38c60f97ea9f6d2ec8fdb8f47".toList):=by kernel_rfl
theorem xO:J=jQ.looks []:=by kernel_rfl
theorem As:J=jh.goesBy jQ:=by kernel_rfl
theorem xP:([3,22,3].all λa=>!Tryz.prog.wantsStandIn a)=J:=by kernel_rfl
theorem orderedCard:Rows.OrderedCardSaid:=by
 have h:∀b fn,jQ.funcNamed jh.func=C b->jQ.funcs[b]?=C fn->J=jQ.looks []/\∀(j:E) a,fn.params[j]?=C a->jQ.wantsStandIn a=Xf:=λb fn f g=>by
  obtain rfl:=(YF (oF.symm.trans f)).symm;obtain rfl:=(YF (Tryz.func6.symm.trans g)).symm
  exact⟨xO,λj a i=>by
   rw[Tryz.params6]at i
   exact(show Tryz.prog.wantsStandIn a=Xf by grind [xP])⟩
 have d:Claim7.isSixth {stood:={row:=jh,standIns:=[],harness:=(J,"4ca961c1605857c738903d8913d06c658404b6c38c60f97ea9f6d2ec8fdb8f47"),looks:=J},kinds:=[]}=Xf:=A;exact⟨Claim7.tied_new_at .later [.data,.data,.data,.data,.pinned] J (Claim7.new_of_sixth xN (J,"4ca961c1605857c738903d8913d06c658404b6c38c60f97ea9f6d2ec8fdb8f47") J rfl ⟨A,A⟩ Av d h) wy,(λk e=>by cases e),ordered_row_tie,(λc=>by cases c),As⟩
end Go.Proofs.YtfgpkeppjomkmaaGreatDoor
