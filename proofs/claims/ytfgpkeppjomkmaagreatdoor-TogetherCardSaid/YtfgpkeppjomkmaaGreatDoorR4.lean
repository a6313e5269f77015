/- Proved here: parts of the proof of the claimed theorem, no conditions; the last text states it -/
import Derived.Test.YtfgpkeppjomkmaaGreatDoorR3
set_option linter.all false
set_option maxRecDepth 100000
set_option maxHeartbeats 16000000
open _root_ renaming rfl->A,Nat->E,List->Xq,Int->Xt,Array->Xu,Bool->Xy,Option->Xz,if_neg->XH,ByteArray->XM,if_pos->XN
open Option renaming some->C,none->F
open Go renaming undef->I,World->K,Value->Xn,TypeId->XA,Frame->XC,Goroutine->XD,Act->XF,Addr->XG,Program->XI,Sem->XJ,Trace->XO,Event->XQ,Code->XR,MapEntry->XS,FuncId->XU,Operand->XV
open Bool renaming true->J,false->Xp
open Go.Lib renaming hid->Xv
open Go.MemOp renaming ofEvents->XP
open Go.Op renaming operands->XX
open Go.MemAct renaming ofEvent->XY
open Go.IntKind renaming i64->M
open Go.Value renaming int->Xo,slice->Xw,pointer->XK
open Or renaming inl->Xr,inr->Xs
open Go.Obj renaming cells->Xx
open Go.Ending renaming returned->XB
open Go.Item renaming inRegion->XE
namespace Go.Sim
open Go.Conc Go.Proofs Go.RowKit
open Go.ConcN (PermW PermW.app PermW.of fork_knows WgLive RelBy sumTo)
open Go.ConcR (KK wgBlock WgAt stA smA rd wr mk DC0)
variable{P:XI}{f:Set}{h:E->Prop}{m:Ren}{w:K}{D:Xu Oper}{q:K}{o:Oper}{a:XF}{l:XF}{v:Xn}{j:E}{b:XC}{k:Xq Item}{cs:Xq XC}{c:E}{rest:Xq E}
structure Goal(P:XI)(f:Set)(main:Xy)(h:E->Prop) where
 G:Ren->K->XD->Prop
 OV:∀{m:Ren}{w:K}{g:XD},g.status=.running->xu P f main h (λm w g=>g.status=.running/\G m w g) m w g->G m w g
 tape:∀{m:Ren}{w:K}{t:E->Question->E}{g:XD},G m {w with tape:=t} g->G m w g
structure Inv(P:XI)(f:Set)(h:E->Prop)(m:Ren)(w:K):Prop where
 base:Base P m
 cQ:mF f h w
 iW:kL f h w
section
variable{main:Xy}
theorem Inv.keep{g:Ren}{e:K}(d:Inv P f h m w)(i:Base P g)(c:∀a,h a->e.heap[a]?=w.heap[a]?):Inv P f h g e:=⟨i,d.cQ.keep c,d.iW.keep c⟩
theorem gu{c g:Xu Xn}(d:aw f m c g):yielded D c=yielded D g:=by
 funext j
 unfold yielded;cases q:(D[j]?).bind (·.dst)with
 |none=>rfl
 |some h=>
  dsimp only[Option.bind_some];cases e:c[h]? with
  |none=>rw[d.none e]
  |some r=>
   obtain⟨p,i,n⟩:=d.get e;rw[i];cases n with
   |bS l=>cases p<;>first|exact l.elim|rfl
   |_=>rfl
theorem lK(n:Base P m){d e:Xu Xn}(l:aw f m d e)(g h:Xq Deferred):lG P f m (Act.eval ⟨d,g⟩) (Act.eval ⟨e,h⟩):=by
 intro q c;cases q with
 |tmp p=>exact l.getD p aX
 |const v=>exact iB 8 v c
 |global r=>simp only[dy,Ys,Zn]at c;exact .ptr ⟨n.at c.1 (aa2 c.2),A,A⟩
 |func i=>exact .func (.func i c) A rfl (by simp) (by simp)
theorem yw(G:Good P f){e:XU}{h r:Xu Xn}{c:Ending->K->Prop}(S:Tp (λw=>Calls P e h w c) w)(W:∀w,¬c .outgrown w)(X:∀i w,c i w->∃v,i=XB v)
 (T:f.fn e=J)(R:Base P m)(O:aU f m w q)(Q:aw f m h r):
 ∃d v n g p,Base P d/\aU f d g p/\m.le d/\an f d v n/\Tp (c (XB v)) g/\kY f w g:=by
 have U:=oJ S W X
 have Y:cN P f Xp m [Frame.enter P e h .normal] [Frame.enter P e r .normal]:=⟨.cons (bF.enter G T Q .normal (Xr A)) .nil,λa7 s=>by simp only[M_,Yr]at s;subst s;exact⟨A,A⟩⟩
 obtain⟨d,a3,a4,g,p,x,y,l,z,D,H,L⟩:=Dd G U R O Y
 obtain⟨fn,v,n,a8,a1,u,new,a6,_,_,Z,t,rfl,a5,N,_⟩:=nX (u:=λv w=>c (XB v) w) G l y z (H.mono λw a0=>by
  obtain⟨i,_,x,_,l⟩:=a0
  grind)
 exact⟨_,v,n,a1,u,l,t.rel,D,Z,N,L.trans t.later⟩
theorem AE(G:Good P f)(Y:Base P m){W X:XV->Xn}(a5:lG P f m W X)(a1:jj P f.fn f.bi f.cj o.op=J){y:Result Next->Prop}(a4:∀H w,¬y (.halt H w))
 (H:Tp (λw=>y ((execOp W o).run P w)) w)(S:aU f m w q):
 ∃z i u g t new x,(execOp X o).runT P q #[]=(.ok u t,x.toArray)/\BQ f z i u/\bB f m z w g q t new x/\Tp (λw=>y (.ok i w)) g:=by
 obtain⟨b,O,a8,L⟩:=H.low;obtain⟨R,N,⟨hd,b0⟩,a0⟩:=sound G.uG (vE G Y S.SJ a5 o a1) w q #[] #[] S
 have U:∀(n:Result Next)(p:Xu XQ)(g:K),N=(n,p)->(∃i,n=.ok i g)\/(∃L,n=.halt L g)->∀s:E->Question->E,(∀c r,b<=c->c<g.drawn->s c r=if c<w.drawn then O c r else R c r)->
  y (iX s (n,p)).1:=by
  intro n p g a3 a2 s T;have a9:dr N=g.drawn:=by rw[a3];rcases a2 with⟨i,rfl⟩|⟨i,rfl⟩<;>rfl
  grind [Sem.runT_fst]
 obtain⟨n,p⟩:=N;cases n with
 |halt L g=>exact(a4 _ _ (U _ p g A (Xs ⟨_,A⟩) (λc r=>if c<w.drawn then O c r else R c r) λ_ _ _ _=>rfl)).elim
 |ok i g=>obtain⟨z,u,t,new,x,Q,a7,Z,a6⟩:=a0;rw[L_]at Q;exact⟨z,i,u,g,t,new,x,Q,Z,a6,b,_,λs T=>U _ p g A (Xr ⟨_,A⟩) s T⟩
def eB(c:XF->K->Prop):Exit->XF->K->Prop
 |.normal,a,w=>c a w
 |_,_,_=>False
theorem fU{c:XF->K->Prop}:¬LetsOut (eB c):=λ⟨_,_,d⟩=>d
structure Rt where
 d0:Xq Deferred
 kn:Xq (E×Xn)
def Rt.free(e:Rt)(c:Xz Tmp):Xy:=e.kn.all λd=>c !=C d.1
structure ar(f:Set)(m:Ren)(g:Rt)(a l:XF):Prop where
 tmps:aw f m a.tmps l.tmps
 defers:∃i,l.defers=i++g.d0/\aY (rZ f m) a.defers i
 kn:∀n∈g.kn,l.tmps[n.1]?=C n.2
theorem ar.mono{β₁:Ren}{i:Rt}(g:ar f m i a l)(n:m.le β₁):ar f β₁ i a l:=
 ⟨g.tmps.mono n,by obtain⟨p,r,hd⟩:=g.defers;exact⟨p,r,hd.mono λ_ _ s=>s.mono n⟩,g.kn⟩
theorem ar.put{p:Rt}(n:ar f m p a l)(i:Xz Tmp)(z:p.free i=J){t:Xn}(y:an f m v t):ar f m p (a.put i v) (l.put i t):=by
 cases i with
 |none=>exact n
 |some r=>
  refine⟨n.tmps.set r y,n.defers,λs x=>?_⟩;have u:r≠s.1:=by grind [Rt.free]
  simp only[Act.put];rw[Yj u];exact n.kn s x
theorem ar.less{d0 d1:Rt}(i:ar f m d1 a l)(hd:d1.d0=d0.d0)(n:∀g∈d0.kn,g∈d1.kn):ar f m d0 a l:=
 ⟨i.tmps,by rw[<-hd];exact i.defers,λg p=>i.kn g (n g p)⟩
theorem ar.more{d0:Rt}(g:ar f m d0 a l)(n:l.tmps[j]?=C v):ar f m ⟨d0.d0,(j,v)::d0.kn⟩ a l:=
 ⟨g.tmps,g.defers,λp i=>by
   rcases Yg.1 i with rfl|i
   .exact n
   exact g.kn p i⟩
section frame
variable{e:Xq Deferred}{d:Xu Xn}
theorem jB(g:D[c]?=C o)(h:Region.wanted o (yielded D d)=J):
 stepG P main (rg (b.at ⟨d,e⟩ (XE D (c::rest)::k)) cs) q=stepG.apply P J (b.at ⟨d,e⟩ (XE D (c::rest)::k)) cs F (execOp (Act.eval ⟨d,e⟩) o) q:=by
 have f:=XC.eval_at' b ⟨d,e⟩ (XE D (c::rest)::k);rw[bm A];simp_all [stepG.exec,stepG.oper,XC.oper?,Frame.at]
theorem stepG_value(G:Good P f)(r:f.fr b.fn=J)(s:b.kind≠.early){z:Ren}{new n:Xq XQ}(t:aY (mq f z) new n)(x:D[c]?=C o)(y:Region.wanted o (yielded D d)=J){p:K}
 (g:(execOp (Act.eval ⟨d,e⟩) o).runT P q #[]=(.ok (.value v) p,n.toArray)\/((execOp (Act.eval ⟨d,e⟩) o).runT P q #[]=(.ok .skip p,n.toArray)/\v=I)):
 stepG P main (rg (b.at ⟨d,e⟩ (XE D (c::rest)::k)) cs) q=.go (rg ((b.at ⟨d,e⟩ (XE D (c::rest)::k)).finish v) cs) p (kept n).toArray:=by
 obtain⟨H,u,i⟩:=fQ (P:=P) (b.at ⟨d,e⟩ (XE D (c::rest)::k)) cs (execOp (Act.eval ⟨d,e⟩) o) q;rw[jB x y,u];rcases g with g|⟨g,rfl⟩
 .rw[g]at i⊢
  rw[i s trivial];simp only[eR,stepG.apply,XJ.runT,Ym,Zg,aW,aM,rg,GStep.after];rw[seen_eq G (show f.fr (b.at ⟨d,e⟩ (XE D (c::rest)::k)).fn=J from r) t];simp
 rw[g]at i⊢
 rw[i s trivial];simp only[eR,stepG.apply,XJ.runT,Ym,Zg,aW,aM,rg,GStep.after];rw[seen_eq G (show f.fr (b.at ⟨d,e⟩ (XE D (c::rest)::k)).fn=J from r) t];simp
theorem stepG_enter(G:Good P f)(y:f.fr b.fn=J)(r:b.kind≠.early){u:Ren}{new g:Xq XQ}(z:aY (mq f u) new g)(s:D[c]?=C o)(t:Region.wanted o (yielded D d)=J){l:XU}{i:Xu Xn}{h:K}
 (p:(execOp (Act.eval ⟨d,e⟩) o).runT P q #[]=(.ok (.enter l i) h,g.toArray)):
 stepG P main (rg (b.at ⟨d,e⟩ (XE D (c::rest)::k)) cs) q=.go (rg (Frame.enter P l i .normal) (b.at ⟨d,e⟩ (XE D (c::rest)::k)::cs)) h (kept g).toArray:=by
 obtain⟨x,n,m⟩:=fQ (P:=P) (b.at ⟨d,e⟩ (XE D (c::rest)::k)) cs (execOp (Act.eval ⟨d,e⟩) o) q;rw[jB s t,n];rw[p]at m⊢
 rw[m r trivial];simp only[eR,stepG.apply,XJ.runT,Ym,Zg,aW,aM,rg,GStep.after,Frame.at]
 grind [seen_eq]
theorem stepG_defer(G:Good P f)(H:f.fr b.fn=J)(t:b.kind≠.early){y:Ren}{new g:Xq XQ}(L:aY (mq f y) new g)(u:D[c]?=C o)(x:Region.wanted o (yielded D d)=J){n:Deferred}{i:K}
 (s:(execOp (Act.eval ⟨d,e⟩) o).runT P q #[]=(.ok (.defer n) i,g.toArray)):
 stepG P main (rg (b.at ⟨d,e⟩ (XE D (c::rest)::k)) cs) q=.go (rg ((b.at ⟨d,n::e⟩ (XE D (c::rest)::k)).finish I) cs) i (kept g).toArray:=by
 obtain⟨z,r,p⟩:=fQ (P:=P) (b.at ⟨d,e⟩ (XE D (c::rest)::k)) cs (execOp (Act.eval ⟨d,e⟩) o) q;rw[jB u x,r];rw[s]at p⊢
 rw[p t trivial];simp only[eR,stepG.apply,XJ.runT,Ym,Zg,aW,aM,rg,GStep.after]
 grind [seen_eq,Frame.at]
theorem Hu(O:Good P f)(a0:Goal P f main h){W:Rt}(a3:f.fr b.fn=J)(a4:b.kind≠.early)(Y:D[c]?=C o)(e9:Region.wanted o (yielded D a.tmps)=J)(e8:jj P f.fn f.bi f.cj o.op=J)(S:W.free o.dst=J)
 (s:Inv P f h m w)(b1:ar f m W a l){T:XF->K->Prop}{a1:XF->K->Prop}(r:Tp (λw=>o.wp P a w T (eB a1)) w)
 (X:∀i U a2 n x,Base P i->aU f i n x->m.le i->ar f i W U a2->Tp (T U) n->gP f h w n)
 (next:∀i U a2 n,Inv P f h i n->m.le i->(∀p u,i p u->m p u\/w.heap.size<=p)->w.heap.size<=n.heap.size->(∀p,h p->n.heap[p]?=w.heap[p]?)->ar f i W U a2->Tp (T U) n->
   a0.G i n (rg (b.at a2 (XE D rest::k)) cs)):
 a0.G m w (rg (b.at l (XE D (c::rest)::k)) cs):=by
 obtain⟨d,e⟩:=l;have a7:Region.wanted o (yielded D d)=J:=by rw[<-gu b1.tmps];exact e9
 have a5:(D[c]?).bind (·.dst)=o.dst:=by rw[Y];rfl
 refine a0.OV A (.step A (λ_ i n e4=>xu P f main h (λm w c8=>c8.status=.running/\a0.G m w c8) i n e4) (λq d0=>?_) (λ_ _ _ _ r=>r));obtain⟨i,g7,g8,n,x,new,a8,y,e7,g,z⟩:=AE O s.base (lK s.base b1.tmps a.defers e) e8 (y:=o.upon P a T (eB a1)) (by intro r w e6;cases r<;>exact e6) r d0;have H:=s.base.jY d0 g;have N:=b1.mono g.le;cases e7 with
 |@value v f8 a6=>have L:=N.put o.dst S a6;obtain⟨t,R⟩:=iI s.cQ s.iW g (X i _ _ n x H g.rel g.le L z);refine⟨_,i,n,x,new,a8,stepG_value O a3 a4 g.lE Y a7 (Xr y),g,t,R,A,.stop ⟨A,?_⟩⟩;rw[YV,a5];exact next i _ _ n (s.keep H t) g.le (λp u Q=>(g.fresh p u Q).imp id (·.1)) g.size t L z
 |skip=>have L:=N.put o.dst S aX;obtain⟨t,R⟩:=iI s.cQ s.iW g (X i _ _ n x H g.rel g.le L z);refine⟨_,i,n,x,new,a8,stepG_value O a3 a4 g.lE Y a7 (Xs ⟨y,A⟩),g,t,R,A,.stop ⟨A,?_⟩⟩;rw[YV,a5];exact next i _ _ n (s.keep H t) g.le (λp u Q=>(g.fresh p u Q).imp id (·.1)) g.size t L z
 |@defer e0 c6 hd=>
  have e5:ar f i W {a with defers:=e0::a.defers} ⟨d,c6::e⟩:=by obtain⟨e1,c7,e2⟩:=N.defers;dsimp only at c7;exact⟨N.tmps,⟨c6::e1,by rw[c7];rfl,.cons hd e2⟩,N.kn⟩
  have L:=e5.put o.dst S aX;obtain⟨t,R⟩:=iI s.cQ s.iW g (X i _ _ n x H g.rel g.le L z);refine⟨_,i,n,x,new,a8,stepG_defer O a3 a4 g.lE Y a7 y,g,t,R,A,.stop ⟨A,?_⟩⟩;rw[YV,a5];exact next i _ _ n (s.keep H t) g.le (λp u Q=>(g.fresh p u Q).imp id (·.1)) g.size t L z
 |@enter e3 d1 d8 g3 a6=>
  let b0:Ending->K->Prop:=λ
   |XB v,b8=>T (a.put o.dst v) b8
   |.panicked d9,b8=>eB a1 (.panic d9) a b8
   |.outgrown,_=>LetsOut (eB a1)
  have c9:Tp (λw=>Calls P e3 d8 w b0) n:=z;have d2:∀w,¬b0 .outgrown w:=λw r=>fU r;have d3:∀y w,b0 y w->∃v,y=XB v:=by
   intro y w r;cases y with
   |returned v=>simp
   |panicked g4=>exact r.elim
   |outgrown=>simp_all
  obtain⟨g2,v,f8,f9,d6,q1,f0,d4,f1,f2,f3⟩:=yw O c9 d2 d3 d1 H g.rel a6;obtain⟨g0,f4,f5⟩:=X g2 _ _ f9 d6 q1 f0 (Ren.le_trans g.le d4) ((N.mono d4).put o.dst S f1) f2;obtain⟨t,R⟩:=iI s.cQ s.iW g ⟨g0,f3.trans f4,f5⟩;have a9:=s.keep H t;refine⟨_,i,n,x,new,a8,stepG_enter O a3 a4 g.lE Y a7 y,g,t,R,A,?_⟩;refine(KH O c9 d2 d3 d1 H a6 a9.cQ a9.iW (λc0 f6 f7 b9 d7 b3 b4 Z b5 b6=>?_)).bind λc0 b9 g6 b2=>?_
  .obtain⟨g1,b7,d5⟩:=X c0 _ _ b9 d7 b3 b4 (Ren.le_trans g.le Z) ((N.mono Z).put o.dst S b5) b6;exact⟨g1,b7,λp b2=>by simp_all⟩
  obtain⟨f6,f7,rfl,b3,b4,Z,b5,b6,b7,d5⟩:=b2;refine .stop ⟨A,?_⟩;rw[YV,a5];refine next c0 _ _ b9 (a9.keep b4 b7) (Ren.le_trans g.le Z) (λp u Q=>?_) (Yi g.size b6) (λp b2=>by simp_all) ((N.mono Z).put o.dst S b3) d5
  rcases b5 p u Q with r|r
  .exact(g.fresh p u r).imp id (·.1)
  exact Xs (Yi g.size r)
 |round=>exact(z.one).elim λ_ r=>r.elim
 |recover=>exact(z.one).elim λ_ r=>r.elim
end frame
end
variable{c:K}{H:E}{v:Oper}{d:XF}{e:XF}{s:XC}{r:Xq Item}{u:Xq XC}{L:Xq E}{z:XD}{Q:Exit->XF->K->Prop}
structure cX(h:E->Prop)(m:Ren)(c:K)(β₁:Ren)(w₁:K):Prop where
 le:m.le β₁
 fresh:∀a b,β₁ a b->m a b\/c.heap.size<=a
 size:c.heap.size<=w₁.heap.size
 keep:∀a,h a->w₁.heap[a]?=c.heap[a]?
section
variable{main:Xy}{β₁ y:Ren}{w₁ x:K}
theorem cX.refl(m:Ren)(c:K):cX h m c m c:=⟨Ren.le_refl _,λ_ _ a=>Xr a,Ye _,λ_ _=>rfl⟩
theorem cX.trans(a:cX h m c β₁ w₁)(g:cX h β₁ w₁ y x):cX h m c y x:=
 ⟨Ren.le_trans a.le g.le,λb l o=>by
   rcases g.fresh b l o with i|i
   .exact a.fresh b l i
   exact Xs (Yi a.size i),Yi a.size g.size,λb k=>by rw[g.keep b k,a.keep b k]⟩
theorem cX.tape(a:cX h m c β₁ w₁)(t:E->Question->E):cX h m c β₁ {w₁ with tape:=t}:=⟨a.le,a.fresh,a.size,a.keep⟩
theorem Inv.tape(a:Inv P f h m c)(t:E->Question->E):Inv P f h m {c with tape:=t}:=⟨a.base,a.cQ,a.iW⟩
theorem Inv.grow(a:Inv P f h m c)(b:Base P β₁)(z:cX h m c β₁ w₁):Inv P f h β₁ w₁:=a.keep b z.keep
def oM(P:XI)(f:Set)(p:Rt)(D:Xu Oper):Xy:=D.toList.all λv=>jj P f.fn f.bi f.cj v.op&&p.free v.dst
theorem jL{p:Rt}(a:oM P f p D=J)(b:D[H]?=C v):jj P f.fn f.bi f.cj v.op=J/\p.free v.dst=J:=by grind [oM]
theorem NU(G:Good P f){p:Rt}{n o:XF->K->Prop}(u:Base P m)(O:aU f m c q)(Q:ar f m p d e)(a7:jj P f.fn f.bi f.cj v.op=J)(s:p.free v.dst=J)(b:Tp (λc=>v.wp P d c n (eB o)) c):
 ∃β₁ D U w₁ k,Base P β₁/\aU f β₁ w₁ k/\m.le β₁/\ar f β₁ p D U/\Tp (n D) w₁/\kY f c w₁:=by
 obtain⟨b3,L⟩:=e;obtain⟨β₁,b8,b9,w₁,k,new,c0,l,a5,a,g⟩:=AE G u (lK u Q.tmps d.defers L) a7 (y:=v.upon P d n (eB o)) (by intro b c a4;cases b<;>exact a4) b O;have r:=u.jY O a;have h:=Q.mono a.le;cases a5 with
 |@value i b4 w=>exact⟨β₁,_,_,w₁,k,r,a.rel,a.le,h.put v.dst s w,g,a.later⟩
 |skip=>exact⟨β₁,_,_,w₁,k,r,a.rel,a.le,h.put v.dst s aX,g,a.later⟩
 |@defer X H hd=>
  have a2:ar f β₁ p {d with defers:=X::d.defers} ⟨b3,H::L⟩:=by obtain⟨Y,N,Z⟩:=h.defers;dsimp only at N;exact⟨h.tmps,⟨H::Y,by rw[N];rfl,.cons hd Z⟩,h.kn⟩
  exact⟨β₁,_,_,w₁,k,r,a.rel,a.le,a2.put v.dst s aX,g,a.later⟩
 |@enter a0 a3 T b5 w=>
  let t:Ending->K->Prop:=λ
   |XB i,z=>n (d.put v.dst i) z
   |.panicked W,z=>eB o (.panic W) d z
   |.outgrown,_=>LetsOut (eB o)
  have a1:Tp (λc=>Calls P a0 T c t) w₁:=g;have a6:∀c,¬t .outgrown c:=λc b=>fU b;have a8:∀l c,t l c->∃i,l=XB i:=by
   intro l c b;cases l with
   |returned i=>simp
   |panicked b6=>exact b.elim
   |outgrown=>simp_all
  obtain⟨y,i,b4,x,S,q1,a9,R,b0,b1,b2⟩:=yw G a1 a6 a8 a3 r a.rel w;exact⟨y,_,_,x,S,q1,a9,Ren.le_trans a.le R,(h.mono R).put v.dst s b0,b1,a.later.trans b2⟩
 |round=>exact(g.one).elim λ_ b=>b.elim
 |recover=>exact(g.one).elim λ_ b=>b.elim
theorem uH(G:Good P f){p:Rt}(b:oM P f p D=J){o:XF->K->Prop}:∀(z:Xq E){m:Ren}{c q:K}{d e:XF},Base P m->aU f m c q->ar f m p d e->Tp (λc=>wpOps P D (eB o) z d c) c->
 ∃β₁ n s w₁ r,Base P β₁/\aU f β₁ w₁ r/\m.le β₁/\ar f β₁ p n s/\Tp (o n) w₁/\kY f c w₁
 |[],m,c,q,d,e,h,g,k,a=>⟨m,d,e,c,q,h,g,Ren.le_refl _,k,a,.refl _⟩
 |H::L,m,c,q,d,e,h,g,k,a=>by
  cases i:D[H]? with
  |none=>simp only[wpOps,i]at a;exact uH G b L h g k a
  |some v=>
   simp only[wpOps,i]at a;by_cases l:Region.wanted v (yielded D d.tmps)=J
   .simp only[l,Ym]at a;obtain⟨β₁,n,s,w₁,r,q1,N,O,Q,R,S⟩:=NU G h g k (jL b i).1 (jL b i).2 (a.mono λc l=>l.resolve_right λa0=>fU a0.2);obtain⟨y,u,w,x,t,T,U,W,X,Y,Z⟩:=uH G b L q1 N Q R;exact⟨y,u,w,x,t,T,U,Ren.le_trans O W,X,Y,S.trans Z⟩
   simp only[l]at a;exact uH G b L h g (k.put v.dst (jL b i).2 aX) a
section frame
variable{p:Rt}
theorem stepG_unwanted(a:((D[H]?).map (Region.wanted · (yielded D d.tmps))).getD Xp=Xp):
 stepG P main (rg (s.at d (XE D (H::L)::r)) u) q=.go (rg (s.at (d.put ((D[H]?).bind (·.dst)) I) (XE D L::r)) u) q:=by
 rw[<-YV,bm A];simp_all [Frame.at,stepG.exec,rg]
theorem iZ:stepG P main (rg (s.at d (XE D []::r)) u) q=.go (rg (s.at d r) u) q:=by rfl
theorem Goal.pure(n:Goal P f main h){g₁:XD}(a:z.status=.running)(b:g₁.status=.running)(g:∀q,stepG P main z q=.go g₁ q)(i:n.G m c g₁):n.G m c z:=
 n.OV a (.pure a b g (.stop ⟨b,i⟩))
def rU(n:Goal P f main h)(s:XC)(u:Xq XC)(r:Xq Item)(m:Ren)(e:XF)(c:K):Exit->Prop
 |.normal=>n.G m c (rg (s.at e r) u)
 |.exit id=>∃a,exitTo id r=C a/\n.G m c (rg (s.at e a) u)
 |.ret=>∀b,n.G m c (rg {s.at e b with mode:=.returning} u)
 |_=>False
theorem rU.push{n:Goal P f main h}{g:Item}{b:Exit}(w:g.plain=J)(o:b≠.normal)(a:rU n s u r m e c b):rU n s u (g::r) m e c b:=by
 cases b with
 |normal=>simp_all
 |exit id=>obtain⟨k,t,i⟩:=a;exact⟨k,by cases g<;>simp_all [exitTo,Item.plain],i⟩
 |ret=>exact a
 |goto N=>exact a
 |panic l=>exact a
 |outgrown=>exact a
def mI(P:XI)(f:Set)(main:Xy)(h:E->Prop)(n:Goal P f main h)(s:XC)(p:Rt)(u:Xq XC)(r:Xq Item)(Q:Exit->XF->K->Prop)(m:Ren)(c:K):Prop:=
 ∀d β₁ a b w₁,Inv P f h β₁ w₁->cX h m c β₁ w₁->ar f β₁ p a b->Q d a w₁->rU n s u r β₁ b w₁ d
def CW(n:Goal P f main h)(s:XC)(p:Rt)(u:Xq XC)(a:XR)(Q:Exit->XF->K->Prop)(d:XF)(c:K):Prop:=
 ∀(m:Ren)(r:Xq Item)(e:XF),Inv P f h m c->ar f m p d e->mI P f main h n s p u r Q m c->n.G m c (rg (s.at e (.code a::r)) u)
variable{n:Goal P f main h}
theorem mI.grow(i:mI P f main h n s p u r Q m c)(z:cX h m c β₁ w₁):mI P f main h n s p u r Q β₁ w₁:=
 λe y b d x a g k l=>i e y b d x a (z.trans g) k l
theorem ig(b:Q .normal d c):CW n s p u .skip Q d c:=λm r e a g f=>n.pure A rfl (λq=>by rfl) (f .normal m d e c a (.refl _ _) g b)
theorem uB{id:E}(b:Q (.exit id) d c):CW n s p u (.exit id) Q d c:=λm r e a i f=>by obtain⟨k,h,g⟩:=f (.exit id) m d e c a (.refl _ _) i b;exact n.pure A rfl (λq=>by rw[bm A];simp[stepG.exec,Frame.at,rg,h]) g
theorem mQ(b:Q .ret d c):CW n s p u .ret Q d c:=λm r e a g f=>n.pure A rfl (λq=>by rfl) (f .ret m d e c a (.refl _ _) g b (.code .ret::r))
theorem aZ{o l:XR}(x:CW n s p u o (Exit.then (CW n s p u l Q) Q) d c):CW n s p u (.seq o l) Q d c:=λm r e t y g=>by
 refine n.pure A rfl (λq=>by rfl) (x m (.code l::r) e t y λw β₁ k b w₁ a f h i=>?_);cases w with
 |normal=>exact i β₁ r b a h (g.grow f)
 |exit id=>exact rU.push A (by simp) (g (.exit id) β₁ k b w₁ a f h i)
 |ret=>exact g .ret β₁ k b w₁ a f h i
 |goto z=>exact g (.goto z) β₁ k b w₁ a f h i
 |panic v=>exact g (.panic v) β₁ k b w₁ a f h i
 |outgrown=>exact g .outgrown β₁ k b w₁ a f h i
theorem ei{a:XV}{i k:XR}{g:Xy}(O:dy P f.fn a=J)(N:d.eval a=.bool g)(t:CW n s p u (if g then i else k) Q d c):CW n s p u (.cond a i k) Q d c:=λm r e l o w=>by
 have R:e.eval a=.bool g:=by have b:=lK l.base o.tmps d.defers e.defers a O;rw[N]at b;generalize e.eval a=T at b;cases b;rfl
 refine n.pure A rfl (λq=>?_) (t m r e l o w);have S:=XC.eval_at s e (.code (.cond a i k)::r) a;rw[bm A];simp_all [stepG.exec,Frame.at,rg]
theorem lg{id:E}{l:XR}(w:CW n s p u l (Exit.inBlock id Q) d c):CW n s p u (.block id l) Q d c:=λm r e t y i=>by
 refine n.pure A rfl (λq=>by rfl) (w m (.inBlock id::r) e t y λv β₁ f g w₁ b h k a=>?_);cases v with
 |normal=>exact n.pure A rfl (λq=>by rfl) (i .normal β₁ f g w₁ b h k a)
 |exit o=>
  by_cases hid:o=id
  .simp only[Exit.inBlock,hid,Ym]at a;exact⟨r,by grind [exitTo],i .normal β₁ f g w₁ b h k a⟩
  simp only[Exit.inBlock,hid,Yq]at a;obtain⟨z,H,x⟩:=i (.exit o) β₁ f g w₁ b h k a;have:(id==o)=Xp:=by grind
  exact⟨z,by simp_all [exitTo],x⟩
 |ret=>exact i .ret β₁ f g w₁ b h k a
 |goto D=>exact i (.goto D) β₁ f g w₁ b h k a
 |panic l=>exact i (.panic l) β₁ f g w₁ b h k a
 |outgrown=>exact i .outgrown β₁ f g w₁ b h k a
theorem zW{g:XR}(w:XF->K->Prop)(O:XF->K->E)(a0:w d c)
 (round:∀d c,w d c->CW n s p u g (Exit.then (λe T=>w e T/\O e T<O d c) Q) d c):CW n s p u (.loop g) Q d c:=λm r e R S a=>by
 have a2:∀N(d:XF)(c:K)(m:Ren)(e:XF),O d c=N->w d c->Inv P f h m c->ar f m p d e->mI P f main h n s p u r Q m c->n.G m c (rg (s.at e (.code g::.inLoop g::r)) u):=by
  intro N
  induction N using E.strongRecOn with
  |_ N a1=>
   intro d c m e Z W R S a;refine round d c W m (.inLoop g::r) e R S λU β₁ b k w₁ i l o t=>?_;cases U with
   |normal=>obtain⟨X,Y⟩:=t;exact n.pure A rfl (λq=>by rfl) (a1 (O b w₁) (Z▸Y) b w₁ β₁ k A X i o (a.grow l))
   |exit id=>exact rU.push A (by simp) (a (.exit id) β₁ b k w₁ i l o t)
   |ret=>exact a .ret β₁ b k w₁ i l o t
   |goto a3=>exact a (.goto a3) β₁ b k w₁ i l o t
   |panic g=>exact a (.panic g) β₁ b k w₁ i l o t
   |outgrown=>exact a .outgrown β₁ b k w₁ i l o t
 exact n.pure A rfl (λq=>by rfl) (a2 _ d c m e A a0 R S a)
end frame
end
variable{h:E}{y:bR}{c:XD}{a:Xq Ms}{U:Xu XD}{b:XO}{T:Loc->Own}{R:Xu XQ}{s:E}
section
variable[Inhabited aN]
abbrev eA:=Xu XD->K->Xz (E×E)->XO->Prop
section
variable{f:dc}{z:eA}
theorem sA(d:dJ (aj P f) h a U q b T y c)(m:c.status=.running):∀g∈U,Go.Conc.awake g:=by
 intro g l;obtain⟨e,i,rfl⟩:=Zd.1 l;rcases Yp e with rfl|k
 .have:U[0]=c:=by have:=d.me;simp_all
  exactλb n=>by simp_all
 exact(aj P f).awake d.ok e _ k (Yb i)
theorem dJ.at'(d:dJ (aj P f) h a U q b T y c)(e:E):dJ (aj P f) h a U (q.at e) b T y c:=
 ⟨(aj P f).at_ e d.ok,d.bC.at e,d.bf.at e,d.me,d.hears⟩
theorem sN(l:K->Prop)(v:∀q e,(∀d,y.tag=C d->WgLive d.D.ty d.D.Wg e)->l q->l e)(n:c.status=.running)
 (a2:∀a U q sl b T,dJ (aj P f) h a U q b T y c->l q->∃m e k,runT P (crowd U q sl) 0=(.next (crowd m e sl),k)/\bY P m e sl (b++k) z):
 ∀(a:Xq Ms) U q sl b T,dJ (aj P f) h a U q b T y c->l q->bY P U q sl b z:=by
 intro a
 induction (dU.wf Ms.wf).apply a with
 |intro a _ a4=>
  intro U q sl b T g a0;obtain⟨a3,a5,D,o,Y,X,a1⟩:=s_ (P:=P) (w:=q) (sl:=sl) (sA g n) ⟨0,c,g.me,n⟩;have i:=g.at' D
  have live:∀{a U q b T},dJ (aj P f) h a U q b T y c->∀d,y.tag=C d->WgLive d.D.ty d.D.Wg q:=λH d S=>by obtain⟨a6,_,W,_⟩:=H.ok;exact(W.wg d S).mode.live
  have x:=v _ _ (live i) a0;rcases Yp a3 with rfl|Z
  .obtain⟨m,e,k,t,u⟩:=a2 a U (q.at D) o b T i x
   grind [bY.head]
  obtain⟨r,s,e,k,p,t,u,L,N,O,Q,R⟩:=(aj P f).step o i.ok i.bC i.bf g.me n Z Y X;refine bY.head (a1.trans t) ?_;have w:dJ (aj P f) h r s e (b++k) p y c:=⟨N,O,Q,L,R.trans g.hears⟩;exact a4 r u s e o _ p w (v _ _ (live w) x)
theorem AD{m:K}{u:XO}{H:Loc->Own}{t:bR}{a4:XD}(a8:dJ (aj P f) h a U q b T y c)(d3:kg b q m T H 0 u)(d2:∀X∈u,X.g=0)(d0:t.S=y.S)(d4:y.β.le t.β)
 (d1:∀R Z a0 a1 a2 a3 b9,q.heap[R]?=C (.chan Z a0 a1 a2 a3 b9)->T (.obj R)=.sync->m.heap[R]?=q.heap[R]?)
 (b4:∀i,y.tag=C i->fD i.D 0 q m/\∃l,t.tag=C l/\l.D=i.D/\l.fin=i.fin)(e6:∀o,bz P U q b T y o->∀l,t.tag=C l->dV l o U.size m H):
 db P f a ((U.map (Go.Conc.woken P c a4 m)).setIfInBounds 0 a4) m (b++u) H t:=by
 obtain⟨o,rfl,x,b8⟩:=a8.ok;have e4:=(XZ.1 a8.me).1
 have b2:∀g k,0<g->g<U.size->(o g).chan=C k->m.heap[k]?=q.heap[k]?:=by
  intro g k Q a9 p;rw[aF.cD]at p;cases b7:(o g).pd with
  |none=>simp_all
  |some Y=>rw[b7]at p;cases p;obtain⟨f3,z,cl,v,d⟩:=(x.each g _ Q (Yb a9)).Mr b7;exact d1 _ _ _ _ _ _ _ d.heap d.own
 have b3:∀g,g≠0->Deaf (b++u) g=Deaf b g:=λg Q=>f_ b (g':=0) (λa=>Q a.symm) u d2
 have frame:∀e w,0<e->U[e]?=C w->cC P e w m (b++u) H t (o e):=by
  intro e w n r
  have D:cC P e w m (b++u) H {t with tag:=y.tag} (o e):=
   (x.each e w n r).frame a8.bC d3 (by omega) (b3 e (by omega)) ⟨d0,d4,A⟩ (λk p=>b2 e k n ((XZ.1 r).1) p) (λX e5 a=>by simp_all) (λi b5=>(b4 i b5).1)
  generalize o e=d7 at D;cases d7 with
  |lv d5=>exact D
  |wk b1=>obtain⟨i,L,S,d⟩:=D;obtain⟨_,l,c6,d9,e0⟩:=b4 i L;exact⟨l,c6,by simp_all,by simp_all⟩
  |pr Y s i d8=>obtain⟨L,S,⟨z,v,d⟩,a5,N,a6,a7⟩:=D;exact⟨L,S,⟨z,v,⟨d.heap,d.count,d.room,d.own,d.msgs⟩⟩,a5,N,a6,a7⟩
  |pb Y s i d8 e2 f4 f5=>obtain⟨L,S,c7,⟨z,v,d,c8⟩,a5,N,a6,a7,c9⟩:=D;exact⟨L,S,c7,⟨z,v,⟨d.heap,d.count,d.room,d.own,d.msgs⟩,c8⟩,a5,N,a6,a7,c9⟩
  |pq Y d5=>obtain⟨⟨z,v,d⟩,N⟩:=D;exact⟨⟨z,v,⟨d.heap,d.count,d.room,d.own,d.msgs⟩⟩,N⟩
 refine⟨o,by simp,⟨λe w n r=>?_,?_,λj W=>?_,λl b5=>?_,λg X Q=>?_⟩,?_⟩
 .rw[Yj (by omega),Yu]at r;cases b0:U[e]? with
  |none=>simp_all
  |some b1=>rw[b0]at r;simp only[ZA,Yr]at r;rw[(x.each e b1 n b0).woken c a4 λk p=>b2 e k n (XZ.1 b0).1 p]at r;simp_all
 .intro e j k c0 n W O b6;simp only[YD,ZR]at O b6;exact x.one e j k c0 n W O b6
 .simp only[YD,ZR]at W;rw[b3 j (by omega)];exact x.above j W
 .simp_all
 .simp only[YD,ZR];rcases Yf Q with⟨_,a9⟩|⟨_,e3⟩
  .exact x.ops g X a9
  simp_all
 cases f with
 |none=>intro e n O;simp only[YD,ZR]at O;exact b8 e n O
 |some b1=>
  obtain⟨q1,f1,d6,Z,a0,a1,a2,a3,f2⟩:=b8;refine⟨q1,by simp_all,d6,Z,a0,a1,a2,a3,?_⟩
  grind [aF.cD]
theorem iY{d:K}{sl:Xz (E×E)}{e:XD}(i:U[0]?=C c)(g:stepG P J c q=.go e d R):
 runT P (crowd U q sl) 0=(.next (crowd ((U.map (Go.Conc.woken P c e d)).setIfInBounds 0 e) d sl),XP 0 c.frame.fn c.frame.place R):=
 J_ (P:=P) (sl:=sl) (i:=0) i g
theorem vq{i:XD}(d:dJ (aj P f) h a U q b T y c):dJ (aj P f) h a ((U.map (Go.Conc.woken P c i q)).setIfInBounds 0 i) q (b++XP 0 c.frame.fn c.frame.place #[]) T y i:=by
 have n:XP 0 c.frame.fn c.frame.place #[]=#[]:=by rfl
 rw[n];have l:kg b q q T T 0 #[]:=mR (λm e=>by simp at e) (λm e=>by simp at e);refine⟨AD d l (λm e=>by simp at e) A (Ren.le_refl _) (λ_ _ _ _ _ _ _ _ _=>rfl) (λg k=>⟨fD.same A rfl,g,k,A,A⟩) (λp o g k=>o.wg g k),d.bC.step l,d.bf.stay l (λ_ _ _=>rfl),?_,?_⟩
 .rw[Yh (by simpa using(XZ.1 d.me).1)]
 exact d.hears
theorem cI{e:dv}{Stop:XD->K->Prop}(a9:y.tag=C e)(b4:∀c q,Stop c q->c.status=.running)
 (b8:∀t r l v o Q p,dJ (aj P f) h r l v Q p y t->(∀d,Go.SimW.RL e.D.ty e.D.Wg v d->Stop t d)->bY P l v o Q z):
 ∀(k:E×Xq Ms)(c:XD) U q sl b T,dJ (aj P f) h k.2 U q b T y c->(∀d,Go.SimW.RL e.D.ty e.D.Wg q d->Go.Conc.Goes P J (Go.SimW.RL e.D.ty e.D.Wg) DC0 Stop k.1 c d)->bY P U q sl b z:=by
 have wf:=xC.wf E.lt_wfRel.wf (dU.wf Ms.wf);intro k
 induction wf.apply k with
 |intro k _ O=>
  obtain⟨s,a⟩:=k;intro c U q sl b T i u;by_cases L:∀d,Go.SimW.RL e.D.ty e.D.Wg q d->Stop c d
  .grind
  have live:∀{a U q b T c},dJ (aj P f) h a U q b T y c->WgLive e.D.ty e.D.Wg q:=λg=>by obtain⟨b9,_,b0,_⟩:=g.ok;exact(b0.wg e a9).mode.live
  have w:c.status=.running:=by
   have g:=u q (Go.SimW.RL.refl q);cases s with
   |zero=>exact b4 c q (g q (Go.SimW.RL.refl q))
   |succ s=>
    rcases g with g|⟨g,_⟩
    .simp_all
    exact g
  obtain⟨b6,a1,x,o,H,b1,N⟩:=s_ (P:=P) (w:=q) (sl:=sl) (sA i w) ⟨0,c,i.me,w⟩;have m:=i.at' x;rcases Yp b6 with rfl|b3
  .obtain rfl:a1=c:=by have:=i.me;simp_all
   have b2:=u (q.at x) (λ_=>live m);cases s with
   |zero=>exact absurd (λd n=>u q (Go.SimW.RL.refl q) d n) L
   |succ s=>
    rcases b2 with g|⟨_,g⟩
    .exact absurd (λd n=>g d λ_=>n (live i)) L
    obtain⟨t,c6,R,Z,⟨rfl,rfl⟩,a0⟩:=aaR (g (q.at x) (Go.SimW.RL.refl _));exact bY.head (N.trans (iY H Z)) (O (s,a) (.left (ZI s)) t _ _ o _ T (vq m) (λd n=>a0.rely (λW X Y=>Go.SimW.RL.trans W X Y) n))
  obtain⟨r,l,d,b7,p,a2,a3,a4,a5,a6,a7,a8⟩:=(aj P f).step o m.ok m.bC m.bf i.me w b3 H b1;refine bY.head (N.trans a2) ?_;have D:dJ (aj P f) h r l d (b++b7) p y c:=⟨a5,a6,a7,a4,a8.trans i.hears⟩;exact O (s,r) (.right a3) c l d o _ p D λS b5=>u S λ_=>b5 (live D)
def Cw(c:E)(a:XQ):Prop:=((XY a).touch?=F\/(∃b wr,a=⟨.cell b,wr,J⟩/\b.block=c)\/∃b,(a=Go.ConcR.mk (.read b)\/a=Go.ConcR.mk (.write b))/\b.block=c)/\∀d,a.loc≠.mark (.release d)
theorem Mj{d n:dv}{e:K}{O:XD}{a9:E}(p:dJ (aj P f) h a U q b T y c)(b0:y.tag=C d)(c6:n.D=d.D)(f2:n.fin=d.fin)(d3:n.lo=d.lo)(d0:n.hi=d.hi)
 (x:e=q\/∃v w,e=q.setCell ⟨d.D.Wg,v,F⟩ w)(X:∀a∈R,Cw d.D.Wg a)(b5:∀o,bz P U q b T y o->ee n o U.size e (sumTo U.size λZ=>(o Z).cnt))(hd:deafBehind h R=a9)(d8:∀o,bz P U q b T y o->(sumTo U.size λZ=>(o Z).cnt)<=n.vb):
 dJ (aj P f) a9 a ((U.map (Go.Conc.woken P c O e)).setIfInBounds 0 O) e (b++XP 0 c.frame.fn c.frame.place R) T {y with tag:=C n} O:=by
 obtain⟨o,_,b2,_⟩:=p.ok;have g:=b2.wg d b0;have d2:WgLive d.D.ty d.D.Wg e:=by have:=(b5 o b2).live;simp_all
 have H:∀i,i≠d.D.Wg->e.heap[i]?=q.heap[i]?:=by
  intro i W;rcases x with rfl|⟨v,w,rfl⟩
  .rfl
  simp_all [Go.RowKit.Below.heap_setCell]
 have b6:e.heap.size=q.heap.size:=by
  rcases x with rfl|⟨v,w,rfl⟩
  .rfl
  simp
 have d5:e.os=q.os:=by rcases x with rfl|⟨v,w,rfl⟩<;>rfl
 have d6:e.output=q.output:=by rcases x with rfl|⟨v,w,rfl⟩<;>rfl
 have u:kg b q e T T 0 (XP 0 c.frame.fn c.frame.place R):=by
  refine⟨by omega,d5,λi W=>?_,λ_ _ _ _=>rfl,λf4 i _ k r=>by omega,λd9 Y e0 m d4=>?_,dX λa t L=>(X a t).2 L,Xr λd9 Y e0 m d4=>?_,d6⟩
  rotate_right
  .obtain⟨a,t,rfl⟩:=Go.Conc.mem_ofEvents Y;rcases(X a t).1 with k|⟨l,wr,rfl,k⟩|⟨l,k,r⟩
   .simp_all
   .simp[XY,MemAct.touch?]at m;subst m;exact g.rS _ (Xs ⟨l,A,k⟩)
   rcases k with rfl|rfl<;>
   .simp[Go.ConcR.mk,XY,MemAct.touch?]at m;subst m;exact g.rS _ (Xs ⟨l,A,r⟩)
  .by_cases c8:i=d.D.Wg
   .subst c8;exact Xs (Xr (Xr (g.rS _ (Xr A))))
   grind
  obtain⟨a,t,rfl⟩:=Go.Conc.mem_ofEvents Y;rcases(X a t).1 with k|⟨l,wr,rfl,k⟩|⟨l,k,r⟩
  .simp_all
  .simp[XY,MemAct.touch?]at m;subst m;exact⟨A,d.D.Wg,Xs ⟨l,A,k⟩,by rw[b6];exact g.qa,Xs ⟨g.qa,Xs (Xs ⟨g.rS _ (Xs ⟨l,A,k⟩),Xr A⟩)⟩⟩
  rcases k with rfl|rfl<;>
  .simp[Go.ConcR.mk,XY,MemAct.touch?]at m;subst m;exact⟨A,d.D.Wg,Xs ⟨l,A,r⟩,by rw[b6];exact g.qa,Xs ⟨g.qa,Xs (Xs ⟨g.rS _ (Xs ⟨l,A,r⟩),Xs ⟨A,A⟩⟩)⟩⟩
 have f3:fD d.D 0 q e:=⟨λ_=>d2,λc0 f5 f1 c9=>⟨c0,(H _ g.ne).trans c9,A,λ_ _ _ _=>rfl⟩⟩
 have d7:aG P (b++XP 0 c.frame.fn c.frame.place R) e T 0 {y with tag:=C n}:=by
  have:=p.bf.stay u λL i c7=>H i λa=>by subst a;rcases p.bf.dz L _ c7 _ (Xr A)with Q|⟨Q,_⟩<;>(rw[g.rS _ (.inl A)]at Q;cases Q)
  exact⟨this.base,this.rel,this.cQ,this.dz,this.dY,this.low⟩
 refine⟨AD p u (tN _ _ _ _) A (Ren.le_refl _) (λi e1 e2 e3 e4 e5 e6 W _=>H i λa=>?_) (λb8 b1=>?_) (λb7 S b8 b1=>?_),p.bC.step u,d7,?_,?_⟩
 .subst a;obtain⟨_,_,d1⟩:=g.mode.live;have:q.heap[d.D.Wg]?=_:=d1;rw[W]at this;cases this
 .simp_all
 .cases b1;have D:=S.wg d b0;have b4:=D.gv.step u D.Lj;have b3:=D.gh.step u;obtain⟨b9,e9,a3,a4,a5,a6,f0,a7,a8,a0,e7,e8,a1,a2,_,N⟩:=D;rw[<-c6]at a3 a4 a5 a6 a7 a8 a0 N b4 b3;rw[<-d3,<-d0]at a1 a2 N;exact⟨b9,b5 b7 S,a3,a4,a5,a6.same (H _ (by grind)),b4,a7,a8,a0,(by omega),d8 b7 S,a1,a2,b3,N⟩
 .rw[Yh (by simpa using(XZ.1 p.me).1)]
 rw[a_,p.hears];exact hd
theorem qC{c:E}:∀a∈#[Go.ConcR.mk .disable],Cw c a:=by intro a b;simp[Go.ConcR.mk]at b;subst b;exact⟨Xr A,λe d=>by cases d⟩
theorem tu{c:E}:∀a∈#[Go.ConcR.mk .enable],Cw c a:=by intro a b;simp[Go.ConcR.mk]at b;subst b;exact⟨Xr A,λe d=>by cases d⟩
theorem Hw{b:E}:∀a∈#[Go.ConcR.rd (stA b),Go.ConcR.wr (stA b)],Cw b a:=by intro a c;simp[Go.ConcR.rd,Go.ConcR.wr]at c;rcases c with rfl|rfl<;>exact⟨Xs (Xr ⟨_,_,A,A⟩),λe d=>by cases d⟩
theorem uC{b:E}:∀a∈#[Go.ConcR.rd (stA b)],Cw b a:=by intro a c;simp[Go.ConcR.rd]at c;subst c;exact⟨Xs (Xr ⟨_,_,A,A⟩),λe d=>by cases d⟩
theorem JC{b:E}:∀a∈#[Go.ConcR.mk (.read (smA b))],Cw b a:=by intro a c;simp at c;subst c;exact⟨Xs (Xs ⟨_,Xr A,A⟩),λe d=>by cases d⟩
theorem FE{b:E}:∀a∈#[Go.ConcR.mk (.write (smA b))],Cw b a:=by intro a c;simp at c;subst c;exact⟨Xs (Xs ⟨_,Xs A,A⟩),λe d=>by cases d⟩
theorem iv{e:dv}(r:y.tag=C e){Stop:XD->K->Prop}(a1:∀c q,Stop c q->c.status=.running){sl:Xz (E×E)}(k:dJ (aj P f) h a U q b T y c)
 (t:∀d,Go.SimW.RL e.D.ty e.D.Wg q d->Stop c d)
 (Z:∀a U q sl b T,dJ (aj P f) h a U q b T y c->Stop c q->∃m d R g l,stepG P J c q=.go m d R/\g.D=e.D/\g.fin=e.fin/\g.lo=e.lo/\g.hi=e.hi/\(d=q\/∃a3 a4,d=q.setCell ⟨e.D.Wg,a3,F⟩ a4)/\(∀a∈R,Cw e.D.Wg a)/\
   (∀i,bz P U q b T y i->ee g i U.size d (sumTo U.size λo=>(i o).cnt))/\deafBehind h R=l/\(∀i,bz P U q b T y i->(sumTo U.size λo=>(i o).cnt)<=g.vb)/\
   ∀p u,dJ (aj P f) l a p d u T {y with tag:=C g} m->bY P p d sl u z):bY P U q sl b z:=by
 refine sN (λv=>∀d,Go.SimW.RL e.D.ty e.D.Wg v d->Stop c d) (λq d a0 n w a2=>n w λ_=>a2 (a0 e r)) (a1 c q (t q (Go.SimW.RL.refl q))) ?_ a U q sl b T k t;intro a U q sl b T k n;obtain⟨m,d,R,g,l,x,H,L,N,O,Q,S,W,X,Y,D⟩:=Z a U q sl b T k (n q (Go.SimW.RL.refl q));exact⟨_,_,_,iY k.me x,D _ _ (Mj k r H L N O Q S W X Y)⟩
theorem bX{d:dv}{a:Xq Ms}{U:Xu XD}{b:XO}{T:Loc->Own}{Stop:XD->K->Prop}(l:Go.Conc.Goes P J (Go.SimW.RL d.D.ty d.D.Wg) DC0 Stop s c q):
 ∀e,Go.SimW.RL d.D.ty d.D.Wg q e->Go.Conc.Goes P J (Go.SimW.RL d.D.ty d.D.Wg) DC0 Stop s c e:=λe m=>l.rely (λg i k=>Go.SimW.RL.trans g i k) m
theorem Nz{d:dv}{u:XD}(g:y.tag=C d)(d4:d.wt=0)(e0:d.pend=0)(b9:u.status=.running)(c0:∀q,WgLive d.D.ty d.D.Wg q->Go.Conc.Goes P J (Go.SimW.RL d.D.ty d.D.Wg) DC0 (Go.SimW.Wi P d.D.ty d.D.Wg u) s c q)
 (d7:∀a U q sl b T,dJ (aj P f) 0 a U q b T {y with tag:=C {d with pend:=1}} u->bY P U q sl b z){sl:Xz (E×E)}(m:dJ (aj P f) 0 a U q b T y c):bY P U q sl b z:=by
 have live:∀{h a U q b T y c}{d:dv},dJ (aj P f) h a U q b T y c->y.tag=C d->WgLive d.D.ty d.D.Wg q:=λe g=>by obtain⟨p,_,b6,_⟩:=e.ok;exact(b6.wg _ g).mode.live
 refine cI g (λc q e=>e.1) (λx N Q t S W L r n=>?_) (s,a) c U q sl b T m (bX (U:=U) (b:=b) (T:=T) (a:=a) (c0 q (live m g)));refine iv g (λc q e=>e.1) r n λa U q sl b T m o=>?_;obtain⟨_,a6,c7,d2,c6⟩:=o;refine⟨a6,q,_,d,1,c7,A,A,A,A,Xr A,qC,λp e=>(e.wg d g).mode,A,λp e=>(e.wg d g).bound,λv w a8=>?_⟩;have b4:({y with tag:=C d}:bR)=y:=by rw[<-g]
 rw[b4]at a8;refine cI g (λc q e=>e.1) (λx N Q t S W L r n=>?_) (d2,a) a6 v q sl w T a8 (bX (U:=U) (b:=b) (T:=T) (a:=a) c6);refine iv g (λc q e=>e.1) r n λa U q sl b T m o=>?_;obtain⟨_,o⟩:=o;obtain⟨b1,_,b7,_⟩:=m.ok;have X:=b7.wg d g;have d8:=X.zP;have d6:=X.yG;obtain⟨V,b5⟩:∃V,V=sumTo U.size λa3=>(b1 a3).cnt:=by simp
 have b0:=X.mode;rw[<-b5]at b0
 have a2:WgAt d.D.ty d.D.Wg q ((V:Xt)*KK) 0/\∀j,0<j->j<U.size->(b1 j).iO=0:=by
  cases b0 with
  |opn i d3 k l=>simp_all
  |reg i b2 k l=>omega
  |last d1 i k l h a b3=>omega
  |fin i k l=>omega
  |Cn i k l=>omega
 obtain⟨a7,c8,d0,d9⟩:=o V (by omega) a2.1;refine⟨a7,_,_,{d with pend:=1},1,c8,A,A,A,A,Xs ⟨0,_,A⟩,Hw,λp e=>?_,A,λp e=>(e.wg d g).bound,λv w b8=>?_⟩
 .have a9:=(e.wg d g).mode;generalize d5:(sumTo U.size λa3=>(p a3).cnt)=a5 at a9;cases a9 with
  |opn i d3 k l=>
   have:a5=V:=by have:=(WgAt.unique (by simpa using l) a2.1).1;simp only[KK]at this;omega
   subst this;refine .opn i (Ye _) k ?_;show WgAt _ _ _ (((a5+1:E):Xt)*KK) 0;exact a2.1.setSt _
  |reg i b2 k l=>omega
  |last d1 i k l h a b3=>omega
  |fin i k l=>omega
  |Cn i k l=>omega
 have tail:∀(O:XD)(H:E) a U q sl b T,dJ (aj P f) 1 a U q b T {y with tag:=C {d with pend:=1}} O->Go.Conc.Goes P J (Go.SimW.RL d.D.ty d.D.Wg) DC0 (Go.SimW.Vu P d.D.ty d.D.Wg u) H O q->bY P U q sl b z:=by
  intro O H a U q sl b T m Z;refine cI (e:={d with pend:=1}) A (λc q e=>e.1) (λx N Q t S W L r n=>?_) (H,a) O U q sl b T m (bX (d:={d with pend:=1}) (U:=U) (b:=b) (T:=T) (a:=a) Z);refine iv (e:={d with pend:=1}) A (λc q e=>e.1) r n λa U q sl b T m o=>?_;obtain⟨_,D,a1,a4,a0⟩:=o;refine⟨D,q,_,{d with pend:=1},0,a1,A,A,A,A,Xr A,tu,λp e=>(e.wg _ A).mode,A,λp e=>(e.wg _ A).bound,λv w Y=>?_⟩;refine cI (e:={d with pend:=1}) A (λc q e=>by rw[show c=u from e];exact b9) (λx N Q t S W L r n=>?_) (a4,a) D v q sl w T Y (bX (d:={d with pend:=1}) (U:=U) (b:=b) (T:=T) (a:=a) a0);have:x=u:=n t (Go.SimW.RL.refl t)
  grind
 by_cases c9:V=0
 .obtain⟨H,Z⟩:=d0 c9;refine cI (e:={d with pend:=1}) A (λc q e=>e.1) (λx N Q t S W L r n=>?_) (H,a) a7 v _ sl w T b8 (bX (d:={d with pend:=1}) (U:=U) (b:=b) (T:=T) (a:=a) Z);refine iv (e:={d with pend:=1}) A (λc q e=>e.1) r n λa U q sl b T m o=>?_;obtain⟨_,D,a1,a4,a0⟩:=o;exact⟨D,q,_,{d with pend:=1},1,a1,A,A,A,A,Xr A,JC,λp e=>(e.wg _ A).mode,A,λp e=>(e.wg _ A).bound,λv w Y=>tail D a4 _ _ _ _ _ _ Y a0⟩
 grind
end
variable{i:E}{z:eA}{b:Xq Ms}{a:XO}
section
variable{f:dc}
theorem qU{a:dv}{f:E->aF}{g:E}(k:ee a f h q g)(n:a.wt=0)(o:a.pend=0):WgAt a.D.ty a.D.Wg q ((g:Xt)*KK) 0/\∀j,0<j->j<h->(f j).iO=0:=by
 cases k with
 |opn c r d e=>simp_all
 |reg c l d e=>omega
 |last p c d e i b m=>omega
 |fin c d e=>omega
 |Cn c d e=>omega
theorem LW{e:dv}{a:E->aF}(p:dV e a h q T)(r:sumTo h (λf=>(a f).cnt)=0)(n:∀j,0<j->j<h->(a j).iO=0):∀j c,0<j->j<h->a j=.wk c->∃g d cl b,c=.quit g d cl b:=by
 intro j c l m o
 have i:(a j).cnt=0:=by grind [Go.ConcN.le_sumTo]
 have k:=n j l m;rw[o]at i k;cases c with
 |work s cl e b=>grind [aF.cnt,nK.cnt]
 |done f s d cl b=>grind [aF.cnt,aF.iO,nK.cnt,nK.iO]
 |quit g d cl b=>simp
structure Legacy(P:XI)(e:dv)(a:XO)(q:K)(T:Loc->Own)(g:E)(cl:bD)(d:bR):Prop where
 bf:aG P a q T g d
 own:uR e.D g cl
 Mu:dq e.D d.S d.β cl q
 fin:e.fin g cl d.w
structure sc(P:XI)(f:dc)(d:dv)(b:Xq Ms)(U:Xu XD)(q:K)(a:XO)(T:Loc->Own)(y:bR):Prop where
 ok:db P f b U q a T y
 left:∀e,d.lo<=e->e<d.hi->e<U.size/\Told a T e/\∃cl p,Legacy P d a q T e cl p
 rS:∀g,az g d.D.Wg->T g=.sync
 Ab:T (.obj d.D.gb)=.void
 own:∀e,d.lo<=e->e<d.hi->∀k m,d.D.own e k->T (.cell ⟨d.D.gb,k,m⟩)=.iQ e
 gb:uc d.D q
 pos:0<d.lo
 gh:Jc d.D q T
 Li:∀g,az g d.D.gb->g=.obj d.D.gb\/T g=.iQ 0\/∃e k m,d.lo<=e/\e<d.hi/\g=.cell ⟨d.D.gb,k,m⟩/\d.D.own e k/\T g=.iQ e
 SQ:∀l n o,f=C (l,n,o)->0<l/\¬(d.lo<=l/\l<d.hi)
theorem zG{u:dv}{sl:Xz (E×E)}{a0:XD}(b5:y.tag=C u)(w:dJ (aj P f) 0 b U q a T y c)(g7:stepG P J c q=.go a0 q #[Go.ConcR.mk (.acquire (stA u.D.Wg))])
 (g5:∀x,bz P U q a T y x->∀j k,0<j->j<U.size->x j=.wk k->∃D e cl Y,k=.quit D e cl Y):
 ∃b1 g c8,runT P (crowd U q sl) 0=(.next (crowd b1 q sl),g)/\dJ (aj P f) 0 c8 b1 q (a++g) T {y with tag:=F} a0/\sc P f u c8 b1 q (a++g) T {y with tag:=F}:=by
 obtain⟨x,rfl,H,b7⟩:=w.ok;have p:=H.wg u b5;have e0:=g5 x H;obtain⟨g,e2⟩:∃g,g=XP 0 c.frame.fn c.frame.place #[Go.ConcR.mk (.acquire (stA u.D.Wg))]:=⟨_,A⟩;have i2:g=#[({g:=0,fn:=c.frame.fn,pos:=c.frame.place,act:=.mark (.acquire (stA u.D.Wg))}:MemOp)]:=by simp_all [XP,Go.ConcR.mk,XY]
 have g4:∀v∈g,∀k,v.act.touch?=C k->False:=by grind [MemAct.touch?]
 have d6:∀v∈g,∀f2,v.act≠.mark (.release f2):=by grind
 have g1:∀v∈g,v.g=0:=by grind
 have a8:kg a q q T T 0 g:=mR g4 d6;have d2:∀l,l≠0->Deaf (a++g) l=Deaf a l:=λl R=>f_ a (g':=0) (λb=>R b.symm) g g1
 have g6:(a++g).act? a.size=C (.mark (.acquire (stA u.D.Wg))):=by
  have:(a++g)[a.size]?=C {g:=0,fn:=c.frame.fn,pos:=c.frame.place,act:=.mark (.acquire (stA u.D.Wg))}:=by grind
  rw[act?_of this]
 have d9:(a++g).g? a.size=C 0:=by
  have:(a++g)[a.size]?=C {g:=0,fn:=c.frame.fn,pos:=c.frame.place,act:=.mark (.acquire (stA u.D.Wg))}:=by grind
  rw[fG this]
 have told:∀d e,RelBy (stA u.D.Wg) a d e->0<d->Told (a++g) T d:=by
  intro d e a4 r l v k R d3 t d5 b6;rcases Yf R with⟨g3,a3⟩|⟨_,g2⟩
  .have b0:e<a.size:=t_ a4.act;have d0:HappensBefore (a++g) e a.size:=.single (Xs ⟨.marked b0 (Xs (by rw[abn b0];exact a4.act)) g6 (λl _ _=>(w.bC.norel _).app (λv d8=>d6 v d8 _) l),(ZL b0).2 a4.heard,⟨0,d9,by rw[deaf_old (Ye _)];exact w.hears⟩⟩);have i0:l<=e:=E.le_of_not_lt λS=>
    a4.after l S (by simp[XO.g?,a3,d3]) ⟨k,by rw[<-YX a3]at t;exact t,d5,Xs (b6.elim (w.bC.kF l k (by rw[YX a3];exact t) d5) (ZL g3).1)⟩
   have g0:(a++g).g? e=C d:=by rw[g?_old b0];exact a4.g
   obtain⟨c6,e3,e4⟩:=YP.1 d9;rcases Q' l e with d1|d1
   .exact⟨a.size,c6,e3,e4,Xs (.trans (.single (Xr ⟨d1,d,(by simp[XO.g?,R,d3]),g0⟩)) d0)⟩
   obtain rfl:l=e:=by omega
   exact⟨a.size,c6,e3,e4,Xs d0⟩
  simp_all
 have i1:0<U.size:=(XZ.1 w.me).1
 let O:aF->aF:=λe=>match e with
  |.wk (.quit D _ _ _)=>.lv D
  |.wk _=>.lv 0
  |e=>e
 have upd:∀e,O e=(match e with
  |.wk (.quit D _ _ _)=>.lv D
  |.wk _=>.lv 0
  |e=>e):=λ_=>rfl
 have h3:∀e,(O e).pd=e.pd:=by intro e;rw[upd];cases e with
  |wk k=>cases k<;>rfl
  |_=>rfl
 have h2:∀e,(O e).chan=e.chan:=by simp_all [aF.cD]
 have i7:∀e k,O e≠.wk k:=by grind
 have h5:∀l L,0<l->l<U.size->(x l).chan=C L->q.heap[L]?=q.heap[L]?:=λ_ _ _ _ _=>rfl
 have h6:∀d Q,0<d->U[d]?=C Q->cC P d Q q (a++g) T {y with tag:=F} (O (x d)):=by
  intro d Q r N;have S:=(XZ.1 N).1;have W:=H.each d Q r N;have a6:cC P d Q q (a++g) T y (x d):=W.frame w.bC a8 (by omega) (d2 d (by omega)) (jd.refl y) (λL h9=>rfl) (λv d8 b=>by simp_all) (λ_ _=>fD.same A rfl);obtain⟨c0,e1⟩:∃c0,x d=c0:=⟨_,A⟩;rw[e1]at a6 W⊢
  cases c0 with
  |lv D=>exact a6
  |wk k=>obtain⟨D,e,cl,Y,rfl⟩:=e0 d k r S e1;obtain⟨f1,n,o,m⟩:=W;rw[b5]at n;cases n;obtain⟨b8,e5,e6,e7,g8⟩:=m;exact⟨by grind,told d e b8 r⟩
  |pr a7 s u Y=>obtain⟨n,o,⟨a5,Z,m⟩,b2,a1,b3,b4⟩:=a6;exact⟨n,o,⟨a5,Z,⟨m.heap,m.count,m.room,m.own,m.msgs⟩⟩,b2,a1,b3,b4⟩
  |pb a7 s u Y h8 i8 c6=>obtain⟨n,o,f6,⟨a5,Z,m,f7⟩,b2,a1,b3,b4,f8⟩:=a6;exact⟨n,o,f6,⟨a5,Z,⟨m.heap,m.count,m.room,m.own,m.msgs⟩,f7⟩,b2,a1,b3,b4,f8⟩
  |pq a7 D=>obtain⟨⟨a5,Z,m⟩,a1⟩:=a6;exact⟨⟨a5,Z,⟨m.heap,m.count,m.room,m.own,m.msgs⟩⟩,a1⟩
 have d7:db P f (ug (λd=>O (x d)) U.size) ((U.map (Go.Conc.woken P c a0 q)).setIfInBounds 0 a0) q (a++g) T {y with tag:=F}:=by
  refine⟨λd=>O (x d),by simp,⟨λd Q r N=>?_,?_,λj a9=>?_,λh4 f9=>(by cases f9),λl v R=>?_⟩,?_⟩
  .rw[Yj (by omega),Yu]at N;cases t:U[d]? with
   |none=>simp_all
   |some k=>rw[t]at N;simp only[ZA,Yr]at N;rw[(H.each d k r t).woken c a0 λL _=>rfl]at N;simp_all
  .intro d j L f3 r a9 a2 d4 n o;simp only[YD,ZR]at a2 d4;rw[h2]at n o;exact H.one d j L f3 r a9 a2 d4 n o
  .simp only[YD,ZR]at a9;rw[d2 j (by omega)];exact H.above j a9
  .simp only[YD,ZR];rcases Yf R with⟨_,a3⟩|⟨_,g2⟩
   .exact H.ops l v a3
   simp_all
  cases f with
  |none=>intro d r a2;simp only[YD,ZR]at a2;rw[h3];exact b7 d r a2
  |some k=>obtain⟨e8,a7,l⟩:=k;obtain⟨q1,h0,b9,f0⟩:=b7;exact⟨q1,by simp_all,by simp_all,f0⟩
 have X:=w.bf.stay a8 λ_ _ _=>rfl;refine⟨_,g,_,by rw[e2];exact iY w.me g7,⟨d7,w.bC.step a8,⟨X.base,X.rel,X.cQ,X.dz,X.dY,X.low⟩,?_,?_⟩,⟨d7,λd n o=>?_,p.rS,p.Ab,λd n o g9 h1 b6=>?_,p.gb,p.ub.1,p.gh,p.Li,?_⟩⟩
 .simp_all
 .rw[e2,a_,w.hears];rfl
 .have r:0<d:=Yk p.ub.1 n;have S:d<U.size:=E.lt_of_lt_of_eq o p.ub.2.2.1;obtain⟨k,t⟩:=p.ub.2.2.2 d n o;obtain⟨D,e,cl,Y,rfl⟩:=e0 d k r S t;have W:=H.each d _ r (Yb S);rw[t]at W;obtain⟨f1,c9,f4,f5⟩:=W;rw[b5]at c9;cases c9;obtain⟨b8,e5,e6,e7,g8⟩:=f5;exact⟨by simp_all,told d e b8 r,cl,Y,⟨e5.other (i:=0) (by omega) a8,f4,e6,e7⟩⟩
 .obtain⟨k,t⟩:=p.ub.2.2.2 d n o;exact p.own d k (Yk p.ub.1 n) (E.lt_of_lt_of_eq o p.ub.2.2.1) t g9 h1 b6
 rintro e8 a7 l rfl;obtain⟨q1,h0,b9,f0⟩:=b7;refine⟨q1,λ⟨n,o⟩=>?_⟩;obtain⟨k,t⟩:=p.ub.2.2.2 e8 n o;rw[t]at b9;cases b9
theorem Ke{Stop:XD->K->Prop}(L:∀c q,Stop c q->c.status=.running)
 (v:∀k r n m D o p,dJ (aj P f) i r n m o p y k->(∀d,Stop k d)->bY P n m D o z):
 ∀(s:E)(c:XD)(b:Xq Ms) U q sl a T,dJ (aj P f) i b U q a T y c->Go.SimW.GT P J Stop s c->bY P U q sl a z:=by
 intro s
 induction s with
 |zero=>intro c b U q sl a T e l;exact v c b U q sl a T e λd=>l d d trivial
 |succ s x=>
  intro c b U q sl a T e l;by_cases N:∀d,Stop c d
  .grind
  have w:c.status=.running:=by
   rcases l q with g|⟨g,_⟩
   .simp_all
   exact g
  refine sN (λ_=>True) (λ_ _ _ _=>trivial) w ?_ b U q sl a T e trivial;intro b U q sl a T e _;rcases l q with g|⟨_,g⟩
  .simp_all
  obtain⟨k,O,H,t,⟨rfl,rfl⟩,u⟩:=aaR (g q trivial);exact⟨_,_,_,iY e.me t,(x k b _ _ sl _ T (vq e) λd=>u.rely (λ_ _ _ _ _=>trivial) trivial)⟩
theorem NA{d:dv}{d7:XD}(N:y.tag=C d)(b1:d.wt=1)(j8:d.pend=0)(b2:∀q,WgLive d.D.ty d.D.Wg q->Go.SimW.Vy P d.D.ty d.D.Wg d7 c q)
 (g7:∀b9 d4 b U q sl a T,dJ (aj P f) i b U q a T {y with tag:=C {d with wt:=2}} b9->Go.Conc.Goes P J (Go.SimW.RL d.D.ty d.D.Wg) DC0 (Go.SimW.Wv P d.D.ty d.D.Wg d7) d4 b9 q->bY P U q sl a z):
 ∀(b:Xq Ms),
  (∀U q sl a T,dJ (aj P f) i b U q a T y {c with status:=.blocked}->(∃e,WgAt d.D.ty d.D.Wg q e 0)->bY P U q sl a z)/\(∀U q sl a T,dJ (aj P f) i b U q a T y c->bY P U q sl a z):=by
 intro b
 induction (dU.wf Ms.wf).apply b with
 |intro b _ d3=>
  have live:∀{b U q a T c},dJ (aj P f) i b U q a T y c->WgLive d.D.ty d.D.Wg q:=λo=>by obtain⟨v,_,Y,_⟩:=o.ok;exact(Y.wg d N).mode.live
  have j7:∀{b U q a T},dJ (aj P f) i b U q a T y c->c.offers=F:=λo=>(b2 _ (live o)).2.1
  have d8:∀U q sl a T,dJ (aj P f) i b U q a T y {c with status:=.blocked}->(∃e,WgAt d.D.ty d.D.Wg q e 0)->bY P U q sl a z:=by
   intro U q sl a T n b4;have c7:c.offers=F:=(b2 _ (live n)).2.1;have a1:c.status=.running:=(b2 _ (live n)).1
   have g4:∀d0,({c with status:=.blocked}:XD).again d0=c:=by intro d0;obtain⟨i8,i9,j0,j1,j2⟩:=c;simp only at c7 a1;subst c7 a1;rfl
   obtain⟨v,g8,Y,h2⟩:=n.ok;have X:=Y.wg d N;have g2:∀r∈U,Go.Conc.awake r:=by
    intro r Q;obtain⟨k,O,rfl⟩:=Zd.1 Q;rcases Yp k with rfl|Z
    .have:U[0]={c with status:=.blocked}:=by have:=n.me;simp_all
     rw[this];exactλa h0=>by cases h0
    exact(aj P f).awake n.ok k _ Z (Yb O)
   have g9:∃(k:E)(c:XD),U[k]?=C c/\c.status=.running:=by
    have f1:∀j r,0<j->j<U.size->v j=.wk r->(r.cnt=1\/r.iO=1)->∃(k:E)(c:XD),U[k]?=C c/\c.status=.running:=by
     intro j r c6 e1 Q j4;have e6:=Y.each j _ c6 (Yb e1);rw[Q]at e6;obtain⟨i2,i6,i7,d6⟩:=e6;refine⟨j,_,Yb e1,?_⟩;cases r with
     |work s cl i3 a8=>exact d6.1
     |done m s H cl a8=>exact Go.SimW.qJ d6.2.2.2.2.2.2
     |quit c8 H cl a8=>grind [nK.cnt,nK.iO]
    have b3:=X.mode;generalize g1:(sumTo U.size λm=>(v m).cnt)=V at b3;cases b3 with
    |opn e d5 l g=>omega
    |fin e l g=>obtain⟨r,Q⟩:=b4;have:=(g.unique Q).2;omega
    |Cn e l g=>omega
    |last k e l g i b b0=>
     have D:(v k).iO=1:=b;cases a0:v k with
     |wk r=>exact f1 k r l g a0 (Xs (by rw[a0]at D;exact D))
     |lv c8=>rw[a0]at D;cases D
     |pr a9 s d a8=>rw[a0]at D;cases D
     |pb a9 s d a8 c h8 i0=>rw[a0]at D;cases D
     |pq a9 c8=>rw[a0]at D;cases D
    |reg e b7 l g=>
     have:∃j,j<U.size/\1<=(v j).cnt:=by
      refine Classical.byContradiction λj6=>?_
      have k0:(sumTo U.size λm=>(v m).cnt)<=0*U.size:=Go.ConcN.sumTo_le (f:=λm=>(v m).cnt) (c:=0) λj c6=>by simp_all
      omega
     obtain⟨j,c6,b1⟩:=this;have g6:0<j:=by
      rcases Yp j with rfl|o
      .have:=X.zero;omega
      exact o
     cases e5:v j with
     |wk r=>
      refine f1 j r g6 c6 e5 (Xr ?_);rw[e5]at b1;have S:1<=r.cnt:=b1;cases r<;>simp only[nK.cnt]at S⊢
      .grind
      omega
     |lv c8=>simp_all [aF.cnt]
     |pr a9 s d a8=>simp_all [aF.cnt]
     |pb a9 s d a8 c h8 i0=>simp_all [aF.cnt]
     |pq a9 c8=>simp_all [aF.cnt]
   obtain⟨k,d1,h,w,O,c0,b5⟩:=s_ (P:=P) (w:=q) (sl:=sl) g2 g9;have Z:0<k:=by
    rcases Yp k with rfl|o
    .have:=n.me;grind
    exact o
   have u:=n.at' h;obtain⟨a7,j9,d9,e7⟩:=u.ok
   have fin:∀{H p t L x},runT P (crowd U (q.at h) w) k=(.next (crowd p t w),L)->Ms.lt (aF.ms H) (a7 k).ms->p.size=U.size->(p[0]?=C {c with status:=.blocked}\/p[0]?=C c)->bz P p t (a++L) x y (λm=>if m=k then H else a7 m)->cS (a++L) t x->aG P (a++L) t x 0 y->Deaf (a++L) 0=Deaf a 0->
    eP f p t (λm=>if m=k then H else a7 m)->((∃e,WgAt d.D.ty d.D.Wg (q.at h) e 0)->(∃l,WgAt d.D.ty d.D.Wg t l 1)->p[0]?=C c)->bY P U q sl a z:=by
    intro H p t L x q1 c9 a2 R W a3 a4 a5 a6 b6;refine bY.head (b5.trans q1) ?_
    have e3:dU Ms.lt (ug (λm=>if m=k then H else a7 m) p.size) b:=by grind [lx]
    have e2:=(W.wg d N).mode;generalize (sumTo p.size λj=>(if j=k then H else a7 j:aF).cnt)=V at e2;rcases R with R|R
    .refine(d3 _ e3).1 p t w _ x ⟨⟨_,A,W,a6⟩,a3,a4,R,a5.trans n.hears⟩ ?_;cases e2 with
     |opn e d5 l g=>omega
     |reg e b7 l g=>grind
     |last k e l g i b b0=>grind
     |Cn e l g=>omega
     |fin e l g=>
      have:=b6 b4 ⟨_,g⟩
      grind
    exact(d3 _ e3).2 p t w _ x ⟨⟨_,A,W,a6⟩,a3,a4,R,a5.trans n.hears⟩
   by_cases hd:vf P d1 (a7 k)
   .obtain⟨H,p,t,L,x,q1,c9,a2,R,W,a3,a4,a5,a6,b6,e9⟩:=yC w d9 u.bC u.bf n.me (Xs c7) Z O c0 hd;refine fin q1 c9 a2 ?_ W a3 a4 a5 (iM e7 a2 a6 b6) λQ e8=>?_
    .grind [Go.Conc.woken]
    obtain⟨e,X⟩:=Q;obtain⟨l,g3⟩:=e8;have:=((X.of_block (e9 d N)).unique g3).2;omega
   obtain⟨H,p,t,L,x,q1,c9,a2,⟨e,b7,R⟩,W,a3,a4,a5,a6,b6,e9⟩:=quiet_step w d9 u.bC u.bf n.me Z O c0 hd;refine fin q1 c9 a2 ?_ W a3 a4 a5 (iM e7 a2 a6 λm g h f3 b8 f4=>(b6 m g h f3 b8 f4).2) λQ e8=>?_
   .rw[R];unfold Go.Conc.woken;split
    .right;rw[g4]
    left;rfl
   grind
  refine⟨d8,?_⟩;intro U q sl a T n;have a1:=(λo=>(b2 _ (live o)).1) n;obtain⟨k,d1,h,w,O,c0,b5⟩:=s_ (P:=P) (w:=q) (sl:=sl) (sA n a1) ⟨0,c,n.me,a1⟩;have u:=n.at' h;rcases Yp k with rfl|Z
  .obtain rfl:d1=c:=by have:=n.me;simp_all
   obtain⟨_,c7,h3,h1⟩:=b2 (q.at h) (live u);obtain⟨v,g8,Y,h2⟩:=u.ok;have X:=Y.wg d N;have b3:=X.mode;have j5:0<U.size:=(XZ.1 n.me).1
   have block:(∃e,WgAt d.D.ty d.D.Wg (q.at h) e 0)->bY P U q sl a z:=by intro b4;have d2:=h3 b4;exact bY.head (b5.trans (iY O d2)) (d8 _ _ w _ T (vq u) b4)
   generalize g1:(sumTo U.size λm=>(v m).cnt)=V at b3;cases b3 with
   |opn e d5 l g=>omega
   |reg e b7 l g=>grind
   |last k e l g i b b0=>grind
   |Cn e l g=>omega
   |fin e l g=>
    obtain⟨b9,d2,d4,g5⟩:=h1 g;refine bY.head (b5.trans (iY O d2)) ?_;refine g7 b9 d4 _ _ _ w _ T (Mj u N (n:={d with wt:=2}) A rfl rfl rfl (Xs ⟨1,_,A⟩) (λb e0=>?_) (λf0 S=>?_) (a9:=i) ?_ (λf0 S=>(S.wg d N).bound)) g5
    .simp[semEvents]at e0;rcases e0 with rfl|rfl|rfl|rfl
     .exact⟨Xr A,λe o=>by cases o⟩
     .exact⟨Xs (Xr ⟨_,_,A,A⟩),λe o=>by cases o⟩
     .exact⟨Xs (Xr ⟨_,_,A,A⟩),λe o=>by cases o⟩
     exact⟨Xr A,λe o=>by cases o⟩
    .have e4:=(S.wg d N).mode;generalize j3:(sumTo U.size λm=>(f0 m).cnt)=i4 at e4;cases e4 with
     |opn e d5 l g=>omega
     |reg e b7 l c2=>have:=(g.unique c2).2;omega
     |last k e l c2 i b b0=>have:=(g.unique b0).2;omega
     |Cn f2 b8 c2=>omega
     |fin f2 b8 c2=>exact .Cn A b8 (g.setSm 0)
    rfl
  obtain⟨f5,p,t,L,x,b1,S,f6,f7,f8,f9,g0⟩:=(aj P f).step w u.ok u.bC u.bf n.me a1 Z O c0;exact bY.head (b5.trans b1) ((d3 f5 S).2 p t w _ x ⟨f7,f8,f9,f6,g0.trans n.hears⟩)
theorem Ki{d:dv}{Q:XD}{a3:XD->K->Prop}(Y:y.tag=C d)(a1:d.wt=0)(a8:d.pend=0)(g4:Q.status=.running)(e4:∀c a2,a3 c a2->c.status=.running)
 (d6:∀q,WgLive d.D.ty d.D.Wg q->Go.Conc.Goes P J (Go.SimW.RL d.D.ty d.D.Wg) DC0 (Go.SimW.Ws P d.D.ty d.D.Wg a3) s c q)(f6:∀c a2,a3 c a2->∃s,Go.SimW.GL P J d.D.ty d.D.Wg (Go.SimW.Wu P d.D.ty d.D.Wg Q a3) s c)
 (h0:∀b U q a T e3,dJ (aj P f) 0 b U q a T {y with tag:=F} e3->sc P f d b U q a T {y with tag:=F}->∃d0 e0,dJ (aj P f) 0 b U q a d0 e0 e3/\∀b U q sl a T,dJ (aj P f) 0 b U q a T e0 Q->bY P U q sl a z)
 {sl:Xz (E×E)}(m:dJ (aj P f) 0 b U q a T y c):bY P U q sl a z:=by
 have live:∀{i b U q a T y c}{d:dv},dJ (aj P f) i b U q a T y c->y.tag=C d->WgLive d.D.ty d.D.Wg q:=λe Y=>by obtain⟨k,_,e6,_⟩:=e.ok;exact(e6.wg _ Y).mode.live
 have f1:∀(g:E)(b3:bR){i b U q a T c},b3.tag=C {d with wt:=2,vb:=g}->dJ (aj P f) i b U q a T b3 c->WgAt d.D.ty d.D.Wg q 0 0/\∀k,bz P U q a T b3 k->(sumTo U.size λx=>(k x).cnt)=0/\∀j,0<j->j<U.size->(k j).iO=0:=by
  intro g b3 i b U q a T c f5 m
  have k6:∀k,bz P U q a T b3 k->(sumTo U.size λx=>(k x).cnt)=0/\(∀j,0<j->j<U.size->(k j).iO=0)/\WgAt d.D.ty d.D.Wg q 0 0:=by
   intro k e;have Z:=(e.wg _ f5).mode;generalize (sumTo U.size λx=>(k x).cnt)=V at Z;cases Z with
   |opn R k7 a0 a4=>cases R
   |reg R j8 a0 a4=>cases R
   |last f0 R a0 a4 i b k0=>cases R
   |fin R a0 a4=>cases R
   |Cn R a0 a4=>exact⟨A,a0,a4⟩
  obtain⟨k,_,e6,_⟩:=m.ok
  grind
 have tail:∀(g:E)(S:XD)(b0:E) b U q sl a T,dJ (aj P f) 1 b U q a T {y with tag:=C {d with wt:=2,vb:=g}} S->Go.Conc.Goes P J (Go.SimW.RL d.D.ty d.D.Wg) DC0 (Go.SimW.Vz P d.D.ty d.D.Wg Q) b0 S q->bY P U q sl a z:=by
  intro g S b0 b U q sl a T m g6;refine cI (e:={d with wt:=2,vb:=g}) A (λc q e=>e.1) (λN u w n D L t p o=>?_) (b0,b) S U q sl a T m (bX (d:={d with wt:=2,vb:=g}) (U:=U) (b:=a) (T:=T) (a:=b) g6);refine iv (e:={d with wt:=2,vb:=g}) A (λc q e=>e.1) p o λb U q sl a T m r=>?_;obtain⟨_,e1,h7,b1,a6⟩:=r;refine⟨e1,q,_,{d with wt:=2,vb:=g},0,h7,A,A,A,A,Xr A,tu,λk e=>(e.wg _ A).mode,A,λk e=>(e.wg _ A).bound,λv H g2=>?_⟩;refine cI (e:={d with wt:=2,vb:=g}) A (λc q e=>e.1) (λN u w n D L t p o=>?_) (b1,b) e1 v q sl H T g2 (bX (d:={d with wt:=2,vb:=g}) (U:=U) (b:=a) (T:=T) (a:=b) a6);refine sN (λf2=>∀d1,Go.SimW.RL d.D.ty d.D.Wg f2 d1->Go.SimW.Ww P d.D.Wg Q N d1) (λq d1 h1 d8 f4 i1=>d8 f4 λ_=>i1 (h1 {d with wt:=2,vb:=g} A)) (o n (Go.SimW.RL.refl n)).1 ?_ u w n D L t p o;intro b U q sl a T m d8;obtain⟨_,X,a9,b2,a7⟩:=d8 q (Go.SimW.RL.refl q);obtain⟨_,c7⟩:=f1 g _ A m;obtain⟨b9,c8,d2,i7,i8,W⟩:=zG (u:={d with wt:=2,vb:=g}) (sl:=sl) A m a9 λk e=>LW (e.wg _ A) (c7 k e).1 (c7 k e).2;refine⟨b9,q,c8,i7,?_⟩
  have i9:sc P f d d2 b9 q (a++c8) T {y with tag:=F}:=⟨W.ok,λf0 R a0=>by
   obtain⟨j5,j6,cl,j4,c9⟩:=W.left f0 R a0
   exact⟨j5,j6,cl,j4,⟨c9.bf,c9.own,c9.Mu,c9.fin⟩⟩,W.rS,W.Ab,W.own,W.gb,W.pos,W.gh,W.Li,W.SQ⟩
  obtain⟨d0,e0,j0,k8⟩:=h0 d2 b9 q (a++c8) T X i8 i9;refine Ke (Stop:=Go.SimW.Vv Q) (λc q e=>by rw[show c=Q from e];exact g4) (λb8 j9 k1 f3 k9 l0 j7 k3 h5=>?_) b2 X d2 b9 q sl (a++c8) d0 j0 a7;have:b8=Q:=h5 f3
  grind
 have j3:∀(h g:E),g<=h->∀(S:XD) b U q sl a T,dJ (aj P f) 1 b U q a T {y with tag:=C {d with vb:=g}} S->a3 S q->bY P U q sl a z:=by
  intro h
  induction h using E.strongRecOn with
  |_ h i2=>
   intro g k5 S b U q sl a T m g1;obtain⟨b0,BK⟩:=f6 S q g1;refine cI (e:={d with vb:=g}) A (λc q e=>e.1) (λN u w n D L t p o=>?_) (b0,b) S U q sl a T m (bX (d:={d with vb:=g}) (U:=U) (b:=a) (T:=T) (a:=b) (BK q (live (d:={d with vb:=g}) m A)));refine iv (e:={d with vb:=g}) A (λc q e=>e.1) p o λb U q sl a T m r=>?_;obtain⟨_,r⟩:=r;obtain⟨j1,_,f9,_⟩:=m.ok;have c0:=f9.wg _ A;obtain⟨V,f7⟩:∃V,V=sumTo U.size λx=>(j1 x).cnt:=⟨_,A⟩;have d7:=qU c0.mode a1 a8;have h2:=c0.zP;have k4:=c0.yG;have d3:=c0.bound;rw[<-f7]at d7 h2 d3;have d3:V<=g:=d3
   have b4:∀k,bz P U q a T {y with tag:=C {d with vb:=g}} k->(sumTo U.size λx=>(k x).cnt)=V/\∀j,0<j->j<U.size->(k j).iO=0:=by intro k e;have Z:=qU (e.wg _ A).mode a1 a8;refine⟨?_,Z.2⟩;have:=(Z.1.unique d7.1).1;simp only[KK]at this;omega
   obtain⟨b7,e8,c7,h4⟩:=r V (by omega) d7.1;by_cases d9:V=0
   .obtain⟨b1,a6⟩:=c7 d9;refine⟨b7,q,_,{d with wt:=2,vb:=g},1,e8,A,A,A,A,Xr A,uC,λk e=>?_,A,λk e=>(e.wg _ A).bound,λv H a5=>tail g b7 b1 _ _ _ _ _ _ a5 a6⟩;rw[(b4 k e).1,d9];refine .Cn A (b4 k e).2 ?_;simp_all
   obtain⟨b1,a6⟩:=h4 d9;refine⟨b7,q,_,{d with vb:=V},1,e8,A,A,A,A,Xr A,uC,λk e=>?_,A,λk e=>l_ (b4 k e).1,λv H a5=>?_⟩
   .rw[(b4 k e).1];exact .opn a1 (by simp_all) (b4 k e).2 (by simp_all)
   refine cI (e:={d with vb:=V}) A (λc q e=>e.1) (λN u w n D L t p o=>?_) (b1,b) b7 v q sl H T a5 (bX (d:={d with vb:=V}) (U:=U) (b:=a) (T:=T) (a:=b) a6);refine iv (e:={d with vb:=V}) A (λc q e=>e.1) p o λb U q sl a T m r=>?_;obtain⟨_,r⟩:=r;obtain⟨j2,_,g0,_⟩:=m.ok;have e5:=g0.wg _ A;obtain⟨O,f8⟩:∃O,O=sumTo U.size λx=>(j2 x).cnt:=⟨_,A⟩;have c6:=qU e5.mode a1 a8;have d4:=e5.bound;rw[<-f8]at c6 d4;have d4:O<=V:=d4
   have b5:∀k,bz P U q a T {y with tag:=C {d with vb:=V}} k->(sumTo U.size λx=>(k x).cnt)=O/\∀j,0<j->j<U.size->(k j).iO=0:=by
    intro k e;have Z:=qU (e.wg _ A).mode a1 a8;refine⟨?_,Z.2⟩;have:=(Z.1.unique c6.1).1
    grind [KK]
   obtain⟨g9,h3⟩:=r O (by omega) c6.1;by_cases e9:O=V
   .obtain⟨X,a9,b2,a7⟩:=g9 e9;refine⟨X,_,_,{d with wt:=1,vb:=V},1,a9,A,A,A,A,Xs ⟨0,_,A⟩,Hw,λk e=>?_,A,λk e=>(e.wg _ A).bound,λv H d5=>?_⟩
    .rw[(b5 k e).1];exact .reg A (by omega) (b5 k e).2 (c6.1.setSt _)
    refine cI (e:={d with wt:=1,vb:=V}) A (λc q e=>e.1) (λN u w n D L t p o=>?_) (b2,b) X v _ sl H T d5 (bX (d:={d with wt:=1,vb:=V}) (U:=U) (b:=a) (T:=T) (a:=b) a7);refine iv (e:={d with wt:=1,vb:=V}) A (λc q e=>e.1) p o λb U q sl a T m r=>?_;obtain⟨_,b8,h8,i5,g7⟩:=r;refine⟨b8,q,_,{d with wt:=1,vb:=V},1,h8,A,A,A,A,Xr A,FE,λk e=>(e.wg _ A).mode,A,λk e=>(e.wg _ A).bound,λv H e7=>?_⟩;refine cI (e:={d with wt:=1,vb:=V}) (Stop:=λc _=>∀a2,WgLive d.D.ty d.D.Wg a2->Go.SimW.Vy P d.D.ty d.D.Wg Q c a2) A (λc q e=>((e _ (live (d:={d with wt:=1,vb:=V}) e7 A)).1)) (λN u w n D L t p o=>?_) (i5,b) b8 v q sl H T e7 (bX (d:={d with wt:=1,vb:=V}) (U:=U) (b:=a) (T:=T) (a:=b) g7);refine(NA (d:={d with wt:=1,vb:=V}) (y:={y with tag:=C {d with wt:=1,vb:=V}}) (d7:=Q) A rfl a8 (o n (Go.SimW.RL.refl n)) (λb6 i3 b U q sl a T m d6=>?_) u).2 w n D L t p;refine cI (e:={d with wt:=2,vb:=V}) A (λc q e=>e.1) (λN u w n D L t p o=>?_) (i3,b) b6 U q sl a T m (bX (d:={d with wt:=2,vb:=V}) (U:=U) (b:=a) (T:=T) (a:=b) d6);refine iv (e:={d with wt:=2,vb:=V}) A (λc q e=>e.1) p o λb U q sl a T m r=>?_;obtain⟨i0,_⟩:=f1 V _ A m;obtain⟨_,r⟩:=r;obtain⟨e2,h9,i6,g8⟩:=r i0;exact⟨e2,q,_,{d with wt:=2,vb:=V},1,h9,A,A,A,A,Xr A,uC,λk e=>(e.wg _ A).mode,A,λk e=>(e.wg _ A).bound,λv H g3=>tail V e2 i6 _ _ _ _ _ _ g3 g8⟩
   obtain⟨X,a9,b2,a7⟩:=h3 e9;refine⟨X,q,_,{d with vb:=O},1,a9,A,A,A,A,Xr A,uC,λk e=>?_,A,λk e=>l_ (b5 k e).1,λv H d5=>?_⟩
   .rw[(b5 k e).1];exact .opn a1 (by simp_all) (b5 k e).2 (by simp_all)
   exact cI (e:={d with vb:=O}) A (λc q e=>e4 c q e) (λN u w n D L t p o=>(i2 O (by omega) O (Ye _) N u w n D L t p (o n (Go.SimW.RL.refl n)))) (b2,b) X v q sl H T d5 (bX (d:={d with vb:=O}) (U:=U) (b:=a) (T:=T) (a:=b) a7)
 have k2:({y with tag:=C {d with vb:=d.vb}}:bR)=y:=by rw[show({d with vb:=d.vb}:dv)=d from A,<-Y]
 refine cI Y (λc q e=>e.1) (λN u w n D L t p o=>?_) (s,b) c U q sl a T m (bX (U:=U) (b:=a) (T:=T) (a:=b) (d6 q (live m Y)));refine iv Y (λc q e=>e.1) p o λb U q sl a T m r=>?_;obtain⟨_,b6,h6,i4,g5⟩:=r;exact⟨b6,q,_,d,1,h6,A,A,A,A,Xr A,qC,λk e=>(e.wg d Y).mode,A,λk e=>(e.wg d Y).bound,λv H a5=>(cI (e:=d) A (λc q e=>e4 c q e) (λN u w n D L t p o=>(j3 d.vb d.vb (Ye _) N u w n D L t p (o n (Go.SimW.RL.refl n)))) (i4,b) b6 v q sl H T a5 (bX (U:=U) (b:=a) (T:=T) (a:=b) g5))⟩
end
variable{m:E}{k:XD}{b:XO}{e:E}{n:E}
section
variable{l:dc}{f:bR}{c:XO}{a:Loc->Own}
structure pn(c:XO):Prop where
 touch:∀d∈c,∀o,d.act.touch?=C o->False
 norel:∀d∈c,∀i,d.act≠.mark (.release i)
 still:∀b g,Deaf (b++c) g=Deaf b g
theorem pn.nil:pn #[]:=⟨by simp,by simp,λb a=>by simp⟩
def jc(T a:Loc->Own):Prop:=∀b,b.isMemory=J->a b=T b\/T b=.iQ 0
theorem jc.keep(c:jc T a){b:Loc}(d:b.isMemory=J)(e:T b≠.iQ 0):a b=T b:=(c b d).resolve_right e
theorem jc.sync(e:jc T a){c:Loc}(f:c.isMemory=J)(g:a c≠.sync):T c≠.sync:=λd=>by
 rcases e c f with b|b
 .exact g (b.trans d)
 rw[d]at b;cases b
theorem Told.jH(p:Told b T e)(r:jc T a)(D:pn c):Told (b++c) a e:=by
 intro H i o t s g d x;rcases Yf t with⟨w,u⟩|⟨_,v⟩
 .exact(p H i o u s g d (x.imp (r.sync d) (ZL w).1)).app c
 exact(D.touch i v o g).elim
theorem kO.jH(p:kO b T e h)(r:jc T a)(D:pn c):kO (b++c) a e h:=by
 intro H i o t s g d x;rcases Yf t with⟨w,u⟩|⟨_,v⟩
 .exact(p H i o u s g d (x.imp (r.sync d) (ZL w).1)).app c
 exact(D.touch i v o g).elim
theorem aG.jH{D:bR}(g:aG P b q T e D)(w:e≠0)(u:jc T a)(O:pn c):aG P (b++c) q a e D where
 low:=g.low
 base:=g.base
 rel:=g.rel
 cQ:=g.cQ
 dz:=by
  intro r i s p o;have t:=bQ o;rcases g.dz r i s p o with d|⟨d,v⟩
  .rw[u.keep t (by rw[d];simp[w])];exact Xr d
  rw[u.keep t (by rw[d];simp)];exact Xs ⟨d,v⟩
 dY:=by
  intro r i s p o x;have t:=bQ o;have H:T p=.ro:=by
   rcases g.dz r i s p o with d|⟨d,v⟩
   .rw[u.keep t (by rw[d];simp[w]),d]at x;cases x
   exact d
  exact(g.dY r i s p o H).app λQ N i L _ _=>(O.touch Q N i L).elim
theorem uy.jH{s:PD}(d:uy s b q T e)(x:e≠0)(i:jc T a)(O:pn c):uy s (b++c) q a e where
 KW:=by
  intro Q u v D w t p N;rcases Yf D with⟨_,H⟩|⟨_,L⟩
  .rcases d.KW Q u v H w t p (i.sync p N)with g|g
   .rw[i.keep p (by rw[g];simp[x])];exact Xr g
   exact Xs g
  exact(O.touch u L v t).elim
 ro:=λr o=>by rw[i.keep (d.low r o).1 (by rw[d.ro r o];simp)];exact d.ro r o
 low:=d.low
 kn:=d.kn
 Lh:=d.Lh
def Holds(e:aF)(y f:bR):Prop:=∀a,e.pd=C a->(∀d,ft a.sh (a.τ d))/\∀b c,a.sh b->y.β b c->f.β b c
theorem kK.jH{g:PD}{s r:E}{cl:Xy}{p:Xu Xn}(d:kK g q T y s r cl p)(t:jc T a)(u:∀x,ft g.sh (g.τ x))(v:∀i o,g.sh i->y.β i o->f.β i o):kK g q a f s r cl p where
 heap:=d.heap
 count:=d.count
 room:=d.room
 own:=by rw[t.keep A (by rw[d.own];simp)];exact d.own
 msgs:=λe D w=>an.to v (u _) (d.msgs e D w)
theorem cC.jH{p:aF}(D:cC P e k q b T y p)(w:e≠0)(o:jc T a)(d:pn c)(b6:∀a3∈c,a3.g≠e)(a1:Holds p y f)(b4:∀t,y.tag=C t->∃N,f.tag=C N/\N.D=t.D/\N.fin=t.fin):cC P e k q (b++c) a f p:=by
 cases p with
 |lv a6=>exact⟨by rw[d.still];exact D.1,D.2.jH o d⟩
 |wk c7=>
  obtain⟨t,u,r,g⟩:=D;obtain⟨N,a8,a4,a9⟩:=b4 t u;refine⟨N,a8,by rw[a4];exact r,?_⟩;rw[a4,a9]
  have a7:∀p,RelBy (stA t.D.Wg) b e p->RelBy (stA t.D.Wg) (b++c) e p:=λp c0=>c0.app λc6 a5 b5=>by
   obtain⟨a3,b7,b8⟩:=YP.1 b5;rcases Yf b7 with⟨c9,_⟩|⟨_,b9⟩
   .omega
   exact absurd b8 (b6 a3 b9)
  cases c7 with
  |work a2 cl t Z=>obtain⟨u,r,g,v,s⟩:=g;exact⟨u,by rw[d.still];exact r,g.jH w o d,v,s⟩
  |done c6 a2 p cl Z=>obtain⟨b0,u,r,g,v,s,i⟩:=g;exact⟨b0,by rw[d.still];exact u,λa5=>a7 p (r a5),g.jH w o d,v,s,i⟩
  |quit a6 p cl Z=>obtain⟨r,g,v,s,i⟩:=g;exact⟨a7 p r,g.jH w o d,v,s,by rw[d.still];exact i⟩
 |pr L a2 t Z=>obtain⟨u,r,⟨Y,R,g⟩,v,s,⟨i,S,U⟩,W⟩:=D;obtain⟨H,x⟩:=a1 L A;exact⟨u,r,⟨Y,R,g.jH o H x⟩,v.jH w o d,by rw[d.still];exact s,⟨⟨λO Q X a0=>x O Q X (i.1 O Q X a0),i.2⟩,S.jH w o d,U⟩,W⟩
 |pb L a2 t Z c8 d4 d5=>obtain⟨u,r,b2,⟨Y,R,g,b3⟩,v,s,⟨i,S,U⟩,W,b1⟩:=D;obtain⟨H,x⟩:=a1 L A;exact⟨u,r,b2,⟨Y,R,g.jH o H x,b3⟩,v.jH w o d,by rw[d.still];exact s,⟨⟨λO Q X a0=>x O Q X (i.1 O Q X a0),i.2⟩,S.jH w o d,U⟩,an.to x (H _) W,b1⟩
 |pq L a6=>
  obtain⟨⟨Y,R,g⟩,s,h,i,S,U,W⟩:=D;obtain⟨H,x⟩:=a1 L A;refine⟨⟨Y,R,g.jH o H x⟩,by rw[d.still];exact s,h,?_,?_,U.jH o d,W.jH w o d⟩
  .rw[abn (t_ i)];exact i
  exact(ZL (t_ i)).2 S
theorem cS.jH(G:cS b q T)(Q:jc T a)(w:pn c)(a1:∀i,i.isMemory=J->a i≠T i->(∃j,a i=.iQ j/\j=n)\/a i=.ro\/a i=.void\/(a i=.sync/\∀g p,touchAt b g=C p->p.loc≠i))(a4:∀g,Knows b 0 g->Knows (b++c) n g):cS (b++c) q a where
 jV:=⟨λi W O Y=>by
  have U:=G.jV.ro i W O Y
  rw[Q.keep (bQ O) (by rw[U];intro a2;cases a2)];exact U,G.jV.heap,G.jV.size,G.jV.os,G.jV.out⟩
 clean:=λa9=>tL (p:=0) (G.clean a9) (λH S p s _=>(w.touch H S p s).elim) (λ_ _ _ H S W Y _=>(w.touch H S W Y).elim)
 mine:=by
  intro i j r O;intro g d v R;obtain⟨p,s,t⟩:=ZZ v;rcases Yf s with⟨_,x⟩|⟨_,D⟩
  .have L:touchAt b g=C d:=by rw[YX x];exact t
   by_cases u:a i=T i
   .exact(G.mine i j r (u▸O) g d L R).app c
   have X:=(Q i r).resolve_left u;rcases a1 i r u with⟨a8,o,a3⟩|o|o|⟨o,_⟩<;>rw[O]at o<;>cases o
   subst a3;exact a4 g (G.mine i 0 r X g d L R)
  exact(w.touch p D d t).elim
 row:=by
  intro i r O g d v R a7;obtain⟨p,s,t⟩:=ZZ v;rcases Yf s with⟨_,x⟩|⟨_,D⟩
  .have L:touchAt b g=C d:=by rw[YX x];exact t
   by_cases u:a i=T i
   .exact(G.row i r (u▸O) g d L R a7).app c
   exact(G.mine i 0 r ((Q i r).resolve_left u) g d L R).app c
  exact(w.touch p D d t).elim
 low:=by
  intro g d v;obtain⟨p,s,t⟩:=ZZ v;rcases Yf s with⟨_,x⟩|⟨_,D⟩
  .exact G.low g d (by rw[YX x];exact t)
  exact(w.touch p D d t).elim
 OW:=by
  intro g d v r N;obtain⟨p,s,t⟩:=ZZ v;rcases Yf s with⟨a0,x⟩|⟨_,D⟩
  .have L:touchAt b g=C d:=by rw[YX x];exact t
   have gk:(b++c).g? g=b.g? g:=by simp only[XO.g?,getElem?_append_old a0]
   rw[gk];by_cases u:a d.loc=T d.loc
   .exact G.OW g d L r (u▸N)
   rcases a1 d.loc r u with⟨a8,o,_⟩|o|o|⟨_,o⟩
   .rw[N]at o;cases o
   .rw[N]at o;cases o
   .rw[N]at o;cases o
   exact absurd A (o g d L)
  exact(w.touch p D d t).elim
 norel:=λd=>(G.norel d).app λH S=>w.norel H S d
 PW:=by
  intro g H p j a5 s r N;rcases Yf a5 with⟨_,Z⟩|⟨_,a6⟩
  .by_cases u:a p.loc=T p.loc
   .exact(G.PW g H p j Z s r (u▸N)).imp id λU=>U.app c
   have X:=(Q _ r).resolve_left u;right;rcases G.PW g H p 0 Z s r X with o|o
   .have:=(abu Z).app c;rw[o]at this;exact this
   exact o.app c
  exact(w.touch H a6 p s).elim
 kF:=by
  intro g d v r N;obtain⟨p,s,t⟩:=ZZ v;rcases Yf s with⟨a0,x⟩|⟨_,D⟩
  .exact(ZL a0).2 (G.kF g d (by rw[YX x];exact t) r (Q.sync r N))
  exact(w.touch p D d t).elim
def Rc(T a:Loc->Own):Prop:=∀b,b.isMemory=J->a b=T b\/(a b=.iQ 0/\T b≠.sync/\¬RM b)
theorem cS.take(G:cS b q T)(l:Rc T a)(v:∀c,c.isMemory=J->a c≠T c->Perm b 0 c):cS b q a where
 jV:=⟨λc r f u=>by
  rcases l c (bQ f)with o|⟨_,_,o⟩
  .rw[o];exact G.jV.ro c r f u
  exact absurd ⟨r,f,u⟩ o,G.jV.heap,G.jV.size,G.jV.os,G.jV.out⟩
 clean:=G.clean
 mine:=by
  intro c j d f;by_cases e:a c=T c
  .exact G.mine c j d (e▸f)
  have g:=((l c d).resolve_left e).1;rw[f]at g;cases g;exact v c d e
 row:=by
  intro c d f;by_cases e:a c=T c
  .exact G.row c d (e▸f)
  have g:=((l c d).resolve_left e).1;rw[f]at g;cases g
 low:=G.low
 OW:=by
  intro i k p d h;by_cases e:a k.loc=T k.loc
  .exact G.OW i k p d (e▸h)
  have g:=((l _ d).resolve_left e).1;rw[h]at g;cases g
 norel:=G.norel
 PW:=by
  intro i z m j w x d h;by_cases e:a m.loc=T m.loc
  .exact G.PW i z m j w x d (e▸h)
  right;exact v m.loc d e i m (by rw[YX w];exact x) A
 kF:=by
  intro i k p d h;refine G.kF i k p d λs=>?_;rcases l _ d with t|⟨t,y⟩
  .exact h (t.trans s)
  exact y.1 s
end
variable{d:Xq Ms}{l:K}
section
variable{h m:dc}{f:bR}{k i:XD}{b:Loc->Own}
theorem vZ{sl:Xz (E×E)}(R:dJ (aj P h) 0 d U q a T y c)(d8:stepG P J c q=.spawn k i q #[])(b2:jc T b){a1:aF}
 (d4:∀H,H.isMemory=J->b H≠T H->(∃j,b H=.iQ j/\j=U.size)\/b H=.ro\/b H=.void\/(b H=.sync/\∀g o,touchAt a g=C o->o.loc≠H))
 (d7:∀r,pn r->aG P (a++r) q b 0 f)
 (d6:∀r,pn r->(∀g,Knows a 0 g->Knows (a++r) U.size g)->Deaf (a++r) U.size=0->(∀(g:E) e o,(a++r)[g]?=C e->e.g=U.size->e.act.touch?=C o->False)->cC P U.size i q (a++r) b f a1)
 (c9:∀a3,y.tag=C a3->∃u,f.tag=C u/\u.D=a3.D/\u.fin=a3.fin)(d2:∀p,bz P U q a T y p->eP h U q p->∀n,0<n->n<U.size->Holds (p n) y f)
 (e1:∀p,bz P U q a T y p->∀u,f.tag=C u->dV u (λg=>if g=U.size then a1 else p g) (U.size+1) q b)
 (b6:a1.chan=F\/h=F)(e0:∀p,bz P U q a T y p->eP h U q p->eP m ((U.setIfInBounds 0 k).push i) q (λg=>if g=U.size then a1 else p g)):
 ∃b0 r c0,runT P (crowd U q sl) 0=(.next (crowd b0 q sl),r)/\dJ (aj P m) 0 c0 b0 q (a++r) b f k:=by
 obtain⟨p,rfl,t,a0⟩:=R.ok;have b1:=R.me;have e5:=(XZ.1 b1).1;have b7:=runT_crowd_spawn (P:=P) (sl:=sl) (i:=0) b1 d8;obtain⟨o,z⟩:∃o:MemOp,o={g:=0,fn:=c.frame.fn,pos:=c.frame.place,act:=.go U.size}:=by simp
 obtain⟨s,D⟩:∃s:MemOp,s={g:=U.size,fn:=i.frame.fn,pos:=c.frame.place,act:=.start}:=by simp
 have c7:((XP 0 c.frame.fn c.frame.place #[]).push {g:=0,fn:=c.frame.fn,pos:=c.frame.place,act:=.go U.size} |>.push {g:=U.size,fn:=i.frame.fn,pos:=c.frame.place,act:=.start})=#[o,s]:=by rw[z,D];simp[XP]
 rw[c7]at b7;have Z:∀e∈#[o,s],e=o\/e=s:=by intro e O;simpa using O
 have x:pn #[o,s]:=by
  refine⟨λe O a2 Q=>?_,λe O e2=>?_,λa g=>?_⟩
  .rcases Z e O with rfl|rfl
   .rw[z]at Q;simp[MemAct.touch?]at Q
   rw[D]at Q;simp[MemAct.touch?]at Q
  .rcases Z e O with rfl|rfl
   .rw[z];simp
   rw[D];simp
  have c6:(#[o,s]:XO)=[o,s].toArray:=A;rw[c6,aaf];simp[deafStep,z,D]
 have b3:=t.above _ (Ye _);have b4:∀g,Knows a 0 g->Knows (a++#[o,s]) U.size g:=λg W=>fork_knows (k:=U.size) ⟨by rw[z],by rw[z]⟩ ⟨by rw[D],by rw[D]⟩ R.hears b3 W;have d1:∀n,0<n->n<U.size->∀e∈#[o,s],e.g≠n:=by
  intro n L d3 e O d;rcases Z e O with rfl|rfl
  .rw[z]at d;simp only at d;omega
  rw[D]at d;simp only at d;omega
 have d9:((U.setIfInBounds 0 k).push i).size=U.size+1:=by simp
 have d5:∀(g:E) e a2,(a++#[o,s])[g]?=C e->e.g=U.size->e.act.touch?=C a2->False:=by
  intro g e a2 W e3 Q;rcases Yf W with⟨_,a7⟩|⟨_,a8⟩
  .have:=t.ops g e a7;omega
  exact x.touch e a8 a2 Q
 refine⟨_,_,_,b7,⟨⟨_,A,⟨λn c8 L S=>?_,λn j b8 b9 L a6 d3 e4 v w=>?_,λj a6=>?_,λu d0=>?_,λg e W=>?_⟩,e0 p t a0⟩,R.bC.jH b2 x d4 b4,d7 _ x,?_,by rw[x.still];exact R.hears⟩⟩
 .by_cases a5:n=U.size
  .subst a5;simp only[Ym];rw[Zq,XN (by simp)]at S;cases S;exact d6 _ x b4 (by rw[x.still];exact b3) d5
  simp only[a5,Yq];rw[Zq,XH (by simpa using a5),Yj (by omega)]at S;have b5:=(XZ.1 S).1;exact(t.each n c8 L S).jH (by omega) b2 x (d1 n L b5) (d2 p t a0 n L b5) c9
 .by_cases X:n=U.size<;>by_cases Y:j=U.size
  .exact X.trans Y.symm
  .simp only[X,Ym]at v;simp only[Y,Yq]at w;rcases b6 with N|N
   .rw[N]at v;cases v
   subst N;have:=a0 j a6 (by omega);rw[aF.cD,this]at w;cases w
  .simp only[Y,Ym]at w;simp only[X,Yq]at v;rcases b6 with N|N
   .rw[N]at w;cases w
   subst N;have:=a0 n L (by omega);rw[aF.cD,this]at v;cases v
  simp only[X,Yq]at v;simp only[Y,Yq]at w;exact t.one n j b8 b9 L a6 (by omega) (by omega) v w
 .rw[x.still];exact t.above j (by omega)
 .rw[d9];exact e1 p t u d0
 .rcases Yf W with⟨_,a7⟩|⟨_,a8⟩
  .have:=t.ops g e a7;omega
  rcases Z e a8 with rfl|rfl
  .rw[z];simp
  rw[D];simp
 grind
theorem Kh(r:dJ (aj P h) 0 d U q a T y c)(b8:Rc T b)(d3:∀g,g.isMemory=J->b g≠T g->Perm a 0 g)(e7:∀g,T g=.iQ 0->b g=.iQ 0)
 (e9:∀e,0<e->e<U.size->∀g,g.isMemory=J->T g=.iQ e->b g≠T g->∀k,bz P U q a T y k->eP h U q k->(k e).pd=F)
 (e8:∀k,bz P U q a T y k->eP h U q k->∀e i,0<e->e<U.size->(k e).pd=C i->∀g,i.mine g->b g=T g)
 (d5:aG P a q b 0 f)(e4:y.tag=F)(e5:f.tag=F)(b3:∀k,bz P U q a T y k->eP h U q k->∀e,0<e->e<U.size->Holds (k e) y f):dJ (aj P h) 0 d U q a b f c:=by
 obtain⟨k,rfl,v,c0⟩:=r.ok
 have a9:∀g,g.isMemory=J->(b g=.sync↔T g=.sync):=by
  intro g t;rcases b8 g t with w|⟨w,W,_⟩
  .rw[w]
  simp_all
 have c7:∀e i,0<e->e<U.size->(k e).pd=C i->∀g,g.isMemory=J->(T g=.iQ e\/i.mine g)->b g=T g:=by grind
 have bf:∀e i z,0<e->e<U.size->(k e).pd=C i->uV i z->aG P a q T e z->aG P a q b e z:=by
  intro e i z p s l d4 R;have d8:∀n m,z.β n m->∀g,az g m->b g=T g:=by
   intro n m N g o;rcases R.dz n m N g o with w|⟨w,W⟩
   .grind [bQ]
   exact c7 e i p s l g (bQ o) (Xs (d4 n m N W g o))
  exact⟨R.base,R.rel,R.cQ,λn m N g o=>by rw[d8 n m N g o];exact R.dz n m N g o,λn m N g o X=>R.dY n m N g o (by grind),R.low⟩
 have KW:∀e i,0<e->e<U.size->(k e).pd=C i->uy i a q T e->uy i a q b e:=by
  intro e i p s l Y;refine⟨λa6 a7 D a5 a4 S t X=>?_,λg o=>?_,Y.low,Y.kn,Y.Lh⟩
  .have:=Y.KW a6 a7 D a5 a4 S t (λd=>X ((a9 _ t).2 d))
   grind
  rw[c7 e i p s l g (Y.low g o).1 (.inr o)];exact Y.ro g o
 have c8:∀{i b5 x cl u e},Holds (k e) y f->(k e).pd=C i->kK i q T y b5 x cl u->kK i q b f b5 x cl u:=by intro i b5 x cl u e b3 l r;obtain⟨d6,d7⟩:=b3 i l;exact⟨r.heap,r.count,r.room,(a9 _ A).2 r.own,λe D S=>an.to d7 (d6 _) (r.msgs e D S)⟩
 refine⟨⟨k,A,⟨λe c9 p b9=>?_,v.one,v.above,λe2 e6=>(by simp_all),v.ops⟩,c0⟩,r.bC.take b8 d3,d5,r.me,r.hears⟩;have s:=(XZ.1 b9).1;have Q:=v.each e c9 p b9;have O:=b3 k v c0 e p s;have c6:=bf e;have b6:=KW e;have b0:=@c8;obtain⟨b4,a8⟩:∃b4,k e=b4:=by simp
 rw[a8]at Q⊢
 cases b4 with
 |lv e1=>exact⟨Q.1,λa6 a7 D a5 a4 S t X=>Q.2 a6 a7 D a5 a4 S t (X.imp (λv d=>v ((a9 _ t).2 d)) id)⟩
 |wk D=>obtain⟨b7,w,_⟩:=Q;simp_all
 |pr i d9 b7 z=>
  have l:(k e).pd=C i:=by rw[a8];rfl
  obtain⟨w,W,⟨x,u,Z⟩,b1,a0,⟨H,a1,L⟩,a2⟩:=Q;exact⟨w,W,⟨x,u,b0 O l Z⟩,c6 i z p s l L b1,a0,⟨⟨λn m a3 b2=>(O i l).2 n m a3 (H.1 n m a3 b2),H.2⟩,b6 i p s l a1,L⟩,a2⟩
 |pb i d9 b7 z e3 f4 f5=>
  have l:(k e).pd=C i:=by rw[a8];rfl
  obtain⟨w,W,d1,⟨x,u,Z,d2⟩,b1,a0,⟨H,a1,L⟩,a2,d0⟩:=Q;exact⟨w,W,d1,⟨x,u,b0 O l Z,d2⟩,c6 i z p s l L b1,a0,⟨⟨λn m a3 b2=>(O i l).2 n m a3 (H.1 n m a3 b2),H.2⟩,b6 i p s l a1,L⟩,an.to (O i l).2 ((O i l).1 _) a2,d0⟩
 |pq i e1=>
  have l:(k e).pd=C i:=by rw[a8];rfl
  obtain⟨⟨x,u,Z⟩,a0,e0,H,a1,L,a2⟩:=Q;exact⟨⟨x,u,b0 O l Z⟩,a0,e0,H,a1,λa6 a7 D a5 a4 S t X=>L a6 a7 D a5 a4 S t (X.imp (λv d=>v ((a9 _ t).2 d)) id),b6 i p s l a2⟩
open Classical in
noncomputable def du(T:Loc->Own):Loc->Own:=λa=>if T a=.sync\/RM a then T a else .iQ 0
theorem yp(p:dJ (aj P F) 0 d U q a T y c)(N:y.tag=F):∀(f:E) b e,a[f]?=C b->b.act.touch?=C e->e.loc.isMemory=J->T e.loc≠.sync->Knows a 0 f:=by
 intro f b e n u r s;obtain⟨z,_,m,t⟩:=p.ok;have o:=m.ops f b n;rcases Yp b.g with h|h
 .grind [knows_own]
 have i:=m.each b.g _ h (Yb o);have g:=t b.g h o;generalize z b.g=x at i g;cases x with
 |lv w=>exact i.2 f b e n A u r (Xr s)
 |wk e=>obtain⟨l,L,_⟩:=i;simp_all
 |pr k v l D=>cases g
 |pb k v l D H W X=>cases g
 |pq k w=>cases g
theorem Dl(g:dJ (aj P F) 0 d U q a T y c)(O:y.tag=F)(a9:f.tag=F)(Y:aG P a q (du T) 0 f):dJ (aj P F) 0 d U q a (du T) f c:=by
 have b2:=yp g O;obtain⟨H,rfl,e,x⟩:=g.ok
 have N:cS a q (du T):=by
  refine g.bC.take (λZ p=>?_) (λZ p b3 D a6 Q b1=>?_)
  .unfold du
   grind
  obtain⟨s,z,b4⟩:=ZZ Q;simp_all [du]
 refine⟨⟨H,A,⟨λr L w v=>?_,e.one,e.above,λa5 b0=>(by simp_all),e.ops⟩,x⟩,N,Y,g.me,g.hears⟩;have S:=(XZ.1 v).1;have o:=e.each r L w v;have n:=x r w S;generalize H r=a3 at o n⊢
 cases a3 with
 |lv a2=>exact⟨o.1,λD a1 s W R z p X=>o.2 D a1 s W R z p (X.imp (λe d=>e (by simp_all [du])) id)⟩
 |wk s=>obtain⟨u,a8,_⟩:=o;simp_all
 |pr t a0 u a4=>cases n
 |pb t a0 u a4 a7 b9 c0=>cases n
 |pq t a2=>cases n
theorem wO{t:bR}(k:aG P a q T 0 t){f:Ren}{o:E->Prop}{i:Set}{y:Xz dv}(m:Base P f)(v:aU i f l q)(w:mF i o l)(x:∀b c,f b c->∀d,az d c->T d≠.sync)(G:cS a q T)(s:∀b c,f b c->t.β b c)(u:∀b,IA b->o b):aG P a q (du T) 0 ⟨i,f,l,o,y⟩ where
 base:=m
 low:=⟨k.low.1,λb c e m=>k.low.2 b c (s b c e) m⟩
 rel:=v
 cQ:=w
 dz:=λb c e d h=>by
  unfold du;by_cases g:T d=.sync\/RM d
  .rw[XN g];obtain⟨z,r,p⟩:=g.resolve_left (x b c e d h);have:=di r h;subst this;exact Xs ⟨G.jV.ro d _ r p,u b (k.low.2 b _ (s b _ e) p)⟩
  simp_all
 dY:=λb c e d h n=>by
  unfold du at n;by_cases g:T d=.sync\/RM d
  .rw[XN g]at n;exact G.row d (bQ h) n
  simp_all
end
variable{f:XD}{c:Xq Ms}{h:K}
def tj(a:dc)(T:Loc->Own)(b:Loc):Prop:=
 RM b\/match a with
 |none=>False
 |some (d,c,_)=>T b=.iQ d\/c.mine b
open Classical in
noncomputable def iu(a:dc)(T:Loc->Own):Loc->Own:=λb=>if T b=.sync\/tj a T b then T b else .iQ 0
section
variable{a:dc}{d:bR}
theorem No(Q:dJ (aj P a) 0 c U q b T y f)(a3:y.tag=F):∀(i:E) d g,b[i]?=C d->d.act.touch?=C g->g.loc.isMemory=J->T g.loc≠.sync->¬tj a T g.loc->Knows b 0 i:=by
 intro i d g o z t v u;obtain⟨H,_,m,x⟩:=Q.ok;have p:=m.ops i d o;rcases Yp d.g with k|k
 .grind [knows_own]
 have h:=m.each d.g _ k (Yb p)
 have l:∀e,(H d.g).pd=C e->uy e b q T d.g->False:=by
  intro e w W;cases a with
  |none=>have:=x d.g k p;simp_all
  |some L=>
   obtain⟨D,N,a4⟩:=L;obtain⟨q1,Z,a0,a9⟩:=x;have R:=m.one d.g D e.rc N.rc k q1 p Z (by grind [aF.cD]) (by grind [aF.cD]);rw[R,a0]at w;cases w;rcases W.KW i d g o A z t v with n|n
   .exact u (Xs (Xr (by simp_all)))
   exact u (Xs (Xs n))
 obtain⟨r,S⟩:∃r,H d.g=r:=by simp
 rw[S]at h l;cases r with
 |lv Y=>exact h.2 i d g o A z t (Xr v)
 |wk g=>obtain⟨s,n,_⟩:=h;simp_all
 |pr e X s a1=>exact(l e A h.2.2.2.2.2.1.2.1).elim
 |pb e X s a1 a2 b0 L=>exact(l e A h.2.2.2.2.2.2.1.2.1).elim
 |pq e Y=>obtain⟨_,_,D,_,_,_,O⟩:=h;exact(l e A O).elim
theorem Au(z:dJ (aj P a) 0 c U q b T y f)(v:y.tag=F)(w:d.tag=F)(H:aG P b q (iu a T) 0 d)
 (D:∀h,bz P U q b T y h->eP a U q h->∀g,0<g->g<U.size->Holds (h g) y d):dJ (aj P a) 0 c U q b (iu a T) d f:=by
 have ne:∀e,iu a T e≠T e->iu a T e=.iQ 0/\T e≠.sync/\¬tj a T e:=by
  intro e r;unfold iu at r⊢
  simp_all
 have one:∀h,bz P U q b T y h->eP a U q h->∀g k,0<g->g<U.size->(h g).pd=C k->∃s,a=C (g,k,s):=by
  intro h i n g k l m o;cases a with
  |none=>have:=n g l m;simp_all
  |some Q=>obtain⟨L,u,Z⟩:=Q;obtain⟨q1,N,O,a0⟩:=n;have W:=i.one g L k.rc u.rc l q1 m N (by rw[aF.cD,o];rfl) (by rw[aF.cD,O];rfl);simp_all
 refine Kh z (λe t=>?_) (λe t r s R x S=>?_) (λe p=>?_) (λg l m e t p r h i n=>?_) (λh i n g k l m o e p=>?_) H v w D
 .by_cases i:iu a T e=T e
  .exact Xr i
  exact Xs ⟨(ne e i).1,(ne e i).2.1,λc=>(ne e i).2.2 (Xr c)⟩
 .obtain⟨a1,X,Y⟩:=ZZ x
  grind [No]
 .grind
 .cases o:(h g).pd with
  |none=>rfl
  |some k=>exfalso;obtain⟨s,rfl⟩:=one h i n g k l m o;exact(ne e r).2.2 (Xs (Xr p))
 obtain⟨s,rfl⟩:=one h i n g k l m o;unfold iu;rw[XN (.inr (.inr (.inr p)))]
theorem wP{v:bR}(s:aG P b q T 0 v){l:Ren}{r:E->Prop}{m:Set}{O:Xz dv}(w:Base P l)(H:aU m l h q)(L:mF m r h)
 (N:∀i e,l i e->∀g,az g e->(T g≠.sync/\¬tj a T g)\/(T g=.ro/\r i/\∃n,v.β n e))(x:∀i e,l i e->e<dE.heap.size->IA i):aG P b q (iu a T) 0 ⟨m,l,h,r,O⟩ where
 base:=w
 low:=⟨s.low.1,x⟩
 rel:=H
 cQ:=L
 dz:=λi e u g p=>by
  unfold iu
  grind
 dY:=λi e u g p z=>by
  unfold iu at z;by_cases D:T g=.sync\/tj a T g
  .rcases N i e u g p with⟨o,t⟩|⟨o,t,n,k⟩
   .rcases D with k|k
    .exact absurd k o
    exact absurd k t
   exact s.dY n e k g p o
  simp_all
end
variable{x:XD}{r:XO}{z:E}{u:Xq Ms}{f:Set}{h:E->Prop}{m:Ren}{c:K}{p:XC}{O:Xq Item}{l:Xq XC}{R:Xq E}{L:Oper}{s:XF}{n:XF}
section
variable{d:dc}{H:bR}
theorem cC.bf{t:aF}(a:cC P z x q r T y t)(R:H.S=y.S)(v:H.β=y.β)(a0:H.tag=y.tag):cC P z x q r T H t:=by
 have l:∀{b D d cl c},kK b q T y D d cl c->kK b q T H D d cl c:=λa=>⟨a.heap,a.count,a.room,a.own,λz L W=>by rw[R,v];exact a.msgs z L W⟩;have w:∀{b i},kN b i y->kN b i H:=λa=>⟨λs p S U=>by rw[v];exact a.1 s p S U,a.2⟩;cases t with
 |lv Y=>exact a
 |wk L=>obtain⟨k,h,e⟩:=a;exact⟨k,by simp_all,e⟩
 |pr b X k i=>obtain⟨h,e,⟨d,c,f⟩,m,g,⟨n,o⟩,u⟩:=a;exact⟨h,e,⟨d,c,l f⟩,m,g,⟨w n,o⟩,u⟩
 |pb b X k i Z a5 a6=>obtain⟨h,e,O,⟨d,c,f,Q⟩,m,g,⟨n,o⟩,u,N⟩:=a;exact⟨h,e,O,⟨d,c,l f,Q⟩,m,g,⟨w n,o⟩,by simp_all,N⟩
 |pq b Y=>obtain⟨⟨d,c,f⟩,g⟩:=a;exact⟨⟨d,c,l f⟩,g⟩
theorem db.bf(e:db P d u U q r T y)(h:H.S=y.S)(m:H.β=y.β)(b:H.tag=y.tag):db P d u U q r T H:=by obtain⟨n,f,a,g⟩:=e;exact⟨n,f,⟨λz x l k=>(a.each z x l k).bf h m b,a.one,a.above,λc i=>a.wg c (by rw[<-b];exact i),a.ops⟩,g⟩
def ti(P:XI)(d:dc)(b:Xz dv)(a:eA)(f:Set)(h:E->Prop)(m:Ren)(c:K)(x:XD):Prop:=
 ∀u U q sl r T,dJ (aj P d) 0 u U q r T ⟨f,m,c,h,b⟩ x->bY P U q sl r a
def goalAt(P:XI)(d:dc)(b:Xz dv)(e:eA)(f:Set)(h:E->Prop):Goal P f J h where
 G:=ti P d b e f h
 OV:=by intro m c x z D u U q sl r T a;obtain⟨i,y⟩:=D.tree;refine(yV i u U q sl r T ⟨f,m,c,h,b⟩ x a y z).bind λn k L N H=>?_;obtain⟨l,g,⟨O,Y,X,R,S⟩,Q,p,⟨_,s⟩,t,v,w⟩:=H;subst t v w;exact s l n k L N g p
 tape:=by intro m c W x o u U q sl r T a;refine o u U q sl r T ⟨a.ok.bf A rfl rfl,a.bC,?_,a.me,a.hears⟩;have:=a.bf;exact⟨this.base,⟨this.rel.inj,this.rel.obj,this.rel.os⟩,this.cQ,this.dz,this.dY,this.low⟩
end
section
variable{d:Goal P f J h}
def Co(d:Goal P f J h)(o:XU)(n:Xu Xn)(c:K)(k:Xn->K->Prop):Prop:=
 ∀(m:Ren)(e:Xu Xn)(v:XC)(l:Xq XC),Inv P f h m c->aw f m n e->
  (∀b g i a,Inv P f h b a->cX h m c b a->an f b g i->k g a->d.G b a (rg (v.finish i) l))->d.G m c (rg (Frame.enter P o e .normal) (v::l))
section frame
variable{N:Xq Item}{v:XC}
theorem qs(a4:Good P f)(a8:f.fr p.fn=J)(b8:p.kind=.normal){fn:Func}(Y:P.funcs[p.fn]?=C fn)(k:Inv P f h m c){a5:Rt}(e3:a5.d0=[])(a9:ar f m a5 s n)(hd:s.defers=[]){S:Xn->K->Prop}(d1:Tp (λc=>∃a,(results fn s.tmps).run P c=.ok a c/\S a c) c)
 (next:∀a g i,Inv P f h m i->cX h m c m i->an f m a g->S a i->d.G m i (rg (v.finish g) l)):d.G m c (rg {p.at n N with mode:=.returning} (v::l)):=by
 have b9:n.defers=[]:=by obtain⟨e1,o,a6⟩:=a9.defers;rw[hd]at a6;cases a6;simp_all
 refine d.OV A (.step A (λ_ b0 i a7=>a7.status=.running/\d.G b0 i a7) (λq b7=>?_) (λ_ _ _ _ X=>.stop X))
 let b3:XC:={fn:=p.fn,tmps:=s.tmps,todo:=[],defers:=[],mode:=.returning,kind:=.normal}
 let b4:XC:={fn:=p.fn,tmps:=n.tmps,todo:=[],defers:=[],mode:=.returning,kind:=.normal}
 have c6:bF P f Xp m b3 b4:=⟨A,a8,a9.tmps,.nil,.nil,.returning,A,Xr A,.none⟩;obtain⟨e2,a,g,b0,a3,W,new,a0,t,o,d4,a2,rfl,c7,b6,_⟩:=nX a4 (u:=S) k.base c6 b7 (d1.mono λc⟨a,t,b5⟩=>⟨a,b5,A,A,A,fn,Y,t⟩);rw[Y]at t;cases t
 have d6:stepG P J (rg {p.at n N with mode:=.returning} (v::l)) q=.go (rg (v.finish g) l) W (kept a0).toArray:=by
  obtain⟨b,e⟩:∃b,b=({p.at n N with mode:=.returning}:XC):=by simp
  have c9:b.mode=.returning:=by rw[e]
  have c0:b.defers=[]:=by rw[e];exact b9
  have c8:b.kind=.normal:=by rw[e];exact b8
  have d3:b.tmps=n.tmps:=by rw[e];rfl
  have d0:b.fn=p.fn:=by rw[e];rfl
  have o:(results fn n.tmps).runT P q #[]=(.ok g W,a0.toArray):=o;rw[<-e,ie (by simp_all)];simp only[unwind,c9,c0,d0,Y,d3,o,doReturn,c8,GStep.after];rw[seen_eq a4 (show f.fr p.fn=J from a8) a2.lE];simp[rg]
 obtain⟨Z,d5⟩:=iI k.cQ k.iW a2 ⟨a3,.refl _,λd9 _=>by rw[c7]⟩;obtain⟨a1,d2⟩:=b6.one;refine⟨_,_,a3,W,new,a0,d6,a2,Z,d5,A,A,d.tape (t:=a1) ?_⟩;have b1:Inv P f h _ {a3 with tape:=a1}:=(k.keep k.base Z).tape a1;exact next a g _ b1 ⟨Ren.le_refl _,λd9 e4 X=>Xr X,by simp_all,Z⟩ d4 d2
theorem Ch{g:XU}{a:Xu XV}{S:Xu XA}{fn:Func}{T:XR}(a3:p.kind≠.early)(N:D[z]?=C L)(a9:Region.wanted L (yielded D s.tmps)=J)(a6:L.op=.call {callee:=.value (.func g),args:=a,argTypes:=S})
 (a1:P.funcs[g]?=C fn)(a4:(fn.name== "runtime.NumGoroutine")=Xp)(Y:fn.body=C T)(b5:a.toList.all (dy P f.fn)=J)(u:Inv P f h m c){k:Rt}(a0:k.free L.dst=J)(o:ar f m k s n)
 {v:Xn->K->Prop}(Z:Co d g (a.map s.eval) c v)
 (next:∀e w i b,Inv P f h e b->cX h m c e b->ar f e k (s.put L.dst i) w->v i b->d.G e b (rg (p.at w (XE D R::O)) l)):d.G m c (rg (p.at n (XE D (z::R)::O)) l):=by
 have b0:Region.wanted L (yielded D n.tmps)=J:=by rw[<-gu o.tmps];exact a9
 have a5:(D[z]?).bind (·.dst)=L.dst:=by rw[N];rfl
 have a7:∀q,stepG P J (rg (p.at n (XE D (z::R)::O)) l) q=.go (rg (Frame.enter P g (a.map n.eval) .normal) (p.at n (XE D (z::R)::O)::l)) q:=by
  intro q
  have:=goes_call (P:=P) (main:=J) (w:=q) (cs:=l) (k:=O) (rest:=R) (K:=λx c y=>x=rg (Frame.enter P g (a.map n.eval) .normal) (p.at n (XE D (z::R)::O)::l)/\c=q/\y=#[]) N b0 a3 a6 a1 a4 Y ⟨by simp_all [G,rg,Frame.enter,Frame.at,base],A,A⟩
  obtain⟨x,c,y,U,rfl,rfl,rfl⟩:=aaR this;exact U
 have X:aw f m (a.map s.eval) (a.map n.eval):=by
  refine⟨by simp,λj b7 b8 r t=>?_⟩;rw[Yu]at r t;cases a2:a[j]? with
  |none=>simp_all
  |some b1=>
   rw[a2]at r t;cases r;cases t;refine lK u.base o.tmps s.defers n.defers b1 ?_
   grind
 refine d.pure A rfl a7 (Z m _ _ _ u X λe i b6 b Q H a8 W=>?_);rw[YV,a5];exact next e _ i b Q H ((o.mono H.le).put L.dst a0 a8) W
theorem Hp(S:Good P f){a:XU}{g:Xu Xn}{fn:Func}{k:XR}(a9:f.fr a=J)(a8:P.funcs[a]?=C fn)(b6:fn.body=C k){b:Xn->K->Prop}
 (a4:∀v l,CW d (base a) ⟨[],[]⟩ (v::l) k Q ⟨g++Array.replicate (fn.ntmps-g.size) I,[]⟩ c)
 (a5:∀u s c,Q u s c->(u=.normal\/u=.ret)/\s.defers=[]/\∀r,∃e,(results fn s.tmps).run P {c with tape:=r}=.ok e {c with tape:=r}/\b e {c with tape:=r}):Co d a g c b:=by
 intro m i v l W o next
 have a1:Frame.enter P a i .normal=(base a).at ⟨i++Array.replicate (fn.ntmps-i.size) I,[]⟩ [.code k]:=by simp_all [Frame.enter,Frame.at,base]
 rw[a1];refine a4 v l m [] _ W ⟨by rw[<-o.1];exact o.append (aw.replicate _ aX),⟨[],A,.nil⟩,by simp⟩ λu w Z a0 t X a2 b1 b3=>?_;obtain⟨a7,hd,b0⟩:=a5 u Z t b3
 have fin:∀N,d.G w t (rg {(base a).at a0 N with mode:=.returning} (v::l)):=λN=>qs S a9 A a8 X A b1 hd (S:=b) (Tp.all λr=>b0 r) λe b4 b5 Y a3 b2 a6=>next w e b4 b5 Y (a2.trans a3) b2 a6
 rcases a7 with rfl|rfl
 .exact d.pure A rfl (λq=>by rfl) (fin [])
 exact fin
end frame
end
variable{d:XC}{e:XF}{p:E}{n:Oper}
section
variable{main:Xy}{g:Goal P f main h}
variable{k:Rt}
def CO(g:Goal P f main h)(d:XC)(k:Rt)(l:Xq XC)(D:Xu Oper)(i:Xq E)(Q:Exit->XF->K->Prop)(e:XF)(c:K):Prop:=
 ∀(m:Ren)(b:Xq Item)(a:XF),Inv P f h m c->ar f m k e a->mI P f main h g d k l b Q m c->g.G m c (rg (d.at a (XE D i::b)) l)
theorem df(f:Q .normal e c):CO g d k l D [] Q e c:=λm o b a i h=>g.pure A rfl (λn=>iZ) (h .normal m e b c a (.refl _ _) i f)
theorem Hq{h:Xq E}(b:∃f,CO g d k l D h Q e {c with tape:=f}):CO g d k l D h Q e c:=λm v o i t s=>by obtain⟨f,b⟩:=b;exact g.tape (b m v o (i.tape f) t λr y p q x n a u w=>s r y p q x n ⟨a.le,a.fresh,a.size,a.keep⟩ u w)
theorem nM(s:Good P f)(u:f.fr d.fn=J)(v:d.kind≠.early)(i:oM P f k D=J){L:XF->K->Prop}{more:Xq E}:∀(a2:Xq E){e:XF}{c:K},Tp (λc=>wpOps P D (eB L) a2 e c) c->
 (∀q o,Tp (L q) o->gP f h c o)->(∀q o,Tp (L q) o->CO g d k l D more Q q o)->CO g d k l D (a2++more) Q e c
 |[],e,c,b,t,next=>next e c b
 |p::y,e,c,b,t,next=>by
  intro m R a6 H w O;rw[Yz];cases a:D[p]? with
  |none=>simp only[wpOps,a]at b;refine g.pure A rfl (λa5=>stepG_unwanted (by rw[a];rfl)) ?_;rw[a];exact nM s u v i y b t next m R a6 H w O
  |some n=>
   simp only[wpOps,a]at b;by_cases r:Region.wanted n (yielded D e.tmps)=J
   .simp only[r,Ym]at b;refine Hu s g u v a r (jL i a).1 (jL i a).2 H w (b.mono λc r=>r.resolve_right λz=>fU z.2) (λa4 q a0 o b0 q1 S a3 T x=>?_) λa4 q a0 o q1 S a3 T x a7 a8=>?_
    .obtain⟨b7,N,b2,Y,b1,b3,b4,b5,b6,U,a9⟩:=uH s i y q1 S T x;obtain⟨Z,W,X⟩:=t N Y U;exact⟨Z,a9.trans W,X⟩
    refine nM s u v i y a8 (λN Y U=>?_) next a4 R a0 q1 a7 (O.grow ⟨S,a3,T,x⟩)
    obtain⟨Z,W,X⟩:=t N Y U;exact⟨Z,W,λz a1=>by rw[X z a1,x z a1]⟩
   simp only[r]at b;refine g.pure A rfl (λa5=>stepG_unwanted ?_) ?_
   .rw[a];simp only[ZA,ZK];rw[<-gu w.tmps];simpa using r
   rw[a];exact nM s u v i y b t next m R _ H (w.put n.dst (jL i a).2 aX) O
theorem Mv(u:Good P f)(v:f.fr d.fn=J)(w:d.kind≠.early)(y:oM P f k D=J){r:XF->K->Prop}{t more:Xq E}(i:∀q,wpOps P D (eB r) t e {c with tape:=q})
 (x:∀b a,r b a->∀o,h o->a.heap[o]?=c.heap[o]?)(next:∀b a,r b a->CO g d k l D more Q b a):CO g d k l D (t++more) Q e c:=
 nM u v w y t (.all i) (λb a i=>⟨a,.refl _,by
  obtain⟨q,s⟩:=i.one
  exactλo z=>x _ _ s o z⟩) λb a i=>Hq (by
  obtain⟨q,s⟩:=i.one
  exact⟨q,next _ _ s⟩)
theorem Pw{g:Goal P f J h}{more:Xq E}{o:XU}{i:Xu XV}{t:Xu XA}{fn:Func}{v:XR}(N:d.kind≠.early)(H:k.free n.dst=J)(R:D[p]?=C n)(X:Region.wanted n (yielded D e.tmps)=J)(S:n.op=.call {callee:=.value (.func o),args:=i,argTypes:=t})
 (L:P.funcs[o]?=C fn)(O:(fn.name== "runtime.NumGoroutine")=Xp)(x:fn.body=C v)(T:i.toList.all (dy P f.fn)=J){q:Xn->K->Prop}(z:Co g o (i.map e.eval) c q)
 (next:∀a b,q a b->CO g d k l D more Q (e.put n.dst a) b):CO g d k l D (p::more) Q e c:=λm Y a1 r U y=>
 Ch N R X S L O x T r H U z λa0 u a b s w W Z=>next a b Z a0 Y u s W (y.grow w)
theorem yB{id:E}(f:CO g d k l D (Xq.range D.size) Q e c):CW g d k l (.region id D Xp) Q e c:=λm n b a i h=>g.pure A rfl (λo=>by rw[bm A];simp[stepG.exec,Frame.at,rg]) (f m n b a i h)
theorem vx{id:E}(n:∀v,CO g d k l D (Region.schedule (P.follows .mixedOrders) D v) Q e c):CW g d k l (.region id D J) Q e c:=λm o i q u t=>by
 refine g.OV A (.step A (λ_ x w s=>xu P f main h (λm c p=>p.status=.running/\g.G m c p) x w s) (λa b=>?_) (λ_ _ _ _ n=>n))
 have r:stepG P main (rg (d.at i (.code (.region id D J)::o)) l) a=.go (rg (d.at i (.inRegion D (Region.schedule (P.follows .mixedOrders) D (a.tape a.drawn (.order d.fn id)))::o)) l) {a with drawn:=a.drawn+1}:=by rw[bm A];simp[stepG.exec,Frame.at,rg,choose,Sem.run];rfl
 refine⟨_,m,c,_,[],[],r,?_,λ_ _=>rfl,by simp,A,.stop ⟨A,n _ m o i q u t⟩⟩;exact{bB.refl b with rel:=⟨b.inj,b.obj,b.os⟩}
theorem xF(s:Good P f)(t:f.fr d.fn=J)(u:d.kind≠.early)(x:oM P f k D=J)(w:P.follows .mixedOrders=J){id:E}{i:XF->K->Prop}
 (o:∀q,wpAny P .any D (eB i) D.size (Array.replicate D.size Xp) e {c with tape:=q})(v:∀b a,i b a->∀r,h r->a.heap[r]?=c.heap[r]?)(next:∀b a,i b a->Q .normal b a):CW g d k l (.region id D J) Q e c:=
 vx λq=>by rw[<-Zf (Region.schedule _ _ _)];refine Mv (more:=[]) s t u x (r:=i) (λy=>?_) v λb a o=>df (next b a o);simp only[Region.schedule,w,Xy.true_or,Ym];exact wpAny_sound D.size q _ e _ (o y)
theorem vy(o:Good P f)(p:f.fr d.fn=J)(q:d.kind≠.early)(s:oM P f k D=J){id:E}{i:XF->K->Prop}
 (m:∀t,wpOps P D (eB i) (Xq.range D.size) e {c with tape:=t})(r:∀b a,i b a->∀n,h n->a.heap[n]?=c.heap[n]?)(next:∀b a,i b a->Q .normal b a):CW g d k l (.region id D Xp) Q e c:=
 yB (by
  rw[<-Zf (Xq.range D.size)]
  exact Mv (more:=[]) o p q s (r:=i) m r λb a m=>df (next b a m))
end
variable{z:eA}{r:K}{c:E}{b:Xq Ms}
section
variable{v:Type}{s:uT P v}{l:XO}{o:K}{u:Loc->Own}{h:E}{n:Obj}
theorem la(L:k.status=.running)(a2:∀b U q sl a T,dJ s p b U q a T y k->∃i o l,runT P (crowd U q sl) 0=(.next (crowd i o sl),l)/\bY P i o sl (a++l) z):
 ∀(b:v) U q sl a T,dJ s p b U q a T y k->bY P U q sl a z:=by
 intro b
 induction s.wf.apply b with
 |intro b _ a4=>
  intro U q sl a T d;have Z:∀N∈U,Go.Conc.awake N:=by
   intro N a3;obtain⟨c,t,rfl⟩:=Zd.1 a3;rcases Yp c with rfl|w
   .have:U[0]=k:=by have:=d.me;simp_all
    exactλa a6=>by simp_all
   exact s.awake d.ok c _ w (Yb t)
  obtain⟨c,a5,e,x,t,a0,a1⟩:=s_ (P:=P) (w:=q) (sl:=sl) Z ⟨0,k,d.me,L⟩;have g:dJ s p b U (q.at e) a T y k:=⟨s.at_ e d.ok,d.bC.at e,d.bf.at e,d.me,d.hears⟩;rcases Yp c with rfl|w
  .obtain⟨i,o,l,D,H⟩:=a2 b U (q.at e) x a T g
   grind [bY.head]
  obtain⟨O,Q,o,l,u,D,H,R,S,W,X,Y⟩:=s.step x g.ok g.bC g.bf d.me L w t a0;exact bY.head (a1.trans D) (a4 O H Q o x _ u ⟨S,W,X,R,Y.trans d.hears⟩)
structure Hid(h:E)(n:Obj)(q:K)(a:XO)(T:Loc->Own)(y:bR):Prop where
 heap:q.heap[h]?=C n
 free:∀g,¬y.β g h
 none:∀(i:E) e,touchAt a i=C e->¬az e.loc h
 own:∀d,az d h->T d=.iQ 0
theorem Hid.at(b:Hid h n q a T y)(c:E):Hid h n (q.at c) a T y:=⟨b.heap,b.free,b.none,b.own⟩
theorem Hid.lt(b:Hid h n q a T y):h<q.heap.size:=(XZ.1 b.heap).1
theorem OI{p:Ren}{D:K}{new i:Xq XQ}(n:bB f m p r D q o new i)(x:h<q.heap.size)(y:∀a,¬m a h):
 o.heap[h]?=q.heap[h]?/\(∀a,¬p a h)/\∀b∈i,¬az b.loc h:=by
 have l:∀a,p a h->False:=λa d=>by
  rcases n.fresh a h d with t|⟨_,t⟩
  .exact y a t
  omega
 have k:∀b∈i,¬az b.loc h:=by
  intro b g e;obtain⟨s,L,hrel⟩:=iE n.lE g;have c:=hrel.1;rcases e with e|⟨O,e,z⟩
  .rw[e]at c;cases d:s.loc<;>rw[d]at c<;>simp only[ed]at c;exact l _ c
  rw[e]at c;subst z;cases d:s.loc<;>rw[d]at c<;>simp only[ed]at c;exact l _ c.1
 refine⟨?_,l,k⟩;rcases n.same h x λb g _=>⟨λd=>k b g (Xr d),λa u v=>k b g (Xs ⟨a,u,v⟩)⟩with w|⟨⟨H,N,_⟩,_⟩
 .exact w
 simp_all
theorem Ij{w:E->aF}{r:XD}{N:E}(sl:Xz (E×E))(i:bz P U q a T y w)(G:cS a q T)(Z:aG P a q T 0 y)(a7:U[0]?=C r)(b3:r.status=.running)(Q:0<c)(t:U[c]?=C k)(Y:k.status=.running)(L:w c=.lv N):
 ∃g h l,runT P (crowd U q sl) c=(.next (crowd h q sl),l)/\N=g+1/\h.size=U.size/\h[0]?=C r/\bz P h q (a++l) T y (λd=>if d=c then .lv g else w d)/\cS (a++l) q T/\aG P (a++l) q T 0 y/\Deaf (a++l) 0=Deaf a 0/\∀e∈l,e.act.touch?=F:=by
 have v:=i.each c k Q t;rw[L]at v;obtain⟨g,O,p,rfl,q1,a2,b5⟩:=mc v.1 Y;have X:=λb s=>touch_mute (q1 b s)
 have m:kg a q q T T c (XP c k.frame.fn k.frame.place p):=nP X λb s a4 b2=>by grind [qY]
 obtain⟨a1,b4⟩:=fJ (x:=.lv g) i m (λ_ _ _ _=>rfl) (by rw[L];exact⟨A,A,A⟩) ⟨λo f=>(by cases f),λo f=>by simp_all⟩;have W:=(XZ.1 t).1;have R:(c==0)=Xp:=by simp;omega
 have z:∀d,d≠c->Deaf (a++XP c k.frame.fn k.frame.place p) d=Deaf a d:=λd n=>f_ a (g':=c) (λb=>n b.symm) _ (tN _ _ _ _);have a0:∀e∈XP c k.frame.fn k.frame.place p,e.act.touch?=F:=by intro e u;obtain⟨b,s,rfl⟩:=Go.Conc.mem_ofEvents u;simp_all
 refine⟨g,_,_,J_ (P:=P) (sl:=sl) (i:=c) t (by rw[R];exact a2 q),A,by simp,?_,?_,G.step m,Z.other (by omega) m,z 0 (by omega),a0⟩
 .simp_all [woken_run]
 refine i.jY G m (jd.refl y) (by simp) (λd n S=>mX d n λo f=>(i.each d o S f).woken k O λx D=>rfl) z (λd x a8 a9 _ b0=>rfl) W (λa6 _ H=>?_) (λx D=>by cases D)
  (λd n _ e u=>by grind [tN]) a1 (λa3 b1=>by simp_all)
 rw[Yh (by simp_all)]at H;cases H;exact⟨by simp_all [a_],v.2.mine G λe u o f=>by simp_all⟩
theorem vS(d:Hid h n q a T y)(w:∀i∈l,∀b,i.act.touch?=C b->¬az b.loc h)(r:o.heap[h]?=q.heap[h]?){k:bR}(t:∀m,¬k.β m h)(p:∀g,az g h->u g=.iQ 0):Hid h n o (a++l) u k where
 heap:=by rw[r];exact d.heap
 free:=t
 none:=by
  intro f b c;unfold touchAt XO.act? at c;cases e:(a++l)[f]? with
  |none=>simp_all
  |some i=>
   rw[e]at c;rcases Yf e with⟨_,s⟩|⟨_,v⟩
   .exact d.none f b (by rw[YX s];exact c)
   grind
 own:=p
def cY(P:XI)(h:E)(n:Obj):uT P (Xq Ms) where
 lt:=dU Ms.lt
 wf:=dU.wf Ms.wf
 Ok:=λb U q a T y=>db P F b U q a T y/\y.tag=F/\Hid h n q a T y
 awake:=λ⟨⟨L,_,v,_⟩,_⟩ c k g f=>(v.each c k g f).awake
 at_:=λp⟨m,r,s⟩=>⟨(aj P F).at_ p m,r,s.at p⟩
 step:=by
  rintro b U q a T y a2 c k sl⟨⟨L,rfl,r,s⟩,w,d⟩ G z i x g f a7;have R:=(XZ.1 f).1;obtain⟨H,W⟩:∃H,L c=.lv H:=by
   have u:=r.each c k g f;have t:=s c g R;generalize L c=b9 at u t;cases b9 with
   |lv H=>simp
   |wk a0=>obtain⟨c0,m,_⟩:=u;simp_all
   |pr=>cases t
   |pb=>cases t
   |pq=>cases t
  obtain⟨d8,a3,l,D,rfl,Z,b1,b2,b3,b4,b5,d2⟩:=Ij sl r G z i x g f a7 W;refine⟨_,a3,q,l,T,D,?_,b1,⟨⟨_,by rw[Z],b2,?_⟩,w,vS d (λb8 S a0 X=>by simp_all) A d.free d.own⟩,b3,b4,b5⟩
  .exact lx R (by rw[W];exact .right _ (.left _ _ (ZI _)))
  intro Y a6 d1;by_cases Q:Y=c
  .subst Q;simp only[Ym];rfl
  simp only[Q,Yq];exact s Y a6 (by omega)
 main:=by
  rintro b U q a T y a2 c9 e0 d9 o new b7⟨m,w,d⟩ G z i a4 x a8 N a9 u;obtain⟨D,b0,Z⟩:=OI N d.lt d.free;refine⟨(aj P F).main m G z i a4 x a8 N a9 u,w,vS d (λb8 S a0 X=>?_) D b0 λb6 e=>?_⟩
  .obtain⟨b,d0,rfl⟩:=Go.Conc.mem_ofEvents S;have a5:b∈b7:=by
    simp_all [kept]
   rcases xe X with⟨O,c7,c8⟩|⟨d4,O⟩
   .simp_all
   obtain⟨a1,i,hrel⟩:=iE N.lE a5;have e:=hrel.1;rw[O]at e;cases v:a1.loc<;>rw[v]at e<;>simp only[ed]at e
   grind [xf]
  rw[qW e d.lt];exact d.own b6 e
theorem Nc{f:XD}(sl:Xz (E×E))(N:dJ (cY P h n) p b U q a T y k)(R:k.status=.running)(m:0<c)(g:U[c]?=C f)(Q:f.status=.running):
 ∃r d l,runT P (crowd U q sl) c=(.next (crowd d q sl),l)/\dU Ms.lt r b/\dJ (cY P h n) p r d q (a++l) T y k:=by
 obtain⟨⟨⟨D,rfl,s,t⟩,L,i⟩,G,S,H,hd⟩:=N;have v:=(XZ.1 g).1;obtain⟨o,w⟩:∃o,D c=.lv o:=by
  have x:=s.each c f m g;have e:=t c m v;generalize D c=a3 at x e;cases a3 with
  |lv o=>simp
  |wk a4=>obtain⟨a5,a6,_⟩:=x;simp_all
  |pr=>cases e
  |pb=>cases e
  |pq=>cases e
 obtain⟨b6,d,l,W,rfl,X,Y,Z,a0,a1,a2,b0⟩:=Ij sl s G S H R m g Q w;refine⟨_,d,l,W,?_,⟨⟨_,by rw[X],Z,?_⟩,L,vS i (λb2 a8 a4 a9=>by simp_all) A i.free i.own⟩,a0,a1,Y,a2.trans hd⟩
 .exact lx v (by rw[w];exact .right _ (.left _ _ (ZI _)))
 intro z O a7;by_cases u:z=c
 .subst u;simp only[Ym];rfl
 simp only[u,Yq];exact t z O (by omega)
theorem JR(d:dJ (cY P h n) p b U q a T y k)(l:k.status=.running):∀e∈U,Go.Conc.awake e:=by
 intro e i;obtain⟨c,f,rfl⟩:=Zd.1 i;rcases Yp c with rfl|g
 .have:U[0]=k:=by have:=d.me;simp_all
  exactλa m=>by simp_all
 exact(cY P h n).awake d.ok c _ g (Yb f)
theorem vV{f:K->Prop}(v:∀(q:K) d,f q->f (q.at d))(i:k.status=.running)(L:∀b U q sl a T,dJ (cY P h n) p b U q a T y k->f q->∃g o l,runT P (crowd U q sl) 0=(.next (crowd g o sl),l)/\bY P g o sl (a++l) z):
 ∀(b:Xq Ms) U q sl a T,dJ (cY P h n) p b U q a T y k->f q->bY P U q sl a z:=by
 intro b
 induction (dU.wf Ms.wf).apply b with
 |intro b _ W=>
  intro U q sl a T e D;obtain⟨c,O,d,s,x,w,S⟩:=s_ (P:=P) (w:=q) (sl:=sl) (JR e i) ⟨0,k,e.me,i⟩;have m:dJ (cY P h n) p b U (q.at d) a T y k:=⟨(cY P h n).at_ d e.ok,e.bC.at d,e.bf.at d,e.me,e.hears⟩;rcases Yp c with rfl|H
  .obtain⟨g,o,l,t,u⟩:=L b U (q.at d) s a T m (v q d D)
   grind [bY.head]
  obtain⟨N,Q,l,t,u,R⟩:=Nc s m i H x w
  grind [bY.head]
def RG(P:XI)(h:E)(n:Obj)(z:eA)(f:Set)(c:E->Prop)(m:Ren)(r:K)(k:XD):Prop:=
 ∀b U q sl a T,dJ (cY P h n) 0 b U q a T ⟨f,m,r,c,F⟩ k->bY P U q sl a z
def PO(P:XI)(h:E)(n:Obj)(z:eA)(f:Set)(d:E->Prop):Goal P f J d where
 G:=RG P h n z f d
 OV:=by intro m r k y D b U q sl a T c;obtain⟨l,x⟩:=D.tree;refine(yV l b U q sl a T ⟨f,m,r,d,F⟩ k c x y).bind λs o L N H=>?_;obtain⟨p,u,⟨O,Y,X,R,S⟩,Q,v,⟨_,w⟩,e,g,i⟩:=H;simp only at e g i;subst e g i;exact w p s o L N u v
 tape:=by intro m r W k t b U q sl a T c;refine t b U q sl a T ⟨⟨c.ok.1.bf A rfl rfl,A,⟨c.ok.2.2.heap,c.ok.2.2.free,c.ok.2.2.none,c.ok.2.2.own⟩⟩,c.bC,?_,c.me,c.hears⟩;have:=c.bf;exact⟨this.base,⟨this.rel.inj,this.rel.obj,this.rel.os⟩,this.cQ,this.dz,this.dY,this.low⟩
end
variable{v:Xn}{X:E->Prop}{a:K}{b:XD}
inductive aQ(e:E->Prop):Xn->Prop
 |bS:aQ e (.tuple #[])
 |bool (o:Xy):aQ e (.bool o)
 |int (r:IntKind) (c:Xt):aQ e (.int r c)
 |string (s:XM):aQ e (.string s)
 |cJ:aQ e (XK F)
 |ptr {i:XG} (k:e i.block):aQ e (XK (C i))
 |aO (c g:E):aQ e (Xw F c g)
 |slice {i:XG} (k:e i.block) (c g:E):aQ e (Xw (C i) c g)
 |iface (t:XA) {v:Xn} (k:aQ e v):aQ e (.iface t v)
 |nilIface:aQ e .nilIface
 |agg {g:Xu Xn} (k:∀(p:E) n,g[p]?=C n->aQ e n):aQ e (.agg g)
 |map {l:E} (k:e l):aQ e (.map (C l))
 |fw:aQ e (.map F)
 |eg:aQ e (.chan F)
 |nilFunc:aQ e .nilFunc
theorem an.Ty{t:Set}{s:Ren}{o:E->Prop}(h:∀e g,o e->m e g->s e g){l:Xn}(x:aQ o v)(a:an f m v l):an t s v l:=by
 induction x generalizing l with
 |bS=>
  cases a with
  |bS a=>exact .bS a
  |tuple p q=>exact .tuple p λi n r d _=>by simp at d
 |bool g=>cases a;exact .bool _
 |int D c=>cases a;exact .int _ _
 |string H=>cases a;exact .string _
 |cJ=>cases a;exact .cJ
 |ptr b=>cases a with|ptr a=>exact .ptr ⟨h _ _ b a.1,a.2⟩
 |aO c u=>cases a;exact .aO _ _
 |slice b c u=>cases a with|slice a=>exact .slice ⟨h _ _ b a.1,a.2⟩ _ _
 |iface z _ k=>cases a with|iface _ a=>exact .iface z (k a)
 |nilIface=>cases a;exact .nilIface
 |agg p k=>cases a with|agg w q=>exact .agg w λi n r d y=>k i n d (q i n r d y)
 |map b=>cases a with|map a=>exact .map (h _ _ b a)
 |fw=>cases a;exact .fw
 |eg=>cases a;exact .eg
 |nilFunc=>cases a;exact .nilFunc
def Obj.whole:Obj->Obj
 |.cells a c _=>.cells a c (0,a.size)
 |b=>b
open Classical in
noncomputable def jX(X:E->Prop)(a:K):K:={a with heap:=a.heap.mapIdx λc b=>if X c then Obj.whole b else b}
theorem qF(X:E->Prop)(a:K):(jX X a).heap.size=a.heap.size:=by simp[jX]
theorem iS{b:E}(c:X b):(jX X a).heap[b]?=(a.heap[b]?).map Obj.whole:=by simp_all [jX]
theorem uD{b:E}(c:¬X b):(jX X a).heap[b]?=a.heap[b]?:=by simp[jX,W_,c]
def Closed(X:E->Prop)(a:K):Prop:=∀c,X c->∃b g d,a.heap[c]?=C (Xx b g d)/\0<b.size/\d.2<=b.size/\(∀(f:E) e,b[f]?=C e->aQ X e)/\¬aS b
theorem vM{b d:E×E}(a:kX b d)(f:0<c)(e:b.2<=c):kX (0,c) d:=by
 rcases a with a|⟨_,_,a⟩
 .exact Xr a
 exact Xs ⟨by omega,YH _,Yi a e⟩
section
variable{Sp:Set}
theorem aU.jX(c:aU f m a q)(l:Closed X a):aU f m (Sim.jX X a) q where
 inj:=c.inj
 os:=c.os
 obj:=by
  intro b h n;obtain⟨y,r,d,i,k⟩:=c.obj b h n;by_cases e:X b
  .obtain⟨u,g,w,q1,s,t,_⟩:=l b e;rw[d]at q1;cases q1;refine⟨_,r,by rw[iS e,d];rfl,i,?_⟩;cases k with
   |cells g p o=>exact .cells g p (vM o s t)
  simp_all [uD]
theorem aU.part(i:aU f m a q)(L:Closed X a):aU Sp (λe g=>X e/\m e g) (Sim.jX X a) q where
 inj:=λe u g w D H=>i.inj e u g w D.2 H.2
 os:=i.os
 obj:=by
  rintro e g⟨o,k⟩;obtain⟨a1,R,l,x,y⟩:=i.obj e g k;obtain⟨Y,s,Z,q1,S,T,U,_⟩:=L e o;rw[l]at q1;cases q1;refine⟨_,R,by rw[iS o,l];rfl,x,?_⟩;cases y with
  |cells s n O=>exact .cells s ⟨n.1,λr t W p Q=>an.Ty (λe g N k=>⟨N,k⟩) (U r t p) (n.2 r t W p Q)⟩ (vM O S T)
theorem rF(e:Closed X a):mF f X (Sim.jX X a):=λd c=>by obtain⟨b,i,k,q1,g,l,_,h⟩:=e d c;exact⟨.cells b i (0,b.size),by rw[iS c,q1];rfl,A,g,h⟩
theorem wv(e:Closed X a):kL f X (Sim.jX X a):=Xs λd c h k b=>by obtain⟨g,n,i,q1,l,m,_⟩:=e d c;rw[iS c,q1]at b;cases b
theorem ld(d:Base P m)(g:∀b,(0<b\/b=P.globals.size)->b<=P.globals.size->X b):Base P (λa c=>X a/\m a c):=
 ⟨λb e f=>⟨g b e f,d.1 b e f⟩,λa c h=>d.2 a c h.2⟩
def dC(X:E->Prop)(m:Ren)(c:Loc):Prop:=∃a b,X a/\m a b/\az c b
end
section
variable{d:Obj}
theorem NC{k:E->XD}(w:b.status=.running)(Q:∀l,(k l).status=.running)(R:∀q,stepG P J b q=.go (k q.heap.size) {q with heap:=q.heap.push d})(next:∀l,RG P l d z f h m a (k l)):ti P F F z f h m a b:=by
 intro p r q sl x o e;refine la (s:=aj P F) w (λp r q sl x o e=>?_) p r q sl x o e;refine⟨_,_,_,iY (P:=P) e.me (R q),?_⟩;have lt:∀i g,m i g->g<q.heap.size:=λi g y=>e.bf.rel.right y
 have n:bB f m m a a q {q with heap:=q.heap.push d} [] []:=by
  refine{bB.refl e.bf.rel with rel:=⟨e.bf.rel.inj,λi g s=>?_,e.bf.rel.os⟩,uW:=by simp,same:=λg t _=>?_}
  .obtain⟨a2,a3,Y,Z,a0⟩:=e.bf.rel.obj i g s
   grind
  grind
 have u:=fE e.bf n (λ_ _=>rfl) (by simp) e.hears b.frame.fn b.frame.place;have O:=(XZ.1 e.me).1;have D:=(aj P F).main (g₁:=k q.heap.size) e.ok e.bC e.bf e.me e.hears w (Q _) n (λ_ _=>rfl) (by simp);have H:=e.bC.step u;have L:=e.bf.own n (λ_ _=>rfl) u;refine next q.heap.size _ _ _ _ _ _ ⟨⟨D,A,?_,λi s=>?_,λT U S t=>?_,λa1 N=>?_⟩,H,L,by simp[O],e.hears⟩
 .simp
 .grind
 .have:=e.bC.low T U S;rw[bj t]at this;omega
 rw[qV N (Ye _) (by simp)]
def Hc(P:XI)(g:E)(d:Obj)(i:K->Prop)(z:eA)(f:Set)(h:E->Prop)(m:Ren)(a:K)(b:XD):Prop:=
 ∀l c q sl e k,dJ (cY P g d) 0 l c q e k ⟨f,m,a,h,F⟩ b->i q->bY P c q sl e z
theorem JS{k:E}{u:K->Prop}(H:b.status=.running)(O:∀q,aU f m a q->∃n t p l new s,stepG P J b q=.go n l (kept s).toArray/\bB f m t a p q l new s/\(∀g,h g->p.heap[g]?=a.heap[g]?)/\
 (∀i∈new,i.write=J->∀g,h g->i.loc≠.obj g/\∀N,i.loc=.cell N->N.block≠g)/\n.status=.running/\u l/\Hc P k d u z f h t p n):RG P k d z f h m a b:=by
 intro i x q sl L w e;refine la (s:=cY P k d) H (λi x q sl L w e=>?_) i x q sl L w e;obtain⟨n,t,p,l,new,s,Q,o,r,y,R,S,T⟩:=O q e.bf.rel;have D:=fE e.bf o r y e.hears b.frame.fn b.frame.place;have U:=(XZ.1 e.me).1;exact⟨_,_,_,iY (P:=P) e.me Q,T _ _ _ _ _ _ ⟨(cY P k d).main e.ok e.bC e.bf e.me e.hears H R o r y,e.bC.step D,e.bf.own o r D,by simp[U],by rw[js o.lE];exact e.hears⟩ S⟩
theorem nR{k:E}{g:K->Prop}{i:XD}(y:∀(q:K) c,g q->g (q.at c))(t:b.status=.running)(H:i.status=.running)(w:∀q,stepG P J b q=.go i q)(next:Hc P k d g z f h m a i):Hc P k d g z f h m a b:=by
 intro p r q sl u o e n;refine vV y t (λp r q sl u o e n=>?_) p r q sl u o e n;have l:=bB.refl e.bf.rel;have s:=fE e.bf l (λ_ _=>rfl) (by simp) e.hears b.frame.fn b.frame.place;have D:=(XZ.1 e.me).1;have x:stepG P J b q=.go i q (kept []).toArray:=by rw[w q];rfl
 exact⟨_,_,_,iY (P:=P) e.me x,next _ _ _ _ _ _ ⟨(cY P k d).main e.ok e.bC e.bf e.me e.hears t H l (λ_ _=>rfl) (by simp),e.bC.step s,e.bf.own l (λ_ _=>rfl) s,by simp[D],by exact e.hears⟩ n⟩
def zx(B a:E)(q:K):Prop:=∃c b,q.heap[B]?=C (Xx #[.chan (C a)] c b)
theorem JU{r B a6:E}{a5:E->Xn}{W:E->Prop}{Sp:Set}{b0 a7:XD}(f5:b.status=.running)(g0:∀q,stepG P J b q=.spawn b0 a7 q #[])(e2:a7.status=.running)
 (R:Closed X a)(d7:∀b,(0<b\/b=P.globals.size)->b<=P.globals.size->X b)(f9:∀g,W g->X g)(d4:m a6 B)(e0:X a6)(i4:∀g,h g->X g)(f6:∀g,IA g->h g)
 (f8:jE P Sp X (Jd ⟨r,c,a5,W,dC X m,B⟩) (je P ⟨r,c,a5,W,dC X m,B⟩ Sp X c) (λg i=>X g/\m g i) (jX X a) a7)
 (next:∀g8,ti P (C (g8,⟨r,c,a5,W,dC X m,B⟩,0)) F z f X m (jX X a) b0):Hc P r (.chan 4 #[] Xp 0 0 Xp) (zx B r) z f h m a b:=by
 classical
 intro a8 y q sl L u b3 b4;refine vV (λ_ _ p=>p) f5 (λa8 y q sl L u b3 b4=>?_) a8 y q sl L u b3 b4;obtain⟨⟨d3,_,S⟩,a0,o,c6,e3⟩:=b3;have c0:dJ (aj P F) 0 a8 y q L u ⟨f,m,a,h,F⟩ b:=⟨d3,a0,o,c6,e3⟩
 have f0:∀g i,m g i->∀e,az e i->RM e->h g:=λg i k e l⟨O,D,a1⟩=>by
  have w:=a0.jV.ro e O D a1;rcases o.dz g i k e l with p|⟨_,p⟩
  .simp_all
  exact p
 have e1:=Dl (f:=⟨f,m,a,h,F⟩) c0 A rfl (wO o o.base o.rel o.cQ (λg i k e l a2=>by rcases o.dz g i k e l with p|⟨p,_⟩<;>(simp_all)) a0 (λ_ _ p=>p) f6)
 have c7:∀{e:Loc}{i:E},az e i->e.isMemory=J:=λp=>bQ p
 have f2:∀{e:Loc}{g i:E},m g i->az e i->¬az e r:=by
  intro e g i k w n;have:i=r:=by
   rcases w with rfl|⟨t,rfl,rfl⟩
   .rcases n with n|⟨Y,n,_⟩
    .simp_all
    cases n
   rcases n with n|⟨Y,n,b1⟩
   .cases n
   simp_all
  subst this;exact S.free g k
 let x:Loc->Own:=λe=>if az e r then .sync else if dC X m e then .ro else du u e
 have h5:∀e,az e r->du u e=.iQ 0:=λe l=>by unfold du;split<;>first|exact S.own e l|rfl
 have h6:∀g i,m g i->∀e,az e i->du u e=.iQ 0\/(du u e=.ro/\h g):=λg i k e l=>by
  have:u e≠.sync:=λa2=>by rcases o.dz g i k e l with p|⟨p,_⟩<;>(simp_all)
  unfold du;split
  .rename_i p;have e9:=p.resolve_left this;obtain⟨O,D,a1⟩:=e9;exact Xs ⟨a0.jV.ro e O D a1,f0 g i k e l ⟨O,D,a1⟩⟩
  simp
 have c8:∀e,az e r->x e=.sync:=by grind
 have c9:∀e,dC X m e->x e=.ro:=λe⟨g,i,s,k,l⟩=>by grind
 have g7:∀e,¬az e r->¬dC X m e->x e=du u e:=λe w n=>by grind
 have d5:jc (du u) x:=by
  intro e f1
  grind [dC]
 have d0:∀e,dC X m e->Perm L 0 e:=λe⟨g,i,s,k,l⟩ U Y g3 g4=>by obtain⟨H,T,f4⟩:=ZZ g3;refine yp c0 A U H Y T f4 (g4▸c7 l) λa2=>?_;rcases o.dz g i k e l with p|⟨p,_⟩<;>(simp_all)
 let Z:PD:=⟨r,c,a5,W,dC X m,B⟩
 have i1:∀a4,kK Z q x a4 0 0 Xp #[]:=λa4=>⟨S.heap,A,by simp,c8 _ (Xr A),λa3 t s=>by simp at s⟩;obtain⟨b7,b2⟩:=f8.tree
 have h0:∃Q N a9,runT P (crowd y q sl) 0=(.next (crowd Q q sl),N)/\dJ (aj P (C (y.size,Z,0))) 0 a9 Q q (L++N) x ⟨f,m,jX X a,X,F⟩ b0:=by
  refine vZ (h:=F) (m:=C (y.size,Z,0)) (sl:=sl) (f:=⟨f,m,jX X a,X,F⟩) (b:=x) e1 (g0 q) d5 (a1:=.pr Z c b7 ⟨Sp,λg i=>X g/\m g i,jX X a,X,F⟩)
   (λe f1 i3=>by
     by_cases w:az e r
     .exact Xs (Xs (Xs ⟨c8 e w,λU t s a2=>S.none U t s (a2▸w)⟩))
     grind)
   (λN b5=>{
     base:=o.base
     low:=o.low
     rel:=o.rel.jX R
     cQ:=rF R
     dz:=λg i k e l=>by
      by_cases s:X g
      .grind
      left;rw[g7 e (f2 k l) (λ⟨d2,O,b6,d8,D⟩=>?_)]
      .grind
      have:i=O:=by
       rcases l with rfl|⟨t,rfl,rfl⟩
       .rcases D with n|⟨Y,n,_⟩
        .simp_all
        cases n
       rcases D with n|⟨Y,n,b1⟩
       .cases n
       simp_all
      subst this;exact s ((o.rel.inj g d2 i i k d8).2 A▸b6)
     dY:=λg i k e l f3=>by
      have f7:dC X m e:=by grind [dC]
      exact(PermW.of (d0 e f7)).app λH T t s _ _=>(b5.touch H T t s).elim})
   (λN b5 e7 e4 g1=>?_)
   (λb7 b2=>by cases b2) (λd1 w n a3 e5 e6 h1 b8=>by rw[n a3 e5 e6]at b8;cases b8) (λd1 _ h4 d6=>by cases d6) (Xs A) (λd1 w n=>?_)
  .refine⟨e2,Ye _,⟨0,#[],by grind⟩,?_,e4,⟨⟨λg i b9 k=>k.2,λg b9=>?_⟩,?_,λg i k _ e l=>⟨g,i,k.1,k.2,l⟩⟩,b2⟩
   .exact{
     base:=ld o.base d7
     low:=⟨o.low.1,λg i k d9=>o.low.2 g i k.2 d9⟩
     rel:=o.rel.part R
     cQ:=rF R
     dz:=λg i k e l=>Xs ⟨c9 e ⟨g,i,k.1,k.2,l⟩,k.1⟩
     dY:=λg i k e l f3 a3 t s g2 i5=>by
      obtain⟨H,T,b6⟩:=ZZ s;rcases Yf T with⟨_,i2⟩|⟨_,e8⟩
      .exact e7 _ (d0 e ⟨g,i,k.1,k.2,l⟩ a3 t (by simp_all [YX]) g2)
      exact(b5.touch H e8 t b6).elim}
   .obtain⟨h7,L,h8,q1,_⟩:=R g (f9 g b9)
    grind [qF]
   exact⟨λU H t w n b1 h9 i0=>(g1 U H t w n b1).elim,c9,λe⟨g,i,s,k,l⟩=>⟨c7 l,(bj l).2 (o.rel.right k)⟩,b4,λe l=>⟨a6,B,e0,d4,l⟩⟩
  refine⟨(XZ.1 c6).1,by simp,by simp[aF.pd],?_⟩;exact⟨_,_,_,_,_,S.heap⟩
 obtain⟨Q,N,a9,g5,g6⟩:=h0;exact⟨Q,q,N,g5,next y.size a9 Q q sl (L++N) x g6⟩
end
variable{b:K}{a:XD}{e:E}{k:K}
section
variable{n:Xz dv}{d:E}{c:PD}{l:Xn}
theorem JK(R:a.status=.running)(w:∀k,aU f m b k->Jd c k->∃r H t u new y,stepG P J a k=.go r u (kept y).toArray/\bB f m H b t k u new y/\(∀o,h o->t.heap[o]?=b.heap[o]?)/\
 (∀p∈new,p.write=J->∀o,h o->p.loc≠.obj o/\∀D,p.loc=.cell D->D.block≠o)/\r.status=.running/\ti P (C (e,c,d)) n z f h H t r):ti P (C (e,c,d)) n z f h m b a:=by
 intro p v k sl S N g;refine la (s:=aj P (C (e,c,d))) R (λp v k sl S N g=>?_) p v k sl S N g;have Y:Jd c k:=by
  obtain⟨a3,_,X,x,q,i,_⟩:=g.ok;have s:=X.each e _ x (Yb q);generalize a3 e=a2 at i s;cases a2 with
  |lv a1=>cases i
  |wk D=>cases i
  |pr L a0 T a4=>cases i;exact s.2.2.2.2.2.1.2.1.kn
  |pb L a0 T a4 a6 b1 l=>cases i;exact s.2.2.2.2.2.2.1.2.1.kn
  |pq L a1=>cases i;obtain⟨_,_,_,_,_,_,w⟩:=s;exact w.kn
 obtain⟨r,H,t,u,new,y,x,q,i,O,U,W⟩:=w k g.bf.rel Y;have Q:=fE g.bf q i O g.hears a.frame.fn a.frame.place;have Z:0<v.size:=(XZ.1 g.me).1;exact⟨_,_,_,iY (P:=P) g.me x,W _ _ _ _ _ _ ⟨(aj P (C (e,c,d))).main g.ok g.bC g.bf g.me g.hears R U q i O,g.bC.step Q,g.bf.own q i Q,by simp[Z],by rw[js q.lE];exact g.hears⟩⟩
theorem CM(y:AtRecv P c.rc l a a)(S:d<c.n->∀o,an f m (c.τ d) o->ti P (C (e,c,d+1)) F z f h m b (Go.Conc.served a (.tuple #[o,.bool J])))
 (R:d=c.n->ti P F F z f h m b (Go.Conc.served a (.tuple #[l,.bool Xp]))):ti P (C (e,c,d)) F z f h m b a:=by
 intro O Q N sl W L g;refine((Kg y O).1 Q N sl W L ⟨f,m,b,h,F⟩ a g.ok g.bC g.bf g.me g.hears y).bind λu s D H T=>?_;obtain⟨t,r,v,w,x,⟨q1,o,p,q,U⟩|⟨q1,p,q⟩⟩:=T
 .exact S q1 o q t u s D H r ⟨U,v,w,p,x⟩
 exact R q1 t u s D H r ⟨q,v,w,p,x⟩
theorem PL{r:Ren}{t:E->Prop}(u:∀g q,r g q->m g q)(D:Base P m->Base P r)(N:∀p,aU f m b p->aU f r k p)(Q:mF f t k)(O:∀g,IA g->t g)(next:ti P F F z f t r k a):ti P F F z f h m b a:=by
 intro w x p sl S v o;refine next w x p sl S (du v) (Dl o A rfl (wO o.bf (D o.bf.base) (N p o.bf.rel) Q (λg q y R L H=>?_) o.bC u O))
 rcases o.bf.dz g q (u g q y) R L with s|⟨s,_⟩<;>(rw[H]at s;cases s)
end
section
variable{i:K->Prop}{Stop:Ren->K->XD->Prop}
def yJ(P:XI)(f:Set)(h:E->Prop)(i:K->Prop)(Stop:Ren->K->XD->Prop)(v:∀m(b:K) g a,Stop m {b with tape:=g} a->Stop m b a):Goal P f Xp h where
 G:=jE P f h i Stop
 OV:=λk d=>(jE.SR d).bind λ_ _ _ d=>d.2
 tape:=by
  intro m b g a d;generalize l:({b with tape:=g}:K)=H at d;cases d with
  |stop d=>subst l;exact .stop (v _ _ _ _ d)
  |step k y d w=>subst l;refine .step k y (λn e hF=>?_) w;obtain⟨p,D,z,o,new,x,q,c,r,s,t,u⟩:=d n ⟨e.inj,e.obj,e.os⟩ hF;exact⟨p,D,z,o,new,x,q,⟨c.le,c.rel,c.lE,c.size,c.uW,c.os,c.out,c.tape,c.same,c.wr,c.fresh,c.iK,c.ou,c.qz,c.iz,c.rf,c.jX⟩,r,s,t,u⟩
theorem wN(r:a.status=.running)(n:∀g,aU f m b g->i g->∃d k e o new p,stepG P Xp a g=.go d o (kept p).toArray/\bB f m k b e g o new p/\(∀c,h c->e.heap[c]?=b.heap[c]?)/\
 (∀l∈new,l.write=J->∀c,h c->l.loc≠.obj c/\∀q,l.loc=.cell q->q.block≠c)/\d.status=.running/\jE P f h i Stop k e d):jE P f h i Stop m b a:=
 .step r (λ_ k e d=>jE P f h i Stop k e d) n λ_ _ _ _ n=>n
end
variable{d:Xn}{b:Xu Xn}{a:K}
open Classical in
noncomputable def jk(X:E->Prop)(d:Xn):Xn:=if aQ X d then d else .tuple #[]
theorem cV(a:aQ X d):jk X d=d:=XN a
theorem pF(a:¬aQ X d):jk X d=.tuple #[]:=XH a
theorem an.SM{m:Ren}{e:Xn}(a:an f m d e)(c:bN d):bN e:=by
 cases a<;>first|exact c|trivial|(cases c;done)|skip
 rename_i fn k l n b h g _ _ _ _;cases g with
 |func i a=>trivial
 |yield a=>trivial
theorem an.jk{Sp:Set}{m:Ren}{i:Xn}(h:an f m d i)(n:aQ X d\/bN d):an Sp (λe g=>X e/\m e g) (Sim.jk X d) i:=by
 by_cases c:aQ X d
 .rw[cV c];exact an.Ty (λe g k l=>⟨k,l⟩) c h
 rw[pF c];exact .bS (h.SM (n.resolve_left c))
theorem aw.jk{Sp:Set}{m:Ren}{h:Xu Xn}(i:aw f m b h)(p:∀(c:E) e,b[c]?=C e->aQ X e\/bN e):aw Sp (λg o=>X g/\m g o) (b.map (Sim.jk X)) h:=by refine⟨by simpa using i.1,λc e s k r=>?_⟩;rw[Yu]at k;obtain⟨n,l,rfl⟩:=YP.1 k;exact(i.2 c n s l r).jk (p c n l)
noncomputable def Obj.part(X:E->Prop):Obj->Obj
 |.cells b e _=>.cells (b.map (jk X)) e (0,b.size)
 |c=>c
open Classical in
noncomputable def cR(X:E->Prop)(a:K):K:={a with heap:=a.heap.mapIdx λe c=>if X e then Obj.part X c else c}
theorem dp(X:E->Prop)(a:K):(cR X a).heap.size=a.heap.size:=by simp[cR]
theorem nG{b:E}(c:X b):(cR X a).heap[b]?=(a.heap[b]?).map (Obj.part X):=by simp only[cR,W_,c,Ym]
theorem dZ{c:E}(f:X c){d:XA}{e:E×E}(g:a.heap[c]?=C (Xx b d e)):(cR X a).heap[c]?=C (Xx (b.map (jk X)) d (0,b.size)):=by rw[nG f,g];rfl
def jD(X:E->Prop)(a:K):Prop:=∀c,X c->
 (∃b k g,a.heap[c]?=C (Xx b k g)/\0<b.size/\g.2<=b.size/\(∀(h:E) d,b[h]?=C d->aQ X d\/bN d)/\¬aS b)\/
 ∃f i,a.heap[c]?=C (.map f i)/\∀e∈f.toList,aQ X e.key/\aQ X e.val
section
variable{Sp:Set}{m:Ren}
theorem Dk{d e:XS->XS->Prop}{c g:Xq XS}(h:aY d c g)(f:∀a b,a∈c->d a b->e a b):aY e c g:=by
 induction h with
 |nil=>exact .nil
 |cons i _ l=>exact .cons (f _ _ (Zi ..) i) (l λa b k=>f a b (Yw _ k))
theorem aU.cR(k:aU f m a q)(H:jD X a):aU Sp (λc e=>X c/\m c e) (Sim.cR X a) q where
 inj:=λc x e y z D=>k.inj c x e y z.2 D.2
 os:=k.os
 obj:=by
  rintro c e⟨n,g⟩;obtain⟨Y,v,h,r,s⟩:=k.obj c e g;rcases H c n with⟨b,w,U,q1,i,Q,R,_⟩|⟨T,u,q1,i⟩
  .rw[h]at q1;cases q1;refine⟨_,v,dZ n h,r,?_⟩;cases s with
   |cells w O L=>exact .cells w (O.jk R) (vM L i Q)
  rw[h]at q1;cases q1;refine⟨_,v,by rw[nG n,h];rfl,r,?_⟩;cases s with
  |map u N=>exact .map u (Dk N λp S t o=>⟨an.Ty (λc e l g=>⟨l,g⟩) (i p t).1 o.1,an.Ty (λc e l g=>⟨l,g⟩) (i p t).2 o.2.1,o.2.2⟩)
theorem JX(e:¬aS b):¬aS (b.map (jk X)):=by
 rintro⟨g,h,c⟩;rw[Yu]at c;obtain⟨i,f,a⟩:=YP.1 c;refine e ⟨g,h,?_⟩;rw[f];by_cases d:aQ X i
 .rw[cV d]at a;rw[a]
 rw[pF d]at a;cases a
theorem jP(h:jD X a):mF f X (Sim.cR X a):=λe c=>by
 rcases h e c with⟨b,p,n,q1,k,o,_,l⟩|⟨g,i,q1,_⟩
 .exact⟨_,dZ c q1,by simp,by simpa using k,JX l⟩
 exact⟨.map g i,by rw[nG c,q1];rfl,trivial⟩
theorem yO(o:Base P m)(i:jD X a)(p:∀d,(0<d\/d=P.globals.size)->d<=P.globals.size->X d)(q:f.cj=Xp\/∀c,X c->∀h k,a.heap[c]?≠C (.map h k)):Inv P f X (λc l=>X c/\m c l) (Sim.cR X a):=
 ⟨ld o p,jP i,q.imp id λn c e h k g=>by
   rcases i c e with⟨b,u,s,q1,_⟩|⟨r,t,q1,_⟩
   .rw[dZ e q1]at g;cases g
   exact n c e _ _ q1⟩
end
noncomputable def Act.jk(X:E->Prop)(c:XF):XF:=⟨c.tmps.map (Sim.jk X),c.defers⟩
theorem ar.jk{Sp:Set}{m:Ren}{i:Rt}{c h:XF}(e:ar f m i c h)(hd:c.defers=[])(o:∀(p:E) g,c.tmps[p]?=C g->aQ X g\/bN g):ar Sp (λc l=>X c/\m c l) i (Act.jk X c) h:=
 ⟨e.tmps.jk o,by
   obtain⟨r,n,k⟩:=e.defers;rw[hd]at k;cases k
   exact⟨[],n,by show aY _ c.defers [];rw[hd];exact .nil⟩,e.kn⟩
structure TN(a e:K):Prop where
 size:e.heap.size=a.heap.size
 os:e.os=a.os
 heap:∀c:E,e.heap[c]?=a.heap[c]?\/∃b g h i,aS b/\a.heap[c]?=C (Obj.cells b g h)/\e.heap[c]?=C (Obj.cells b g i)
theorem EX{m:Ren}{i:K}(k:aU f m a i)(r:q.os=i.os)(s:∀c e g,m c e->i.heap[e]?=C g->BU g q e)(u:E->Prop):
 ∃h:K,TN a h/\h.tape=a.tape/\aU f m h q/\∀c,u c->h.heap[c]?=a.heap[c]?:=by
 refine⟨a,⟨A,A,λ_=>Xr A⟩,A,⟨k.inj,λc e l=>?_,k.os.trans r.symm⟩,λ_ _=>rfl⟩;obtain⟨g,n,o,p,t⟩:=k.obj c e l;exact⟨g,n,o,s c e n l p,t⟩
def Ren.plus(m:Ren)(e:E)(d:Xq E):Ren:=λa b=>m a b\/∃c,a=e+c/\d[c]?=C b
theorem Ren.Ih(m:Ren)(b:E)(a:Xq E):m.le (Ren.plus m b a):=λ_ _ c=>Xr c
theorem Kt{m:Ren}(p:aU f m a q){l:Xq E}(L:l.Nodup)(w:∀d∈l,∀n,¬m n d){Os:Xq Obj}(O:Os.length=l.length)
 (N:∀(e:E) d,l[e]?=C d->∃i k,Os[e]?=C i/\q.heap[d]?=C k/\gQ f (Ren.plus m a.heap.size l) i k):
 aU f (Ren.plus m a.heap.size l) {a with heap:=a.heap++Os.toArray} q where
 inj:=by
  rintro n u d v(c|⟨e,rfl,c⟩)(h|⟨s,rfl,h⟩)
  .exact p.inj n u d v c h
  .refine⟨λg=>?_,λg=>?_⟩
   .obtain⟨i,k,b,_⟩:=p.obj n d c;have:=(XZ.1 b).1;omega
   subst g;exact absurd c (w _ (Yn h) _)
  .refine⟨λg=>?_,λg=>?_⟩
   .obtain⟨i,k,b,_⟩:=p.obj u v h;have:=(XZ.1 b).1;omega
   subst g;exact absurd h (w _ (Yn c) _)
  refine⟨λg=>?_,λg=>?_⟩
  .have:e=s:=by omega
   subst this;rw[c]at h;cases h;rfl
  subst g;have D:=(YM.1 c);have H:=(YM.1 h);obtain⟨y,b⟩:=D;obtain⟨z,o⟩:=H;have x:=aaz.1 L;have:e=s:=by
   rcases E.lt_trichotomy e s with r|r|r
   .exact absurd (b.trans o.symm) (x e s y z r)
   .exact r
   exact absurd (o.trans b.symm) (x s e z y r)
  omega
 os:=p.os
 obj:=by
  rintro n d(c|⟨e,rfl,c⟩)
  .obtain⟨i,k,b,o,t⟩:=p.obj n d c;exact⟨i,k,by rw[aau (XZ.1 b).1];exact b,o,t.mono (Ren.Ih m _ l)⟩
  obtain⟨i,k,b,o,t⟩:=N e d c;exact⟨i,k,by rw[C_ (by omega)];simpa using b,o,t⟩
theorem Ks{Os:Xq Obj}{b:E}{c:Obj}(d:Os[b]?=C c):(a.heap++Os.toArray)[a.heap.size+b]?=C c:=by rw[C_ (by omega)];simpa using d
variable{b:XD}{c:XO}{e:Xq Ms}{o:E->Prop}
section
variable{a:dc}{l:bR}{d:Loc->Own}
theorem As(H:dJ (aj P a) 0 e U q c T y b)(W:jc T d)
 (b0:∀s,s.isMemory=J->d s≠T s->d s=.ro\/d s=.void\/(d s=.sync/\∀p N,touchAt c p=C N->N.loc≠s))
 (b2:aG P c q d 0 l)(X:y.tag=F)(a7:∀r,bz P U q c T y r->eP a U q r->∀g,0<g->g<U.size->Holds (r g) y l)
 (b3:∀r,bz P U q c T y r->r 0=.lv 0->∀x,l.tag=C x->dV x r U.size q d):∃a5,dJ (aj P a) 0 a5 U q c d l b:=by
 obtain⟨r,rfl,D,a1⟩:=H.ok
 let v:E->aF:=λp=>if p=0 then .lv 0 else r p
 have w:∀p,0<p->v p=r p:=λp Z=>XH (by omega);have u:bz P U q c T y v:=⟨λg O n L=>by rw[w g n];exact D.each g O n L,λg j a3 a4 n Y Q a8 R S=>by rw[w g n]at R;rw[w j Y]at S;exact D.one g j a3 a4 n Y Q a8 R S,D.above,λa2 t=>(by rw[X]at t;cases t),D.ops⟩;have a0:eP a U q v:=by
  cases a with
  |none=>intro g n Q;rw[w g n];exact a1 g n Q
  |some N=>obtain⟨b4,b8,p⟩:=N;obtain⟨q1,b5,b6,b7⟩:=a1;exact⟨q1,b5,by rw[w b4 q1];exact b6,b7⟩
 have b9:c++(#[]:XO)=c:=by simp
 have G:=H.bC.jH W pn.nil (n:=0) (λs a9 a6=>Xs (b0 s a9 a6)) (λp Z=>by exact Z);refine⟨_,⟨v,A,⟨λg O n L=>?_,u.one,u.above,λx t=>b3 v u A x t,u.ops⟩,a0⟩,G,b2,H.me,H.hears⟩;have:=(u.each g O n L).jH (by omega) W pn.nil (λc0 b1=>by simp at b1) (a7 v u a0 g n (XZ.1 L).1) (λa2 t=>by rw[X]at t;cases t);simp_all
theorem OD{a:E->E}(d:∀b,b<i->a b=0):sumTo i a=0:=by
 have:=Go.ConcN.sumTo_le (f:=a) (c:=0) (j:=i) λg f=>by simp_all
 omega
def kq(a:dc)(o:E->Prop):Prop:=∀f b c,a=C (f,b,c)->(∀c,ft b.sh (b.τ c))/\∀d,b.sh d->o d
theorem holds_of{e:Xq Ms}(L:kq a o)(R:∀r u,o r->y.β r u->l.β r u):∀n,bz P U q c T y n->eP a U q n->∀g,0<g->g<U.size->Holds (n g) y l:=by
 intro n N x g v w D p;cases a with
 |none=>rw[x g v w]at p;cases p
 |some Q=>
  obtain⟨s,H,S⟩:=Q;obtain⟨q1,O,t,Y⟩:=x;have:g=s:=by
   have c1:(n g).chan=C D.rc:=by rw[aF.cD,p];rfl
   have c2:(n s).chan=C H.rc:=by rw[aF.cD,t];rfl
   exact N.one g s _ _ v q1 w O c1 c2
  subst this;rw[p]at t;cases t;obtain⟨W,X⟩:=L _ _ _ A;simp_all
theorem Ik(r:dJ (aj P a) 0 e U q c T y b):∀h k n,a=C (h,k,n)->∀d,k.mine d->T d=.ro:=by
 rintro h k n rfl d l;obtain⟨x,_,p,s⟩:=r.ok;obtain⟨q1,v,f,Q⟩:=s;have i:=p.each h _ q1 (Yb v);generalize x h=w at i f;cases w with
 |lv u=>cases f
 |wk S=>cases f
 |pr m t o z=>cases f;obtain⟨_,_,_,_,_,⟨_,g,_⟩,_⟩:=i;exact g.ro d l
 |pb m t o z D R W=>cases f;obtain⟨_,_,_,_,_,_,⟨_,g,_⟩,_⟩:=i;exact g.ro d l
 |pq m u=>cases f;obtain⟨_,_,h,_,_,_,g⟩:=i;exact g.ro d l
end
section
variable{a:dc}
def RN(m:Ren):Prop:=∀a b,m a b->b<dE.heap.size->IA a
def FK(m:Ren)(b:E)(c:K)(a:E)(f:Obj):Prop:=(∃d,m d a)/\a≠b/\c.heap[a]?=C f
theorem JO{a2:E->XD}{N:E->Prop}{a8 a1 b7:E}{yL O k1:XA}{g6 d2:E×E}{cl:Xu Xn}{own:E->E->E->Prop}{fin:E->Fin}
 (f3:b.status=.running)(j2:∀g0,(a2 g0).status=.running)(j4:∀q,stepG P J b q=.go (a2 q.heap.size) {q with heap:=q.heap.push (Go.ConcR.wgBlock O 0 0)})
 (e8:jD N k)(l4:∀p,N p->∀g5 d9,k.heap[p]?≠C (.map g5 d9))(i1:∀b,(0<b\/b=P.globals.size)->b<=P.globals.size->N b)(f5:∀p,h p->N p)
 (g8:k.heap[a8]?=C (Xx #[Xw (C ⟨a1,0,F⟩) i i] k1 g6))(h0:∃W,m a8 W)(l3:¬h a8)(BK:k.heap[a1]?=C (Xx cl yL d2))(i0:d2.1=d2.2)(i3:cl.size=b7)(f0:¬N a1)(g9:a8≠a1)
 (h7:∀a0 w j c8,own a0 w c8->own a0 j c8->w=j)(h3:kq a h)
 (next:∀(a7:K) W v a0,aU f m k a7->m a8 W->m a1 v->0<a0->(∀p n,m p n->∀g,az g n->¬h p->¬tj a (λ_=>.ro) g)->Base P m->RN m->
   ti P a (C ⟨⟨O,a7.heap.size,W,Xw (C ⟨v,0,F⟩) i i,v,yL,b7,own a0,FK m v a7,C a7⟩,0,0,0,a0,a0,fin a0⟩) z f N (λp n=>N p/\m p n) (cR N k) (a2 a7.heap.size)):
 ti P a F z f h m k b:=by
 classical
 intro e U q sl c T s;refine la (s:=aj P a) f3 (λe U q sl c T s=>?_) e U q sl c T s;refine⟨_,_,_,iY (P:=P) s.me (j4 q),?_⟩;obtain⟨f9,l7⟩:∃f9,f9=Go.ConcR.wgBlock O 0 0:=⟨_,A⟩;have lt:∀p n,m p n->n<q.heap.size:=λp n u=>s.bf.rel.right u
 have f4:aU f m k {q with heap:=q.heap.push (Go.ConcR.wgBlock O 0 0)}:=⟨s.bf.rel.inj,λp n r=>by
  obtain⟨c6,e1,g3,e6,g4⟩:=s.bf.rel.obj p n r
  exact⟨c6,e1,g3,by rw[R_ (lt p n r)];rw[Yb (lt p n r)]at e6;exact e6,g4⟩,s.bf.rel.os⟩
 have b9:∀n,n<q.heap.size->(q.heap.push (Go.ConcR.wgBlock O 0 0))[n]?=q.heap[n]?:=λn a4=>by rw[R_ a4,Yb a4]
 have e4:bB f m m k k q {q with heap:=q.heap.push (Go.ConcR.wgBlock O 0 0)} [] []:=by refine{bB.refl s.bf.rel with rel:=f4,uW:=by simp,same:=λn a4 _=>Xr (b9 n a4)}
 have b5:=fE s.bf e4 (λ_ _=>rfl) (by simp) s.hears b.frame.fn b.frame.place;have i8:0<U.size:=(XZ.1 s.me).1;have i6:XP 0 b.frame.fn b.frame.place (kept []).toArray=XP 0 b.frame.fn b.frame.place #[]:=by simp[kept]
 have D:=(aj P a).main (g₁:=a2 q.heap.size) s.ok s.bC s.bf s.me s.hears f3 (j2 _) e4 (λ_ _=>rfl) (by simp);have H:=s.bC.step b5;have a3:=s.bf.own e4 (λ_ _=>rfl) b5;have e5:XP 0 b.frame.fn b.frame.place #[]=#[]:=by simp[XP]
 rw[i6,e5,aay]at D H a3;rw[e5,aay];have l5:=Ik s;obtain⟨R,d3⟩:∃R,R=Own.more T 0 q.heap.size (q.heap.push (Go.ConcR.wgBlock O 0 0)).size:=⟨_,A⟩;simp only at D H a3;rw[<-d3]at D H a3;obtain⟨x,d7⟩:∃x,x=((U.map (Go.Conc.woken P b (a2 q.heap.size) {q with heap:=q.heap.push (Go.ConcR.wgBlock O 0 0)})).setIfInBounds 0 (a2 q.heap.size)):=⟨_,A⟩;have d5:dJ (aj P a) 0 e x {q with heap:=q.heap.push (Go.ConcR.wgBlock O 0 0)} c R ⟨f,m,k,h,F⟩ (a2 q.heap.size):=⟨by rw[d7];exact D,H,a3,by rw[d7];simp[i8],s.hears⟩;rw[<-d7];obtain⟨W,Lk⟩:=h0
 have i7:∃v k0 a5,m a1 v/\q.heap[W]?=C (Xx #[Xw (C ⟨v,0,F⟩) i i] k0 a5):=by
  obtain⟨c6,e1,q1,S,X⟩:=s.bf.rel.obj _ _ Lk;rw[g8]at q1;cases q1;cases X with
  |cells m2 c0 _=>
   rename_i c2 _ k9;have b1:=c0.1;simp at b1;have Q:=c0.2 0 (Xw (C ⟨a1,0,F⟩) i i) c2[0] (by simp) (Yb (by omega));cases Y:c2[0]with
   |slice m0 g b3=>
    rw[Y]at Q;cases Q with
    |slice d4=>
     rename_i g1;obtain⟨j6,j7,j8⟩:=d4;obtain⟨v,l9,m1⟩:=g1;subst j7 j8
     have d6:c2=#[Xw (C ⟨v,0,F⟩) i i]:=by
      apply aas (by simp[b1]);intro w a9 b8;obtain rfl:w=0:=by omega
      simp[Y]
     rw[d6]at S;exact⟨v,_,_,j6,S⟩
   |_=>rw[Y]at Q;cases Q
 obtain⟨v,k2,g7,xv,h1⟩:=i7
 have i2:∃b3 a5,q.heap[v]?=C (Xx b3 yL a5)/\a5.1=a5.2/\b3.size=b7:=by
  obtain⟨c6,e1,q1,S,X⟩:=s.bf.rel.obj _ _ xv;rw[BK]at q1;cases q1;cases X with
  |cells c c0 b4=>
   refine⟨_,_,S,?_,by rw[<-c0.1];exact i3⟩;rcases b4 with b4|⟨b4,_⟩
   .exact b4
   exact absurd i0 b4
 have j0:W≠v:=λa6=>g9 ((s.bf.rel.inj _ _ _ _ Lk xv).2 a6);have h2:=lt _ _ xv;have c9:∀{g:Loc}{p n:E},m p n->az g n->R g=T g:=λr t=>by rw[d3];exact qW t (lt _ _ r)
 have d0:=s.bf.dz;have k3:∀g,az g q.heap.size->R g=.iQ 0:=λg t=>by rw[d3];exact qV t (Ye _) (by simp)
 have e0:∀{g:Loc}{p n:E},m p n->az g n->¬az g q.heap.size:=λr D H=>by have:=di D H;have:=lt _ _ r;omega
 let b6:Loc->Prop:=λg=>∃p n,m p n/\az g n/\n≠v/\R g=.iQ 0
 let d:Loc->Own:=λg=>if az g q.heap.size then .sync else if g=.obj v then .void else if b6 g then .ro else R g
 have f8:∀g,az g q.heap.size->d g=.sync:=λg t=>XN t
 have f7:d (.obj v)=.void:=by show(if _ then _ else if _ then _ else _)=_;rw[XH (e0 xv (.inl A)),XN A]
 have c7:∀p n g,m p n->az g n->n≠v->d g=.ro:=λp n g r t b0=>by
  show(if _ then _ else if _ then _ else if _ then _ else _)=_;rw[XH (e0 r t),XH (λu=>b0 (di t (by rw[u];exact .inl A)))];by_cases b1:b6 g
  .rw[XN b1]
  rw[XH b1];have Y:R g≠.iQ 0:=λu=>b1 ⟨p,n,r,t,b0,u⟩;rcases d0 p n r g t with u|⟨u,_⟩
  .rw[c9 r t]at Y;exact absurd u Y
  rw[c9 r t];exact u
 have e2:∀g,¬az g q.heap.size->g≠.obj v->¬b6 g->d g=R g:=λg D H a3=>by show(if _ then _ else if _ then _ else if _ then _ else _)=_;rw[XH D,XH H,XH a3]
 have e9:∀g,az g v->R g=.iQ 0:=λg t=>by
  rw[c9 xv t];rcases d0 a1 v xv g t with u|⟨_,u⟩
  .exact u
  exact absurd (f5 _ u) f0
 have h4:jc R d:=by
  intro g i9;by_cases q1:az g q.heap.size
  .exact Xs (k3 g q1)
  by_cases S:g=.obj v
  .subst S;exact Xs (e9 _ (Xr A))
  by_cases X:b6 g
  .obtain⟨_,_,_,_,_,u⟩:=X;exact Xs u
  exact Xr (e2 g q1 S X)
 obtain⟨b2,e7⟩:∃b2:dv,b2=⟨⟨O,q.heap.size,W,Xw (C ⟨v,0,F⟩) i i,v,yL,b7,own x.size,FK m v q,C q⟩,0,0,0,x.size,x.size,fin x.size⟩:=⟨_,A⟩;have f1:0<x.size:=(XZ.1 d5.me).1
 have j3:aG P c {q with heap:=q.heap.push (Go.ConcR.wgBlock O 0 0)} d 0 ⟨f,λp n=>N p/\m p n,cR N k,N,C b2⟩:={
  base:=ld s.bf.base i1
  low:=⟨Yi s.bf.low.1 (by simp),λp n r a4=>s.bf.low.2 p n r.2 a4⟩
  rel:=f4.cR e8
  cQ:=jP e8
  dz:=λp n r g t=>Xs ⟨c7 p n g r.2 t λa6=>f0 (by have Q:=r.1;rw[(s.bf.rel.inj _ _ _ _ r.2 xv).2 a6]at Q;exact Q),r.1⟩
  dY:=λp n r g t l6=>by
   rcases d0 p n r.2 g t with u|⟨u,_⟩
   .exact PermW.of (d5.bC.mine g 0 (bQ t) (by rw[c9 r.2 t];exact u))
   exact s.bf.dY p n r.2 g t u}
 have j5:∀Z,bz P x {q with heap:=q.heap.push (Go.ConcR.wgBlock O 0 0)} c R ⟨f,m,k,h,F⟩ Z->Z 0=.lv 0->∀d1,C b2=C d1->dV d1 Z x.size {q with heap:=q.heap.push (Go.ConcR.wgBlock O 0 0)} d:=by
  intro Z h6 Y d1 h5;cases h5
  have Io:∀w L,0<w->w<x.size->Z w≠.wk L:=λw L a9 b8 a6=>by have:=h6.each w _ a9 (Yb b8);rw[a6]at this;obtain⟨k5,u,_⟩:=this;cases u
  have h9:∀w,w<x.size->(Z w).cnt=0:=λw a9=>by
   rcases Yp w with rfl|u
   .rw[Y];rfl
   have:=λL=>Io w L u a9;generalize Z w=e3 at this;cases e3 with
   |wk L=>exact absurd A (this L)
   |_=>rfl
  have f6:(sumTo x.size λw=>(Z w).cnt)=0:=OD h9;subst e7
  exact{
   zero:=by rw[Y];rfl
   mode:=by
    rw[f6];refine .opn A (YH _) (λj i4 i5=>?_) ?_
    .have:=λL=>Io j L i4 i5;generalize Z j=e3 at this;cases e3 with
     |wk L=>exact absurd A (this L)
     |_=>rfl
    show(q.heap.push (Go.ConcR.wgBlock O 0 0))[q.heap.size]?=_;simp
   rS:=f8
   Ab:=f7
   own:=λw L a9 b8 Q=>absurd Q (Io w L a9 b8)
   gb:=by obtain⟨b3,a5,q1,S,X⟩:=i2;exact⟨b3,a5,(b9 v h2).trans q1,S,X⟩
   gv:=⟨k2,g7,(b9 W (lt _ _ Lk)).trans h1⟩
   Lj:=c7 a8 W _ Lk (Xr A) j0
   ne:=by show v≠q.heap.size;omega
   apart:=λw j c8 D H=>h7 _ w j c8 D H
   yG:=by show x.size<x.size+1000000;omega
   bound:=by rw[f6];exact YH _
   ub:=⟨f1,Ye _,A,λw D H=>by
    have D:x.size<=w:=D;have H:w<x.size:=H
    omega⟩
   Io:=λw L D H Q=>absurd Q (Io w L D H)
   gh:=by refine⟨λa7 u=>by cases u;rfl,?_⟩;rintro n c6⟨⟨p,r⟩,H,a3⟩;exact⟨λg t=>c7 p n g r t H,(b9 n (lt _ _ r)).trans a3⟩
   Li:=λg t=>by
    by_cases f2:g=.obj v
    .subst f2;exact Xr A
    refine Xs (Xr ?_);show d g=_;rw[e2 g (e0 xv t) f2 λ⟨p,n,r,d8,b0,_⟩=>b0 (di d8 t)]
    exact e9 g t}
 obtain⟨k8,d6⟩:=As (l:=⟨f,λp n=>N p/\m p n,cR N k,N,C b2⟩) d5 h4 (λg i9 b0=>by
  by_cases q1:az g q.heap.size
  .refine Xs (Xs ⟨f8 g q1,λd9 L Q a6=>?_⟩);have:=s.bC.low d9 L Q;rw[a6,bj q1]at this;exact absurd this (E.lt_irrefl _)
  by_cases S:g=.obj v
  .subst S;exact Xs (Xr f7)
  by_cases X:b6 g
  .obtain⟨p,n,r,t,a4,_⟩:=X;exact Xr (c7 p n g r t a4)
  exact absurd (e2 g q1 S X) b0)
  j3 A (holds_of (e:=e) h3 λp n d4 r=>⟨f5 p d4,r⟩) j5
 subst e7;refine next q W v x.size s.bf.rel Lk xv f1 (λp n r g t j1 b5=>?_) s.bf.base s.bf.low.2 _ _ _ _ _ _ d6
 rcases b5 with⟨g2,d8,h8⟩|b5
 .have D:=s.bC.jV.ro g g2 d8 h8;rcases d0 p n r g t with u|⟨_,u⟩
  .rw[D]at u;cases u
  exact j1 u
 grind
end
variable{b:Xu Xn}{k:Xn}{W:Xn}{a:E}{o:Xn}{s:E}{D:Xq Ms}{z:XO}{g:E}
structure LR where
 d:XM
 st:Xq Xt
 names:Xq XM
 ev:Xn
def gy(c:Xq XM)(s:E)(sl:Xn)(r:K):Prop:=
 (sl=Xw F 0 0/\c=[])\/
 ∃e d b g u,sl=Xw (C ⟨e,0,F⟩) c.length d/\s<=e/\r.heap[e]?=C (Xx b g u)/\u.1=u.2/\c.length<=d/\d<=b.size/\
  ∀(a:E) f,c[a]?=C f->b[a]?=C (.string f)
def cm(a:LR)(s:E)(b:Xu Xn)(r:K):Prop:=a.st.length=7/\∃sl,b.toList=.string a.d::(a.st.map (.int M ·)++[sl])/\gy a.names s sl r
def TX(a W:Xn):Prop:=∀f m,an f m a W
def BV(c b:Xu Xn):Prop:=c.size=b.size/\∀(a:E) k W,c[a]?=C k->b[a]?=C W->TX k W
theorem px{d:Xn->Xn->Prop}(t:∀(a:E) W,b[a]?=C W->∃c,d c W):∃l:Xu Xn,l.size=b.size/\∀(a:E) k W,l[a]?=C k->b[a]?=C W->d k W:=by
 have v:∀a:E,∃c:Xn,∀W,b[a]?=C W->d c W:=λa=>by
  cases w:b[a]? with
  |none=>exact⟨I,λ_ D=>by cases D⟩
  |some W=>obtain⟨c,a0⟩:=t a W w;exact⟨c,λ_ D=>by cases D;exact a0⟩
 obtain⟨n,x⟩:=Classical.axiomOfChoice v;refine⟨((Xq.range b.size).map n).toArray,by simp,λa k W e i=>?_⟩;have Z:a<b.size:=(XZ.1 i).1;simp[Z]at e;subst e;exact x a W i
theorem VY(d:an f m k W):∃q,TX q W:=by
 induction d with
 |bS d=>exact⟨_,λ_ _=>.bS d⟩
 |bool s=>exact⟨_,λ_ _=>.bool s⟩
 |int v g=>exact⟨_,λ_ _=>.int v g⟩
 |string x=>exact⟨_,λ_ _=>.string x⟩
 |cJ=>exact⟨_,λ_ _=>.cJ⟩
 |ptr d=>exact⟨_,λ_ _=>.bS trivial⟩
 |aO g b=>exact⟨_,λ_ _=>.aO g b⟩
 |slice d g b=>exact⟨_,λ_ _=>.bS trivial⟩
 |fw=>exact⟨_,λ_ _=>.fw⟩
 |map d=>exact⟨_,λ_ _=>.bS trivial⟩
 |eg=>exact⟨_,λ_ _=>.eg⟩
 |chan d=>exact⟨_,λ_ _=>.bS trivial⟩
 |func t=>cases t with
  |func=>exact⟨_,λ_ _=>.bS trivial⟩
  |yield=>exact⟨_,λ_ _=>.bS trivial⟩
 |nilFunc=>exact⟨_,λ_ _=>.nilFunc⟩
 |iface z d e=>obtain⟨q,u⟩:=e;exact⟨_,λf m=>.iface z (u f m)⟩
 |nilIface=>exact⟨_,λ_ _=>.nilIface⟩
 |@agg b h n w e=>
  obtain⟨y,i,l⟩:=px (b:=h) (d:=TX) λa W c=>by
   have o:a<b.size:=by rw[n];exact(XZ.1 c).1
   exact e a _ W (Yb o) c
  exact⟨_,λf m=>.agg i λa k W p c=>l a k W p c f m⟩
 |@tuple b h n w e=>
  obtain⟨y,i,l⟩:=px (b:=h) (d:=TX) λa W c=>by
   have o:a<b.size:=by rw[n];exact(XZ.1 c).1
   exact e a _ W (Yb o) c
  exact⟨_,λf m=>.tuple i λa k W p c=>l a k W p c f m⟩
theorem OE{c:Xu Xn}(e:aw f m b c):∃d,BV d c:=by
 obtain⟨d,h,i⟩:=px (b:=c) (d:=TX) λa W g=>by
  have k:a<b.size:=by rw[e.1];exact(XZ.1 g).1
  exact VY (e.2 a _ W (Yb k) g)
 exact⟨d,h,i⟩
theorem BV.string{c d:Xu Xn}(b:BV c d){g:XM}(e:d[a]?=C (.string g)):c[a]?=C (.string g):=by
 have f:a<c.size:=by rw[b.1];exact(XZ.1 e).1
 have:=b.2 a _ _ (Yb f) e;rw[Yb f];generalize c[a]=l at this;have h:=this {fn:=λ_=>Xp,code:=λ_=>Xp,bi:=λ_ _=>Xp,fr:=λ_=>Xp,cj:=Xp} (λ_ _=>False);cases h with
 |bS b=>exact b.elim
 |string=>rfl
inductive Plain:Xn->Prop
 |string (d:XM):Plain (.string d)
 |int (c:IntKind) (g:Xt):Plain (.int c g)
 |slice (g b:E):Plain (Xw F g b)
 |nil:Plain .nilIface
 |iface (z:XA) (c:IntKind) (g:Xt):Plain (.iface z (.int c g))
theorem Plain.eq{d:Xn}(e:Plain o)(c:an f m o d):d=o:=by
 cases e with
 |iface=>cases c with|iface _ c=>cases c;rfl
 |_=>cases c;rfl
theorem Plain.refl(f:Set)(m:Ren)(a:Plain o):an f m o o:=by
 cases a with
 |string d=>exact .string _
 |int c g=>exact .int _ _
 |slice g b=>exact .aO _ _
 |nil=>exact .nilIface
 |iface z c g=>exact .iface z (.int _ _)
def QZ(p:E->LR)(g L s:E)(yL:XA)(r:K):Prop:=∃b u,r.heap[L]?=C (Obj.cells b yL u)/\b.size=g*10/\u.1=u.2/\
 ∀a,a<g->∃c,cm (p a) s c r/\(∀j,j<9->b[a*10+j]?=c[j]?)/\b[a*10+9]?=C (p a).ev
theorem NP(c:Xq E):∃b:Xq E,b.Nodup/\∀k,k∈b↔k∈c:=by
 induction c with
 |nil=>exact⟨[],.nil,λk=>Iff.rfl⟩
 |cons d c h=>
  obtain⟨b,f,e⟩:=h;by_cases g:d∈c
  .refine⟨b,f,λk=>?_⟩;rw[e];refine⟨λa=>Yw _ a,λa=>?_⟩;rcases Yg.1 a with rfl|a
   .exact g
   exact a
  exact⟨d::b,Xq.nodup_cons.2 ⟨λa=>g ((e d).1 a),f⟩,λk=>by simp[e]⟩
theorem cm.size{n:LR}{c:Xu Xn}(d:cm n s c r):c.size=9:=by obtain⟨e,sl,i,_⟩:=d;have:=Zc List.length i;simp[e]at this;exact this
theorem cm.at{a:LR}{c:Xu Xn}(g:cm a s c r):∃sl,gy a.names s sl r/\c[8]?=C sl/\∀j,j<8->∃o,c[j]?=C o/\Plain o/\(Value.string a.d::a.st.map (.int M ·))[j]?=C o:=by
 obtain⟨d,sl,h,i⟩:=g;have f:∀j:E,c[j]?=(Value.string a.d::(a.st.map (.int M ·)++[sl]))[j]?:=λj=>by rw[<-h];simp
 refine⟨sl,i,?_,λj m=>?_⟩
 .rw[f];simp[d]
 have k:(Value.string a.d::(a.st.map (.int M ·)++[sl]))[j]?=(Value.string a.d::a.st.map (.int M ·))[j]?:=by rw[<-Yz,Zo (by simp[d];omega)]
 have e:j<(Value.string a.d::a.st.map (.int M ·)).length:=by simp[d];omega
 refine⟨_,(f j).trans (k.trans (YN e)),?_,YN e⟩;have b:=aaS e;rcases Yg.1 b with b|b
 .rw[b];exact .string _
 obtain⟨n,_,l⟩:=YL.1 b;rw[<-l];exact .int _ _
theorem cm.mk'{a:LR}(c:a.st.length=7){sl:Xn}(b:gy a.names s sl r):cm a s (Value.string a.d::(a.st.map (.int M ·)++[sl])).toArray r:=⟨c,sl,by simp,b⟩
section
variable{N:dc}{O:E->Prop}{R:Ren}{Q X:K}{Y:XD}{y:dv}{p:E->LR}{L S H:E}{yL:XA}{u:E×E}{cl:Xu Xn}
theorem Kb(S:sc P N y D U q z T ⟨f,R,Q,O,F⟩)(d1:y.D.gn=g*10)
 (c9:∀c,c<g->∃a,y.lo<=a/\a<y.hi/\∀cl r,y.fin a cl r->∃a1,(c*10,a1)∈cl/\(c*10+9,#[(p c).ev])∈cl/\cm (p c) H a1 r)(c7:∀c,c<g->Plain (p c).ev)(f0:P.globals.size<=H):
 ∃b t,q.heap[y.D.gb]?=C (Xx b y.D.yL t)/\t.1=t.2/\b.size=g*10/\∀c,c<g->(p c).st.length=7/\(∀j,j<8->b[c*10+j]?=(Value.string (p c).d::(p c).st.map (.int M ·))[j]?)/\b[c*10+9]?=C (p c).ev/\
  ∃sl,b[c*10+8]?=C sl/\((sl=Xw F 0 0/\(p c).names=[])\/
   ∃e n s b4 u,sl=Xw (C ⟨e,0,F⟩) (p c).names.length n/\q.heap[e]?=C (Xx s b4 u)/\u.1=u.2/\(p c).names.length<=n/\n<=s.size/\
    (∃e7,BV e7 s)/\(∀(a:E) v,(p c).names[a]?=C v->s[a]?=C (.string v))/\P.globals.size<=e/\∀x,az x e->∃a,0<a/\y.lo<=a/\a<y.hi/\T x=.iQ a):=by
 obtain⟨b,t,q1,d9,e0⟩:=S.gb;refine⟨b,t,q1,d9,e0.trans d1,λc a8=>?_⟩;obtain⟨a,W,a7,c8⟩:=c9 c a8;obtain⟨_,_,cl,a0,l⟩:=S.left a W a7;obtain⟨a1,b2,d8,b0⟩:=c8 cl a0.w l.fin;obtain⟨sl,d6,c0,d2⟩:=b0.at
 have put:∀(Y:E) a2,(Y,a2)∈cl->∀(j:E) o,a2[j]?=C o->∃k,b[Y+j]?=C k/\an a0.S a0.β o k:=by intro Y a2 d5 j o m;obtain⟨c2,f9,e9,k,h,i,b8⟩:=l.Mu _ d5 j o m;rw[q1]at h;cases h;exact⟨k,i,b8⟩
 refine⟨b0.1,λj d3=>?_,?_,?_⟩
 .obtain⟨o,e4,e5,e6⟩:=d2 j d3;obtain⟨k,h,i⟩:=put _ _ b2 j o e4;rw[h,e5.eq i,e6]
 .obtain⟨k,h,i⟩:=put _ _ d8 0 (p c).ev (by simp);rw[show c*10+9=c*10+9+0 from A,h,(c7 c a8).eq i]
 obtain⟨k,h,i⟩:=put _ _ b2 8 sl c0;refine⟨k,h,?_⟩;rcases d6 with⟨rfl,d⟩|⟨e,n,s,b4,e8,rfl,f6,b3,Z,e1,e2,e3⟩
 .exact Xr ⟨(Plain.slice 0 0).eq i,d⟩
 right;cases i with
 |slice c6=>
  rename_i b5;obtain⟨L,f3,f7⟩:=b5;obtain⟨w,a3,a4⟩:=c6;simp only at w a3 a4;subst a3 a4;obtain⟨f4,f5,a5,b6,b7⟩:=l.bf.rel.obj e L w;rw[b3]at a5;cases a5;cases b7 with
  |cells f8 m d0=>
   rename_i c2 b9;refine⟨L,n,c2,_,b9,A,b6,?_,e1,by rw[<-m.1];exact e2,OE m,λa v d7=>?_,?_,λx d4=>⟨a,Yk S.pos W,W,a7,?_⟩⟩
   .rcases d0 with d|⟨d,_⟩
    .exact d
    exact absurd Z d
   .have a6:=e3 a v d7;have a9:a<c2.size:=by rw[<-m.1];exact(XZ.1 a6).1
    have:=m.2 a _ _ a6 (Yb a9);rw[Yb a9,(Plain.string v).eq this]
   .have:=(l.bf.base.2 e L w).2;omega
   rcases l.bf.dz e L w x d4 with d|⟨_,d⟩
   .exact d
   exfalso;obtain⟨f2,b1,X⟩:=l.bf.cQ e d;rw[b3]at b1;cases b1;obtain⟨X,f1⟩:=X;rw[X]at Z;simp at Z;omega
end
variable{c:K}{b:Xq Ms}{r:XO}{d:E}
section
variable{l:dc}{o:E->Prop}{v:Ren}{u s:K}{y:XD}{g:dv}{a:E->LR}{p k x:E}{yL:XA}{i:E×E}{cl:Xu Xn}
theorem Gl(c:Xq E)(b:E->Xz E):∃a:Xq E,a.Nodup/\∀d,d∈a↔∃e∈c,b e=C d:=by
 obtain⟨a,f,g⟩:=NP (c.filterMap b)
 grind
theorem PQ(b8:dJ (aj P l) 0 b U q r T ⟨f,v,u,o,F⟩ y)(b4:sc P l g b U q r T ⟨f,v,u,o,F⟩)
 (f5:cX o (λn e=>o n/\m n e) (cR o c) v u)(o6:jD o c)(g2:∀n,h n->o n)(d1:Inv P f h m c)
 (l3:g.D.gh=FK m k s)(l1:g.D.g0=C s)(i3:g.D.gb=k)(l5:g.D.yL=yL)(l4:g.D.gn=d*10)
 (e3:aU f m c s)(xv:m p k)(BK:c.heap[p]?=C (Xx cl yL i))(l0:i.1=i.2)(i4:¬o p)(k4:kq l h)
 (i6:∀n e,m n e->∀N,az N e->¬h n->¬tj l (λ_=>.ro) N)
 (k8:∀t,t<d->∃w,g.lo<=w/\w<g.hi/\∀cl c,g.fin w cl c->∃j1,(t*10,j1)∈cl/\(t*10+9,#[(a t).ev])∈cl/\cm (a t) x j1 c)(f4:∀t,t<d->Plain (a t).ev)(k5:P.globals.size<=x):
 ∃j6 g7 a6,dJ (aj P l) 0 b U q r j6 ⟨f,g7,a6,h,F⟩ y/\Inv P f h g7 a6/\cX h m c g7 a6/\
  (∀n,n<c.heap.size->n≠p->a6.heap[n]?=c.heap[n]?\/∃b0 r Z g9,aS b0/\c.heap[n]?=C (Obj.cells b0 r Z)/\a6.heap[n]?=C (Obj.cells b0 r g9))/\QZ a d p c.heap.size yL a6:=by
 obtain⟨b0,o5,q1,n3,n4,g5⟩:=Kb b4 l4 k8 f4 k5;rw[i3,l5]at q1;have f6:=λn e a4 W O b9=>b4.gh.2 e a4 (by rw[l3];exact⟨⟨n,W⟩,O,b9⟩)
 have f7:∀n e,m n e->∃a4,s.heap[e]?=C a4:=λn e W=>by obtain⟨a4,p5,_,f2,_⟩:=e3.obj n e W;simp_all
 obtain⟨j0,p1⟩:=f7 _ _ xv;obtain⟨d8,k7⟩:∃d8:K,d8={q with heap:=q.heap.setIfInBounds k j0}:=by simp
 have h6:∀w:E,d8.heap[w]?=if w=k then C j0 else q.heap[w]?:=λw=>by grind
 have h7:d8.os=q.os:=by rw[k7]
 have p0:∀{n e:E},o n->m n e->e≠k:=λa8 W d2=>i4 ((e3.inj _ _ _ _ W xv).2 d2▸a8)
 obtain⟨a6,g8,_,m4,o8⟩:=EX e3 (h7.trans (b4.gh.1 s l1)) (q:=d8) (λn e a4 W b9=>by
  by_cases O:e=k
  .show _=_
   grind
  show _=_
  rw[h6,XH O];exact(f6 n e a4 W O b9).2) h
 have m0:∀t,∃e6:Xz E,t<d->(e6=F->b0[t*10+8]?=C (Xw F 0 0)/\(a t).names=[])/\∀R,e6=C R->∃b1 Q S i,b0[t*10+8]?=C (Xw (C ⟨R,0,F⟩) (a t).names.length b1)/\q.heap[R]?=C (Obj.cells Q S i)/\i.1=i.2/\(a t).names.length<=b1/\b1<=Q.size/\
  (∃a1,BV a1 Q)/\(∀(w:E) e7,(a t).names[w]?=C e7->Q[w]?=C (.string e7))/\P.globals.size<=R/\∀N,az N R->∃w,0<w/\g.lo<=w/\w<g.hi/\T N=.iQ w:=by
  intro t;by_cases Y:t<d
  .obtain⟨_,_,_,sl,c9,z⟩:=g5 t Y;rcases z with⟨rfl,z⟩|⟨R,b1,Q,S,Z,rfl,z⟩
   .exact⟨F,λ_=>⟨λ_=>⟨c9,z⟩,λR b=>(by cases b)⟩⟩
   exact⟨C R,λ_=>⟨λb=>(by cases b),λn2 b=>(by grind)⟩⟩
  exact⟨F,λz=>absurd z Y⟩
 obtain⟨g4,f9⟩:=Classical.axiomOfChoice m0;obtain⟨a0,k3,h2⟩:=Gl (Xq.range d) g4
 have d0:∀e∈a0,∃Q S i,q.heap[e]?=C (Obj.cells Q S i)/\(∃a1,BV a1 Q)/\P.globals.size<=e/\∀N,az N e->∃w,0<w/\g.lo<=w/\w<g.hi/\T N=.iQ w:=by intro e O;obtain⟨t,Y,d2⟩:=(h2 e).1 O;obtain⟨b1,Q,S,Z,_,d7,_,_,_,n5,_,n6,n7⟩:=(f9 t (abo.1 Y)).2 e d2;exact⟨Q,S,Z,d7,n5,n6,n7⟩
 have h1:∀e∈a0,e≠k:=λe O d2=>by
  obtain⟨_,_,_,_,_,_,z⟩:=d0 e O;obtain⟨w,_,_,_,z⟩:=z (.obj e) (Xr A);have:=b4.Ab
  grind
 have k2:∀e∈a0,∀n,¬m n e:=λe O n W=>by
  obtain⟨a4,b9⟩:=f7 n e W;have L:=(f6 n e a4 W (h1 e O) b9).1 (.obj e) (Xr A);obtain⟨_,_,_,_,_,_,z⟩:=d0 e O;obtain⟨w,_,_,_,z⟩:=z (.obj e) (Xr A)
  grind
 have p3:=g8.size
 obtain⟨Os,k6,h5⟩:∃Os:Xq Obj,Os.length=a0.length/\∀(t:E) e,a0[t]?=C e->∃Q S Z a1,q.heap[e]?=C (Obj.cells Q S Z)/\BV a1 Q/\Os[t]?=C (Obj.cells a1 S Z):=by
  have c0:∀e:E,∃e6:Obj,e∈a0->∃Q S Z a1,q.heap[e]?=C (Obj.cells Q S Z)/\BV a1 Q/\e6=Obj.cells a1 S Z:=λe=>by
   by_cases O:e∈a0
   .obtain⟨Q,S,Z,z,⟨a1,a9⟩,_⟩:=d0 e O;exact⟨_,λ_=>⟨Q,S,Z,a1,z,a9,A⟩⟩
   exact⟨.stringIter .empty 0,λz=>absurd z O⟩
  obtain⟨j8,k9⟩:=Classical.axiomOfChoice c0;refine⟨a0.map j8,by simp,λt e O=>?_⟩;obtain⟨Q,S,Z,a1,z,a9,b⟩:=k9 e (Yn O);exact⟨Q,S,Z,a1,z,a9,by grind⟩
 have g1:=Kt m4 k3 k2 k6 (λt e O=>by
  obtain⟨Q,S,Z,a1,z,a9,b⟩:=h5 t e O
  exact⟨_,_,b,by rw[h6,XH (h1 e (Yn O))];exact z,.cells S ⟨a9.1,λw b6 j2 c0 i8=>a9.2 w b6 j2 c0 i8 _ _⟩ (kX.refl _)⟩)
 obtain⟨a2,h4⟩:∃a2,a2=a6.heap.size:=by simp
 rw[<-h4]at g1
 have e1:∀H:E,∃a5:Xn,H<d*10->∃X,b0[H]?=C X/\an f (Ren.plus m a2 a0) a5 X/\(Plain X->a5=X)/\∀R N b7,X=Xw (C ⟨R,0,F⟩) N b7->∃t,a0[t]?=C R/\a5=Xw (C ⟨a2+t,0,F⟩) N b7:=by
  intro H;by_cases D:H<d*10
  .have Y:H/10<d:=by omega
   have g0:H/10*10+H%10=H:=by omega
   have plain:∀X,b0[H]?=C X->Plain X->∃a5:Xn,H<d*10->∃X,b0[H]?=C X/\an f (Ren.plus m a2 a0) a5 X/\(Plain X->a5=X)/\∀R N b7,X=Xw (C ⟨R,0,F⟩) N b7->∃t,a0[t]?=C R/\a5=Xw (C ⟨a2+t,0,F⟩) N b7:=by intro X L c8;refine⟨X,λ_=>⟨X,L,c8.refl _ _,λ_=>rfl,λR N b7 b=>?_⟩⟩;subst b;cases c8
   obtain⟨c6,d6,d7,_⟩:=g5 _ Y;by_cases c9:H%10<8
   .have e0:H%10<(Value.string (a (H/10)).d::(a (H/10)).st.map (.int M ·)).length:=by simp[c6];omega
    have:=d6 _ c9;rw[g0,YN e0]at this;refine plain _ this ?_;have a3:=aaS e0;rcases Yg.1 a3 with a3|a3
    .rw[a3];exact .string _
    obtain⟨j3,_,a9⟩:=YL.1 a3;rw[<-a9];exact .int _ _
   by_cases k1:H%10=9
   .rw[<-k1,g0]at d7;exact plain _ d7 (f4 _ Y)
   have k0:H%10=8:=by omega
   obtain⟨e8,e9⟩:=f9 _ Y;rw[<-k0,g0]at e8 e9;cases d3:g4 (H/10)with
   |none=>exact plain _ (e8 d3).1 (.slice _ _)
   |some R=>
    obtain⟨b1,Q,S,Z,e2,_⟩:=e9 R d3;have a3:=(h2 R).2 ⟨_,abo.2 Y,d3⟩;obtain⟨t,l7⟩:=ZH.1 a3;have b2:bA (Ren.plus m a2 a0) ⟨a2+t,0,F⟩ ⟨R,0,F⟩:=⟨Xs ⟨t,A,l7⟩,A,A⟩;refine⟨Xw (C ⟨a2+t,0,F⟩) (a (H/10)).names.length b1,λ_=>⟨_,e2,.slice b2 _ _,λz=>(by cases z),λn2 N b7 b=>?_⟩⟩;cases b
    grind
  exact⟨.nilIface,λz=>absurd z D⟩
 obtain⟨a5,e1⟩:=Classical.axiomOfChoice e1;obtain⟨b3,i0⟩:∃b3:Xu Xn,b3=Xu.ofFn (n:=d*10) λH=>a5 H.1:=by simp
 have i2:b3.size=d*10:=by rw[i0];simp
 have i1:∀H:E,H<d*10->b3[H]?=C (a5 H):=λH D=>by rw[i0];simp[D]
 obtain⟨c7,i7⟩:∃c7:K,c7={a6 with heap:=a6.heap++Os.toArray}:=by simp
 rw[<-i7]at g1;have o7:=(XZ.1 BK).1;have p4:c7.heap.size=a2+Os.length:=by grind
 obtain⟨b5,m9⟩:∃b5:K,b5={c7 with heap:=c7.heap.setIfInBounds p (.cells b3 yL i)}:=by simp
 have g3:∀w:E,b5.heap[w]?=if w=p then C (Xx b3 yL i)else c7.heap[w]?:=λw=>by grind [getElem?_set]
 have m5:aU f (Ren.plus m a2 a0) b5 q:=by
  refine g1.put (Xr xv) (.cells yL ⟨i2.trans n4.symm,λw b6 j2 c0 i8=>?_⟩ (Xr n3)) g3 (λw=>?_) (by rw[m9]) h7.symm
  .have e4:w<d*10:=by have:=(XZ.1 c0).1;omega
   rw[i1 w e4]at c0;cases c0
   grind
  by_cases e4:w=k
  .rw[XN e4,e4,q1]
  grind
 have p2:∀n,h n->n≠p:=λn a8 d2=>i4 (d2▸g2 n a8);have NS:∀n:E,n<c.heap.size->c7.heap[n]?=a6.heap[n]?:=λn a8=>by grind
 have i5:∀n,h n->b5.heap[n]?=c.heap[n]?:=λn a8=>by
  obtain⟨a4,d6,_⟩:=d1.cQ n a8
  grind
 have h8:Base P (Ren.plus m a2 a0):=by
  refine⟨λj9 L c8=>Xr (d1.base.1 j9 L c8),?_⟩;rintro n e(z|⟨t,rfl,Y⟩)
  .exact d1.base.2 n e z
  obtain⟨_,_,_,_,_,z,_⟩:=d0 e (Yn Y);have L:=d1.base.types;obtain⟨a4,_,c8,_⟩:=e3.obj _ _ L;have:=(XZ.1 c8).1;omega
 have h3:=d1.keep h8 i5
 have l2:cX h m c (Ren.plus m a2 a0) b5:=⟨Ren.Ih _ _ _,λb6 j3 z=>by
  rcases z with z|⟨t,rfl,_⟩
  .exact Xr z
  omega,by grind,i5⟩
 have o9:=Ik b8
 have m7:=wP (a:=l) b8.bf (r:=h) (m:=f) (O:=F) h8 m5 h3.cQ (by
  rintro n e(W|⟨t,rfl,Y⟩) N e5
  .by_cases O:e=k
   .left;subst O;have L:T N=.void\/T N=.iQ 0\/∃w,g.lo<=w/\w<g.hi/\T N=.iQ w:=by
     rcases b4.Li N (by rw[i3];exact e5)with z|z|⟨w,_,_,d4,d5,_,_,z⟩
     .left;rw[z];exact b4.Ab
     .exact Xs (Xr z)
     grind
    have m3:T N≠.ro:=by rcases L with L|L|⟨w,_,_,L⟩<;>rw[L]<;>simp
    refine⟨by rcases L with L|L|⟨w,_,_,L⟩<;>rw[L]<;>simp,λD=>?_⟩;rcases D with⟨f1,f8,f3⟩|D
    .exact m3 (b8.bC.jV.ro N f1 f8 f3)
    cases l with
    |none=>exact D
    |some b6=>
     obtain⟨H,f0,t⟩:=b6;obtain⟨n1,i9⟩:=b4.SQ H f0 t A;rcases D with D|D
     .rcases L with L|L|⟨w,d4,d5,L⟩
      .rw[L]at D;cases D
      .rw[L]at D;cases D;omega
      rw[L]at D;cases D;exact i9 ⟨d4,d5⟩
     grind
   obtain⟨a4,b9⟩:=f7 n e W;have L:=(f6 n e a4 W O b9).1 N e5;by_cases b2:h n
   .exact Xs ⟨L,b2,n,f5.le _ _ ⟨g2 n b2,W⟩⟩
   left;refine⟨by rw[L];simp,λD=>?_⟩;refine i6 n e W N e5 b2 ?_;rcases D with D|D
   .exact Xr D
   cases l with
   |none=>exact D.elim
   |some b6=>
    rcases D with D|D
    .grind
    exact Xs (Xs D)
  .left;obtain⟨_,_,_,_,_,_,z⟩:=d0 e (Yn Y);obtain⟨w,n0,d4,d5,z⟩:=z N e5;refine⟨by rw[z];simp,λD=>?_⟩;rcases D with⟨f1,f8,f3⟩|D
   .have:=b8.bC.jV.ro N f1 f8 f3
    grind
   cases l with
   |none=>exact D
   |some b6=>
    obtain⟨H,f0,t⟩:=b6;obtain⟨n1,i9⟩:=b4.SQ H f0 t A;rcases D with D|D
    .grind
    grind) (by
  rintro n e(W|⟨t,rfl,Y⟩) O
  .have b2:=Classical.byContradiction λb2=>i6 n e W (.obj e) (Xr A) b2 (Xr ⟨e,Xr A,O⟩);exact b8.bf.low.2 n e (f5.le _ _ ⟨g2 n b2,W⟩) O
  obtain⟨_,_,_,_,_,_,z⟩:=d0 e (Yn Y);obtain⟨w,n0,d4,d5,z⟩:=z (.obj e) (Xr A);have:=b8.bC.jV.ro (.obj e) e (Xr A) O
  grind)
 refine⟨_,_,b5,Au b8 A rfl m7 (holds_of (e:=b) k4 λn e a8 W=>?_),h3,l2,λn a8 m1=>?_,b3,i,by grind,i2,l0,λt Y=>?_⟩
 ·
  rcases f5.fresh n e W with z|z
  .exact Xr z.2
  rw[dp]at z;obtain⟨a4,d6,_⟩:=d1.cQ n a8
  grind
 .rw[g3,XH m1,NS n a8];exact g8.heap n
 obtain⟨c6,d6,d7,_⟩:=g5 t Y;have h9:∀j,j<10->b3[t*10+j]?=C (a5 (t*10+j)):=λj l6=>i1 _ (by omega);obtain⟨e8,e9⟩:=f9 t Y
 have l9:∃sl,a5 (t*10+8)=sl/\gy (a t).names c.heap.size sl b5:=by
  obtain⟨X,a7,f2,d9,j7⟩:=e1 (t*10+8) (by omega);cases d3:g4 t with
  |none=>obtain⟨e2,g6⟩:=e8 d3;rw[e2]at a7;cases a7;exact⟨_,d9 (.slice _ _),Xr ⟨A,g6⟩⟩
  |some R=>obtain⟨b1,Q,S,Z,e2,g6,n8,n9,o0,p7,o1,_⟩:=e9 R d3;rw[e2]at a7;cases a7;obtain⟨w,d4,d5⟩:=j7 R _ _ A;obtain⟨o4,p9,g9,a1,j4,j5,o2⟩:=h5 w R d4;rw[g6]at j4;cases j4;refine⟨_,d5,Xs ⟨a2+w,b1,a1,S,Z,A,by omega,?_,n8,n9,by rw[j5.1];exact o0,λw e7 m6=>j5.string (o1 w e7 m6)⟩⟩;rw[g3,XH (by omega),i7,h4];exact Ks o2
 obtain⟨sl,m8,m2⟩:=l9;refine⟨_,cm.mk' c6 m2,λj l6=>?_,?_⟩
 .rw[h9 j (by omega)];have l8:(Value.string (a t).d::((a t).st.map (.int M ·)++[sl])).toArray[j]?=(Value.string (a t).d::((a t).st.map (.int M ·)++[sl]))[j]?:=by simp
  rw[l8];by_cases c9:j<8
  .rw[<-Yz,Zo (by simp[c6];omega),<-d6 j c9];obtain⟨X,a7,f2,d9,_⟩:=e1 (t*10+j) (by omega);rw[a7];have e0:j<(Value.string (a t).d::(a t).st.map (.int M ·)).length:=by simp[c6];omega
   have h0:=d6 j c9;rw[a7,YN e0]at h0;cases h0
   congr 1
   apply d9;have a3:=aaS e0;rcases Yg.1 a3 with a3|a3
   .rw[a3];exact .string _
   obtain⟨j3,_,a9⟩:=YL.1 a3;rw[<-a9];exact .int _ _
  obtain rfl:j=8:=by omega
  rw[m8,<-Yz,YQ (by simp[c6])];simp[c6]
 rw[h9 9 (by omega)];obtain⟨X,a7,f2,d9,_⟩:=e1 (t*10+9) (by omega);rw[d7]at a7;cases a7;rw[d9 (f4 t Y)]
end
variable{z:eA}{a:K}{i:XD}{p:Xn}
section
variable{l:dc}{e:Set}{d b:E->Prop}{r:Ren}{q n:K}{x t:XD}{c:dv}{k u o:E}
def Lm(b:E->Prop)(c:E):E->Prop:=λa=>b a\/a=c
def nF(b:E->Prop)(m:Ren)(e d:E):Ren:=λa c=>(b a/\m a c)\/(a=e/\c=d)
noncomputable def dM(b:E->Prop)(a:K)(p:Xn)(c:XA):K:={cR b a with heap:=(cR b a).heap.push (.cells #[p] c (0,1))}
def zC(d:E->Prop)(a:K):Prop:=∀b,d b->∀c f e,a.heap[b]?=C (Obj.cells c f e)->¬aS c
theorem xo{e:XA}{c:E}(d:c<a.heap.size):(dM b a p e).heap[c]?=(cR b a).heap[c]?:=by
 have:c<(cR b a).heap.size:=by rw[dp];exact d
 show((cR b a).heap.push _)[c]?=_
 grind
theorem BH{c:XA}:(dM b a p c).heap[a.heap.size]?=C (Xx #[p] c (0,1)):=by
 show((cR b a).heap.push _)[a.heap.size]?=_
 grind [dp]
theorem JN{a7:E}{T:E}{b3:XA}{f2:E×E}(l4:i.status=.running)(l6:∀U,stepG P J i U=.spawn x t U #[])(k2:t.status=.running)
 (b1:aU f m a n)(b4:Base P m)(e1:jD d a)(f5:jD b a)(g3:∀i,(0<i\/i=P.globals.size)->i<=P.globals.size->d i/\b i)(q5:zC (λg=>b g/\¬d g) a)
 (d0:cX d (λg v=>d g/\m g v) (cR d a) r q)(k8:c.D.gh=FK m k n)(k6:c.D.g0=C n)(e2:c.D.gb=k)(xv:m u k)(l0:¬d u)(k9:¬b u)(g8:∀g,h g->d g)(j2:kq l h)
 (i9:q.heap[o]?=C (Xx #[Xo M a7] b3 f2))(p6:f2.1=f2.2)(f4:r o T)(j0:¬d o)(l7:c.wt=0)(q6:c.pend=1)(q8:c.vb=c.hi-c.lo)(k5:c.hi+1<c.lo+1000000)
 (l3:RN m)
 (l5:jE P e (Lm b a.heap.size) (ud c.D) (kZ P c.D (c.fin c.hi) c.hi e (Lm b a.heap.size) s []) (nF b m a.heap.size T) (dM b a (Xo M a7) b3) t)
 (next:ti P l (C {c with pend:=0,vb:=c.vb+1,hi:=c.hi+1}) z f d (λg v=>d g/\m g v) (cR d a) x):ti P l (C c) z f d r q i:=by
 classical
 intro a0 Q U sl c0 a8 a1;refine la (s:=aj P l) l4 (λa0 Q U sl c0 a8 a1=>?_) a0 Q U sl c0 a8 a1;have hrel:=a1.bf.rel;simp only at hrel;have n7:=a1.bf.dz;simp only at n7;obtain⟨_,_,j7,_⟩:=a1.ok;have b7:=j7.wg c A;have p8:c.hi=Q.size:=b7.ub.2.2.1
 have e3:∀g v,m g v->v≠k->(∀w,az w v->a8 w=.ro)/\∃W,n.heap[v]?=C W/\BU W U v:=λg v N d6=>by obtain⟨W,b2,_,b0,_⟩:=b1.obj g v N;obtain⟨q1,d3⟩:=b7.gh.2 v b2 (by rw[k8];exact⟨⟨g,N⟩,d6,b0⟩);simp_all
 have g7:U.os=n.os:=b7.gh.1 n k6;have d7:∀{g v:E},b g->m g v->v≠k:=λL N a2=>k9 ((b1.inj _ _ _ _ N xv).2 a2▸L);have g5:∀{g v:E},d g->m g v->v≠k:=λL N a2=>l0 ((b1.inj _ _ _ _ N xv).2 a2▸L)
 have e0:∀w,az w T->a8 w=.iQ 0:=λw O=>by grind
 have h7:∀{g v:E},m g v->v≠k->v≠T:=λN d6 a2=>by have H:=(e3 _ _ N d6).1 (.obj T) (a2▸Xr A);rw[e0 _ (.inl A)]at H;cases H
 have e7:T≠k:=λa2=>by have H:=e0 (.obj T) (Xr A);have R:=b7.Ab;simp_all
 have p2:a.heap.size<=o:=by
  rcases d0.fresh _ _ f4 with D|D
  .exact absurd D.1 j0
  simp_all [dp]
 have p7:P.globals.size<a.heap.size:=by
  obtain⟨W,_,R,_⟩:=b1.obj _ _ b4.types
  grind
 have p3:P.globals.size<=T:=by have:=(a1.bf.base.2 o T f4).2;omega
 let d5:Loc->Prop:=λw=>∃X Y,w=.cell ⟨k,X,Y⟩/\c.D.own Q.size X
 let a4:Loc->Own:=λw=>if az w T then .ro else if d5 w then .iQ Q.size else a8 w
 have m4:∀w,az w T->a4 w=.ro:=λw O=>XN O
 have m5:∀w,d5 w->a4 w=.iQ Q.size:=λw O=>by
  show(if _ then _ else if _ then _ else _)=_
  rw[XH (λD=>by
   obtain⟨X,Y,rfl,_⟩:=O
   exact e7 (di D (.inr ⟨_,A,A⟩))),XN O]
 have e8:∀w,¬az w T->¬d5 w->a4 w=a8 w:=λw H R=>by grind
 have m6:∀w,d5 w->a8 w=.iQ 0:=by
  rintro w⟨X,Y,rfl,a5⟩;rcases b7.Li (.cell ⟨k,X,Y⟩) (by rw[e2];exact Xs ⟨_,A,A⟩)with D|D|⟨y,h8,i2,m0,m1,D,i8,_⟩
  .cases D
  .exact D
  cases D;have:=b7.apart _ _ _ i8 a5;omega
 have h9:∀g v,m g v->v≠k->∀w,az w v->a4 w=.ro:=λg v N d6 w O=>by grind
 have j3:jc a8 a4:=by
  intro w c6
  grind
 have j5:∀w,az w c.D.Wg->a4 w=a8 w:=λw O=>e8 w (λD=>by
  have H:=e0 w D
  rw[b7.rS w O]at H;cases H) (λe4=>by
  have H:=m6 w e4
  rw[b7.rS w O]at H;cases H)
 obtain⟨Tr,p4⟩:=l5.tree;have m3:∀g,d g->q.heap[g]?=(cR d a).heap[g]?:=d0.keep
 have n1:aU f (λg v=>d g/\m g v) (cR d a) U:={
  inj:=λg d4 v f0 H R=>b1.inj g d4 v f0 H.2 R.2
  os:=by obtain⟨Z,b0⟩:a.os=n.os/\U.os=n.os:=⟨b1.os,g7⟩;show a.os=U.os;rw[Z,b0]
  obj:=by
   rintro g v⟨S,N⟩;obtain⟨W,b2,Z,b0,c8⟩:=hrel.obj g v (d0.le _ _ ⟨S,N⟩);rw[m3 g S]at Z;refine⟨W,b2,Z,b0,?_⟩
   have b5:∀g v,d g->r g v->d g/\m g v:=λg v L j6=>⟨L,by
    rcases d0.fresh g v j6 with D|D
    .exact D.2
    rw[dp]at D
    rcases e1 g L with⟨_,_,_,g0,_⟩|⟨_,_,g0,_⟩<;>(simp_all)⟩
   rcases e1 g S with⟨a9,r9,o8,q1,d3,m7,i0,_⟩|⟨o5,d2,q1,d3⟩
   .rw[dZ S q1]at Z;cases Z;cases c8 with
    |cells n8 d9 c9=>
     refine .cells _ ⟨d9.1,λy a3 i4 h2 e6=>?_⟩ c9;have h4:=h2;rw[Yu]at h4;obtain⟨i5,q9,l9⟩:=YP.1 h4;refine an.Ty b5 ?_ (d9.2 y a3 i4 h2 e6);rw[<-l9];by_cases a5:aQ d i5
     .simp_all [cV]
     rw[pF a5];exact .bS
   rw[nG S,q1]at Z;cases Z;cases c8 with
   |map d2 O=>exact .map d2 (Dk O λa0 g1 a2 e9=>⟨an.Ty b5 (d3 a0 a2).1 e9.1,an.Ty b5 (d3 a0 a2).2 e9.2.1,e9.2.2⟩)}
 have n5:∀a6,pn a6->aG P (c0++a6) U a4 0 ⟨f,λg v=>d g/\m g v,cR d a,d,C {c with pend:=0,vb:=c.vb+1,hi:=c.hi+1}⟩:=λa6 d8=>{
  base:=ld b4 λi H R=>(g3 i H R).1
  low:=⟨a1.bf.low.1,λg v N b4=>a1.bf.low.2 g v (d0.le _ _ N) b4⟩
  rel:=n1
  cQ:=jP e1
  dz:=λg v N w O=>Xs ⟨h9 g v N.2 (g5 N.1 N.2) w O,N.1⟩
  dY:=λg v N w O a5=>(a1.bC.row w (bQ O) ((e3 g v N.2 (g5 N.1 N.2)).1 w O)).app λf8 f7 a3 S _ _=>(d8.touch f8 f7 a3 S).elim}
 have f3:∃f1,U.heap[T]?=C (Xx #[Xo M a7] b3 f1)/\f1.1=f1.2:=by
  obtain⟨W,b2,Z,b0,c8⟩:=hrel.obj _ _ f4;rw[i9]at Z;cases Z;cases c8 with
  |cells n8 d9 c9=>
   rename_i c2 o6;have g9:=d9.1;simp at g9;have S:=d9.2 0 (Xo M a7) c2[0] (by simp) (Yb (by omega));have k0:c2=#[Xo M a7]:=by
    apply aas (by simp[g9]);intro y b8 f6;obtain rfl:y=0:=by omega
    simp only[(Plain.int M a7).eq S];rfl
   rw[k0]at b0;refine⟨_,b0,?_⟩;rcases c9 with c9|⟨c9,_⟩
   .exact c9
   omega
 obtain⟨o7,f3,k4⟩:=f3
 have n4:∀g v W,b g->m g v->(cR b a).heap[g]?=C W->∃b2,U.heap[v]?=C b2/\gQ e (λg v=>b g/\m g v) W b2:=λg v W L N j8=>by obtain⟨r5,r6,i1,m8,m9⟩:=(b1.cR (Sp:=e) f5).obj g v ⟨L,N⟩;rw[j8]at i1;cases i1;obtain⟨_,b2,H,R⟩:=e3 g v N (d7 L N);rw[m8]at H;cases H;exact⟨_,R,m9⟩
 have n2:aU e (nF b m a.heap.size T) (dM b a (Xo M a7) b3) U:=by
  have d1:=b1.cR (Sp:=e) f5
  have lt:∀{g v:E},b g/\m g v->g<a.heap.size:=λD=>by
   obtain⟨_,_,Z,_⟩:=b1.obj _ _ D.2
   grind
  refine⟨?_,?_,?_⟩
  .rintro g d4 v f0(H|⟨rfl,rfl⟩)(R|⟨rfl,rfl⟩)
   .exact d1.inj g d4 v f0 H R
   .have:=lt H;exact⟨λa0=>by omega,λa0=>absurd a0 (h7 H.2 (d7 H.1 H.2))⟩
   .have:=lt R;exact⟨λa0=>by omega,λa0=>absurd a0.symm (h7 R.2 (d7 R.1 R.2))⟩
   simp
  .rintro g v(H|⟨rfl,rfl⟩)
   .obtain⟨W,_,Z,_⟩:=d1.obj g v H;obtain⟨b2,b0,c8⟩:=n4 g v W H.1 H.2 Z;exact⟨W,b2,by grind [xo],b0,c8.mono λa3 i5 D=>Xr D⟩
   exact⟨_,_,BH,f3,.cells _ ⟨A,λy a3 i4 S e5=>by
    rw[S]at e5;cases e5;have:y=0:=by grind
    subst this;simp at S
    rw[<-S];exact .int _ _⟩ (Xr k4)⟩
  show a.os=U.os;rw[b1.os,g7]
 have n3:mF e (Lm b a.heap.size) (dM b a (Xo M a7) b3):=by
  rintro g(L|rfl)
  .obtain⟨W,H,R⟩:=jP (f:=e) f5 g L
   grind [dp,xo]
  exact⟨_,BH,A,by simp,by rintro⟨d2,c7,b5⟩;grind⟩
 have n6:∀a6,pn a6->(∀d2,Knows c0 0 d2->Knows (c0++a6) Q.size d2)->aG P (c0++a6) U a4 Q.size ⟨e,nF b m a.heap.size T,dM b a (Xo M a7) b3,Lm b a.heap.size,F⟩:=λa6 d8 b5=>{
  base:=⟨λi H R=>Xr ⟨(g3 i H R).2,b4.1 i H R⟩,by
   rintro g v(D|⟨rfl,rfl⟩)
   .exact b4.2 g v D.2
   omega⟩
  low:=⟨a1.bf.low.1,by
   rintro g v(D|⟨rfl,rfl⟩) b4
   .exact l3 g v D.2 b4
   have:=a1.bC.jV.ro (.obj _) _ (Xr A) b4
   rw[e0 _ (.inl A)]at this;cases this⟩
  rel:=n2
  cQ:=n3
  dz:=by
   rintro g v(D|⟨rfl,rfl⟩) w O
   .exact Xs ⟨h9 g v D.2 (d7 D.1 D.2) w O,Xr D.1⟩
   exact Xs ⟨m4 w O,Xs A⟩
  dY:=by
   rintro g v N w O a5 y a3 S h3 l8;obtain⟨f8,f7,e5⟩:=ZZ S;rcases Yf f7 with⟨_,q2⟩|⟨_,l2⟩
   .have e6:touchAt c0 y=C a3:=by simp_all [YX]
    rcases N with D|⟨rfl,rfl⟩
    .exact b5 _ (a1.bC.row w (bQ O) ((e3 g v D.2 (d7 D.1 D.2)).1 w O) y a3 e6 h3 l8)
    exact b5 _ (a1.bC.mine w 0 (bQ O) (e0 w O) y a3 e6 h3)
   exact(d8.touch f8 l2 a3 e5).elim}
 have Y:=vZ (h:=l) (m:=l) (sl:=sl) (f:=⟨f,λg v=>d g/\m g v,cR d a,d,C {c with pend:=0,vb:=c.vb+1,hi:=c.hi+1}⟩) (b:=a4) a1 (l6 U) j3
  (a1:=.wk (.work s [] Tr ⟨e,nF b m a.heap.size T,dM b a (Xo M a7) b3,Lm b a.heap.size,F⟩))
  (λw c6 d6=>by grind)
  n5
  (λa6 d8 b5 k3 q7=>⟨_,A,λf9 d1=>(by cases d1),k2,k3,n6 a6 d8 b5,λf9 d1=>(by cases d1),by simp_all⟩)
  (λo2 p5=>by simp_all)
  (holds_of (e:=a0) j2 λg v L N=>⟨g8 g L,by
    rcases d0.fresh g v N with D|D
    .exact D.2
    rw[dp]at D
    rcases e1 g (g8 g L)with⟨_,_,_,g0,_⟩|⟨_,_,g0,_⟩<;>(simp_all)⟩)
  (λb6 g4 o1 j4=>?_) (Xr A) (λb6 g4 h1=>?_)
 .obtain⟨g2,a6,g1,h5,h6⟩:=Y;exact⟨g2,U,a6,h5,next g1 g2 U sl (c0++a6) a4 h6⟩
 .cases j4;have L:=g4.wg c A;have q3:0<Q.size:=(XZ.1 a1.me).1;have old:∀y,y≠Q.size->(if y=Q.size then aF.wk (.work s [] Tr ⟨e,nF b m a.heap.size T,dM b a (Xo M a7) b3,Lm b a.heap.size,F⟩)else b6 y)=b6 y:=λy b8=>XH b8
  have h0:(sumTo (Q.size+1) λy=>(if y=Q.size then aF.wk (.work s [] Tr ⟨e,nF b m a.heap.size T,dM b a (Xo M a7) b3,Lm b a.heap.size,F⟩)else b6 y).cnt)=(sumTo Q.size λy=>(b6 y).cnt)+1:=by
   have Z:∀c7,c7<=Q.size->(sumTo c7 λy=>(if y=Q.size then aF.wk (.work s [] Tr ⟨e,nF b m a.heap.size T,dM b a (Xo M a7) b3,Lm b a.heap.size,F⟩)else b6 y).cnt)=sumTo c7 λy=>(b6 y).cnt:=by
    intro c7 q4
    induction c7 with
    |zero=>rfl
    |succ c7 m2=>simp only[sumTo];rw[m2 (by omega),XH (by omega)]
   simp only[sumTo];rw[Z _ (Ye _)];rfl
  have k1:∀y X Y,0<y->y<Q.size->c.D.own y X->a4 (.cell ⟨c.D.gb,X,Y⟩)=a8 (.cell ⟨c.D.gb,X,Y⟩):=λy X Y b8 f6 a5=>e8 _ (λD=>e7 (by rw[<-e2];exact di D (Xs ⟨_,A,A⟩))) λ⟨h8,i2,a2,g6⟩=>by cases a2;have:=L.apart _ _ _ a5 g6;omega
  have k7:a4 (.obj c.D.gb)=.void:=by rw[e8 _ (λD=>e7 (by rw[<-e2];exact di D (.inl A))) λ⟨h8,i2,a2,g6⟩=>by cases a2];exact L.Ab
  refine{
   zero:=by simp only[XH (show¬(0=Q.size)by omega)];exact L.zero
   mode:= ?_
   rS:=λw O=>by rw[j5 w O];exact L.rS w O
   Ab:=k7
   own:=λy a3 H R S X Y a5=>?_
   gb:=L.gb
   gv:=L.gv
   Lj:= ?_
   ne:=L.ne
   apart:=L.apart
   yG:=k5
   bound:=by rw[h0];exact E.succ_le_succ L.bound
   ub:=⟨L.ub.1,E.le_succ_of_le L.ub.2.1,by simp_all,λy H R=>?_⟩
   Io:=λy a3 H R S=>?_
   gh:=⟨L.gh.1,λv W j9=>?_⟩
   Li:=λw O=>?_}
  .rw[h0];refine .opn l7 (YH _) (λj p9 q0=>?_) ?_
   .by_cases l1:j=Q.size
    .simp only[XN l1];rfl
    have c6:=L.mode;generalize (sumTo Q.size λy=>(b6 y).cnt)=V at c6;cases c6 with
    |opn g f9 v a9=>grind
    |reg g d4 v a9=>omega
    |last y g v a9 i6 a0 i7=>omega
    |fin g v a9=>omega
    |Cn g v a9=>omega
   have c6:=L.mode;generalize (sumTo Q.size λy=>(b6 y).cnt)=V at c6⊢
   cases c6 with
   |opn g f9 v a9=>simp_all
   |reg g d4 v a9=>omega
   |last y g v a9 i6 a0 i7=>omega
   |fin g v a9=>omega
   |Cn g v a9=>omega
  .by_cases b9:y=Q.size
   .grind
   rw[old y b9]at S;rw[k1 y X Y H (by omega) a5];exact L.own y a3 H (by omega) S X Y a5
  .have H:=L.Lj
   grind
  .have R:y<c.hi+1:=R;by_cases b9:y=Q.size
   .simp_all
   rw[old y b9];exact L.ub.2.2.2 y H (by omega)
  .by_cases b9:y=Q.size
   .refine⟨by have:=L.ub.2.1;simp_all,by simp_all⟩
   rw[old y b9]at S;obtain⟨h5,h6⟩:=L.Io y a3 H (by omega) S;simp_all
  .obtain⟨q1,d3⟩:=L.gh.2 v W j9
   grind
  have j1:¬az w T:=λD=>e7 ((di D O).trans e2);by_cases e4:d5 w
  .refine Xs (Xs ⟨Q.size,?_⟩);obtain⟨X,Y,a2,a5⟩:=e4;exact⟨X,Y,by have:=L.ub.2.1;simp_all,by simp_all,by simp_all,a5,m5 w ⟨X,Y,a2,a5⟩⟩
  rw[e8 w j1 e4];rcases L.Li w O with D|D|⟨y,X,Y,m0,m1,r0,r1,r2⟩
  .exact Xr D
  .exact Xs (Xr D)
  grind
 cases l with
 |none=>
  intro y b8 f6;simp only[abb,YD]at f6;by_cases b9:y=Q.size
  .simp only[XN b9];rfl
  simp only[XH b9];exact h1 y b8 (by omega)
 |some a3=>obtain⟨q1,d3,m7,i0⟩:=h1;exact⟨q1,by simp;omega,by grind,i0⟩
end
end
variable{h:E->Prop}{c:K}{l:XC}{p:Xq XC}{n:E}{s:Xq E}{e:Oper}{g:XF}
section
variable{main:Xy}
variable{t:Rt}
def uQ(a:Xn->K->Prop):Result Next->Prop
 |.ok (.value b) c=>a b c
 |_=>False
theorem Qm(O:Good P f)(Z:f.fr l.fn=J)(a1:l.kind≠.early)(R:D[n]?=C e)(a7:Region.wanted e (yielded D d.tmps)=J)(a5:jj P f.fn f.bi f.cj e.op=J)(v:Inv P f h m c)(S:ar f m t d g)
 {L:Xn->K->Prop}(b:∀T,uQ L ((execOp d.eval e).run P {c with tape:=T}))(a2:∀u U,L u U->∀a,h a->U.heap[a]?=c.heap[a]?)(Q:aU f m c q):
 ∃x u H i y new z,stepG P main (rg (l.at g (XE D (n::s)::r)) p) q=.go (rg (l.at (g.put e.dst H) (XE D s::r)) p) y (kept z).toArray/\(execOp g.eval e).runT P q #[]=(.ok (.value H) y,z.toArray)/\
  bB f m x c i q y new z/\(∀a,h a->i.heap[a]?=c.heap[a]?)/\(∀w∈new,w.write=J->∀d,h d->w.loc≠.obj d/\∀a,w.loc=.cell a->a.block≠d)/\Inv P f h x i/\cX h m c x i/\an f x u H/\Tp (L u) i:=by
 obtain⟨b2,W⟩:=g;have a8:Region.wanted e (yielded D b2)=J:=by rw[<-gu S.tmps];exact a7
 have a4:(D[n]?).bind (·.dst)=e.dst:=by rw[R];rfl
 obtain⟨x,b4,b5,i,y,new,z,w,a3,o,k⟩:=AE O v.base (lK v.base S.tmps d.defers W) a5 (y:=uQ L) (by intro b c a0;exact a0) (.all b) Q;have Y:=v.base.jY Q o;cases a3 with
 |@value u H a6=>obtain⟨T,X⟩:=k.one;obtain⟨N,b1⟩:=iI v.cQ v.iW o ⟨i,.refl _,λa a9=>a2 u _ X a a9⟩;refine⟨x,u,H,i,y,new,z,?_,w,o,N,b1,v.keep Y N,⟨o.le,λa b3 b0=>(o.fresh a b3 b0).imp id (·.1),o.size,N⟩,a6,k⟩;rw[stepG_value O Z a1 o.lE R a8 (.inl w),YV,a4]
 |skip=>exact(k.one).elim λ_ b=>b.elim
 |defer=>exact(k.one).elim λ_ b=>b.elim
 |enter=>exact(k.one).elim λ_ b=>b.elim
 |round=>exact(k.one).elim λ_ b=>b.elim
 |recover=>exact(k.one).elim λ_ b=>b.elim
end
section
variable[Inhabited aN]
theorem je.tape{b:PD}:∀(a:E)(i:Ren)(g:K)(t:E->Question->E)(c:XD),je P b f h a i {g with tape:=t} c->je P b f h a i g c
 |0,_,_,_,_,d=>d
 |a+1,i,g,t,c,d=>by obtain⟨l,q,r,m,n,o,p⟩:=d;exact⟨l,q,r,λk e=>m k ⟨e.inj,e.obj,e.os⟩,n,o,(yJ P f h (Jd b) (je P b f h a) (je.tape a)).tape p⟩
def fS(P:XI)(a:PD)(f:Set)(h:E->Prop)(b:E):Goal P f Xp h:=yJ P f h (Jd a) (je P a f h b) (je.tape b)
end
variable{a:XC}{c:Xq XC}
section
variable{main:Xy}{f:Xu Xn}{d:Xq Deferred}{e:Xq Item}
def cF(a:Xu XA)(d:XA)(c:E)(b:Xu Xy):Deferred:={target:=.builtin .close a d b,args:=#[.chan (C c)]}
theorem Fq{g:Xu XA}{h:XA}{i:Xu Xy}{b l n m:E}{k:Xu Xn}{o:Xy}(H:∀fn,P.funcs[a.fn]?=C fn->fn.norace=Xp)(r:q.heap[b]?=C (.chan l k Xp n m o)):
 stepG P main (rg {a.at ⟨f,cF g h b i::d⟩ e with mode:=.returning} c) q=.go (rg {a.at ⟨f,d⟩ e with mode:=.returning} c) (q.setChan b l k J n m o) #[⟨.obj b,Xp,J⟩,⟨.obj b,J,J⟩]:=by
 have t:(invoke (cF g h b i).target (cF g h b i).args)=(do pure (Next.value (<-Builtin.close_ g h #[.chan (C b)])):XJ Next):=A
 have p:(invoke (cF g h b i).target (cF g h b i).args).runT P q #[]=(.ok (.value (.tuple #[])) (q.setChan b l k J n m o),#[⟨.obj b,Xp,J⟩,⟨.obj b,J,J⟩]):=by
  rw[t];have s:=run_close_open (P:=P) (w:=q) g h r;have z:=events_close_open (P:=P) (w:=q) (es:=#[]) g h r;refine aag ?_ ?_
  .simp[s,K.setChan]
  simp_all
 have w:seen P a.fn #[(⟨.obj b,Xp,J⟩:XQ),⟨.obj b,J,J⟩]=#[⟨.obj b,Xp,J⟩,⟨.obj b,J,J⟩]:=by simp[seen]
 have u:(invoke (.builtin .close g h i) #[.chan (C b)]).run P q=.ok (.value (.tuple #[])) (q.setChan b l k J n m o):=by have:=Zc Prod.fst p;rw[aa3]at this;exact this
 have v:(invoke (.builtin .close g h i) #[.chan (C b)]).events P q #[]=#[⟨.obj b,Xp,J⟩,⟨.obj b,J,J⟩]:=Zc Prod.snd p;rw[ie (by simp)];simp[unwind,callDeferred,Frame.at,cF,u,v,w,GStep.after,rg]
end
section
variable{main:Xy}{c:Xu Xn}{d:Xq Item}
def dB(P:XI):XC:={(default:XC)with fn:=P.funcs.size,defers:=[],mode:=.panicking [goexitEntry]}
theorem vm{b:XU}{fn:Func}{d:XR}{a c:Xu Xn}(g:P.funcs[b]?=C fn)(h:(fn.name== "runtime.NumGoroutine")=Xp)(f:fn.body=C d):
 stepG P main (born P {target:=.fn (.func b) c,args:=a}) q=.go (rg (Frame.enter P b (a++c) .deferred) [dB P]) q:=by
 have e:¬fn.name= "runtime.NumGoroutine":=by simp_all
 simp[born,stepG,unwind,callDeferred,invoke,callFunc,g,e,f,GStep.after,aW,rg,dB]
theorem yu{l:Xq Deferred}{fn:Func}(k:a.kind=.deferred)(i:P.funcs[a.fn]?=C fn)(e:fn.results=#[]):QuitsD P 2 0 (rg {a.at ⟨c,[]⟩ d with mode:=.returning} [dB P]):=by
 refine .ctl A (g':=rg (dB P) []) (λb=>?_) (.ctl A (g':={rg (dB P) []with status:=.finished}) (λb=>?_) ⟨A,A⟩)
 .have f:(results fn c).run P b=.ok (.tuple #[]) b:=by simp[results,e]
  have g:(results fn c).events P b #[]=#[]:=by simp[results,e]
  simp[rg,stepG,unwind,doReturn,Frame.at,k,i,f,g,seen,GStep.after,dB,goexitEntry]
 simp[rg,stepG,unwind,dB,XC.catches,goexitEntry];rfl
end
variable{c:K}
theorem Gt{b:PD}{e:Xu Xn}{d:Xq Item}{g:Xu XA}{l:XA}{i:Xu Xy}{fn:Func}
 (p:a.kind=.deferred)(o:P.funcs[a.fn]?=C fn)(q:fn.results=#[])(y:fn.norace=Xp)(r:mayWake P (rg {a.at ⟨e,[cF g l b.rc i]⟩ d with mode:=.returning} [dB P])=J):
 je P b f h 0 m c (rg {a.at ⟨e,[cF g l b.rc i]⟩ d with mode:=.returning} [dB P]):=
 ⟨A,r,rg {a.at ⟨e,[]⟩ d with mode:=.returning} [dB P],A,λs u t D z H n=>Fq (λw x=>by simp_all) n,2,yu (l:=[]) p o q⟩
variable{c:XC}{a:XF}{f:Xq Item}{e:Xq XC}{h:E}{g:Xq E}{d:Oper}
section
variable{main:Xy}
theorem GK{k i:XV}{b:E}(n:D[h]?=C d)(p:Region.wanted d (yielded D a.tmps)=J)(m:c.kind≠.early)(s:d.op=.send k i)(t:a.eval k=.chan (C b)):
 stepG P main (rg (c.at a (XE D (h::g)::f)) e) q=.comm (rg (c.at a (XE D (h::g)::f)) e) #[scase b (a.eval i) (.tuple #[])] J .send q #[]:=by
 have o:(execOp a.eval d).run P q=.ok (.comm #[scase b (a.eval i) (.tuple #[])] J .send) q:=by simp_all [execOp,scase]
 have l:(execOp a.eval d).events P q #[]=#[]:=by simp_all [execOp]
 have:=stepG_comm (P:=P) (main:=main) (b:=c) (a:=a) (k:=f) (cs:=e) (rest:=g) n p m o;unfold listed at this;rw[l,seen_none]at this;exact this
end
variable{f:Set}{h:E->Prop}{d:K}{e:XC}{g:Xq Item}{l:Xq XC}{r:XF}{c:XF}{u:E}{v:Xq E}{p:Oper}{s:E}
section
variable[Inhabited aN]
def Ko(D:Xu Oper):E->Xu Xy->Xq (Xq E)
 |0,_=>[[]]
 |a+1,listed=>match Region.ready .any D listed with
  |[]=>[[]]
  |b::c=>(b::c).flatMap λu=>(Ko D a (listed.setIfInBounds u J)).map (u::·)
theorem vX(D:Xu Oper):∀(a b:E)(listed:Xu Xy),Region.linearise.go .any D a b listed []∈Ko D a listed:=by
 intro a
 induction a with
 |zero=>simp[Region.linearise.go,Ko]
 |succ a c=>
  intro b listed
  change (match(Region.ready .any D listed)[b%(Region.ready .any D listed).length]? with
   |some u=>Region.linearise.go .any D a (b/(Region.ready .any D listed).length) (listed.setIfInBounds u J) [u]
   |none=>[].reverse)∈_
  unfold Ko
  grind [Nat.mod_lt,linearise_go_acc]
theorem ya{s:Xy}(b:s=J)(D:Xu Oper)(a:E):Region.schedule s D a∈Ko D D.size (Array.replicate D.size Xp):=by subst b;exact vX D D.size a _
section
variable{main:Xy}{n:Goal P f main h}
variable{t:Rt}
theorem rO{main:Xy}{a:XV}{i:E}{b:Xu XA}(z:D[u]?=C p)(N:Region.wanted p (yielded D c.tmps)=J)(U:e.kind≠.early)
 (H:p.op=.defer {callee:=.builtin .close,args:=#[a],argTypes:=b})(hd:p.dst=F)(O:c.eval a=.chan (C i)):
 ∃k,∀q,stepG P main (rg (e.at c (XE D (u::v)::g)) l) q=.go (rg (e.at ⟨c.tmps,cF b p.type i k::c.defers⟩ (XE D v::g)) l) q:=by
 refine⟨#[a].map λ|.const _=>J|_=>Xp,λq=>?_⟩
 have L:(execOp c.eval p).run P q=.ok (.defer (cF b p.type i (#[a].map λ|.const _=>J|_=>Xp))) q:=by simp only[H,resolve,cF,go_sem];simp[O];rfl
 have w:(execOp c.eval p).events P q #[]=#[]:=by simp_all [execOp,resolve]
 have x:(e.at ⟨c.tmps,cF b p.type i (#[a].map λ|.const _=>J|_=>Xp)::c.defers⟩ (XE D (u::v)::g)).finish I=e.at (Act.put ⟨c.tmps,cF b p.type i (#[a].map λ|.const _=>J|_=>Xp)::c.defers⟩ p.dst I) (XE D v::g):=by grind [Frame.finish_at]
 have y:(e.kind==CallKind.early)=Xp:=by simp_all
 have o:e.at ⟨c.tmps,cF b p.type i (#[a].map λ|.const _=>J|_=>Xp)::c.defers⟩ (XE D v::g)=(e.at ⟨c.tmps,cF b p.type i (#[a].map λ|.const _=>J|_=>Xp)::c.defers⟩ (XE D (u::v)::g)).finish I:=by rw[x,hd];rfl
 rw[o,show rg (e.at c (XE D (u::v)::g)) l=Go.Conc.G (e.at c (XE D (u::v)::g)) l from A,stepG_oper z N];simp[stepG.apply,L,w,Go.Conc.G,Frame.at,y,GStep.after,seen_none,rg]
end
def nl(P:XI)(f:Set)(a:Xq E)(D:Xu Oper):Xy:=D.toList.all λp=>jj P f.fn f.bi f.cj p.op&&a.all λg=>p.dst !=C g
theorem rm{t:Rt}{a:Xq E}(c:t.kn.map (·.1)=a)(b:nl P f a D=J):oM P f t D=J:=by grind [nl,oM,Rt.free]
section
variable{main:Xy}{n:Goal P f main h}
variable{t:Rt}
theorem mP(m:Good P f)(o:f.fr e.fn=J)(p:e.kind≠.early){c:Xq Oper}(s:oM P f t c.toArray=J){id:E}{g:XF->K->Prop}
 (u:∀k,wpList P c.toArray (eB g) c r {d with tape:=k})(q:∀b a,g b a->∀i,h i->a.heap[i]?=d.heap[i]?)(next:∀b a,g b a->Q .normal b a):CW n e t l (.region id c.toArray Xp) Q r d:=
 vy m o p s (λk=>by simp_all [aah,wpOps_eq_wpList]) q next
theorem MW{w:XR}{o:XF->K->Prop}(N:CW n e t l w (eB o) r d)(y:Inv P f h m d)(O:ar f m t r c)
 (next:∀b i k a,Inv P f h b a->cX h m d b a->ar f b t i k->o i a->n.G b a (rg (e.at k g) l)):n.G m d (rg (e.at c (.code w::g)) l):=
 N m g c y O λH b i k a z L R x=>by
   cases H with
   |normal=>exact next b i k a z L R x
   |_=>exact x.elim
theorem bu{a b:XR}(f:n.G m d (rg (e.at c (.code a::.code b::g)) l)):n.G m d (rg (e.at c (.code (.seq a b)::g)) l):=
 n.pure A rfl (λq=>by rfl) f
theorem ik{id:E}{a:XR}(b:n.G m d (rg (e.at c (.code a::.inBlock id::g)) l)):n.G m d (rg (e.at c (.code (.block id a)::g)) l):=
 n.pure A rfl (λq=>by rfl) b
theorem CL{id:E}(a:n.G m d (rg (e.at c g) l)):n.G m d (rg (e.at c (.inBlock id::g)) l):=
 n.pure A rfl (λq=>by rfl) a
theorem MX{a:XR}(b:n.G m d (rg (e.at c (.code a::.inLoop a::g)) l)):n.G m d (rg (e.at c (.code (.loop a)::g)) l):=
 n.pure A rfl (λq=>by rfl) b
theorem HY{a:XR}(b:n.G m d (rg (e.at c (.code a::.inLoop a::g)) l)):n.G m d (rg (e.at c (.inLoop a::g)) l):=
 n.pure A rfl (λq=>by rfl) b
theorem sI(a:n.G m d (rg (e.at c g) l)):n.G m d (rg (e.at c (.code .skip::g)) l):=
 n.pure A rfl (λq=>by rfl) a
theorem sH{id:E}{a:Xq Item}(i:exitTo id g=C a)(b:n.G m d (rg (e.at c a) l)):n.G m d (rg (e.at c (.code (.exit id)::g)) l):=
 n.pure A rfl (λq=>by rw[bm A];simp[stepG.exec,Frame.at,rg,i]) b
theorem iT{a:XV}{b i:XR}{k:Xy}(w:c.eval a=.bool k)(o:n.G m d (rg (e.at c (.code (if k then b else i)::g)) l)):n.G m d (rg (e.at c (.code (.cond a b i)::g)) l):=
 n.pure A rfl (λq=>by
  have x:=XC.eval_at e c (.code (.cond a b i)::g) a;rw[bm A]
  simp_all [stepG.exec,Frame.at,rg]) o
theorem iU{a:XV}{d:Xy}(e:Base P m)(i:ar f m t r c)(h:dy P f.fn a=J)(g:r.eval a=.bool d):c.eval a=.bool d:=by have b:=lK e i.tmps r.defers c.defers a h;rw[g]at b;generalize c.eval a=k at b;cases b;rfl
theorem eE{id:E}(a:n.G m d (rg (e.at c (XE D (Xq.range D.size)::g)) l)):n.G m d (rg (e.at c (.code (.region id D Xp)::g)) l):=
 n.pure A rfl (λq=>by rfl) a
theorem bO(a:n.G m d (rg (e.at c g) l)):n.G m d (rg (e.at c (XE D []::g)) l):=
 n.pure A rfl (λq=>iZ) a
theorem Sy(y:P.follows .mixedOrders=J){id:E}{i:Xq (Xq E)}(x:Ko D D.size (Array.replicate D.size Xp)=i)(b:∀z∈i,n.G m d (rg (e.at c (XE D z::g)) l)):n.G m d (rg (e.at c (.code (.region id D J)::g)) l):=by
 refine n.OV A (.step A (λ_ L H w=>xu P f main h (λm d k=>k.status=.running/\n.G m d k) L H w) (λq a=>?_) (λ_ _ _ _ b=>b))
 have o:stepG P main (rg (e.at c (.code (.region id D J)::g)) l) q=.go (rg (e.at c (.inRegion D (Region.schedule (P.follows .mixedOrders) D (q.tape q.drawn (.order e.fn id)))::g)) l) {q with drawn:=q.drawn+1}:=by rfl
 refine⟨_,m,d,_,[],[],o,?_,λ_ _=>rfl,by simp,A,.stop ⟨A,b _ (x▸ya y D _)⟩⟩;exact{bB.refl a with rel:=⟨a.inj,a.obj,a.os⟩}
end
section
variable{main:Xy}
variable{t:Rt}
theorem pJ(O:Good P f)(a1:f.fr e.fn=J)(a3:e.kind≠.early)(a5:D[u]?=C p)(b0:Region.wanted p (yielded D r.tmps)=J)(a6:jj P f.fn f.bi f.cj p.op=J)(a0:t.free p.dst=J)(R:Inv P f h m d)(z:ar f m t r c)
 (hd:p.dst=C j){L V:Xn}(a4:∀H,uQ (λw N=>w=L/\N.heap=d.heap) ((execOp r.eval p).run P {d with tape:=H}))(a7:(execOp c.eval p).run P q=.ok (.value V) q)(b5:j<c.tmps.size)(Z:aU f m d q):
 ∃i a new k,stepG P main (rg (e.at c (XE D (u::v)::g)) l) q=.go (rg (e.at (c.put p.dst V) (XE D v::g)) l) q (kept k).toArray/\
  bB f m i d a q q new k/\(∀b,h b->a.heap[b]?=d.heap[b]?)/\(∀o∈new,o.write=J->∀r,h r->o.loc≠.obj r/\∀b,o.loc=.cell b->b.block≠r)/\Inv P f h i a/\cX h m d i a/\a.heap=d.heap/\ar f i ⟨t.d0,(j,V)::t.kn⟩ (r.put p.dst L) (c.put p.dst V):=by
 obtain⟨i,w,b4,a,T,new,k,U,W,b3,b1,b2,S,x,a9,Y⟩:=Qm (main:=main) (r:=g) (p:=l) (s:=v) O a1 a3 a5 b0 a6 R z a4 (λw N X b _=>by rw[X.2]) Z;have y:(execOp c.eval p).run P q=.ok (.value b4) T:=by rw[<-aa3 P _ q #[],W]
 rw[a7]at y;cases y;obtain⟨H,a8,a2⟩:=Y.one;subst a8;refine⟨i,a,new,k,U,b3,b1,b2,S,x,a2,((z.mono x.le).put p.dst a0 a9).more ?_⟩;simp_all [Act.put]
theorem Oa{a:PD}{t:Rt}(L:Good P f)(X:f.fr e.fn=J)(a0:e.kind≠.early)(a2:D[u]?=C p)(a5:Region.wanted p (yielded D r.tmps)=J)(a3:jj P f.fn f.bi f.cj p.op=J)(W:t.free p.dst=J)(N:Inv P f h m d)(x:ar f m t r c)
 (hd:p.dst=C j){H:Xn}(a1:∀a9,uQ (λb1 b2=>b1=H/\b2.heap=d.heap) ((execOp r.eval p).run P {d with tape:=a9}))(a4:∀q o k,q.heap[a.bx]?=C (Xx #[.chan (C a.rc)] o k)->(execOp c.eval p).run P q=.ok (.value (.chan (C a.rc))) q)(Z:j<r.tmps.size)
 (next:∀i w b,Inv P f h i b->cX h m d i b->b.heap=d.heap->ar f i ⟨t.d0,(j,.chan (C a.rc))::t.kn⟩ (r.put (C j) H) w->(fS P a f h s).G i b (rg (e.at w (XE D v::g)) l)):(fS P a f h s).G m d (rg (e.at c (XE D (u::v)::g)) l):=by
 refine wN A λq T S=>?_;obtain⟨o,k,U⟩:=S;obtain⟨i,b,new,a8,z,b0,a6,a7,O,R,Y,y⟩:=pJ (main:=Xp) (g:=g) (l:=l) (v:=v) L X a0 a2 a5 a3 W N x hd a1 (a4 q o k U) (by rw[<-x.tmps.1];exact Z) T;rw[hd]at y z;exact⟨_,i,b,q,new,a8,z,b0,a6,a7,A,next _ _ _ O R Y y⟩
theorem ar.MH{e:Xq (E×Xn)}{b:Deferred}(a:ar f m ⟨[],e⟩ r c)(hd:r.defers=[]):ar f m ⟨[b],e⟩ r ⟨c.tmps,b::c.defers⟩:=by obtain⟨g,h,d⟩:=a.defers;rw[hd]at d;cases d;refine⟨a.tmps,⟨[],?_,by rw[hd];exact .nil⟩,a.kn⟩;simp_all
theorem xJ{n:Goal P f main h}{q:XV}{o:E}{b:Xu XA}{k:Xq (E×Xn)}(w:e.kind≠.early)(x:D[u]?=C p)(H:Region.wanted p (yielded D c.tmps)=J)
 (y:p.op=.defer {callee:=.builtin .close,args:=#[q],argTypes:=b})(hd:p.dst=F)(L:c.eval q=.chan (C o))(z:ar f m ⟨[],k⟩ r c)(t:r.defers=[])
 (next:∀a i,ar f m ⟨[cF b p.type o a],k⟩ r i->n.G m d (rg (e.at i (XE D v::g)) l)):n.G m d (rg (e.at c (XE D (u::v)::g)) l):=by
 obtain⟨a,s⟩:=rO (P:=P) (main:=main) (g:=g) (l:=l) (v:=v) x H w y hd L;exact Goal.pure _ A rfl s (next a _ (z.MH t))
theorem bW{n:Goal P f main h}{t:Rt}(H:Good P f)(O:f.fr e.fn=J)(R:e.kind≠.early){k:Xq Oper}{z:Xq E}(T:t.kn.map (·.1)=z)(U:nl P f z k.toArray=J){id:E}(L:Inv P f h m d)(W:ar f m t r c)(w:XF->K->Prop)
 (N:∀b:K,b.heap=d.heap->b.drawn=d.drawn->b.os=d.os->b.output=d.output->wpList P k.toArray (eB w) k r b)(S:∀i a,w i a->∀x,h x->a.heap[x]?=d.heap[x]?)
 (next:∀o i y a,Inv P f h o a->cX h m d o a->ar f o t i y->w i a->n.G o a (rg (e.at y g) l)):n.G m d (rg (e.at c (.code (.region id k.toArray Xp)::g)) l):=
 MW (mP H O R (rm T U) (λY=>N _ A rfl rfl rfl) S λ_ _ X=>X) L W next
theorem Ku{i:PD}{a:XR}(k:E->Ren->K->XF->Prop)
 (round:∀s,(∀m d c,k s m d c->(fS P i f h s).G m d (rg (e.at c (.inLoop a::g)) l))->∀m d c,k (s+1) m d c->(fS P i f h (s+1)).G m d (rg (e.at c (.code a::.inLoop a::g)) l))
 (last:∀m d c,k 0 m d c->(fS P i f h 0).G m d (rg (e.at c (.code a::.inLoop a::g)) l)):∀(b:E) m d c,k b m d c->(fS P i f h b).G m d (rg (e.at c (.code (.loop a)::g)) l):=by
 have p:∀(b:E) m d c,k b m d c->(fS P i f h b).G m d (rg (e.at c (.code a::.inLoop a::g)) l):=by
  intro b
  induction b with
  |zero=>exact last
  |succ s o=>exact round s λm d c n=>HY (o m d c n)
 simp_all [MX]
def bM(D:Xu Oper)(u:E)(a:Xz Tmp)(b:Op):Prop:=∃p,D[u]?=C p/\p.dst=a/\p.op=b/\p.guard=F
theorem vN{n:Goal P f main h}{t:Rt}{H:Xz Tmp}{S:Op}(X:Good P f)(a2:f.fr e.fn=J)(a3:e.kind≠.early)(a6:bM D u H S)
 {W:Xq E}(a5:t.kn.map (·.1)=W)(a7:jj P f.fn f.bi f.cj S=J)(b9:(W.all λg=>H !=C g)=J)(Y:Inv P f h m d)(a8:ar f m t r c)(o:XF->K->Prop)
 (N:∀y:K,y.heap=d.heap->y.drawn=d.drawn->y.os=d.os->y.output=d.output->∀U T L,(⟨H,S,U,T,L,F⟩:Oper).wp P r y o (eB λ_ _=>False))(a4:∀b a,o b a->∀z,h z->a.heap[z]?=d.heap[z]?)
 (next:∀i b w a,Inv P f h i a->cX h m d i a->ar f i t b w->o b a->n.G i a (rg (e.at w (XE D v::g)) l)):n.G m d (rg (e.at c (XE D (u::v)::g)) l):=by
 obtain⟨⟨b7,c0,U,T,L,b8⟩,O,R,a0,a1⟩:=a6;subst R a0 a1 a5;refine Hu X n a2 a3 O A a7 (by grind [Rt.free]) Y a8 (T:=o) (a1:=λ_ _=>False) (.all λk=>N {d with tape:=k} A rfl rfl rfl U T L) ?_ ?_
 .intro i b w a b6 _ _ _ _ x;obtain⟨k,x⟩:=x.one;exact⟨{a with tape:=k},⟨λr N=>N,λ_ e p O R=>⟨p,O,R⟩⟩,λz a9=>a4 _ _ x z a9⟩
 intro i b w a Z q1 b0 b1 b2 b3 b4;obtain⟨k,x⟩:=b4.one;exact n.tape (next i b w {a with tape:=k} (Z.tape k) ⟨q1,b0,b1,b2⟩ b3 x)
end
end
variable{a:E}
theorem Ho:∀(b:Xq Xy)(a:E),b[a]?=C Xp->((b.set a J).filter (!·)).length+1=(b.filter (!·)).length
 |[],a,c=>by simp at c
 |d::b,0,c=>by simp_all
 |d::b,a+1,c=>by have:=Ho b a (by simpa using c);cases d<;>simp[Xq.set_cons_succ]at this⊢<;>omega
theorem Cg:∀(d:Xq Xy),(d.filter (!·)).length=0->∀(a:E)(c:Xy),d[a]?=C c->c=J
 |[],_,a,c,b=>by simp at b
 |f::d,e,a,c,b=>by
  cases f with
  |false=>simp at e
  |true=>
   cases a with
   |zero=>simp at b;exact b
   |succ a=>exact Cg d (by simpa using e) a c (by simpa using b)
def Cp(D:Xu Oper):Xy:=(Xq.range D.size).all λa=>((D[a]?).map λc=>c.after.all λb=>!Region.binds .any b||decide (b.on<a)).getD Xp
theorem lC{b:Xu Xy}:a∈Region.ready .any D b↔a<D.size/\b.getD a J=Xp/\∃d,D[a]?=C d/\∀c∈d.after,Region.binds .any c=J->b.getD c.on Xp=J:=by
 unfold Region.ready
 grind [Array.all_eq_true_iff_forall_mem]
theorem LV(hd:Cp D=J){b:Xu Xy}(k:b.size=D.size)(i:Region.ready .any D b=[]):∀a,a<D.size->b.getD a Xp=J:=by
 intro a
 induction a using E.strongRecOn with
 |_ a h=>
  intro c;apply Classical.byContradiction;intro e;have:a∈Region.ready .any D b:=by
   refine lC.2 ⟨c,?_,D[a],Yb c,λd g f=>?_⟩
   .rw[YG,Yb (by omega)]at e⊢
    simpa using e
   unfold Cp at hd;rw[Zk]at hd;have:=hd a (abo.2 c);rw[Yb c]at this;simp only[ZA,ZK]at this;rw[m_]at this;have:=this d g;rw[f]at this;simp at this;exact h d.on this (by omega)
  simp_all
variable{u:Xn}{r:Xu Xn}{n:XC}{e:XF}{l:Xq Item}{t:Xq XC}{p:E}{x:Xq E}{g:Oper}{s:XF}
section
variable[Inhabited aN]
def wC:Xn->Xy
 |.agg _|.tuple _=>Xp
 |_=>J
theorem tU{s:XG}(a:wC u=J){i:Xn}(b:q.cell? s=C i)(c:q.frozen? s=Xp):
 (store s u).runT P q R=(.ok () (q.setCell s u),R.push ⟨.cell s,J,Xp⟩):=by
 unfold store;cases u<;>first|(cases a;done)|(simp[XJ.runT,b,c];rfl)
def xW(r:Xu Xn)(g:E):Xq Xn->Xu Xn
 |[]=>r
 |u::a=>xW (r.setIfInBounds g u) (g+1) a
theorem zb:∀(a:Xq Xn)(r:Xu Xn)(g:E),(xW r g a).size=r.size
 |[],_,_=>rfl
 |u::b,r,g=>by unfold xW;rw[zb];simp
theorem wE:∀(a:Xq Xn)(r:Xu Xn)(g l:E),l<g\/g+a.length<=l->(xW r g a)[l]?=r[l]?
 |[],_,_,_,_=>rfl
 |u::b,r,g,l,c=>by unfold xW;rw[wE b _ _ _ (by grind),Array.getElem?_setIfInBounds,if_neg (by grind)]
theorem Iv:∀(a:Xq Xn)(r:Xu Xn)(g l:E),g+a.length<=r.size->l<a.length->(xW r g a)[g+l]?=a[l]?
 |[],_,_,_,_,b=>by simp at b
 |u::c,r,g,0,b,_=>by
  grind [xW,wE]
 |u::c,r,g,l+1,b,d=>by
  unfold xW;have:=Iv c (r.setIfInBounds g u) (g+1) l (by grind) (by simp_all)
  grind
theorem pD{a g:E}{c:XA}{b:E×E}(d:q.heap[a]?=C (Xx r c b)):
 (q.setCell ⟨a,g,F⟩ u).heap[a]?=C (Xx (r.setIfInBounds g u) c b):=by
 simp[K.setCell,Zr,d]
theorem mB{P:XI}{a:E}{z:XA}{i:E×E}(T:i.1=i.2):∀(c:Xq Xn)(g p:E)(q:K)(r:Xu Xn)(R:Xu XQ),(∀w∈c,wC w=J)->q.heap[a]?=C (Xx r z i)->g+p+c.length<=r.size->
 ∃b new,(storeCells ⟨a,g,F⟩ c p).runT P q R=(.ok () b,R++new)/\(b.os=q.os/\b.output=q.output)/\b.heap.size=q.heap.size/\(∀n,n≠a->b.heap[n]?=q.heap[n]?)/\b.heap[a]?=C (Xx (xW r (g+p) c) z i)/\
  ∀o∈new,∃l,l<c.length/\o=⟨.cell ⟨a,g+p+l,F⟩,J,Xp⟩
 |[],g,p,q,r,R,_,v,_=>⟨q,#[],by rfl,⟨A,A⟩,A,λ_ _=>rfl,v,by simp⟩
 |u::U,g,p,q,r,R,y,v,a2=>by
  have a3:g+p<r.size:=by grind
  have O:q.cell? ⟨a,g+p,F⟩=C r[g+p]:=by simp_all [K.cell?]
  have Q:q.frozen? ⟨a,g+p,F⟩=Xp:=by simp_all [K.frozen?]
  have a4:=tU (P:=P) (R:=R) (y u (by simp)) O Q;obtain⟨b,new,W,H,X,Y,L,N⟩:=mB (P:=P) T U g (p+1) (q.setCell ⟨a,g+p,F⟩ u) (r.setIfInBounds (g+p) u) (R.push ⟨.cell ⟨a,g+p,F⟩,J,Xp⟩) (λw S=>y w (Yw _ S)) (pD v) (by grind);refine⟨b,#[⟨.cell ⟨a,g+p,F⟩,J,Xp⟩]++new,?_,H,?_,λn a0=>?_,L,?_⟩
  .have Z:Addr.add ⟨a,g,F⟩ p=⟨a,g+p,F⟩:=by simp[Addr.add]
   simp_all [storeCells]
  .simp_all
  .simp_all [K.setCell,Zr,Zh]
  intro o k;rcases Xu.mem_append.1 k with k|k
  .simp_all
  obtain⟨l,a1,rfl⟩:=N o k;exact⟨l+1,by simp_all,by grind⟩
theorem seen_cells{fn:XU}(f:∀c,P.funcs[fn]?=C c->c.norace=Xp)(e:∀b∈R,∀d,b.loc≠.mark d):seen P fn R=R:=by
 have g:(P.funcs[fn]?).any (·.norace)=Xp:=by grind
 have i:∀(a:Xq XQ)(kept:Xu XQ),(∀b∈a,∀d,b.loc≠.mark d)->a.foldl (seenStep λc=>(P.funcs[c]?).any (·.norace)) (Xp,kept)=(Xp,kept++a.toArray):=by
  intro a
  induction a with
  |nil=>simp
  |cons b a h=>simp_all [seenStep]
 simp_all [seen_def]
section
variable{main:Xy}
theorem Ed{k:XA}{v O:XV}{c i:E}{b:Xq Xn}{N:XA}{o:E×E}(a2:D[p]?=C g)(a6:Region.wanted g (yielded D e.tmps)=J)(Z:n.kind≠.early)(a3:g.op=.store k v O)(hd:g.dst=F)
 (a7:e.eval v=XK (C ⟨c,i,F⟩))(a8:e.eval O=u)(L:u.cells.toList=b)(a1:∀fn,P.funcs[n.fn]?=C fn->fn.norace=Xp)(a5:∀q R,(Go.sizeOf k).runT P q R=(.ok b.length q,R))(W:∀v∈b,wC v=J)
 (a9:o.1=o.2)(Y:q.heap[c]?=C (Xx r N o))(b6:i+b.length<=r.size):
 ∃a R,stepG P main (rg (n.at e (XE D (p::x)::l)) t) q=.go (rg (n.at e (XE D x::l)) t) a R/\(a.os=q.os/\a.output=q.output)/\a.heap.size=q.heap.size/\(∀n,n≠c->a.heap[n]?=q.heap[n]?)/\a.heap[c]?=C (Xx (xW r i b) N o)/\
  ∀y∈R,∃l,l<b.length/\y=⟨.cell ⟨c,i+l,F⟩,J,Xp⟩:=by
 obtain⟨a,new,b3,S,T,U,b4,b5⟩:=mB (P:=P) a9 b i 0 q r #[] W Y (by omega)
 have a4:(execOp e.eval g).runT P q #[]=(.ok .skip a,new):=by
  unfold execOp;rw[a3];simp only[a7,a8]
  have Q:(Instr.storeAt k (XK (C ⟨c,i,F⟩)) u)=(Go.sizeOf k).bind λb1=>if u.cells.size≠b1 then stuck "storeVar: the value has not the size of the variable"else storeCells ⟨c,i,F⟩ b:=by subst L;rfl
  show((Instr.storeAt k (XK (C ⟨c,i,F⟩)) u).bind λ_=>(Sem.pure Next.skip:XJ Next)).runT P q #[]=_;have b7:u.cells.size=b.length:=by rw[<-L];simp
  rw[S_,Q,S_,a5];simp_all
 have a0:∀y∈new,∀b0,y.loc≠.mark b0:=by grind
 refine⟨a,new,?_,S,T,U,by omega,by omega⟩;obtain⟨z,w⟩:=e;obtain⟨b2,X,H⟩:=fQ (P:=P) (n.at ⟨z,w⟩ (XE D (p::x)::l)) t (execOp (Act.eval ⟨z,w⟩) g) q;rw[jB a2 a6,X];rw[a4]at H⊢
 rw[H Z trivial];simp only[eR,stepG.apply,XJ.runT,Ym,Zg,aW,aM,rg,GStep.after];rw[show(n.at ⟨z,w⟩ (XE D (p::x)::l)).fn=n.fn from A,seen_cells a1 a0];simp_all [YV,Act.put]
end
section
variable{main:Xy}
theorem CJ{u:Goal P f main h}{w:Rt}{v:Xz Tmp}{N:Op}(S:Good P f)(Z:f.fr n.fn=J)(a0:n.kind≠.early)(a2:bM D p v N)
 (a3:jj P f.fn f.bi f.cj N=J)(Y:w.free v=J)(T:Inv P f h m d)(a4:ar f m w s e)(k:XF->K->Prop)
 (z:∀R:K,R.heap=d.heap->∀Q O y,(⟨v,N,Q,O,y,F⟩:Oper).wp P s R k (eB λ_ _=>False))(a1:∀b a,k b a->∀r,h r->a.heap[r]?=d.heap[r]?)
 (next:∀c b o a,Inv P f h c a->cX h m d c a->ar f c w b o->k b a->u.G c a (rg (n.at o (XE D x::l)) t)):u.G m d (rg (n.at e (XE D (p::x)::l)) t):=by
 obtain⟨⟨b3,b5,Q,O,y,b4⟩,H,L,W,X⟩:=a2;subst L W X;refine Hu S u Z a0 H A a3 Y T a4 (T:=k) (a1:=λ_ _=>False) (.all λi=>z {d with tape:=i} A Q O y) ?_ ?_
 .intro c b o a b2 _ _ _ _ q;obtain⟨i,q⟩:=q.one;exact⟨{a with tape:=i},⟨λs z=>z,λ_ n g H L=>⟨g,H,L⟩⟩,λr a5=>a1 _ _ q r a5⟩
 intro c b o a U q1 a6 a7 a8 a9 b0;obtain⟨i,q⟩:=b0.one;exact u.tape (next c b o {a with tape:=i} (U.tape i) ⟨q1,a6,a7,a8⟩ a9 q)
theorem Hz{o:Goal P f main h}{b:Rt}{L:Op}(Y:n.kind≠.early)(a6:∀fn,P.funcs[n.fn]?=C fn->fn.norace=Xp)(Z:bM D p (C j) L)
 (W:b.free (C j)=J)(H:ar f m b s e)(X:j<s.tmps.size){a:Xn}(U:bN a)(a0:∀q k i c,(execOp e.eval ⟨C j,L,k,i,c,F⟩).runT P q #[]=(.ok (.value a) q,#[]))
 (next:∀v,ar f m ⟨b.d0,(j,a)::b.kn⟩ (s.put (C j) I) v->o.G m d (rg (n.at v (XE D x::l)) t)):o.G m d (rg (n.at e (XE D (p::x)::l)) t):=by
 obtain⟨⟨a3,a1,k,i,c,a4⟩,y,Q,S,T⟩:=Z;subst T;obtain rfl:=Q;obtain rfl:=S;refine o.pure A rfl (g₁:=rg (n.at (e.put (C j) a) (XE D x::l)) t) (λq=>?_) (next _ ?_)
 .obtain⟨N,w⟩:=e;obtain⟨a2,O,z⟩:=fQ (P:=P) (n.at ⟨N,w⟩ (XE D (p::x)::l)) t (execOp (Act.eval ⟨N,w⟩) ⟨C j,a1,k,i,c,F⟩) q;rw[jB y A,O];rw[a0 q k i c]at z⊢
  rw[z Y trivial];simp only[eR,stepG.apply,XJ.runT,Ym,Zg,aW,aM,rg,GStep.after];simp[YV,y,Act.put,aW]
 refine(H.put (C j) W (.bS U)).more ?_;simp[Act.put,<-H.tmps.1,X]
theorem qD{o:Type}{c:o->Goal P f main h}{r:XR}(b:E->o->Ren->K->XF->Prop)
 (round:∀k,(∀a m d e,b k a m d e->(c a).G m d (rg (n.at e (.inLoop r::l)) t))->∀a m d e,b (k+1) a m d e->(c a).G m d (rg (n.at e (.code r::.inLoop r::l)) t))
 (last:∀a m d e,b 0 a m d e->(c a).G m d (rg (n.at e (.code r::.inLoop r::l)) t))(i:E){a:o}(v:b i a m d e):(c a).G m d (rg (n.at e (.code (.loop r)::l)) t):=by
 have y:∀(i:E) a m d e,b i a m d e->(c a).G m d (rg (n.at e (.code r::.inLoop r::l)) t):=by
  intro i
  induction i with
  |zero=>exact last
  |succ k w=>grind [HY]
 grind [MX]
theorem Ia{N:Type}{c:N->Goal P f main h}(a0:P.follows .mixedOrders=J)(a8:Cp D=J)(o:Xu Xy->N->Ren->K->XF->XF->Prop)
 (step:∀a p x,a.size=D.size->p∈Region.ready .any D a->(∀b m d s e,o (a.setIfInBounds p J) b m d s e->(c b).G m d (rg (n.at e (XE D x::l)) t))->∀b m d s e,o a b m d s e->(c b).G m d (rg (n.at e (XE D (p::x)::l)) t))
 (fin:∀a,(∀p,p<D.size->a.getD p Xp=J)->∀b m d s e,o a b m d s e->(c b).G m d (rg (n.at e (XE D []::l)) t))
 {id:E}{b:N}(w:o (Array.replicate D.size Xp) b m d s e):(c b).G m d (rg (n.at e (.code (.region id D J)::l)) t):=by
 have a3:∀(i k:E)(a:Xu Xy) b(m:Ren)(d:K)(s e:XF),a.size=D.size->(a.toList.filter (!·)).length<=i->o a b m d s e->(c b).G m d (rg (n.at e (XE D (Region.linearise.go .any D i k a [])::l)) t):=by
  intro i
  induction i with
  |zero=>
   intro k a b m d s e z T y;refine fin a (λp Q=>?_) b m d s e y;have Z:p<a.size:=by omega
   rw[YG,Yb Z];exact Cg _ (E.le_zero.1 T) p _ (by simp)
  |succ i a2=>
   intro k a b m d s e z T y
   change (c b).G m d (rg (n.at e (.inRegion D (match(Region.ready .any D a)[k%(Region.ready .any D a).length]? with
    |some p=>Region.linearise.go .any D i (k/(Region.ready .any D a).length) (a.setIfInBounds p J) [p]
    |none=>[].reverse)::l)) t)
   cases Q:(Region.ready .any D a)[k%(Region.ready .any D a).length]? with
   |none=>
    have b0:Region.ready .any D a=[]:=by
     cases b1:Region.ready .any D a with
     |nil=>rfl
     |cons b b3=>simp_all [abx]
    grind [LV]
   |some p=>
    have S:=Yn Q;simp only[];rw[linearise_go_acc,Xq.reverse_singleton,Xq.singleton_append];refine step a p _ z S (λa4 L H U W a1=>a2 _ _ a4 L H U W (by simp[z]) ?_ a1) b m d s e y;obtain⟨a6,a7,_⟩:=lC.1 S;have a9:a.toList[p]?=C Xp:=by simp_all
    grind [Ho]
 refine(c b).OV A (.step A (λ_ L H Y=>xu P f main h (λm d O=>O.status=.running/\(c b).G m d O) L H Y) (λq v=>?_) (λ_ _ _ _ w=>w))
 have X:stepG P main (rg (n.at e (.code (.region id D J)::l)) t) q=.go (rg (n.at e (.inRegion D (Region.schedule (P.follows .mixedOrders) D (q.tape q.drawn (.order n.fn id)))::l)) t) {q with drawn:=q.drawn+1}:=by rfl
 refine⟨_,m,d,_,[],[],X,?_,λ_ _=>rfl,by simp,A,.stop ⟨A,?_⟩⟩
 .exact{bB.refl v with rel:=⟨v.inj,v.obj,v.os⟩}
 simp only[Region.schedule,a0,Xy.true_or,Ym];exact a3 D.size _ _ b m d s e (by simp) (by simp) w
theorem TH{H:K->Prop}{Stop:Ren->K->XD->Prop}{Q:∀m(d:K) a L,Stop m {d with tape:=a} L->Stop m d L}{y:Rt}{z:Op}(U:Good P f)(a8:f.fr n.fn=J)(b1:n.kind≠.early)(b3:bM D p (C j) z)
 (b4:jj P f.fn f.bi f.cj z=J)(a7:y.free (C j)=J)(W:Inv P f h m d)(S:ar f m y s e){T w:Xn}{O:E}(a4:∀q,H q->∃v o,q.heap[O]?=C (Xx #[w] v o))
 (b2:∀a c b c6,uQ (λu c8=>u=T/\c8.heap=d.heap) ((execOp s.eval ⟨C j,z,a,c,b,F⟩).run P {d with tape:=c6}))(b5:∀q v o a c b,q.heap[O]?=C (Xx #[w] v o)->(execOp e.eval ⟨C j,z,a,c,b,F⟩).run P q=.ok (.value w) q)(b0:j<s.tmps.size)
 (next:∀k N i,Inv P f h k i->cX h m d k i->i.heap=d.heap->ar f k ⟨y.d0,(j,w)::y.kn⟩ (s.put (C j) T) N->(yJ P f h H Stop Q).G k i (rg (n.at N (XE D x::l)) t)):(yJ P f h H Stop Q).G m d (rg (n.at e (XE D (p::x)::l)) t):=by
 obtain⟨⟨c9,d0,a,c,b,L⟩,Z,a0,a1,a2⟩:=b3;subst a2;obtain rfl:=a0;obtain rfl:=a1;refine wN A λq a5 a3=>?_;obtain⟨v,o,a6⟩:=a4 q a3;obtain⟨k,i,new,b9,c0,c7,b7,b8,X,Y,a9,b6⟩:=pJ (main:=Xp) (g:=l) (l:=t) (v:=x) U a8 b1 Z A b4 a7 W S A (b2 a c b) (b5 q v o a c b a6) (by rw[<-S.tmps.1];exact b0) a5;exact⟨_,k,i,q,new,b9,c0,c7,b7,b8,A,next _ _ _ X Y a9 b6⟩
end
end
noncomputable section
abbrev TP:XI:=Go.Proofs.Tryz.prog
def IJ:Xq E:=[15,17,19,20,21,22,26,27,29,30,32,34,35,36,40,41,42,51,52,58,60,61,62,63,64,65,66,95,96,97,98,104,105,106,107,108,109,110,111,112,113,114,128,129,130,131,132,134,135,136,137,138,139,140,141,142,143,144,145,146,147,148,149,150,151,152,153,154,155,156,157,166,167,168,169,170,171,172,173,174,175,176,177,178,179,180,181,182,183,184,185,186,187,188,189,190,200,201,202,203,204,205,206,207,208,209,210,211,212,213,214,215,216,217,218,228,229,230,231,232,233,234,235,236,237,238,239,240,246,247,248,249,250,251,252,253,254,256,257,258,259,260,261,262,263,264,265,266,267,268,269]
def KN:Xq E:=[3,4,5,6,7,8,9,10,11,12,14,15,16,17,18,19,20,21,22,26,27,28,29,30,31,32,34,35,36,39,40,41,42,51,52,58,60,61,62,63,64,65,66,95,96,97,98,104,105,106,107,108,109,110,111,112,113,114,128,129,130,131,132,134,135,136,137,138,139,140,141,142,143,144,145,146,147,148,149,150,151,152,153,154,155,156,157,166,167,168,169,170,171,172,173,174,175,176,177,178,179,180,181,182,183,184,185,186,187,188,189,190,200,201,202,203,204,205,206,207,208,209,210,211,212,213,214,215,216,217,218,228,229,230,231,232,233,234,235,236,237,238,239,240,246,247,248,249,250,251,252,253,254,256,257,258,259,260,261,262,263,264,265,266,267,268,269]
def GI:Xq E:=[171,230,248,256,262,263]
def wD:Xq E:=[38,53,54,81]
def vY:Xq E:=[58,95,96,97,98,107,128,129,130,131,132,145,146,166,167,168,169,174,175,200,201,202,203,204,205,206,207,208,209,210,211,212,228,229,230,231,232,233,234,235,246,247,248,249,250,251,256,257]
def setOf(b c:Xq E)(cj:Xy):Set where
 fn:=λa=>b.contains a
 fr:=λa=>c.contains a
 bi:=Jq TP cj
 code:=codeOk TP (λa=>b.contains a) (Jq TP cj) cj
 cj:=cj
def al:Set:=setOf IJ KN J
def aJ:Set:=setOf wD (37::wD) Xp
def aV:Set:=setOf vY (56::vY) Xp
def CH(b:Set)(a:E):Xy:=
 match TP.funcs[a]? with
 |some fn=>!fn.norace&&!(fn.name== "runtime.NumGoroutine")&&(match fn.body with|some c=>b.code c|none=>GI.contains a)
 |none=>Xp
theorem Tv:(IJ.all (CH al))=J:=by decide+kernel
theorem Qs:(wD.all (CH aJ))=J:=by rfl
theorem look_ok:(vY.all (CH aV))=J:=by decide+kernel
end
variable{a:Xu Xn}
def ZV(a:Xn):Prop:=∀(b:Set)(c:Ren),an b c a a
def zF(a:Xu Xn):Prop:=∀(b:Set)(c:Ren),aw b c a a
theorem ZV.cells{a:Xn}(c:ZV a):zF a.cells:=λb d=>dP (c b d)
theorem zF.agg{a:Xu Xn}(c:zF a):ZV (.agg a):=λb d=>.agg A (c b d).2
theorem zF.append{c:Xu Xn}(e:zF a)(f:zF c):zF (a++c):=λb d=>aw.append (e b d) (f b d)
theorem zF.nil:zF #[]:=λ_ _=>aw.nil
theorem zF.of(f:∀b∈a,ZV b):zF a:=λe g=>⟨A,λh b i c d=>by rw[c]at d;cases d;exact f b (YE c) e g⟩
theorem zF.mem(e:zF a):∀c∈a,ZV c:=λc f d h=>by obtain⟨g,b,rfl⟩:=Zd.1 f;exact(e d h).2 g _ _ (Yb b) (Yb b)
theorem yH{m g:Type}(i:m->g->Xz (ForInStep g))(c:g->Prop)(step:∀h b e,c b->i h b=C e->c (match e with|.yield b=>b|.done b=>b)):∀(l:Xq m)(d f:g),c d->forIn l d i=C f->c f
 |[],d,f,k,a=>by simp at a;subst a;exact k
 |h::l,d,f,k,a=>by
  rw[aa8]at a;simp only[bind,Yl]at a;obtain⟨e,n,a⟩:=a;have:=step h d e k n;cases e with
  |done b=>simp[pure]at a;subst a;exact this
  |yield b=>exact yH i c step l b f this a
theorem Ei{i:XA->Xz TypeInfo}(s:∀x e f,i x=C e->e.zero=C f->ZV f){q:Xu Field}{e:TypeInfo}{f:Xn}(d:Made.reckonStruct i q=C e)(v:e.zero=C f):ZV f:=by
 unfold Made.reckonStruct at d;simp only[bind,Yl,pure]at d;obtain⟨l,m,d⟩:=d;rw[<-r_]at m;have w:=yH _ (λg=>∀a,g.2.2.2.2.2.2.2.1=C a->zF a) (λp g y r b=>?_) _ _ _ (λa c=>by cases c;exact zF.nil) m
 .have fin:l.2.2.2.2.2.2.2.1.map Value.agg=e.zero:=by
   split at d<;>(cases d;rfl)
  rw[v]at fin;cases c:l.2.2.2.2.2.2.2.1 with
  |none=>rw[c]at fin;cases fin
  |some a=>rw[c]at fin;cases fin;exact(w a c).agg
 cases h:i p.type with
 |none=>rw[h]at b;cases b
 |some n=>
  rw[h]at b;simp only[d_]at b
  have leaf:∀a,(if g.2.1+n.size>Made.mostCells then F else g.2.2.2.2.2.2.2.1.bind λk=>n.zero.bind λo=>C (k++o.cells))=C a->zF a:=by
   intro a c;split at c
   .cases c
   simp only[Yl]at c;obtain⟨k,t,o,u,c⟩:=c;cases c;exact(r k t).append (s _ _ _ h u).cells
  split at b
  .cases b
  split at b
  .cases b
  split at b
  .split at b<;>(cases b;exact leaf)
  rw[Yl]at b;obtain⟨tag,_,b⟩:=b;split at b<;>(cases b;exact leaf)
theorem DJ{k:XA->Xz TypeInfo}(h:∀o d e,k o=C d->d.zero=C e->ZV e){l:TypeDesc}{d:TypeInfo}{e:Xn}(a:Made.reckon k l=C d)(b:d.zero=C e):ZV e:=by
 unfold Made.reckon at a;split at a
 .simp only[bind,Yl,pure]at a;obtain⟨j,_,a⟩:=a;split at a
  .cases a
  .split at a
   .cases a
   rw[Yl]at a;obtain⟨_,_,a⟩:=a;cases a;cases b;exactλc f=>.cJ
  rw[Yl]at a;obtain⟨_,_,a⟩:=a;cases a;cases b;exactλc f=>.cJ
 .simp only[bind,Yl,pure]at a;obtain⟨_,_,_,_,a⟩:=a;cases a;cases b;exactλc f=>.aO _ _
 .simp only[bind,Yl,pure]at a;obtain⟨_,_,_,_,_,_,_,_,a⟩:=a;cases a;cases b;exactλc f=>.fw
 .simp only[bind,Yl,pure]at a;obtain⟨_,_,_,_,a⟩:=a;cases a;cases b;exactλc f=>.eg
 .simp only[bind,Yl,pure]at a;obtain⟨_,_,a⟩:=a;cases a;cases b;exactλc f=>.nilFunc
 .simp only[bind,Yl,pure]at a;obtain⟨j,m,_,_,a⟩:=a;cases a;dsimp only at b;split at b
  .cases b
  split at b
  .cases b;exact zF.nil.agg
  rw[YP]at b;obtain⟨r,n,rfl⟩:=b;refine zF.agg (zF.of λp g=>?_);rw[Xu.mem_flatten]at g;obtain⟨q,i,g⟩:=g;rw[Xu.mem_replicate]at i;obtain⟨_,rfl⟩:=i;exact(h _ _ _ m n).cells.mem p g
 .exact Ei h a b
 cases a
theorem tC{g:Tables}(h:∀(d:E)(a:TypeInfo)(b:Xn),g.types[d]?=C a->a.zero=C b->ZV b):∀(e d:E)(a:TypeInfo)(b:Xn),Made.infoAt g e d=C a->a.zero=C b->ZV b
 |0,d,a,b,c,f=>by cases c
 |e+1,d,a,b,c,f=>by
  unfold Made.infoAt at c;split at c
  .exact h d a b c f
  rw[Yl]at c;obtain⟨i,_,c⟩:=c;exact DJ (λd a b=>tC h e d a b) c f
theorem OS(e:∀(d:E)(a:TypeInfo)(b:Xn),P.types[d]?=C a->a.zero=C b->ZV b):iP P:=by
 intro d a b c f;unfold Tables.info? at c;split at c
 .exact e d a b c f
 exact tC e _ d a b c f
theorem mO{fn:XU->Xy}:∀(d:E)(e:Xn),bJ (λ_=>Xp) d e=J->bJ fn d e=J
 |0,_,c=>by simp[bJ]at c
 |d+1,e,c=>by
  have g:∀a:Xu Xn,a.toList.all (bJ (λ_=>Xp) d)=J->a.toList.all (bJ fn d)=J:=λa f=>by
   rw[Zk]at f⊢
   exactλh k=>mO d h (f h k)
  cases e with
  |bool l=>rfl
  |int m o=>rfl
  |string q=>rfl
  |pointer b=>cases b with
   |none=>rfl
   |some b=>simp[bJ]at c
  |slice b n a=>cases b with
   |none=>rfl
   |some b=>simp[bJ]at c
  |map b=>cases b with
   |none=>rfl
   |some b=>simp[bJ]at c
  |chan b=>cases b with
   |none=>rfl
   |some b=>simp[bJ]at c
  |nilFunc=>rfl
  |nilIface=>rfl
  |func i p a=>cases i<;>simp[bJ]at c
  |iface r e=>exact mO d e c
  |agg a=>exact g a c
  |tuple a=>exact g a c
  |_=>simp[bJ]at c
def IN(a:TypeInfo):Xy:=(match a.desc with|.float _|.complex _=>Xp|_=>J)&&(match a.zero with|some b=>bJ (λ_=>Xp) 8 b|none=>J)
theorem OK:TP.types.toList.all IN=J:=by decide+kernel
theorem IP{c:E}{a:TypeInfo}(b:TP.types[c]?=C a):IN a=J:=by have:=OK;rw[Zk]at this;exact this a (by rw[YK];exact YE b)
theorem QK:iP TP:=OS λf e a b c d g=>by have:=IP b;unfold IN at this;rw[c]at this;simp only[Ys]at this;exact iB 8 a (mO 8 a this.2)
theorem Kz{e:XA->Xz TypeInfo}{d:TypeDesc}{c:TypeInfo}(a:Made.reckon e d=C c)(f:FloatKind):c.desc≠.complex f:=by
 unfold Made.reckon at a;split at a
 .simp only[bind,Yl,pure]at a;obtain⟨j,_,a⟩:=a;split at a
  .cases a
  .split at a
   .cases a
   rw[Yl]at a;obtain⟨_,_,a⟩:=a;cases a;intro b;cases b
  rw[Yl]at a;obtain⟨_,_,a⟩:=a;cases a;intro b;cases b
 .simp only[bind,Yl,pure]at a;obtain⟨_,_,_,_,a⟩:=a;cases a;intro b;cases b
 .simp only[bind,Yl,pure]at a;obtain⟨_,_,_,_,_,_,_,_,a⟩:=a;cases a;intro b;cases b
 .simp only[bind,Yl,pure]at a;obtain⟨_,_,_,_,a⟩:=a;cases a;intro b;cases b
 .simp only[bind,Yl,pure]at a;obtain⟨_,_,a⟩:=a;cases a;intro b;cases b
 .simp only[bind,Yl,pure]at a;obtain⟨j,h,_,_,a⟩:=a;cases a;intro b;cases b
 .unfold Made.reckonStruct at a;simp only[bind,Yl,pure]at a;obtain⟨g,_,a⟩:=a;split at a<;>(cases a;intro b;cases b)
 cases a
theorem IM{f:XA}{d:TypeInfo}(a:TP.info? f=C d)(e:FloatKind):d.desc≠.float e/\d.desc≠.complex e:=by
 by_cases c:f<TP.types.size
 .have g:TP.types[f]?=C d:=by
   unfold Tables.info? at a;rwa [XN c]at a
  have:=IP g;unfold IN at this;simp only[Ys]at this;refine⟨λb=>?_,λb=>?_⟩<;>(rw[b]at this;simp at this)
 refine⟨λb=>?_,?_⟩
 .have:=Tables.info?_beyond c a;rw[b]at this;cases this
 unfold Tables.info? at a;rw[XH c]at a;unfold Made.depth Made.infoAt at a;rw[XH c,Yl]at a;obtain⟨h,_,a⟩:=a;exact Kz a e
theorem GO:kj TP:=by
 intro g c;unfold XI.underlying;cases e:TP.info? g with
 |none=>simp
 |some h=>
  have d:=IM e c;split
  .constructor<;>
   .intro a;rw[YP]at a;obtain⟨j,f,a⟩:=a;have b:=IM f c
    first|exact b.1 a|exact b.2 a
  .rename_i j _ a;cases a;simp only[ne_eq,Yr];exact d
  rename_i a;cases a
theorem MO:Extern.findNext Tryz.f171=F/\Extern.find Tryz.f171=C (Extern.SlicesOverlaps.overlaps Tryz.f171.params Tryz.f171.resultTypes):=⟨by kernel_rfl,by kernel_rfl⟩
theorem MQ:Extern.findNext Tryz.f230=F/\Extern.find Tryz.f230=C Extern.BytealgCount.count:=⟨by kernel_rfl,by kernel_rfl⟩
theorem MR:Extern.findNext Tryz.f248=F/\Extern.find Tryz.f248=C Extern.BytealgIndex.index:=⟨by kernel_rfl,by kernel_rfl⟩
theorem MS:Extern.findNext Tryz.f256=F/\Extern.find Tryz.f256=C Extern.BytealgIndexByte.indexByte:=⟨by kernel_rfl,by kernel_rfl⟩
theorem MT:Extern.findNext Tryz.f262=F/\Extern.find Tryz.f262=C Extern.AbiNoEscape.same:=⟨by kernel_rfl,by kernel_rfl⟩
theorem Sw:Extern.findNext Tryz.f263=F/\Extern.find Tryz.f263=C (Extern.BytealgMakeNoZero.makeNoZero Tryz.f263.params Tryz.f263.resultTypes):=⟨by kernel_rfl,by kernel_rfl⟩
theorem zr:∀a,TP.globals.findIdx? (·.name== "internal/bytealg.MaxLen")=C a->0<a:=by
 have:TP.globals.findIdx? (·.name== "internal/bytealg.MaxLen")=C 1:=by decide+kernel
 simp_all
theorem TA{a:E}(d:GI.contains a=J){fn:Func}(b:TP.funcs[a]?=C fn):Extern.findNext fn=F/\∃c,Extern.find fn=C c/\kM TP f c:=by
 have e:a=171\/a=230\/a=248\/a=256\/a=262\/a=263:=by simpa[GI]using d
 rcases e with rfl|rfl|rfl|rfl|rfl|rfl
 .cases b;exact⟨MO.1,_,MO.2,AI _ _⟩
 .cases b;exact⟨MQ.1,_,MQ.2,Jz⟩
 .cases b;exact⟨MR.1,_,MR.2,JW zr⟩
 .cases b;exact⟨MS.1,_,MS.2,xL⟩
 .cases b;exact⟨MT.1,_,MT.2,Oo⟩
 grind [Tryz.func263,Sw,we]
noncomputable def Im(a:E):Xy:=match TP.funcs[a]? with|some fn=>!fn.norace|none=>J
theorem Aj{b c:Xq E}{cj:Xy}(e:b.all (CH (setOf b c cj))=J)(q:c.all Im=J)(r:b.all (λa=>c.contains a)=J)(l:TP.follows .rangeFuncRecover=J):Good TP (setOf b c cj) where
 uG:=GO
 zero:=QK
 code:=A
 bi:=A
 UI:=l
 norace:=λa fn f d=>by grind [setOf,Im]
 FI:=λa f=>by simp_all [setOf]
 maxLen:=zr
 funcs:=λa f=>by
  rw[Zk]at e;have:=e a (by simp_all [setOf]);unfold CH at this;cases d:TP.funcs[a]? with
  |none=>simp_all
  |some fn=>
   rw[d]at this;simp only[Ys,Xy.not_eq_true']at this;obtain⟨⟨_,m⟩,g⟩:=this;refine⟨fn,A,m,?_⟩;cases k:fn.body with
   |some n=>simp_all
   |none=>rw[k]at g;obtain⟨h,i⟩:=TA g d;exact Xs ⟨A,h,i⟩
theorem GP:TP.follows .rangeFuncRecover=J:=by rfl
theorem aC:Good TP al:=Aj Tv (by decide+kernel) (by decide+kernel) GP
theorem eM:Good TP aJ:=Aj Qs (by rfl) (by rfl) GP
theorem gU:Good TP aV:=Aj look_ok (by decide+kernel) (by rfl) GP
variable{U:Oper}{e:E->Prop}{s:E}{p:Xq XC}{T:Xq E}{f:XF}{O:Xz XG}
section
variable[Inhabited aN]
theorem ib{w:XV->Xn}{o:XV}{a:E}{V:Xn}{Y:XA}{W:E×E}(l:U.op=.load 99 o)(a3:w o=XK (C ⟨a,0,F⟩))(X:q.heap[a]?=C (Xx #[V] Y W)):
 (execOp w U).run TP q=.ok (.value V) q:=by
 have a2:q.cell? ⟨a,0,F⟩=C V:=by simp[K.cell?,X]
 obtain⟨a0,a4,a6,a5,Z,a1⟩:=U;simp only at l;subst l;go_simp
theorem rR:TP.follows .mixedOrders=J:=by rfl
structure RV where
 ak:Xt
 kind:Xt
 path:XM
 data:XM
 aE:Xt
 flags:Xt
 watch:Xy
 oa:Xz XG
 on:E
 oc:E
def RV.jm(g:RV):Xu Xn:=#[Xo M g.ak,Xo M g.kind,.string g.path,.string g.data,Xo M g.aE,Xo M g.flags,.bool g.watch,.slice g.oa g.on g.oc]
structure RR(b:PD)(e:E->Prop)(k:K)(h n:E)(O:Xz XG)(S:E)(rq:E->RV):Prop where
 x5:e h
 x3:e n
 h5:∃l a,k.heap[h]?=C (Xx #[I] l a)
 h3:∃l a,k.heap[n]?=C (Xx #[.slice O b.n S] l a)
 elem:∀c,c<b.n->∃o X W l a,O=C ⟨o,X,F⟩/\e o/\k.heap[o]?=C (Xx W l a)/\∀j,j<8->W[X+c*8+j]?=(rq c).jm[j]?
 Od:∀c,c<b.n->∀d:K,(∀w,e w->d.heap[w]?=k.heap[w]?)->k.heap.size<=d.heap.size->Calls TP 38 #[Xo M c,.agg (rq c).jm] d λY Z=>Y=XB (b.τ c)/\Below d.heap.size d Z
 only:∀c,c<b.n->ft b.sh (b.τ c)
 small:b.n<2^40
structure kl(e:E->Prop)(k:K)(i:E)(g:RV)(d:K):Prop where
 keep:∀o,e o->d.heap[o]?=k.heap[o]?
 size:k.heap.size<=d.heap.size
 box:d.heap[i]?=C (Xx g.jm 31 (0,0))
 out:¬e i
theorem kl.same{k c:K}{i:E}{g:RV}(a:kl e k i g d)(b:c.heap=d.heap):kl e k i g c:=⟨by rw[b];exact a.keep,by rw[b];exact a.size,by rw[b];exact a.box,a.out⟩
section
variable{b:PD}{k:K}{h i c:E}{g:RV}{r:Xq Item}{R:Xq Deferred}{t y z H L N Q u v x:Xn}
theorem fZ(b1:bM D 0 (C 12) (.load 99 (.tmp 0))){o:E×E}{w:XA}(a6:k.heap[h]?=C (Xx #[I] w o))(b3:e h){b2 Z a0 a1:Xn}(a2:Inv TP aJ e m d)(W:kl e k i g d)
 (X:ar aJ m ⟨R,[(0,XK (C ⟨b.bx,0,F⟩))]⟩ ⟨#[XK (C ⟨h,0,F⟩),t,Xo M c,XK (C ⟨i,0,F⟩),y,z,H,L,N,Q,u,v,b2,Z,a0,a1,x],[]⟩ f)
 (next:∀l a n,Inv TP aJ e l a->kl e k i g a->ar aJ l ⟨R,[(12,.chan (C b.rc)),(0,XK (C ⟨b.bx,0,F⟩))]⟩ ⟨#[XK (C ⟨h,0,F⟩),t,Xo M c,XK (C ⟨i,0,F⟩),y,z,H,L,N,Q,u,v,I,Z,a0,a1,x],[]⟩ n->(fS TP b aJ e s).G l a (rg ((baseD 37).at n (XE D T::r)) p)):
 (fS TP b aJ e s).G m d (rg ((baseD 37).at f (XE D (0::T)::r)) p):=by
 obtain⟨⟨b4,b8,Y,b9,b5,b6⟩,a5,O,S,U⟩:=b1;simp only at O S U;subst O S U
 have a4:f.eval (.tmp 0)=XK (C ⟨b.bx,0,F⟩):=by have:=X.kn (0,XK (C ⟨b.bx,0,F⟩)) (by simp);simp_all [Act.eval]
 have a9:d.heap[h]?=C (Xx #[I] w o):=by rw[W.keep h b3];exact a6
 refine Oa eM (by decide) (by decide) a5 A (show jj TP aJ.fn aJ.bi aJ.cj (.load 99 (.tmp 0))=J by rfl) A a2 X (j:=12) A (H:=I) (λY=>by rw[ib (q:={d with tape:=Y}) A rfl a9];exact⟨A,A⟩)
  (λq w o a7=>ib A a4 a7) (by simp) λl n a a3 b7 a8 b0=>next l a n a3 (W.same a8) b0
theorem ga(b0:bM D 1 (C 13) (.move (.tmp 2))){w:Xq (E×Xn)}{a1:Xq E}(a7:w.map (·.1)=a1)(a5:(a1.all λc=>C 13 !=C c)=J){W b1 X Y:Xn}(a2:Inv TP aJ e m d)(a6:kl e k i g d)
 (a8:ar aJ m ⟨R,w⟩ ⟨#[XK (C ⟨h,0,F⟩),t,Xo M c,XK (C ⟨i,0,F⟩),y,z,H,L,N,Q,u,v,W,b1,X,Y,x],[]⟩ f)
 (next:∀l a o,Inv TP aJ e l a->kl e k i g a->ar aJ l ⟨R,w⟩ ⟨#[XK (C ⟨h,0,F⟩),t,Xo M c,XK (C ⟨i,0,F⟩),y,z,H,L,N,Q,u,v,W,Xo M c,X,Y,x],[]⟩ o->(fS TP b aJ e s).G l a (rg ((baseD 37).at o (XE D T::r)) p)):
 (fS TP b aJ e s).G m d (rg ((baseD 37).at f (XE D (1::T)::r)) p):=by
 refine vN eM (by decide) (by decide) b0 a7 (by decide) a5 a2 a8 (λZ a=>Z=⟨#[XK (C ⟨h,0,F⟩),t,Xo M c,XK (C ⟨i,0,F⟩),y,z,H,L,N,Q,u,v,W,Xo M c,X,Y,x],[]⟩/\a.heap=d.heap) (λb6 b2 _ _ _ b5 b4 a0=>?_) (λZ a a4 b7 _=>by rw[a4.2]) ?_
 .go_wp2
 rintro l _ o a a3 b3 a9⟨rfl,a0⟩;exact next l a o a3 (a6.same a0) a9
theorem iL(b3:bM D 2 (C 14) (.load 31 (.tmp 3))){X:Xq (E×Xn)}{a6:Xq E}(b1:X.map (·.1)=a6)(b0:(a6.all λc=>C 14 !=C c)=J){Y Z c9 a0:Xn}(a2:Inv TP aJ e m d)(W:kl e k i g d)
 (a5:ar aJ m ⟨R,X⟩ ⟨#[XK (C ⟨h,0,F⟩),t,Xo M c,XK (C ⟨i,0,F⟩),y,z,H,L,N,Q,u,v,Y,Z,c9,a0,x],[]⟩ f)
 (next:∀l a o,Inv TP aJ e l a->kl e k i g a->ar aJ l ⟨R,X⟩ ⟨#[XK (C ⟨h,0,F⟩),t,Xo M c,XK (C ⟨i,0,F⟩),y,z,H,L,N,Q,u,v,Y,Z,.agg g.jm,a0,x],[]⟩ o->(fS TP b aJ e s).G l a (rg ((baseD 37).at o (XE D T::r)) p)):
 (fS TP b aJ e s).G m d (rg ((baseD 37).at f (XE D (2::T)::r)) p):=by
 refine vN eM (by decide) (by decide) b3 b1 (by decide) b0 a2 a5 (λa3 a=>a3=⟨#[XK (C ⟨h,0,F⟩),t,Xo M c,XK (C ⟨i,0,F⟩),y,z,H,L,N,Q,u,v,Y,Z,.agg g.jm,a0,x],[]⟩/\a.heap=d.heap) (λd0 a8 _ _ _ d7 d6 a4=>?_) (λa3 a a9 d8 _=>by rw[a9.2]) ?_
 .have w:=W.box;obtain⟨b7,b8,b9,c0,c6,c7,c8,b4,b6,b5⟩:=g;unfold RV.jm at w⊢
  rw[<-a8]at w
  have cell:∀j a1,#[Xo M b7,Xo M b8,.string b9,.string c0,Xo M c6,Xo M c7,.bool c8,.slice b4 b6 b5][j]?=C a1->d0.cell? ⟨i,j,F⟩=C a1:=λj a1 d5=>by simp_all [K.cell?]
  have d1:=cell 0 _ A;have c1:=cell 1 _ A;have c2:=cell 2 _ A;have c3:=cell 3 _ A;have c4:=cell 4 _ A;have c5:=cell 5 _ A;have d2:=cell 6 _ A;have d3:=cell 7 _ A;clear cell w W a5 next a2
  go_wp2
  rfl
 rintro l _ o a a7 d4 b2⟨rfl,a4⟩;exact next l a o a7 (W.same a4) b2
theorem fY(b6:bM D 3 (C 15) (.call {callee:=.value (.func 38),args:=#[.tmp 13,.tmp 14],argTypes:=#[3,31]}))(a8:∀d:K,(∀a,e a->d.heap[a]?=k.heap[a]?)->k.heap.size<=d.heap.size->Calls TP 38 #[Xo M c,.agg g.jm] d λo l=>o=XB (b.τ c)/\Below d.heap.size d l)
 {a3:Xq (E×Xn)}{b0:Xq E}(b4:a3.map (·.1)=b0)(b3:(b0.all λc=>C 15 !=C c)=J){a4 b7:Xn}(a1:Inv TP aJ e m d)(w:kl e k i g d)
 (a9:ar aJ m ⟨R,a3⟩ ⟨#[XK (C ⟨h,0,F⟩),t,Xo M c,XK (C ⟨i,0,F⟩),y,z,H,L,N,Q,u,v,a4,Xo M c,.agg g.jm,b7,x],[]⟩ f)
 (next:∀Y W Z,Inv TP aJ e Y W->kl e k i g W->ar aJ Y ⟨R,a3⟩ ⟨#[XK (C ⟨h,0,F⟩),t,Xo M c,XK (C ⟨i,0,F⟩),y,z,H,L,N,Q,u,v,a4,Xo M c,.agg g.jm,b.τ c,x],[]⟩ Z->(fS TP b aJ e s).G Y W (rg ((baseD 37).at Z (XE D T::r)) p)):
 (fS TP b aJ e s).G m d (rg ((baseD 37).at f (XE D (3::T)::r)) p):=by
 have a0:∀a,e a->a<d.heap.size:=λa a0=>by obtain⟨U,c7,_⟩:=a1.cQ a a0;grind
 refine vN eM (by decide) (by decide) b6 b4 (by decide) b3 a1 a9 (λa5 W=>a5=⟨#[XK (C ⟨h,0,F⟩),t,Xo M c,XK (C ⟨i,0,F⟩),y,z,H,L,N,Q,u,v,a4,Xo M c,.agg g.jm,b.τ c,x],[]⟩/\∃l,l.heap=d.heap/\Below l.heap.size l W) (λl a2 _ _ _ d0 c8 o=>?_) ?_ ?_
 .have a7:=a8 l (λa a0=>by rw[a2];exact w.keep a a0) (by rw[a2];exact w.size);generalize g.jm=c9 at a7⊢
  clear a8 w a9 next a1
  go_wp2_with (go_at_call 38;refine a7.mono ?_;rintro a2 d1⟨rfl,X⟩)
  grind
 .rintro a5 W⟨_,l,o,X⟩ a a6;rw[<-o];exact X.block a (by simp_all)
 rintro Y _ Z W b1 c6 b5⟨rfl,l,o,X⟩;have b2:i<l.heap.size:=by rw[o];exact(XZ.1 w.box).1
 refine next Y W Z b1 ⟨λa a6=>?_,?_,?_,w.out⟩ b5
 .rw[X.block a (by simp_all),o,w.keep a a6]
 .have:=X.size;have:=w.size;grind
 rw[X.block i b2,o];exact w.box
theorem gd(w:bM D 4 F (.send (.tmp 12) (.tmp 15)))(Y:c+(s+1)=b.n)(Z:ft b.sh (b.τ c)){O:Xn}(S:Inv TP aJ e m d)
 (n:ar aJ m ⟨R,[(12,.chan (C b.rc)),(0,XK (C ⟨b.bx,0,F⟩))]⟩ ⟨#[XK (C ⟨h,0,F⟩),t,Xo M c,XK (C ⟨i,0,F⟩),y,z,H,L,N,Q,u,v,I,Xo M c,O,b.τ c,x],[]⟩ f)
 (next:(fS TP b aJ e s).G m d (rg ((baseD 37).at f (XE D []::r)) p)):
 (fS TP b aJ e (s+1)).G m d (rg ((baseD 37).at f (XE D (4::[])::r)) p):=by
 obtain⟨⟨T,a0,a2,a1,U,W⟩,a,g,k,l⟩:=w;simp only at g k l;subst g k l
 have o:f.eval (.tmp 12)=.chan (C b.rc):=by have:=n.kn (12,.chan (C b.rc)) (by simp);simp_all [Act.eval]
 have X:an aJ m (b.τ c) (f.eval (.tmp 15)):=n.tmps.getD 15 aX;refine .stop ⟨A,f.eval (.tmp 15),.tuple #[],λq _=>?_,?_,?_,?_⟩
 .exact GK a A (by decide) A o
 .grind
 .grind
 have:Go.Conc.served (rg ((baseD 37).at f (XE D (4::[])::r)) p) I=rg ((baseD 37).at f (XE D []::r)) p:=by simp only[Go.Conc.served,rg,YV,a];rfl
 rw[this];exact next
theorem Ou(U:bM D 0 (C 12) (.load 99 (.tmp 0)))(w:bM D 1 (C 13) (.move (.tmp 2)))(O:bM D 2 (C 14) (.load 31 (.tmp 3)))(S:bM D 3 (C 15) (.call {callee:=.value (.func 38),args:=#[.tmp 13,.tmp 14],argTypes:=#[3,31]}))(b3:bM D 4 F (.send (.tmp 12) (.tmp 15)))
 {a2:E×E}{a3:XA}(T:k.heap[h]?=C (Xx #[I] a3 a2))(W:e h)(q:∀d:K,(∀Y,e Y->d.heap[Y]?=k.heap[Y]?)->k.heap.size<=d.heap.size->Calls TP 38 #[Xo M c,.agg g.jm] d λa1 a7=>a1=XB (b.τ c)/\Below d.heap.size d a7)
 (b1:c+(s+1)=b.n)(b2:ft b.sh (b.τ c)){a0:Xq E}(Z:a0∈[[0,1,2,3,4],[0,2,1,3,4],[1,0,2,3,4],[1,2,0,3,4],[1,2,3,0,4],[2,0,1,3,4],[2,1,0,3,4],[2,1,3,0,4]])
 {a4 a5 X a6:Xn}(a:Inv TP aJ e m d)(l:kl e k i g d)
 (n:ar aJ m ⟨R,[(0,XK (C ⟨b.bx,0,F⟩))]⟩ ⟨#[XK (C ⟨h,0,F⟩),t,Xo M c,XK (C ⟨i,0,F⟩),y,z,H,L,N,Q,u,v,a4,a5,X,a6,x],[]⟩ f)
 (next:∀m d f X,Inv TP aJ e m d->kl e k i g d->ar aJ m ⟨R,[(12,.chan (C b.rc)),(0,XK (C ⟨b.bx,0,F⟩))]⟩ ⟨#[XK (C ⟨h,0,F⟩),t,Xo M c,XK (C ⟨i,0,F⟩),y,z,H,L,N,Q,u,v,I,Xo M c,X,b.τ c,x],[]⟩ f->(fS TP b aJ e s).G m d (rg ((baseD 37).at f (XE D []::r)) p)):
 (fS TP b aJ e (s+1)).G m d (rg ((baseD 37).at f (XE D a0::r)) p):=by
 simp only[Yg,Yo,Ze]at Z;rcases Z with rfl|rfl|rfl|rfl|rfl|rfl|rfl|rfl
 .refine fZ U T W a l n ?_;intro m d f a l n;refine ga w (a1:=[12,0]) A rfl a l n ?_;intro m d f a l n;refine iL O (a6:=[12,0]) A rfl a l n ?_;intro m d f a l n;refine fY S q (b0:=[12,0]) A rfl a l n ?_;grind [gd]
 .refine fZ U T W a l n ?_;intro m d f a l n;refine iL O (a6:=[12,0]) A rfl a l n ?_;intro m d f a l n;refine ga w (a1:=[12,0]) A rfl a l n ?_;intro m d f a l n;refine fY S q (b0:=[12,0]) A rfl a l n ?_;grind [gd]
 .refine ga w (a1:=[0]) A rfl a l n ?_;intro m d f a l n;refine fZ U T W a l n ?_;intro m d f a l n;refine iL O (a6:=[12,0]) A rfl a l n ?_;intro m d f a l n;refine fY S q (b0:=[12,0]) A rfl a l n ?_;grind [gd]
 .refine ga w (a1:=[0]) A rfl a l n ?_;intro m d f a l n;refine iL O (a6:=[0]) A rfl a l n ?_;intro m d f a l n;refine fZ U T W a l n ?_;intro m d f a l n;refine fY S q (b0:=[12,0]) A rfl a l n ?_;grind [gd]
 .refine ga w (a1:=[0]) A rfl a l n ?_;intro m d f a l n;refine iL O (a6:=[0]) A rfl a l n ?_;intro m d f a l n;refine fY S q (b0:=[0]) A rfl a l n ?_;grind [fZ,gd]
 .refine iL O (a6:=[0]) A rfl a l n ?_;intro m d f a l n;refine fZ U T W a l n ?_;intro m d f a l n;refine ga w (a1:=[12,0]) A rfl a l n ?_;intro m d f a l n;refine fY S q (b0:=[12,0]) A rfl a l n ?_;grind [gd]
 .refine iL O (a6:=[0]) A rfl a l n ?_;intro m d f a l n;refine ga w (a1:=[0]) A rfl a l n ?_;intro m d f a l n;refine fZ U T W a l n ?_;intro m d f a l n;refine fY S q (b0:=[12,0]) A rfl a l n ?_;grind [gd]
 refine iL O (a6:=[0]) A rfl a l n ?_;intro m d f a l n;refine ga w (a1:=[0]) A rfl a l n ?_;intro m d f a l n;refine fY S q (b0:=[0]) A rfl a l n ?_;grind [fZ,gd]
end
section
variable{b:PD}{h n S:E}{rq:E->RV}
abbrev Gs(b:PD)(R:Xq Deferred):Rt:=⟨R,[(0,XK (C ⟨b.bx,0,F⟩))]⟩
theorem Kv(l:RR b e d h n O S rq)(Y:Inv TP aJ e m d)(f5:m h b.bx){d6:Xn}(f3:an aJ m (XK (C ⟨n,0,F⟩)) d6):
 jE TP aJ e (Jd b) (je TP b aJ e b.n) m d (born TP {target:=.fn (.func 37) #[XK (C ⟨b.bx,0,F⟩),d6],args:=#[]}):=by
 show(fS TP b aJ e b.n).G m d _;refine Goal.pure _ A rfl (λq=>vm Tryz.func37 (by decide) A) ?_;rw[enter_atD _ Tryz.func37 A]
 simp only[Tryz.ntmps37,YF,Yv,Zp,E.reduceAdd,E.reduceSub,Zu,
  Zv,ZE,Zy,Zw,Yz]
 have g5:=aX (f:=aJ) (m:=m)
 have b7:ar aJ m (Gs b []) ⟨#[XK (C ⟨h,0,F⟩),XK (C ⟨n,0,F⟩),I,I,I,I,I,I,I,I,I,I,I,I,I,I,I],[]⟩
  ⟨#[XK (C ⟨b.bx,0,F⟩),d6,I,I,I,I,I,I,I,I,I,I,I,I,I,I,I],[]⟩:=by
  refine⟨?_,⟨[],A,.nil⟩,by simp⟩;refine aY.arr (.cons (.ptr ⟨f5,A,A⟩) (.cons f3 ?_))
  repeat (first|exact .nil|refine .cons g5 ?_)
 generalize (⟨#[XK (C ⟨b.bx,0,F⟩),d6,I,I,I,I,I,I,I,I,I,I,I,I,I,I,I],[]⟩:XF)=f at b7⊢
 refine bu (eE ?_)
 have f2:f.eval (.tmp 0)=XK (C ⟨b.bx,0,F⟩):=by have:=b7.kn (0,XK (C ⟨b.bx,0,F⟩)) (by simp);simp_all [Act.eval]
 obtain⟨n0,l3,b5⟩:=l.h5
 refine Oa eM (by decide) (by decide) A rfl (by rfl) A Y b7 (j:=4) A (H:=I) (λe3=>by rw[ib (q:={d with tape:=e3}) A rfl b5];exact⟨A,A⟩)
  (λq j1 l1 h9=>ib A f2 h9) (by simp) λj7 g9 Z e6 h6 d7 e2=>?_
 have f4:g9.eval (.tmp 4)=.chan (C b.rc):=by have:=e2.kn (4,.chan (C b.rc)) (by simp);simp_all [Act.eval]
 refine xJ (by decide) A rfl rfl rfl f4 e2 A λc9 h0 d3=>bO (bu ?_);replace d3:ar aJ j7 (Gs b [cF #[99] 0 b.rc c9]) ⟨#[XK (C ⟨h,0,F⟩),XK (C ⟨n,0,F⟩),I,I,I,I,I,I,I,I,I,I,I,I,I,I,I],[]⟩ h0:=d3.less A (by simp);obtain⟨m9,l2,d1⟩:=l.h3;refine bW eM (by decide) (by decide) (z:=[0]) A (by rfl) e6 d3 (λo Z=>o=⟨#[XK (C ⟨h,0,F⟩),XK (C ⟨n,0,F⟩),I,I,I,.slice O b.n S,Xo M b.n,Xo M 0,I,I,I,I,I,I,I,I,I],[]⟩/\Z.heap=d.heap) (λa3 w _ _ _=>?_) ?_ ?_
 .have l8:a3.cell? ⟨n,0,F⟩=C (.slice O b.n S):=by simp_all [K.cell?]
  rw[d7]at w;clear b7 l d1 d7
  go_wp2
  exact⟨A,w⟩
 .simp_all
 rintro j8 _ h1 j3 e7 h7 a1⟨rfl,f8⟩
 refine ik (Ku (λs m Z f=>∃(c:E)(c6 c7 a6 e4 c8 b9 c0 a8 a9 a2 b0 b1:Xn),c+s=b.n/\Inv TP aJ e m Z/\(∀a,e a->Z.heap[a]?=d.heap[a]?)/\d.heap.size<=Z.heap.size/\
  ar aJ m (Gs b [cF #[99] 0 b.rc c9]) ⟨#[XK (C ⟨h,0,F⟩),XK (C ⟨n,0,F⟩),c6,c7,a6,.slice O b.n S,Xo M b.n,Xo M c,e4,c8,b9,c0,a8,a9,a2,b0,b1],[]⟩ f) ?_ ?_ b.n j8 j3 h1
  ⟨0,_,_,_,_,_,_,_,_,_,_,_,_,by omega,e7,λa W=>by rw[f8],by simp_all,a1⟩)
 .clear a1 e7 f8 d3 h7 e2 f4 d7 e6 h6 b7 f2 g5 f3 f5 Y;rintro s d4 m Z f⟨c,c6,c7,a6,e4,c8,b9,c0,a8,a9,a2,b0,b1,b4,Y,b3,d2,a0⟩;have g1:(c:Xt)<b.n:=by omega
  have d9:c<b.n:=by omega
  have e1:=l.small;refine bu (bW eM (by decide) (by decide) (z:=[0]) A (by rfl) Y a0 (λo X=>o=⟨#[XK (C ⟨h,0,F⟩),XK (C ⟨n,0,F⟩),c6,c7,a6,.slice O b.n S,Xo M b.n,Xo M c,.bool J,c8,b9,c0,a8,a9,a2,b0,b1],[]⟩/\X.heap=Z.heap) (λa3 w _ _ _=>?_) (λo X a7 a _=>by rw[a7.2]) ?_)
  .clear d4 b4 a0 d1 b5 l Y b3 d2 e1
   go_wp2
   exact⟨A,w⟩
  rintro j9 _ e9 b2 a4 f0 a1⟨rfl,d8⟩;refine bu (iT (k:=J) (iU a4.base a1 (by decide) A) (sI (bu (ik (bu ?_)))));obtain⟨a5,b8,g7,j2,h5,rfl,l6,h8,d0⟩:=l.elem c d9;obtain⟨⟨i4,i5,i6,i7,i8,i9,j0,i1,i3,i2⟩,g3⟩:∃g,rq c=g:=⟨_,A⟩;refine bW eM (by decide) (by decide) (z:=[0]) A (by rfl) a4 a1 (λo X=>o=⟨#[XK (C ⟨h,0,F⟩),XK (C ⟨n,0,F⟩),Xo M c,XK (C ⟨b2.heap.size,0,F⟩),a6,Xw (C ⟨a5,b8,F⟩) b.n S,Xo M b.n,Xo M c,.bool J,Xo M c,XK (C ⟨a5,b8+c*8,F⟩),.agg (rq c).jm,a8,a9,a2,b0,b1],[]⟩/\X.heap=b2.heap.push (.cells (rq c).jm 31 (0,0))) (λa3 w _ _ _=>?_) ?_ ?_
  .rw[g3]at d0⊢
   unfold RV.jm at d0⊢
   have f6:a3.heap[a5]?=C (Xx g7 j2 h5):=by grind
   have l7:a5<a3.heap.size:=(XZ.1 f6).1
   have cell:∀j e5,j<8->#[Xo M i4,Xo M i5,.string i6,.string i7,Xo M i8,Xo M i9,.bool j0,.slice i1 i3 i2][j]?=C e5->a3.cell? ⟨a5,b8+c*8+j,F⟩=C e5:=λj e5 l9 m3=>by grind [World.cell?]
   have h3:=cell 0 _ (by decide) A;have c1:=cell 1 _ (by decide) A;have c2:=cell 2 _ (by decide) A;have c3:=cell 3 _ (by decide) A;have c4:=cell 4 _ (by decide) A;have c5:=cell 5 _ (by decide) A;have k7:=cell 6 _ (by decide) A;have k8:=cell 7 _ (by decide) A;rw[E.add_zero]at h3;rw[<-w];clear d4 b4 a0 d1 b5 l Y b3 d2 e1 a1 g3 d0 f0 a4 cell w f6
   go_wp2
   exact⟨A,A⟩
  .rintro o X⟨_,h4⟩ a W;rw[h4];obtain⟨U,m2,_⟩:=a4.cQ a W
   grind
  rintro n2 _ k5 j4 e8 f1 g4⟨rfl,f9⟩;have g2:∀a,e a->a<b2.heap.size:=λa W=>by obtain⟨U,a7,_⟩:=a4.cQ a W;grind
  have b6:kl e d b2.heap.size (rq c) j4:=by
   refine⟨λa W=>?_,?_,?_,λW=>E.lt_irrefl _ (g2 _ W)⟩
   .rw[f1.keep a W,d8,b3 a W]
   .rw[f9,abb,d8];omega
   grind
  refine Sy rR (i:=[[0,1,2,3,4],[0,2,1,3,4],[1,0,2,3,4],[1,2,0,3,4],[1,2,3,0,4],[2,0,1,3,4],[2,1,0,3,4],[2,1,3,0,4]]) (by decide+kernel) λm4 e0=>?_;refine Ou ⟨_,A,A,A,A⟩ ⟨_,A,A,A,A⟩ ⟨_,A,A,A,A⟩ ⟨_,A,A,A,A⟩ ⟨_,A,A,A,A⟩ b5 l.x5 (l.Od c d9) b4 (l.only c d9) e0 e8 b6 g4 λm j5 f a2 Y b6 a0=>bO (CL ?_);have e1:=l.small;have l5:(0:Xt)<=c:=by omega
  have m0:(c:Xt)<2^40:=by omega
  refine bW eM (by decide) (by decide) (z:=[12,0]) A (by rfl) Y a0 (λo X=>o=⟨#[XK (C ⟨h,0,F⟩),XK (C ⟨n,0,F⟩),Xo M c,XK (C ⟨b2.heap.size,0,F⟩),a6,Xw (C ⟨a5,b8,F⟩) b.n S,Xo M b.n,Xo M ((c+1:E):Xt),.bool J,Xo M c,XK (C ⟨a5,b8+c*8,F⟩),.agg (rq c).jm,I,Xo M c,a2,b.τ c,Xo M ((c+1:E):Xt)],[]⟩/\X.heap=j5.heap) (λa3 w _ _ _=>?_) (λo X a7 a _=>by rw[a7.2]) ?_
  .generalize b.τ c=m7;generalize (rq c).jm=m5;clear l b6 a0 g4 e8 f9 f1 d0 h8 g2 d4
   go_wp2
   exact⟨by rfl,w⟩
  rintro k0 _ h2 j6 g8 l4 i0⟨rfl,g0⟩;exact d4 k0 j6 h2 ⟨c+1,_,_,_,_,_,_,_,_,_,_,_,_,by omega,g8,λa W=>by rw[g0,b6.keep a W],by rw[g0];exact b6.size,i0.less A (by simp)⟩
 rintro m Z f⟨c,c6,c7,a6,e4,c8,b9,c0,a8,a9,a2,b0,b1,b4,Y,b3,d2,a0⟩;have g1:¬((c:Xt)<b.n):=by omega
 refine bu (bW eM (by decide) (by decide) (z:=[0]) A (by rfl) Y a0 (λo X=>o=⟨#[XK (C ⟨h,0,F⟩),XK (C ⟨n,0,F⟩),c6,c7,a6,.slice O b.n S,Xo M b.n,Xo M c,.bool Xp,c8,b9,c0,a8,a9,a2,b0,b1],[]⟩/\X.heap=Z.heap) (λa3 w _ _ _=>?_) (λo X a7 a _=>by rw[a7.2]) ?_)
 .have m1:b.n<=c:=by omega
  clear b4 a0 d1 b5 l b3 d2 g1
  go_wp2
  exact⟨by simp_all,w⟩
 rintro j9 _ e9 b2 a4 f0 a1⟨rfl,d8⟩;refine bu (iT (k:=Xp) (iU a4.base a1 (by decide) A) (sH A ?_));refine Goal.pure _ A rfl (λq=>by rw[bm A];simp[stepG.exec,Frame.at,rg];rfl) ?_;obtain⟨g6,k9⟩:=e9;obtain⟨l0,f7,e0⟩:=a1.defers;cases e0;simp only[Zw]at f7;subst f7;exact .stop (Gt (P:=TP) (a:=baseD 37) (e:=g6) (d:=[]) (g:=#[99]) (l:=0) (i:=c9) A Tryz.func37 A rfl rfl)
end
end
abbrev kU:Go.Conc.Lib.WgLink:={add:=55,done:=57,wait:=59,relMerge:=82,disable:=83,enable:=84,inBubble:=85,associate:=86,fatal:=87,uOr:=88,uAdd:=89,raceRead:=90,uLoad:=91,uStore:=92,disassociate:=93,semrelease:=94,acquire:=99,isAssociated:=100,uCas:=101,raceWrite:=102,semacquire:=103,orU64:=124,addU64:=125,loadU64:=126,storeU64:=127,casU64:=133,tWgP:=200,tUP:=202,tAssoc:=203,tWg:=151,tAU:=148,tU64:=146,tUint:=207,tU32:=149,tPU32:=208,tPAU:=241,tPU64:=243,tNoCopy:=143,tANoCopy:=144,tAlign64:=145}
theorem IV:Go.Conc.Lib.WgLib TP kU:=
 ⟨Tryz.func55,Tryz.func57,Tryz.func59,Tryz.func82,Tryz.func83,Tryz.func84,Tryz.func85,Tryz.func86,Tryz.func87,Tryz.func88,Tryz.func89,Tryz.func90,Tryz.func91,Tryz.func92,Tryz.func93,Tryz.func94,Tryz.func99,Tryz.func100,Tryz.func101,Tryz.func102,Tryz.func103,Tryz.func124,Tryz.func125,Tryz.func126,Tryz.func127,Tryz.func133,Tryz.underlying200,Tryz.runUnderlying200,Tryz.sizeOf200,Tryz.isAgg200,Tryz.zeroValue200,Tryz.underlying202,Tryz.runUnderlying202,Tryz.sizeOf202,Tryz.isAgg202,Tryz.zeroValue202,Tryz.underlying203,Tryz.runUnderlying203,Tryz.sizeOf203,Tryz.isAgg203,Tryz.zeroValue203,Tryz.underlying151,Tryz.runUnderlying151,Tryz.sizeOf151,Tryz.isAgg151,Tryz.zeroValue151,Tryz.underlying148,Tryz.runUnderlying148,Tryz.sizeOf148,Tryz.isAgg148,Tryz.zeroValue148,Tryz.underlying146,Tryz.runUnderlying146,Tryz.sizeOf146,Tryz.isAgg146,Tryz.zeroValue146,Tryz.underlying207,Tryz.runUnderlying207,Tryz.sizeOf207,Tryz.isAgg207,Tryz.zeroValue207,Tryz.underlying149,Tryz.runUnderlying149,Tryz.sizeOf149,Tryz.isAgg149,Tryz.zeroValue149,Tryz.underlying208,Tryz.runUnderlying208,Tryz.sizeOf208,Tryz.isAgg208,Tryz.zeroValue208,Tryz.underlying241,Tryz.runUnderlying241,Tryz.sizeOf241,Tryz.isAgg241,Tryz.zeroValue241,Tryz.underlying243,Tryz.runUnderlying243,Tryz.sizeOf243,Tryz.isAgg243,Tryz.zeroValue243,Tryz.underlying0,Tryz.runUnderlying0,Tryz.sizeOf0,Tryz.isAgg0,Tryz.zeroValue0,Tryz.underlying3,Tryz.runUnderlying3,Tryz.sizeOf3,Tryz.isAgg3,Tryz.zeroValue3,Tryz.underlying4,Tryz.runUnderlying4,Tryz.sizeOf4,Tryz.isAgg4,Tryz.zeroValue4,Tryz.underlying9,Tryz.runUnderlying9,Tryz.sizeOf9,Tryz.isAgg9,Tryz.zeroValue9,Tryz.underlying20,Tryz.runUnderlying20,Tryz.sizeOf20,Tryz.isAgg20,Tryz.zeroValue20,Tryz.underlying21,Tryz.runUnderlying21,Tryz.sizeOf21,Tryz.isAgg21,Tryz.zeroValue21,by kernel_rfl,by kernel_rfl⟩
variable{i:E}{f:Set}{R:E}{d:E}{v:Xn}{u:XF}{z:E->Prop}{y:XF}{b:Xn}{Z:Xq E}{Y:Xq XC}{W:Xn}
section
variable[Inhabited aN]
theorem kZ.tape{c:WD}{fin:bD->K->Prop}(l:∀cl(w:K) t,fin cl {w with tape:=t}->fin cl w):∀(s:E)(cl:bD)(m:Ren)(w:K)(t:E->Question->E)(g:XD),kZ P c fin i f h s cl m {w with tape:=t} g->kZ P c fin i f h s cl m w g
 |0,cl,_,w,t,_,a=>⟨a.1,a.2.1,l cl w t a.2.2⟩
 |s+1,cl,m,w,t,g,a=>by obtain⟨a0,n,x,a7,X,a1,a2,a3,a4,a5,a6⟩:=a;exact⟨a0,n,x,a7,X,a1,a2,a3,a4,a5,(yJ P f h (ud c) (kZ P c fin i f h s (cl++[(n,x)])) (kZ.tape l s _)).tape a6⟩
def jg(P:XI)(a:WD)(fin:bD->K->Prop)(c:∀cl(w:K) e,fin cl {w with tape:=e}->fin cl w)(i:E)(f:Set)(h:E->Prop)(b:E×bD):Goal P f Xp h:=yJ P f h (ud a) (kZ P a fin i f h b.1 b.2) (kZ.tape c b.1 b.2)
structure WV where
 cb:E
 tp:Xn
 bl:E
 off:E
 n:E
 nc:E
 c:E
 gb:E
 gv:E
 path:XM
abbrev pt(a o:E):Xn:=XK (C ⟨a,o,F⟩)
def wT(V:WV)(r:Xu Xn)(p:Xn):Xq (E×E×Xn):=
 [(0,18,I),(1,19,Xo M V.c),(2,20,I),(3,21,Xo M V.c),(4,22,pt V.cb 0),(5,23,pt V.cb 0),(6,24,pt V.cb 2),(7,25,V.tp),(8,26,Xw (C ⟨V.bl,V.off,F⟩) V.n V.nc),(9,27,Xo M V.c),
  (10,28,pt V.bl (V.off+V.c*9)),(11,29,pt V.bl (V.off+V.c*9)),(12,30,pt V.bl (V.off+V.c*9+1)),(13,31,pt V.bl (V.off+V.c*9+1+1)),(14,32,pt V.bl (V.off+V.c*9+1+1+1)),(15,33,.string V.path),
  (16,34,.tuple #[.agg r,p]),(17,17,.tuple #[.agg r,p]),(18,35,.agg r),(19,36,p),(20,37,I),(21,38,I),(23,39,I),(24,40,I)]
def wK(V:WV):Xq (E×E×Xn):=
 [(0,18,Xw (C ⟨V.gb,0,F⟩) V.n V.n),(2,20,Xw (C ⟨V.gb,0,F⟩) V.n V.n),(20,37,pt V.gb (V.c*10)),(21,38,pt V.gb (V.c*10)),(23,39,pt V.gb (V.c*10)),(24,40,pt V.gb (V.c*10+9))]
def IX(V:WV)(e:Xu Xy):Xq (E×Xn):=((wK V).filter λa=>e.getD a.1 Xp).map (λa=>(a.2.1,a.2.2))++[(4,pt V.gv 0)]
def dx(i:E):Xq E:=
 [[],[],[],[],[],[4],[5],[6],[],[],[8,9],[10],[11],[12],[13],[14],[7,15],[16],[17],[17],[0,1],[20],[21,18],[2,3,22],[23],[24,19,22]].getD i []
theorem Hv{a:E->Xq E}(n:D.size=R)(g:((Xq.range R).all λi=>(a i).all λj=>((D[i]?).map λo=>o.after.any λc=>c.on==j&&Region.binds .any c).getD Xp)=J){e:Xu Xy}(l:i∈Region.ready .any D e):∀j∈a i,e.getD j Xp=J:=by grind [lC]
structure WR(z:E->Prop)(O:K)(V:WV)(N:Xq Deferred)(U T S L:E)(Q:K)(H:Xu Xn->Xn->K->Prop)(e:Xu Xy)(r:Xu Xn)(p:Xn)(m:Ren)(w:K)(u y:XF):Prop where
 inv:Inv TP aV z m w
 keep:∀b,z b->w.heap[b]?=O.heap[b]?
 size:O.heap.size<=w.heap.size
 len:u.tmps.size=41
 defs:u.defers=[]
 t1:u.tmps[1]?=C (pt U 0)
 t2:u.tmps[2]?=C (pt T 0)
 t3:u.tmps[3]?=C (pt S 0)
 t4:u.tmps[4]?=C (pt L 0)
 t5:u.tmps[5]?=C (Xo M V.c)
 tab:∀c∈wT V r p,e.getD c.1 Xp=J->u.tmps[c.2.1]?=C c.2.2
 rel:ar aV m ⟨N,IX V e⟩ u y
 sn:e.getD 16 Xp=J->H r p w
 ord:∀j,j=17\/j=18\/j=19->e.getD j Xp=J->e.getD 16 Xp=J
 Up:∀a,a<Q.heap.size->w.heap[a]?=Q.heap[a]?
 TL:Q.heap.size<=w.heap.size
theorem iF{n m:Type}{l:n->m}:∀{f:Xq n}{b e:n},(f.map l).Nodup->b∈f->e∈f->l b=l e->b=e
 |p::f,b,e,g,a,c,h=>by
  rw[Zj,Xq.nodup_cons]at g;rcases Yg.1 a with a|a<;>rcases Yg.1 c with c|c
  .rw[a,c]
  .exact absurd (YL.2 ⟨e,c,by rw[<-h,a]⟩) g.1
  .exact absurd (YL.2 ⟨b,a,by rw[h,c]⟩) g.1
  exact iF g.2 a c h
theorem qG{e:Xu Xy}(b:(e.setIfInBounds i J).getD j Xp=J):j=i\/e.getD j Xp=J:=by
 by_cases a:j=i
 .exact Xr a
 simp_all [Zh]
theorem JL{e:Xu Xy}(a:e.getD j Xp=J):(e.setIfInBounds i J).getD j Xp=J:=by
 rw[YG]at a⊢
 grind
theorem QI{b:Xq (E×E×Xn)}(g:(b.map (·.1)).Nodup)(p:(b.map (·.2.1)).Nodup)(m:(i,d,v)∈b)(hd:d<u.tmps.size){e:Xu Xy}(n:∀a∈b,e.getD a.1 Xp=J->u.tmps[a.2.1]?=C a.2.2):
 ∀a∈b,(e.setIfInBounds i J).getD a.1 Xp=J->(u.put (C d) v).tmps[a.2.1]?=C a.2.2:=by
 intro a l h;simp only[Act.put];rw[Zb];by_cases f:d=a.2.1
 .grind [iF]
 rw[XH f];rcases qG h with c|c
 .have:=iF g l m c;subst this;exact absurd A f
 grind
theorem OL(V:WV)(r:Xu Xn)(p:Xn):((wT V r p).map (·.1)).Nodup:=by show([0,1,2,3,4,5,6,7,8,9,10,11,12,13,14,15,16,17,18,19,20,21,23,24]:Xq E).Nodup;decide
theorem EF(V:WV)(r:Xu Xn)(p:Xn):((wT V r p).map (·.2.1)).Nodup:=by show([18,19,20,21,22,23,24,25,26,27,28,29,30,31,32,33,34,17,35,36,37,38,39,40]:Xq E).Nodup;decide
theorem GW{V:WV}{a:E×E×Xn}(b:a∈wK V):a.1∈[0,2,20,21,23,24]/\a.2.1∈[18,20,37,38,39,40]:=by
 simp only[wK,Yg,Yo,Ze]at b
 grind
theorem EI{V:WV}{e:Xu Xy}{N:Xq Deferred}(b:d∉[4,18,20,37,38,39,40]):(⟨N,IX V e⟩:Rt).free (C d)=J:=by
 unfold Rt.free IX;rw[Zk];intro g c;simp only[YC,YL,u_,YS]at c;have:g.1≠d:=by
  rcases c with⟨h,⟨f,_⟩,rfl⟩|rfl
  .intro a;have:=(GW f).2;simp only at a;rw[a]at this;exact b (Yw _ this)
  rintro rfl;exact b (by simp)
 grind
theorem BI{V:WV}{e:Xu Xy}(c:i∉[0,2,20,21,23,24]):IX V (e.setIfInBounds i J)=IX V e:=by
 unfold IX
 congr 2
 refine Xq.filter_congr λa f=>?_;have g:a.1≠i:=λb=>c (b▸(GW f).1);simp_all [Zh]
section
variable{O:K}{V:WV}{N:Xq Deferred}{U T S L:E}{Q:K}{H:Xu Xn->Xn->K->Prop}{e:Xu Xy}{r:Xu Xn}{p:Xn}
theorem cA(a:u.tmps[j]?=C b)(c:j≠d):(u.put (C d) v).tmps[j]?=C b:=by simp_all [Act.put,Zh]
theorem WR.put(a:WR z O V N U T S L Q H e r p m w u y){n:Ren}{l:K}{t:XF}(a1:i≠16)(a3:i=17\/i=18\/i=19->e.getD 16 Xp=J)(a2:(i,d,v)∈wT V r p)(X:Inv TP aV z n l)(c:l.heap=w.heap)
 (a5:H r p w->H r p l)(a4:ar aV n ⟨N,IX V (e.setIfInBounds i J)⟩ (u.put (C d) v) t)(hd:17<=d/\d<41):WR z O V N U T S L Q H (e.setIfInBounds i J) r p n l (u.put (C d) v) t where
 inv:=X
 keep:=by rw[c];exact a.keep
 size:=by rw[c];exact a.size
 len:=by simp[Act.put,a.len]
 defs:=a.defs
 t1:=cA a.t1 (by omega)
 t2:=cA a.t2 (by omega)
 t3:=cA a.t3 (by omega)
 t4:=cA a.t4 (by omega)
 t5:=cA a.t5 (by omega)
 tab:=QI (OL V r p) (EF V r p) a2 (by rw[a.len];exact hd.2) a.tab
 rel:=a4
 sn:=λa0=>a5 (a.sn ((qG a0).resolve_left (Zh a1)))
 ord:=λj x hd=>JL (by
  rcases qG hd with rfl|hd
  .exact a3 x
  exact a.ord j x hd)
 Up:=by rw[c];exact a.Up
 TL:=by rw[c];exact a.TL
theorem eZ{t:WD}{fin:bD->K->Prop}{x:∀cl(w:K) n,fin cl {w with tape:=n}->fin cl w}{a1:E}{b:E×bD}{l:Op}
 (b1:∀a:K,a.heap=w.heap->H r p w->H r p a)(a8:bM D i (C d) l)(a9:jj TP aV.fn aV.bi aV.cj l=J)(a6:i∉[0,2,16,20,21,22,23,24,25])(hd:d∉[4,18,20,37,38,39,40]/\17<=d/\d<41)(a7:(i,d,v)∈wT V r p)(b0:i=17\/i=18\/i=19->e.getD 16 Xp=J)
 (g:WR z O V N U T S L Q H e r p m w u y)(run:∀a0:K,a0.heap=w.heap->∀n b2 a4,(⟨C d,l,n,b2,a4,F⟩:Oper).wp TP u a0 (λc a=>c=u.put (C d) v/\a.heap=w.heap) (eB λ_ _=>False))
 (next:∀m w u y,WR z O V N U T S L Q H (e.setIfInBounds i J) r p m w u y->(jg TP t fin x a1 aV z b).G m w (rg ((baseD 56).at y (XE D Z::k)) Y)):
 (jg TP t fin x a1 aV z b).G m w (rg ((baseD 56).at y (XE D (i::Z)::k)) Y):=by
 refine CJ gU (by decide) (by decide) a8 a9 (EI hd.1) g.inv g.rel (λc a=>c=u.put (C d) v/\a.heap=w.heap) run (λc a a5 b _=>by rw[a5.2]) ?_;rintro b3 _ a3 a a2 b4 b5⟨rfl,X⟩;refine next b3 a _ a3 (g.put (by rintro rfl;exact a6 (by simp)) b0 a7 a2 X (b1 a X) ?_ hd.2)
 simp_all [BI]
theorem WR.eval(a:WR z O V N U T S L Q H e r p m w u y)(c:(i,d,v)∈wT V r p)(hd:e.getD i Xp=J):u.eval (.tmp d)=v/\u.tmps.getD d I=v/\u.tmps[d]?.getD I=v:=by have:=a.tab _ c hd;simp_all [Act.eval]
theorem cE(a:u.tmps[d]?=C v):u.eval (.tmp d)=v/\u.tmps.getD d I=v/\u.tmps[d]?.getD I=v:=⟨by simp[Act.eval,a],by simp[a],by simp[a]⟩
theorem WR.yF(a:WR z O V N U T S L Q H e r p m w u y)(c:(i,d,v)∈wK V)(hd:e.getD i Xp=J):y.tmps[d]?=C v:=by refine a.rel.kn (d,v) ?_;show(d,v)∈IX V e;unfold IX;exact ZQ _ (YL.2 ⟨_,u_.2 ⟨c,hd⟩,A⟩)
theorem yN{a:Rt}(b:ar f m a u y){R:Xt}(hd:u.tmps[d]?=C (Xo M R)):y.tmps[d]?=C (Xo M R):=by obtain⟨W,c,e⟩:=b.tmps.get hd;cases e;exact c
theorem EJ(h:(i,d,v)∈wK V)(m:i<e.size):∀f∈IX V (e.setIfInBounds i J),f∈(d,v)::IX V e:=by
 intro f b;unfold IX at b⊢
 simp only[YC,YL,u_,YS]at b;rcases b with⟨g,⟨c,hd⟩,rfl⟩|rfl
 .rcases qG hd with a|a
  .have l:((wK V).map (·.1)).Nodup:=by
    show([0,2,20,21,23,24]:Xq E).Nodup;decide
   have:=iF l c h a;subst this;exact Zi ..
  exact Yw _ (ZQ _ (YL.2 ⟨g,u_.2 ⟨c,a⟩,A⟩))
 simp
theorem zv(b:(i,d,v)∈wK V)(g:e.getD i Xp=Xp):(⟨N,IX V e⟩:Rt).free (C d)=J:=by
 unfold Rt.free IX;rw[Zk];intro m c;simp only[YC,YL,u_,YS]at c;have hd:=(GW b).2;have:m.1≠d:=by
  rcases c with⟨n,⟨h,a⟩,rfl⟩|rfl
  .intro f
   have l:((wK V).map (·.2.1)).Nodup:=by show([18,20,37,38,39,40]:Xq E).Nodup;decide
   have:=iF l h b f;subst this;simp only at a;rw[g]at a;cases a
  rintro rfl;simp at hd
 grind
theorem tV{g:XV->Xn}{b:XV}{a:E}{V:Xn}{t:XA}{l:E×E}(c:o.op=.load 141 b)(a1:g b=XK (C ⟨a,0,F⟩))(n:q.heap[a]?=C (Xx #[V] t l)):
 (execOp g o).run TP q=.ok (.value V) q:=by
 have a0:q.cell? ⟨a,0,F⟩=C V:=by simp[K.cell?,n]
 obtain⟨d,a2,a4,a3,x,X⟩:=o;simp only at c;subst c;go_simp
theorem zh{c:XV->Xn}{b f:XV}{e a:E}(l:c b=Xw (C ⟨e,0,F⟩) R R)(m:c f=Xo M a)(h:a<R)(q:K)(p:XA)(n:String)(g:Xu Edge):
 (execOp c ⟨C j,.indexAddr 141 b f,p,n,g,F⟩).runT TP q #[]=(.ok (.value (pt e (a*10))) q,#[]):=by
 have r:(a:Xt)<R:=by omega
 rw[D_];refine aag ?_ ?_
 .simp only;go_simp
 simp only;simp[go_sem,l,m,h]
theorem zg{g:XV->Xn}{b:XV}{e c a:E}(l:a=0\/a=1)(f:g b=pt e c)(q:K)(n:XA)(m:String)(h:Xu Edge):
 (execOp g ⟨C j,.fieldAddr 158 b a,n,m,h,F⟩).runT TP q #[]=(.ok (.value (pt e (c+9*a))) q,#[]):=by
 rw[D_];rcases l with rfl|rfl
 .refine aag ?_ ?_
  .simp only;go_simp
  simp only;simp[go_sem,f]
 refine aag ?_ ?_
 .simp only;go_simp
 simp only;simp[go_sem,f]
theorem OM{f:WD}{fin:bD->K->Prop}{s:∀cl(w:K) n,fin cl {w with tape:=n}->fin cl w}{R:E}{b:E×bD}
 (a7:∀c:K,c.heap=w.heap->H r p w->H r p c)(a6:bM D i (C d) (.load 141 (.tmp 4)))(a8:i<e.size)(a5:e.getD i Xp=Xp)(c0:i<16\/19<i)(a4:(i,d,I)∈wT V r p)(x:(i,d,Xw (C ⟨V.gb,0,F⟩) V.n V.n)∈wK V)(hd:17<=d/\d<41)
 (b8:f.gv=V.gv)(c6:f.gs=Xw (C ⟨V.gb,0,F⟩) V.n V.n){h:XA}{g:E×E}(a2:O.heap[L]?=C (Xx #[I] h g))(b3:z L)(a:WR z O V N U T S L Q H e r p m w u y)
 (next:∀m w u y,WR z O V N U T S L Q H (e.setIfInBounds i J) r p m w u y->(jg TP f fin s R aV z b).G m w (rg ((baseD 56).at y (XE D Z::k)) Y)):
 (jg TP f fin s R aV z b).G m w (rg ((baseD 56).at y (XE D (i::Z)::k)) Y):=by
 have a1:=cE a.t4;have a3:w.heap[L]?=C (Xx #[I] h g):=by rw[a.keep L b3];exact a2
 have b1:y.tmps[4]?=C (pt V.gv 0):=a.rel.kn (4,pt V.gv 0) (y_ _ (by simp))
 refine TH gU (by decide) (by decide) a6 (by rfl) (zv x a5) a.inv a.rel (T:=I) (w:=Xw (C ⟨V.gb,0,F⟩) V.n V.n) (O:=V.gv) (λq l=>by
  obtain⟨h,g,b9⟩:=l
  simp_all) (λn b0 a0 b2=>?_) (λq h g n b0 a0 l=>?_) (by rw[a.len];exact hd.2) λb4 X c W b7 t a9=>next b4 c _ X (a.put (by omega) (by omega) a4 W t (a7 c t) (a9.less A (EJ x a8)) hd)
 .rw[tV (q:={w with tape:=b2}) A a1.1 a3];exact⟨A,A⟩
 exact tV A (cE b1).1 l
theorem tI:∀fn,TP.funcs[(baseD 56).fn]?=C fn->fn.norace=Xp:=λfn a=>by have:TP.funcs[56]?=C fn:=a;rw[Tryz.func56]at this;cases this;rfl
theorem uK{l:WD}{fin:bD->K->Prop}{n:∀cl(w:K) g,fin cl {w with tape:=g}->fin cl w}{X:E}{b:E×bD}{x:Op}{c o:E}
 (a4:bM D i (C d) x)(a6:i<e.size)(a3:e.getD i Xp=Xp)(b0:i<16\/19<i)(a2:(i,d,I)∈wT V r p)(t:(i,d,pt c o)∈wK V)(hd:17<=d/\d<41)(a:WR z O V N U T S L Q H e r p m w u y)
 (a5:∀q g a8 a1,(execOp y.eval ⟨C d,x,g,a8,a1,F⟩).runT TP q #[]=(.ok (.value (pt c o)) q,#[]))
 (next:∀m w u y,WR z O V N U T S L Q H (e.setIfInBounds i J) r p m w u y->(jg TP l fin n X aV z b).G m w (rg ((baseD 56).at y (XE D Z::k)) Y)):
 (jg TP l fin n X aV z b).G m w (rg ((baseD 56).at y (XE D (i::Z)::k)) Y):=
 Hz (by decide) tI a4 (zv t a3) a.rel (by rw[a.len];exact hd.2) (a:=pt c o) trivial a5 λa0 a7=>next m w _ a0 (a.put (by omega) (by omega) a2 a.inv A id (a7.less A (EJ t a6)) hd)
theorem TE{a1:WD}{fin:bD->K->Prop}{a6:∀cl(w:K) a0,fin cl {w with tape:=a0}->fin cl w}{b0:E}{b:E×bD}
 (d0:bM D 16 (C 34) (.call {callee:=.value (.func 58),args:=#[.tmp 25,.tmp 33],argTypes:=#[94,9]}))(d5:e.getD 16 Xp=Xp)(c6:e.getD 7 Xp=J)(c0:e.getD 15 Xp=J)
 (a8:∀w:K,(∀b,z b->w.heap[b]?=O.heap[b]?)->O.heap.size<=w.heap.size->Calls TP 58 #[V.tp,.string V.path] w λg c=>∃r p,g=XB (.tuple #[.agg r,p])/\H r p c/\Below w.heap.size w c)
 (d7:∀r p(w f:K),f.heap=w.heap->H r p w->H r p f)(a:WR z O V N U T S L Q H e r p m w u y)
 (next:∀r p m w u y,WR z O V N U T S L Q H (e.setIfInBounds 16 J) r p m w u y->(jg TP a1 fin a6 b0 aV z b).G m w (rg ((baseD 56).at y (XE D Z::k)) Y)):
 (jg TP a1 fin a6 b0 aV z b).G m w (rg ((baseD 56).at y (XE D (16::Z)::k)) Y):=by
 have b8:=(a.eval (i:=7) (d:=25) (v:=V.tp) (by simp[wT]) c6);have b9:=(a.eval (i:=15) (d:=33) (v:=.string V.path) (by simp[wT]) c0)
 have d6:∀j,j=17\/j=18\/j=19->e.getD j Xp=J->False:=λj a7 hd=>by have:=a.ord j a7 hd;simp_all
 have t:∀b,z b->b<w.heap.size:=λb t=>by obtain⟨o,a,_⟩:=a.inv.cQ b t;grind
 refine CJ gU (by decide) (by decide) d0 (by rfl) (EI (by decide)) a.inv a.rel (λq f=>∃r p,q=u.put (C 34) (.tuple #[.agg r,p])/\H r p f/\∃c,c.heap=w.heap/\Below c.heap.size c f) (λc R a0 d2 g=>?_) ?_ ?_
 .have a9:=a8 c (λb t=>by rw[R];exact a.keep b t) (by rw[R];exact a.size);obtain⟨q1,d9,e0⟩:=b8;obtain⟨e1,e2,e3⟩:=b9;generalize a4:(λq f=>∃r p,q=u.put (C 34) (.tuple #[.agg r,p])/\H r p f/\∃c,c.heap=w.heap/\Below c.heap.size c f)=b2
  have fin:∀r p x,H r p x->Below c.heap.size c x->b2 (u.put (C 34) (.tuple #[.agg r,p])) x:=λr p x X l=>by subst a4;exact⟨r,p,A,X,c,R,l⟩
  unfold Oper.wp
  have d1:(execOp u.eval ⟨C 34,.call {callee:=.value (.func 58),args:=#[.tmp 25,.tmp 33],argTypes:=#[94,9]},a0,d2,g,F⟩).run TP c=.ok (.enter 58 #[V.tp,.string V.path]) c:=by
   clear a9 fin a4 a8 next a
   go_simp
  rw[d1,abc];refine a9.mono ?_;simp_all
 .rintro q f⟨_,_,_,_,c,g,l⟩ b a5;rw[<-g];exact l.block b (by simp_all)
 rintro d3 _ b5 f b1 d4 d8⟨n,h,rfl,X,c,g,l⟩;refine next n h d3 f (u.put (C 34) (.tuple #[.agg n,h])) b5 ?_
 have c8:∀j,j≠16->(e.setIfInBounds 16 J).getD j Xp=e.getD j Xp:=λj a7=>by simp_all [Zh]
 refine⟨b1,λb a5=>?_,?_,by simp[Act.put,a.len],a.defs,cA a.t1 (by omega),cA a.t2 (by omega),cA a.t3 (by omega),cA a.t4 (by omega),cA a.t5 (by omega),?_,?_,λ_=>X,?_,λa2 c7=>?_,?_⟩
 .rw[l.block b (by simp_all),g,a.keep b a5]
 .have:=l.size;have:=a.size;grind
 .intro s W hd;by_cases a3:s.1=16
  .have:=iF (OL V n h) W (show(16,34,Xn.tuple #[.agg n,h])∈wT V n h by simp[wT]) a3;subst this;simp[Act.put,a.len]
  rw[c8 _ a3]at hd
  have c9:s.2.1≠34:=λb7=>by have:=iF (EF V n h) W (show(16,34,Xn.tuple #[.agg n,h])∈wT V n h by simp[wT]) b7;simp_all
  refine cA ?_ c9;have:s∈wT V r p:=by
   simp only[wT,Yg,Yo,Ze]at W⊢
   grind
  exact a.tab s this hd
 .simp_all [BI]
 .simp_all
 .have:=a.TL;rw[l.block a2 (by rw[g];omega),g,a.Up a2 c7]
 have:=l.size;have:=a.TL
 grind
theorem NT(a:an f m b W)(c:wC b=J):wC W=J:=by cases a<;>first|rfl|(cases c;done)
theorem IT{l:WD}{fin:bD->K->Prop}{a5:∀cl(w:K) b1,fin cl {w with tape:=b1}->fin cl w}{X:E}{cl:bD}{a0 b2 b3 o:E}{b5:Rt}
 (c7:bM D i F (.store a0 (.tmp b2) (.tmp b3)))(d0:∀q n,(Go.sizeOf a0).runT TP q n=(.ok R q,n))(hrel:ar aV m b5 u y)(d3:y.tmps[b2]?=C (pt l.gb o))(d5:u.tmps[b3]?=C v)(c6:v.cells.size=R)(b8:∀b∈v.cells,wC b=J)
 (a9:o+R<=l.gn)(own:∀k,k<R->l.own X (o+k))(b6:∀c∈cl,c.1+c.2.size<=o\/o+R<=c.1)
 (next:(jg TP l fin a5 X aV z (s,cl++[(o,v.cells)])).G m w (rg ((baseD 56).at y (XE D Z::k)) Y)):
 (jg TP l fin a5 X aV z (s+1,cl)).G m w (rg ((baseD 56).at y (XE D (i::Z)::k)) Y):=by
 obtain⟨⟨e4,f0,b1,c,b7,e7⟩,b9,a1,a2,a3⟩:=c7;simp only at a1 a2 a3;subst a3;obtain rfl:=a1;obtain rfl:=a2;obtain⟨g,d1,d2⟩:=hrel.tmps.get d5;have t:=dP d2;have a7:g.cells.size=R:=by rw[<-t.1];exact c6
 have c8:∀b∈g.cells.toList,wC b=J:=by
  intro b d4;obtain⟨j,a,rfl⟩:=Zd.1 (by simpa using d4:b∈g.cells);have a6:j<v.cells.size:=by rw[t.1];exact a
  exact NT (t.2 j _ _ (Yb a6) (Yb a)) (b8 _ (Xu.getElem_mem a6))
 have x:g.cells.toList.length=R:=by simpa using a7
 refine .stop ⟨A,o,v.cells,g.cells,rg ((baseD 56).at y (XE D Z::k)) Y,t,λk e9=>own k (by omega),λc c9=>by rw[a7];exact b6 c c9,A,λq c0=>?_,next⟩;obtain⟨e2,e5,q1,d6,a8⟩:=c0;obtain⟨b4,n,d7,b0,d8,d9,e0,f1⟩:=Ed (P:=TP) (main:=Xp) (n:=baseD 56) (l:=k) (t:=Y) (x:=Z) (b:=g.cells.toList) b9 A (by decide) A rfl (cE d3).1 (cE d1).1 A tI (by rw[x];exact d0) c8 d6 q1 (by rw[x,a8];exact a9);refine⟨b4,n,d7,⟨b0.1,b0.2,d8,d9,λe3 f2 e6 a4=>?_⟩,λb7 e8=>?_⟩
 .rw[q1]at a4;cases a4;refine⟨_,e0,zb _ _ _,λj a=>wE _ _ _ _ (by simpa using a),λj a=>?_⟩;rw[Iv _ _ _ _ (by rw[x,a8];exact a9) (by simpa using a)];simp
 simp_all
theorem WR.done(a:WR z O V N U T S L Q H e r p m w u y)(n:i=22\/i=25):WR z O V N U T S L Q H (e.setIfInBounds i J) r p m w u y:=by
 have c:∀j,j≠i->(e.setIfInBounds i J).getD j Xp=e.getD j Xp:=λj g=>by simp_all [Zh]
 refine⟨a.inv,a.keep,a.size,a.len,a.defs,a.t1,a.t2,a.t3,a.t4,a.t5,λb f hd=>?_,?_,λl=>a.sn ?_,λj g hd=>?_,a.Up,a.TL⟩
 .refine a.tab b f ?_;rw[<-c]
  .exact hd
  have:b.1∈(wT V r p).map (·.1):=YL.2 ⟨b,f,A⟩;have h:b.1∈([0,1,2,3,4,5,6,7,8,9,10,11,12,13,14,15,16,17,18,19,20,21,23,24]:Xq E):=this;simp only[Yg,Yo,Ze]at h;omega
 .rw[BI (by grind)];exact a.rel
 .grind
 rw[c 16 (by omega)];rw[c j (by omega)]at hd;exact a.ord j g hd
end
end
end Go.Sim
namespace Wt
variable{b:Tree}{c:Path}{a:Nd}{ak:Xt}{R:Xq Ev}{y:cz}
abbrev keys(y:cz):Xq Xt:=y.dG.map (·.1)
def TB(d:Xt)(b:Tree):Prop:=∀c a,find b c=C a->(0<=a.stat.eD/\a.stat.eD<=d)/\0<=a.stat.aE/\a.stat.aE<=d
theorem TB.more{d e:Xt}(f:TB d b)(m:d<=e):TB e b:=λc a g=>by obtain⟨⟨h,i⟩,k,l⟩:=f c a g;omega
theorem TB.put{d:Xt}(f:TB d b)(h:Ord b)(m:(0<=a.stat.eD/\a.stat.eD<=d)/\0<=a.stat.aE/\a.stat.aE<=d):TB d (put b c a):=λl i e=>by
 rw[cG h]at e;split at e
 .simp_all
 exact f l i e
theorem TB.drop{a:Xt}(d:TB a b)(e:Ord b)(l:0<=a)(c:Path):TB (a+1) (Wt.drop b c):=by
 have hd:∀{b:Tree},Ord b->TB (a+1) b->TB (a+1) (del b c):=λe d k i f=>by
  rw[vI e]at f;split at f
  .cases f
  exact d k i f
 unfold Wt.drop;split
 .exact hd e (d.more (by omega))
 rename_i g h;refine hd (fi e) ((d.more (by omega)).put e ?_);obtain⟨⟨m,n⟩,o,p⟩:=d _ _ h;show(0<=g.stat.eD+1/\g.stat.eD+1<=a+1)/\0<=g.stat.aE/\g.stat.aE<=a+1;omega
theorem Jv{d:Xt}{l:Tree}(e:TB d b)(f:WF b)(m:0<=d){k:Op}{aL:Xt}{u:B}(g:change b k ak aL=.yes l u R):TB (d+1) l:=by
 by_cases i:k.kind=3
 .unfold change at g;rw[XN i]at g;obtain⟨v,y,h,x,w,_,_,_,_,t,_,_,_,_,_,rfl,_,_⟩:=gS g;refine((e.more (by omega)).put f.ord ?_).put (fi f.ord) ?_
  .obtain⟨⟨n,o⟩,p,q⟩:=e _ _ t;show(0<=h.stat.eD+1/\h.stat.eD+1<=d+1)/\0<=h.stat.aE/\h.stat.aE<=d+1;omega
  show((0:Xt)<=0/\(0:Xt)<=d+1)/\(0:Xt)<=0/\(0:Xt)<=d+1;omega
 obtain⟨c,a,_,s,_,r⟩:=py i g;rcases r with⟨_,_,_,rfl,_⟩|⟨_,rfl,_⟩|⟨_,_,rfl,_⟩
 .exact e.drop f.ord m c
 .refine(e.more (by omega)).put f.ord ?_;obtain⟨⟨n,o⟩,p,q⟩:=e _ _ s;show(0<=a.stat.eD/\a.stat.eD<=d+1)/\0<=a.stat.aE+1/\a.stat.aE+1<=d+1;omega
 exact e.more (by omega)
structure Ok(y:cz)(e:E):Prop where
 wf:WF y.tree
 xZ:rT (keys y)
 key:∀d∈keys y,0<d/\d<y.next
 kW:1<=y.next/\y.next<=e+1
 yG:y.dG.length<=8
 aL:0<=y.aL/\y.aL<=512*e
 ur:BX y
 uq:∀d f,∀g∈y.ck d f,g∈keys y
 Mf:TB (512*e) y.tree
theorem rE:∀{b c:Xq Xt},rT b->rT c->(∀a∈b,a∈c)->b.length<=c.length
 |[],c,_,_,_=>YH _
 |a::b,[],_,_,d=>absurd (d a (by simp)) (by simp)
 |a::b,s::c,i,m,d=>by
  obtain⟨k,l⟩:=YU.1 i;obtain⟨n,o⟩:=YU.1 m
  have:=rE l o λf e=>by
   have r:=k f e;rcases Yg.1 (d f (Yw _ e))with p|g
   .exfalso;rcases Yg.1 (d a (by simp))with q|h
    .omega
    have:=n a h;omega
   exact g
  simp_all
theorem Ok.Vd{d:E}(a:Ok y d)(b:Xy)(c:B):(y.ck b c).length<=8:=by
 have:=rE (a.ur b c) a.xZ (a.uq b c);have e:=a.yG
 grind
theorem Ok.more{f e:E}(d:Ok y f)(g:f<=e):Ok y e where
 wf:=d.wf
 xZ:=d.xZ
 key:=d.key
 kW:=⟨d.kW.1,by have:=d.kW.2;omega⟩
 yG:=d.yG
 aL:=⟨d.aL.1,by have:=d.aL.2;omega⟩
 ur:=d.ur
 uq:=d.uq
 Mf:=d.Mf.more (by omega)
theorem lU(y:cz)(id:Xt):keys (heard y id)=keys y:=by
 unfold keys heard;simp only[P_];refine Xq.map_congr_left λa _=>?_
 grind
theorem Ok.heard{b:E}(a:Ok y b)(id:Xt):Ok (Wt.heard y id) b where
 wf:=a.wf
 xZ:=by rw[lU];exact a.xZ
 key:=by rw[lU];exact a.key
 kW:=a.kW
 yG:=by show(y.dG.map _).length<=8;rw[h_];exact a.yG
 aL:=a.aL
 ur:=a.ur
 uq:=by rw[lU];exact a.uq
 Mf:=a.Mf
theorem IK(e:Xt):∀(R:Xq Ev)(y:cz),∃a,(tell e y R).1={y with ck:=a}/\∀b c,a b c=[]\/a b c=y.ck b c
 |[],y=>⟨y.ck,A,λ_ _=>Xs A⟩
 |f::R,y=>by
  obtain⟨a,h,g⟩:=IK e R (gN e y f).1;refine⟨a,?_,λb c=>?_⟩
  .simp_all [tell,gN]
  rcases g b c with d|d
  .exact Xr d
  rw[d];show(if _ then _ else _)=_\/(if _ then _ else _)=_
  grind
theorem Ok.told{c:E}(a:Ok y c)(b:Xt)(R:Xq Ev):Ok (tell b y R).1 c:=by
 have d:=wY b R y a.ur;obtain⟨l,h,i⟩:=IK b R y;rw[h]at d⊢
 refine⟨a.wf,a.xZ,a.key,a.kW,a.yG,a.aL,d,λe f k m=>?_,a.Mf⟩;rcases i e f with g|g
 .simp_all
 refine a.uq e f k ?_;simp_all
theorem yM(b:Xt):∀a:Xq Xt,(dI b a).length<=a.length+1
 |[]=>by simp[dI]
 |c::a=>by
  unfold dI;split
  .simp
  split
  .simp
  have:=yM b a;simp only[Yv];omega
theorem OG{a:E}(h:∀e f,(y.ck e f).length<=a)(d:Ev):(toldOf y d).length<=a+a:=by
 have k:∀(c b:Xq Xt),(b.foldr dI c).length<=b.length+c.length:=λc b=>by
  induction b with
  |nil=>simp
  |cons g b l=>have i:=yM g (b.foldr dI c);simp only[aa7,Yv];omega
 unfold toldOf
 grind
theorem En(a:Xt):∀(R:Xq Ev)(y:cz),(∀b c,(y.ck b c).length<=8)->(tell a y R).2.length<=16*R.length
 |[],y,_=>Ye 0
 |d::R,y,e=>by
  have f:=OG e d
  have g:=En a R (gN a y d).1 λb c=>by
   show(if _ then _ else _:Xq Xt).length<=8;split
   .exact YH _
   exact e b c
  grind [gN,tell]
theorem Ok.add{e:E}(a:Ok y e){id:Xt}(hid:known y id=J)(f:Xy)(g:B):Ok (dD y id f g) e:=by
 refine⟨a.wf,a.xZ,a.key,a.kW,a.yG,a.aL,λc d=>?_,λc d k i=>?_,a.Mf⟩
 .show rT (if _ then _ else _);split
  .exact rD _ (a.ur _ _)
  exact a.ur _ _
 have b:k∈(if c=f/\d=g then dI id (y.ck c d)else y.ck c d):=i;split at b
 .rcases(nf _ _).1 b with h|b
  .rw[h];exact lW.1 hid
  exact a.uq _ _ _ b
 exact a.uq _ _ _ b
theorem Ok.dF{c:E}(d:Ok y c)(g:Xt)(a:dA)(f:BP):Ok (Wt.dF y g a f).1 c:=by
 unfold Wt.dF;split
 .exact d
 rename_i h
 have e:known (Wt.heard y a.ak) a.ak=J:=by rw[lW];show a.ak∈keys (Wt.heard y a.ak);simp_all [lU,lW]
 have b:=d.heard a.ak;split
 .split
  .simp only;split
   .exact b.add e _ _
   exact b
  exact b
 simp only;split
 .exact b.add e _ _
 exact b
theorem Ok.write{f:E}(g:Ok y f)(h:Xt){r:dA}(l:r.op.kind≠2)(m:r.op.kind≠7):Ok (Wt.write y h r).1 (f+1)/\(Wt.write y h r).2.length<=33:=by
 have d:Ok {y with aL:=y.aL+1} (f+1):=by have:=g.more (c_ f);exact⟨this.wf,this.xZ,this.key,this.kW,this.yG,by have:=g.aL;grind,this.ur,this.uq,this.Mf⟩
 unfold Wt.write;rw[XH l];simp only;rw[XH m];cases e:change y.tree r.op r.ak (y.aL+1)with
 |no o=>simp_all
 |yes b c R=>
  have i:Ok {y with aL:=y.aL+1,tree:=b} (f+1):=⟨yz g.wf e,d.xZ,d.key,d.kW,d.yG,d.aL,d.ur,d.uq,(Jv g.Mf g.wf (by omega) e).more (by omega)⟩;have p:=En h R {y with aL:=y.aL+1,tree:=b} i.Vd;have q:R.length<=2:=by
   by_cases k:r.op.kind=3
   .unfold change at e;rw[XN k]at e;obtain⟨_,_,_,_,_,_,_,_,_,_,_,_,_,_,_,_,_,rfl⟩:=gS e;simp
   obtain⟨_,_,_,_,_,n⟩:=py k e;rcases n with⟨_,_,_,_,rfl⟩|⟨_,_,rfl⟩|⟨_,_,_,rfl⟩<;>simp[kC]
  simp only;split<;>exact⟨i.told h R,by grind⟩
theorem Ok.step{y:cz}{e:E}(d:Ok y e)(g:Xt){r:dA}(n:r.op.kind≠2)(o:r.op.kind≠7)(w:r.op.kind≠11):Ok (Wt.step y g r).1 (e+1)/\(Wt.step y g r).2.length<=33:=by
 have s:=d.more (c_ e);unfold Wt.step;split
 .simp_all
 .split
  .rename_i z;refine⟨?_,by simp⟩;have x:=d.key;refine⟨d.wf,?_,λf q=>?_,?_,?_,?_,d.ur,λf u l t=>?_,s.Mf⟩
   .show rT ((y.dG++[(y.next,y.now)]).map (·.1));rw[ZX];refine aak.2 ⟨d.xZ,by simp,λm p v i=>?_⟩;simp only[Zj,Zs,YS]at i;subst i;exact(d.key m p).2
   .have k:f∈(y.dG++[(y.next,y.now)]).map (·.1):=q;rw[ZX,YC]at k;show 0<f/\f<y.next+1;rcases k with h|h
    .have:=d.key f h;omega
    simp only[Zj,Zs,YS]at h;have:=d.kW;omega
   .have:=d.kW;show 1<=y.next+1/\y.next+1<=((e+1:E):Xt)+1;omega
   .show(y.dG++[(y.next,y.now)]).length<=8;rw[YA,abg];omega
   .have:=d.aL;show 0<=y.aL+1/\y.aL+1<=512*((e+1:E):Xt);omega
   show l∈(y.dG++[(y.next,y.now)]).map (·.1);rw[ZX];exact ZQ _ (d.uq f u l t)
  simp_all
 .grind [task]
 .split
  .simp_all
  exact(d.heard r.ak).write g n o
 exact⟨(d.dF g r _).more (c_ e),by simp⟩
end Wt
