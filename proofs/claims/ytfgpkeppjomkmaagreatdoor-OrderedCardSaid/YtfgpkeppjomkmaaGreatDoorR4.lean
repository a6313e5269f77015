/- Proved here: parts of the proof of the claimed theorem, no conditions; the last text states it -/
import Derived.Test.YtfgpkeppjomkmaaGreatDoorR3
set_option linter.all false
set_option maxRecDepth 100000
set_option maxHeartbeats 16000000
open _root_ renaming rfl->A,Nat->E,List->Xg,Int->Xj,Array->Xk,Bool->Xo,Option->Xp,if_neg->Xx,ByteArray->XB,if_pos->XC
open Option renaming some->C,none->F
open Go renaming undef->I,World->M,Value->Xe,TypeId->Xq,Frame->Xr,Goroutine->Xt,Act->Xu,Addr->Xw,Program->Xy,Sem->Xz,Trace->XD,Event->XF,Code->XG,MapEntry->XH,FuncId->XI,Operand->XJ
open Bool renaming true->J,false->Xf
open Go.Lib renaming hid->Xl
open Go.MemOp renaming ofEvents->XE
open Go.Op renaming operands->XK
open Go.MemAct renaming ofEvent->XM
open Go.IntKind renaming i64->K
open Go.Value renaming int->Xd,slice->Xm,pointer->XA
open Or renaming inl->Xh,inr->Xi
open Go.Obj renaming cells->Xn
open Go.Ending renaming returned->Xs
open Go.Item renaming inRegion->Xv
namespace Go.Sim
open Go.Conc Go.Proofs Go.RowKit
open Go.ConcN (PermW PermW.app PermW.of fork_knows WgLive RelBy sumTo)
open Go.ConcR (KK wgBlock WgAt stA smA rd wr mk DC0)
variable{P:Xy}{h:Set}{f:E->Prop}{m:Ren}{w:M}{D:Xk Oper}{q:M}{o:Oper}{a:Xu}{l:Xu}{v:Xe}{j:E}{b:Xr}{k:Xg Item}{cs:Xg Xr}{c:E}{rest:Xg E}
structure Goal(P:Xy)(h:Set)(main:Xo)(f:E->Prop) where
 G:Ren->M->Xt->Prop
 ON:∀{m:Ren}{w:M}{g:Xt},g.status=.running->xm P h main f (λm w g=>g.status=.running/\G m w g) m w g->G m w g
 tape:∀{m:Ren}{w:M}{t:E->Question->E}{g:Xt},G m {w with tape:=t} g->G m w g
structure Inv(P:Xy)(h:Set)(f:E->Prop)(m:Ren)(w:M):Prop where
 base:Base P m
 cO:my h f w
 iQ:kF h f w
section
variable{main:Xo}
theorem Inv.keep{g:Ren}{e:M}(d:Inv P h f m w)(i:Base P g)(c:∀a,f a->e.heap[a]?=w.heap[a]?):Inv P h f g e:=⟨i,d.cO.keep c,d.iQ.keep c⟩
theorem ga{c f:Xk Xe}(d:aw h m c f):yielded D c=yielded D f:=by
 funext j
 unfold yielded;cases q:(D[j]?).bind (·.dst)with
 |none=>rfl
 |some g=>
  dsimp only[Option.bind_some];cases e:c[g]? with
  |none=>rw[d.none e]
  |some r=>
   obtain⟨p,i,n⟩:=d.get e;rw[i];cases n with
   |bS l=>cases p<;>first|exact l.elim|rfl
   |_=>rfl
theorem lF(n:Base P m){d e:Xk Xe}(l:aw h m d e)(f g:Xg Deferred):lB P h m (Act.eval ⟨d,f⟩) (Act.eval ⟨e,g⟩):=by
 intro q c;cases q with
 |tmp p=>exact l.getD p aY
 |const v=>exact ir 8 v c
 |global r=>simp only[du,Yg,YV]at c;exact .ptr ⟨n.at c.1 (aaS c.2),A,A⟩
 |func i=>exact .func (.func i c) A rfl (by simp) (by simp)
theorem yl(G:Good P h){e:XI}{g r:Xk Xe}{c:Ending->M->Prop}(S:Tp (λw=>Calls P e g w c) w)(W:∀w,¬c .outgrown w)(X:∀i w,c i w->∃v,i=Xs v)
 (T:h.fn e=J)(R:Base P m)(O:aV h m w q)(Q:aw h m g r):
 ∃d v n f p,Base P d/\aV h d f p/\m.le d/\an h d v n/\Tp (c (Xs v)) f/\kT h w f:=by
 have U:=oy S W X
 have Y:cK P h Xf m [Frame.enter P e g .normal] [Frame.enter P e r .normal]:=⟨.cons (bH.enter G T Q .normal (Xh A)) .nil,λa7 s=>by simp only[E_,Yh]at s;subst s;exact⟨A,A⟩⟩
 obtain⟨d,a3,a4,f,p,x,y,l,z,D,H,L⟩:=Cj G U R O Y
 obtain⟨fn,v,n,a8,a1,u,new,a6,_,_,Z,t,rfl,a5,N,_⟩:=nO (u:=λv w=>c (Xs v) w) G l y z (H.mono λw a0=>by
  obtain⟨i,_,x,_,l⟩:=a0
  grind)
 exact⟨_,v,n,a1,u,l,t.rel,D,Z,N,L.trans t.later⟩
theorem Aq(G:Good P h)(Y:Base P m){W X:XJ->Xe}(a5:lB P h m W X)(a1:jd P h.fn h.bi h.bZ o.op=J){y:Result Next->Prop}(a4:∀H w,¬y (.halt H w))
 (H:Tp (λw=>y ((execOp W o).run P w)) w)(S:aV h m w q):
 ∃z i u g t new x,(execOp X o).runT P q #[]=(.ok u t,x.toArray)/\Bd h z i u/\bD h m z w g q t new x/\Tp (λw=>y (.ok i w)) g:=by
 obtain⟨b,O,a8,L⟩:=H.low;obtain⟨R,N,⟨hd,b0⟩,a0⟩:=sound G.ux (vy G Y S.SD a5 o a1) w q #[] #[] S
 have U:∀(n:Result Next)(p:Xk XF)(g:M),N=(n,p)->(∃i,n=.ok i g)\/(∃L,n=.halt L g)->∀s:E->Question->E,(∀c r,b<=c->c<g.drawn->s c r=if c<w.drawn then O c r else R c r)->
  y (iR s (n,p)).1:=by
  intro n p g a3 a2 s T;have a9:dr N=g.drawn:=by rw[a3];rcases a2 with⟨i,rfl⟩|⟨i,rfl⟩<;>rfl
  grind [Sem.runT_fst]
 obtain⟨n,p⟩:=N;cases n with
 |halt L g=>exact(a4 _ _ (U _ p g A (Xi ⟨_,A⟩) (λc r=>if c<w.drawn then O c r else R c r) λ_ _ _ _=>rfl)).elim
 |ok i g=>obtain⟨z,u,t,new,x,Q,a7,Z,a6⟩:=a0;rw[E']at Q;exact⟨z,i,u,g,t,new,x,Q,Z,a6,b,_,λs T=>U _ p g A (Xh ⟨_,A⟩) s T⟩
def eP(c:Xu->M->Prop):Exit->Xu->M->Prop
 |.normal,a,w=>c a w
 |_,_,_=>False
theorem fQ{c:Xu->M->Prop}:¬LetsOut (eP c):=λ⟨_,_,d⟩=>d
structure Rt where
 d0:Xg Deferred
 kn:Xg (E×Xe)
def Rt.free(e:Rt)(c:Xp Tmp):Xo:=e.kn.all λd=>c !=C d.1
structure ar(h:Set)(m:Ren)(g:Rt)(a l:Xu):Prop where
 tmps:aw h m a.tmps l.tmps
 defers:∃i,l.defers=i++g.d0/\aZ (rP h m) a.defers i
 kn:∀n∈g.kn,l.tmps[n.1]?=C n.2
theorem ar.mono{β₁:Ren}{i:Rt}(g:ar h m i a l)(n:m.le β₁):ar h β₁ i a l:=
 ⟨g.tmps.mono n,by obtain⟨p,r,hd⟩:=g.defers;exact⟨p,r,hd.mono λ_ _ s=>s.mono n⟩,g.kn⟩
theorem ar.put{p:Rt}(n:ar h m p a l)(i:Xp Tmp)(z:p.free i=J){t:Xe}(y:an h m v t):ar h m p (a.put i v) (l.put i t):=by
 cases i with
 |none=>exact n
 |some r=>
  refine⟨n.tmps.set r y,n.defers,λs x=>?_⟩;have u:r≠s.1:=by grind [Rt.free]
  simp only[Act.put];rw[Ya u];exact n.kn s x
theorem ar.less{d0 d1:Rt}(i:ar h m d1 a l)(hd:d1.d0=d0.d0)(n:∀g∈d0.kn,g∈d1.kn):ar h m d0 a l:=
 ⟨i.tmps,by rw[<-hd];exact i.defers,λg p=>i.kn g (n g p)⟩
theorem ar.more{d0:Rt}(g:ar h m d0 a l)(n:l.tmps[j]?=C v):ar h m ⟨d0.d0,(j,v)::d0.kn⟩ a l:=
 ⟨g.tmps,g.defers,λp i=>by
   rcases XV.1 i with rfl|i
   .exact n
   exact g.kn p i⟩
section frame
variable{e:Xg Deferred}{d:Xk Xe}
theorem jv(g:D[c]?=C o)(h:Region.wanted o (yielded D d)=J):
 stepG P main (rg (b.at ⟨d,e⟩ (Xv D (c::rest)::k)) cs) q=stepG.apply P J (b.at ⟨d,e⟩ (Xv D (c::rest)::k)) cs F (execOp (Act.eval ⟨d,e⟩) o) q:=by
 have f:=Xr.eval_at' b ⟨d,e⟩ (Xv D (c::rest)::k);rw[bu A];simp_all [stepG.exec,stepG.oper,Xr.oper?,Frame.at]
theorem stepG_value(G:Good P h)(r:h.fr b.fn=J)(s:b.kind≠.early){z:Ren}{new n:Xg XF}(t:aZ (ma h z) new n)(x:D[c]?=C o)(y:Region.wanted o (yielded D d)=J){p:M}
 (g:(execOp (Act.eval ⟨d,e⟩) o).runT P q #[]=(.ok (.value v) p,n.toArray)\/((execOp (Act.eval ⟨d,e⟩) o).runT P q #[]=(.ok .skip p,n.toArray)/\v=I)):
 stepG P main (rg (b.at ⟨d,e⟩ (Xv D (c::rest)::k)) cs) q=.go (rg ((b.at ⟨d,e⟩ (Xv D (c::rest)::k)).finish v) cs) p (kept n).toArray:=by
 obtain⟨H,u,i⟩:=fM (P:=P) (b.at ⟨d,e⟩ (Xv D (c::rest)::k)) cs (execOp (Act.eval ⟨d,e⟩) o) q;rw[jv x y,u];rcases g with g|⟨g,rfl⟩
 .rw[g]at i⊢
  rw[i s trivial];simp only[eQ,stepG.apply,Xz.runT,Yc,YW,aX,aN,rg,GStep.after];rw[seen_eq G (show h.fr (b.at ⟨d,e⟩ (Xv D (c::rest)::k)).fn=J from r) t];simp
 rw[g]at i⊢
 rw[i s trivial];simp only[eQ,stepG.apply,Xz.runT,Yc,YW,aX,aN,rg,GStep.after];rw[seen_eq G (show h.fr (b.at ⟨d,e⟩ (Xv D (c::rest)::k)).fn=J from r) t];simp
theorem stepG_enter(G:Good P h)(y:h.fr b.fn=J)(r:b.kind≠.early){u:Ren}{new f:Xg XF}(z:aZ (ma h u) new f)(s:D[c]?=C o)(t:Region.wanted o (yielded D d)=J){l:XI}{i:Xk Xe}{g:M}
 (p:(execOp (Act.eval ⟨d,e⟩) o).runT P q #[]=(.ok (.enter l i) g,f.toArray)):
 stepG P main (rg (b.at ⟨d,e⟩ (Xv D (c::rest)::k)) cs) q=.go (rg (Frame.enter P l i .normal) (b.at ⟨d,e⟩ (Xv D (c::rest)::k)::cs)) g (kept f).toArray:=by
 obtain⟨x,n,m⟩:=fM (P:=P) (b.at ⟨d,e⟩ (Xv D (c::rest)::k)) cs (execOp (Act.eval ⟨d,e⟩) o) q;rw[jv s t,n];rw[p]at m⊢
 rw[m r trivial];simp only[eQ,stepG.apply,Xz.runT,Yc,YW,aX,aN,rg,GStep.after,Frame.at]
 grind [seen_eq]
theorem stepG_defer(G:Good P h)(H:h.fr b.fn=J)(t:b.kind≠.early){y:Ren}{new g:Xg XF}(L:aZ (ma h y) new g)(u:D[c]?=C o)(x:Region.wanted o (yielded D d)=J){n:Deferred}{i:M}
 (s:(execOp (Act.eval ⟨d,e⟩) o).runT P q #[]=(.ok (.defer n) i,g.toArray)):
 stepG P main (rg (b.at ⟨d,e⟩ (Xv D (c::rest)::k)) cs) q=.go (rg ((b.at ⟨d,n::e⟩ (Xv D (c::rest)::k)).finish I) cs) i (kept g).toArray:=by
 obtain⟨z,r,p⟩:=fM (P:=P) (b.at ⟨d,e⟩ (Xv D (c::rest)::k)) cs (execOp (Act.eval ⟨d,e⟩) o) q;rw[jv u x,r];rw[s]at p⊢
 rw[p t trivial];simp only[eQ,stepG.apply,Xz.runT,Yc,YW,aX,aN,rg,GStep.after]
 grind [seen_eq,Frame.at]
theorem He(O:Good P h)(a0:Goal P h main f){W:Rt}(a3:h.fr b.fn=J)(a4:b.kind≠.early)(Y:D[c]?=C o)(e9:Region.wanted o (yielded D a.tmps)=J)(e8:jd P h.fn h.bi h.bZ o.op=J)(S:W.free o.dst=J)
 (s:Inv P h f m w)(b1:ar h m W a l){T:Xu->M->Prop}{a1:Xu->M->Prop}(r:Tp (λw=>o.wp P a w T (eP a1)) w)
 (X:∀i U a2 n x,Base P i->aV h i n x->m.le i->ar h i W U a2->Tp (T U) n->gO h f w n)
 (next:∀i U a2 n,Inv P h f i n->m.le i->(∀p u,i p u->m p u\/w.heap.size<=p)->w.heap.size<=n.heap.size->(∀p,f p->n.heap[p]?=w.heap[p]?)->ar h i W U a2->Tp (T U) n->
   a0.G i n (rg (b.at a2 (Xv D rest::k)) cs)):
 a0.G m w (rg (b.at l (Xv D (c::rest)::k)) cs):=by
 obtain⟨d,e⟩:=l;have a7:Region.wanted o (yielded D d)=J:=by rw[<-ga b1.tmps];exact e9
 have a5:(D[c]?).bind (·.dst)=o.dst:=by rw[Y];rfl
 refine a0.ON A (.step A (λ_ i n e4=>xm P h main f (λm w c8=>c8.status=.running/\a0.G m w c8) i n e4) (λq d0=>?_) (λ_ _ _ _ r=>r));obtain⟨i,g7,g8,n,x,new,a8,y,e7,g,z⟩:=Aq O s.base (lF s.base b1.tmps a.defers e) e8 (y:=o.upon P a T (eP a1)) (by intro r w e6;cases r<;>exact e6) r d0;have H:=s.base.jS d0 g;have N:=b1.mono g.le;cases e7 with
 |@value v f8 a6=>have L:=N.put o.dst S a6;obtain⟨t,R⟩:=iE s.cO s.iQ g (X i _ _ n x H g.rel g.le L z);refine⟨_,i,n,x,new,a8,stepG_value O a3 a4 g.lz Y a7 (Xh y),g,t,R,A,.stop ⟨A,?_⟩⟩;rw[YK,a5];exact next i _ _ n (s.keep H t) g.le (λp u Q=>(g.fresh p u Q).imp id (·.1)) g.size t L z
 |skip=>have L:=N.put o.dst S aY;obtain⟨t,R⟩:=iE s.cO s.iQ g (X i _ _ n x H g.rel g.le L z);refine⟨_,i,n,x,new,a8,stepG_value O a3 a4 g.lz Y a7 (Xi ⟨y,A⟩),g,t,R,A,.stop ⟨A,?_⟩⟩;rw[YK,a5];exact next i _ _ n (s.keep H t) g.le (λp u Q=>(g.fresh p u Q).imp id (·.1)) g.size t L z
 |@defer e0 c6 hd=>
  have e5:ar h i W {a with defers:=e0::a.defers} ⟨d,c6::e⟩:=by obtain⟨e1,c7,e2⟩:=N.defers;dsimp only at c7;exact⟨N.tmps,⟨c6::e1,by rw[c7];rfl,.cons hd e2⟩,N.kn⟩
  have L:=e5.put o.dst S aY;obtain⟨t,R⟩:=iE s.cO s.iQ g (X i _ _ n x H g.rel g.le L z);refine⟨_,i,n,x,new,a8,stepG_defer O a3 a4 g.lz Y a7 y,g,t,R,A,.stop ⟨A,?_⟩⟩;rw[YK,a5];exact next i _ _ n (s.keep H t) g.le (λp u Q=>(g.fresh p u Q).imp id (·.1)) g.size t L z
 |@enter e3 d1 d8 g3 a6=>
  let b0:Ending->M->Prop:=λ
   |Xs v,b8=>T (a.put o.dst v) b8
   |.panicked d9,b8=>eP a1 (.panic d9) a b8
   |.outgrown,_=>LetsOut (eP a1)
  have c9:Tp (λw=>Calls P e3 d8 w b0) n:=z;have d2:∀w,¬b0 .outgrown w:=λw r=>fQ r;have d3:∀y w,b0 y w->∃v,y=Xs v:=by
   intro y w r;cases y with
   |returned v=>simp
   |panicked g4=>exact r.elim
   |outgrown=>simp_all
  obtain⟨g2,v,f8,f9,d6,q1,f0,d4,f1,f2,f3⟩:=yl O c9 d2 d3 d1 H g.rel a6;obtain⟨g0,f4,f5⟩:=X g2 _ _ f9 d6 q1 f0 (Ren.le_trans g.le d4) ((N.mono d4).put o.dst S f1) f2;obtain⟨t,R⟩:=iE s.cO s.iQ g ⟨g0,f3.trans f4,f5⟩;have a9:=s.keep H t;refine⟨_,i,n,x,new,a8,stepG_enter O a3 a4 g.lz Y a7 y,g,t,R,A,?_⟩;refine(Kx O c9 d2 d3 d1 H a6 a9.cO a9.iQ (λc0 f6 f7 b9 d7 b3 b4 Z b5 b6=>?_)).bind λc0 b9 g6 b2=>?_
  .obtain⟨g1,b7,d5⟩:=X c0 _ _ b9 d7 b3 b4 (Ren.le_trans g.le Z) ((N.mono Z).put o.dst S b5) b6;exact⟨g1,b7,λp b2=>by simp_all⟩
  obtain⟨f6,f7,rfl,b3,b4,Z,b5,b6,b7,d5⟩:=b2;refine .stop ⟨A,?_⟩;rw[YK,a5];refine next c0 _ _ b9 (a9.keep b4 b7) (Ren.le_trans g.le Z) (λp u Q=>?_) (XZ g.size b6) (λp b2=>by simp_all) ((N.mono Z).put o.dst S b3) d5
  rcases b5 p u Q with r|r
  .exact(g.fresh p u r).imp id (·.1)
  exact Xi (XZ g.size r)
 |round=>exact(z.one).elim λ_ r=>r.elim
 |recover=>exact(z.one).elim λ_ r=>r.elim
end frame
end
variable{c:M}{H:E}{v:Oper}{d:Xu}{e:Xu}{s:Xr}{r:Xg Item}{u:Xg Xr}{L:Xg E}{z:Xt}{N:Exit->Xu->M->Prop}
structure cV(f:E->Prop)(m:Ren)(c:M)(β₁:Ren)(w₁:M):Prop where
 le:m.le β₁
 fresh:∀a b,β₁ a b->m a b\/c.heap.size<=a
 size:c.heap.size<=w₁.heap.size
 keep:∀a,f a->w₁.heap[a]?=c.heap[a]?
section
variable{main:Xo}{β₁ y:Ren}{w₁ x:M}
theorem cV.refl(m:Ren)(c:M):cV f m c m c:=⟨Ren.le_refl _,λ_ _ a=>Xh a,XS _,λ_ _=>rfl⟩
theorem cV.trans(a:cV f m c β₁ w₁)(g:cV f β₁ w₁ y x):cV f m c y x:=
 ⟨Ren.le_trans a.le g.le,λb l o=>by
   rcases g.fresh b l o with i|i
   .exact a.fresh b l i
   exact Xi (XZ a.size i),XZ a.size g.size,λb k=>by rw[g.keep b k,a.keep b k]⟩
theorem cV.tape(a:cV f m c β₁ w₁)(t:E->Question->E):cV f m c β₁ {w₁ with tape:=t}:=⟨a.le,a.fresh,a.size,a.keep⟩
theorem Inv.tape(a:Inv P h f m c)(t:E->Question->E):Inv P h f m {c with tape:=t}:=⟨a.base,a.cO,a.iQ⟩
theorem Inv.grow(a:Inv P h f m c)(b:Base P β₁)(z:cV f m c β₁ w₁):Inv P h f β₁ w₁:=a.keep b z.keep
def oE(P:Xy)(h:Set)(p:Rt)(D:Xk Oper):Xo:=D.toList.all λv=>jd P h.fn h.bi h.bZ v.op&&p.free v.dst
theorem jF{p:Rt}(a:oE P h p D=J)(b:D[H]?=C v):jd P h.fn h.bi h.bZ v.op=J/\p.free v.dst=J:=by grind [oE]
theorem NL(G:Good P h){p:Rt}{n o:Xu->M->Prop}(u:Base P m)(O:aV h m c q)(Q:ar h m p d e)(a7:jd P h.fn h.bi h.bZ v.op=J)(s:p.free v.dst=J)(b:Tp (λc=>v.wp P d c n (eP o)) c):
 ∃β₁ D U w₁ k,Base P β₁/\aV h β₁ w₁ k/\m.le β₁/\ar h β₁ p D U/\Tp (n D) w₁/\kT h c w₁:=by
 obtain⟨b3,L⟩:=e;obtain⟨β₁,b8,b9,w₁,k,new,c0,l,a5,a,f⟩:=Aq G u (lF u Q.tmps d.defers L) a7 (y:=v.upon P d n (eP o)) (by intro b c a4;cases b<;>exact a4) b O;have r:=u.jS O a;have g:=Q.mono a.le;cases a5 with
 |@value i b4 w=>exact⟨β₁,_,_,w₁,k,r,a.rel,a.le,g.put v.dst s w,f,a.later⟩
 |skip=>exact⟨β₁,_,_,w₁,k,r,a.rel,a.le,g.put v.dst s aY,f,a.later⟩
 |@defer X H hd=>
  have a2:ar h β₁ p {d with defers:=X::d.defers} ⟨b3,H::L⟩:=by obtain⟨Y,N,Z⟩:=g.defers;dsimp only at N;exact⟨g.tmps,⟨H::Y,by rw[N];rfl,.cons hd Z⟩,g.kn⟩
  exact⟨β₁,_,_,w₁,k,r,a.rel,a.le,a2.put v.dst s aY,f,a.later⟩
 |@enter a0 a3 T b5 w=>
  let t:Ending->M->Prop:=λ
   |Xs i,z=>n (d.put v.dst i) z
   |.panicked W,z=>eP o (.panic W) d z
   |.outgrown,_=>LetsOut (eP o)
  have a1:Tp (λc=>Calls P a0 T c t) w₁:=f;have a6:∀c,¬t .outgrown c:=λc b=>fQ b;have a8:∀l c,t l c->∃i,l=Xs i:=by
   intro l c b;cases l with
   |returned i=>simp
   |panicked b6=>exact b.elim
   |outgrown=>simp_all
  obtain⟨y,i,b4,x,S,q1,a9,R,b0,b1,b2⟩:=yl G a1 a6 a8 a3 r a.rel w;exact⟨y,_,_,x,S,q1,a9,Ren.le_trans a.le R,(g.mono R).put v.dst s b0,b1,a.later.trans b2⟩
 |round=>exact(f.one).elim λ_ b=>b.elim
 |recover=>exact(f.one).elim λ_ b=>b.elim
theorem uy(G:Good P h){p:Rt}(b:oE P h p D=J){o:Xu->M->Prop}:∀(z:Xg E){m:Ren}{c q:M}{d e:Xu},Base P m->aV h m c q->ar h m p d e->Tp (λc=>wpOps P D (eP o) z d c) c->
 ∃β₁ n s w₁ r,Base P β₁/\aV h β₁ w₁ r/\m.le β₁/\ar h β₁ p n s/\Tp (o n) w₁/\kT h c w₁
 |[],m,c,q,d,e,g,f,k,a=>⟨m,d,e,c,q,g,f,Ren.le_refl _,k,a,.refl _⟩
 |H::L,m,c,q,d,e,g,f,k,a=>by
  cases i:D[H]? with
  |none=>simp only[wpOps,i]at a;exact uy G b L g f k a
  |some v=>
   simp only[wpOps,i]at a;by_cases l:Region.wanted v (yielded D d.tmps)=J
   .simp only[l,Yc]at a;obtain⟨β₁,n,s,w₁,r,q1,N,O,Q,R,S⟩:=NL G g f k (jF b i).1 (jF b i).2 (a.mono λc l=>l.resolve_right λa0=>fQ a0.2);obtain⟨y,u,w,x,t,T,U,W,X,Y,Z⟩:=uy G b L q1 N Q R;exact⟨y,u,w,x,t,T,U,Ren.le_trans O W,X,Y,S.trans Z⟩
   simp only[l]at a;exact uy G b L g f (k.put v.dst (jF b i).2 aY) a
section frame
variable{p:Rt}
theorem stepG_unwanted(a:((D[H]?).map (Region.wanted · (yielded D d.tmps))).getD Xf=Xf):
 stepG P main (rg (s.at d (Xv D (H::L)::r)) u) q=.go (rg (s.at (d.put ((D[H]?).bind (·.dst)) I) (Xv D L::r)) u) q:=by
 rw[<-YK,bu A];simp_all [Frame.at,stepG.exec,rg]
theorem iT:stepG P main (rg (s.at d (Xv D []::r)) u) q=.go (rg (s.at d r) u) q:=by rfl
theorem Goal.pure(n:Goal P h main f){g₁:Xt}(a:z.status=.running)(b:g₁.status=.running)(g:∀q,stepG P main z q=.go g₁ q)(i:n.G m c g₁):n.G m c z:=
 n.ON a (.pure a b g (.stop ⟨b,i⟩))
def rL(n:Goal P h main f)(s:Xr)(u:Xg Xr)(r:Xg Item)(m:Ren)(e:Xu)(c:M):Exit->Prop
 |.normal=>n.G m c (rg (s.at e r) u)
 |.exit id=>∃a,exitTo id r=C a/\n.G m c (rg (s.at e a) u)
 |.ret=>∀b,n.G m c (rg {s.at e b with mode:=.returning} u)
 |_=>False
theorem rL.push{n:Goal P h main f}{g:Item}{b:Exit}(w:g.plain=J)(o:b≠.normal)(a:rL n s u r m e c b):rL n s u (g::r) m e c b:=by
 cases b with
 |normal=>simp_all
 |exit id=>obtain⟨k,t,i⟩:=a;exact⟨k,by cases g<;>simp_all [exitTo,Item.plain],i⟩
 |ret=>exact a
 |goto O=>exact a
 |panic l=>exact a
 |outgrown=>exact a
def mB(P:Xy)(h:Set)(main:Xo)(f:E->Prop)(n:Goal P h main f)(s:Xr)(p:Rt)(u:Xg Xr)(r:Xg Item)(N:Exit->Xu->M->Prop)(m:Ren)(c:M):Prop:=
 ∀d β₁ a b w₁,Inv P h f β₁ w₁->cV f m c β₁ w₁->ar h β₁ p a b->N d a w₁->rL n s u r β₁ b w₁ d
def CW(n:Goal P h main f)(s:Xr)(p:Rt)(u:Xg Xr)(a:XG)(N:Exit->Xu->M->Prop)(d:Xu)(c:M):Prop:=
 ∀(m:Ren)(r:Xg Item)(e:Xu),Inv P h f m c->ar h m p d e->mB P h main f n s p u r N m c->n.G m c (rg (s.at e (.code a::r)) u)
variable{n:Goal P h main f}
theorem mB.grow(i:mB P h main f n s p u r N m c)(z:cV f m c β₁ w₁):mB P h main f n s p u r N β₁ w₁:=
 λe y b d x a g k l=>i e y b d x a (z.trans g) k l
theorem eL(b:N .normal d c):CW n s p u .skip N d c:=λm r e a g f=>n.pure A rfl (λq=>by rfl) (f .normal m d e c a (.refl _ _) g b)
theorem qo{id:E}(b:N (.exit id) d c):CW n s p u (.exit id) N d c:=λm r e a i f=>by obtain⟨k,h,g⟩:=f (.exit id) m d e c a (.refl _ _) i b;exact n.pure A rfl (λq=>by rw[bu A];simp[stepG.exec,Frame.at,rg,h]) g
theorem mJ(b:N .ret d c):CW n s p u .ret N d c:=λm r e a g f=>n.pure A rfl (λq=>by rfl) (f .ret m d e c a (.refl _ _) g b (.code .ret::r))
theorem aQ{o l:XG}(x:CW n s p u o (Exit.then (CW n s p u l N) N) d c):CW n s p u (.seq o l) N d c:=λm r e t y g=>by
 refine n.pure A rfl (λq=>by rfl) (x m (.code l::r) e t y λw β₁ k b w₁ a f h i=>?_);cases w with
 |normal=>exact i β₁ r b a h (g.grow f)
 |exit id=>exact rL.push A (by simp) (g (.exit id) β₁ k b w₁ a f h i)
 |ret=>exact g .ret β₁ k b w₁ a f h i
 |goto z=>exact g (.goto z) β₁ k b w₁ a f h i
 |panic v=>exact g (.panic v) β₁ k b w₁ a f h i
 |outgrown=>exact g .outgrown β₁ k b w₁ a f h i
theorem cH{a:XJ}{i k:XG}{g:Xo}(Q:du P h.fn a=J)(O:d.eval a=.bool g)(t:CW n s p u (if g then i else k) N d c):CW n s p u (.cond a i k) N d c:=λm r e l o w=>by
 have R:e.eval a=.bool g:=by have b:=lF l.base o.tmps d.defers e.defers a Q;rw[O]at b;generalize e.eval a=T at b;cases b;rfl
 refine n.pure A rfl (λq=>?_) (t m r e l o w);have S:=Xr.eval_at s e (.code (.cond a i k)::r) a;rw[bu A];simp_all [stepG.exec,Frame.at,rg]
theorem iu{id:E}{l:XG}(w:CW n s p u l (Exit.inBlock id N) d c):CW n s p u (.block id l) N d c:=λm r e t y i=>by
 refine n.pure A rfl (λq=>by rfl) (w m (.inBlock id::r) e t y λv β₁ f g w₁ b h k a=>?_);cases v with
 |normal=>exact n.pure A rfl (λq=>by rfl) (i .normal β₁ f g w₁ b h k a)
 |exit o=>
  by_cases hid:o=id
  .simp only[Exit.inBlock,hid,Yc]at a;exact⟨r,by grind [exitTo],i .normal β₁ f g w₁ b h k a⟩
  simp only[Exit.inBlock,hid,Yf]at a;obtain⟨z,H,x⟩:=i (.exit o) β₁ f g w₁ b h k a;have:(id==o)=Xf:=by grind
  exact⟨z,by simp_all [exitTo],x⟩
 |ret=>exact i .ret β₁ f g w₁ b h k a
 |goto D=>exact i (.goto D) β₁ f g w₁ b h k a
 |panic l=>exact i (.panic l) β₁ f g w₁ b h k a
 |outgrown=>exact i .outgrown β₁ f g w₁ b h k a
theorem um{g:XG}(w:Xu->M->Prop)(Q:Xu->M->E)(a0:w d c)
 (round:∀d c,w d c->CW n s p u g (Exit.then (λe T=>w e T/\Q e T<Q d c) N) d c):CW n s p u (.loop g) N d c:=λm r e R S a=>by
 have a2:∀O(d:Xu)(c:M)(m:Ren)(e:Xu),Q d c=O->w d c->Inv P h f m c->ar h m p d e->mB P h main f n s p u r N m c->n.G m c (rg (s.at e (.code g::.inLoop g::r)) u):=by
  intro O
  induction O using E.strongRecOn with
  |_ O a1=>
   intro d c m e Z W R S a;refine round d c W m (.inLoop g::r) e R S λU β₁ b k w₁ i l o t=>?_;cases U with
   |normal=>obtain⟨X,Y⟩:=t;exact n.pure A rfl (λq=>by rfl) (a1 (Q b w₁) (Z▸Y) b w₁ β₁ k A X i o (a.grow l))
   |exit id=>exact rL.push A (by simp) (a (.exit id) β₁ b k w₁ i l o t)
   |ret=>exact a .ret β₁ b k w₁ i l o t
   |goto a3=>exact a (.goto a3) β₁ b k w₁ i l o t
   |panic g=>exact a (.panic g) β₁ b k w₁ i l o t
   |outgrown=>exact a .outgrown β₁ b k w₁ i l o t
 exact n.pure A rfl (λq=>by rfl) (a2 _ d c m e A a0 R S a)
end frame
end
variable{h:E}{y:bR}{c:Xt}{a:Xg Ms}{W:Xk Xt}{b:XD}{U:Loc->Own}{S:Xk XF}{s:E}
section
variable[Inhabited aM]
abbrev dB:=Xk Xt->M->Xp (E×E)->XD->Prop
section
variable{f:cZ}{z:dB}
theorem rT(d:dG (aj P f) h a W q b U y c)(m:c.status=.running):∀g∈W,Go.Conc.awake g:=by
 intro g l;obtain⟨e,i,rfl⟩:=YQ.1 l;rcases Ye e with rfl|k
 .have:W[0]=c:=by have:=d.me;simp_all
  exactλb n=>by simp_all
 exact(aj P f).awake d.ok e _ k (XP i)
theorem dG.at'(d:dG (aj P f) h a W q b U y c)(e:E):dG (aj P f) h a W (q.at e) b U y c:=
 ⟨(aj P f).at_ e d.ok,d.bF.at e,d.bg.at e,d.me,d.hears⟩
theorem sE(l:M->Prop)(v:∀q e,(∀d,y.tag=C d->WgLive d.D.ty d.D.Wg e)->l q->l e)(n:c.status=.running)
 (a2:∀a W q sl b U,dG (aj P f) h a W q b U y c->l q->∃m e k,runT P (crowd W q sl) 0=(.next (crowd m e sl),k)/\bV P m e sl (b++k) z):
 ∀(a:Xg Ms) W q sl b U,dG (aj P f) h a W q b U y c->l q->bV P W q sl b z:=by
 intro a
 induction (dR.wf Ms.wf).apply a with
 |intro a _ a4=>
  intro W q sl b U g a0;obtain⟨a3,a5,D,o,Y,X,a1⟩:=h_ (P:=P) (w:=q) (sl:=sl) (rT g n) ⟨0,c,g.me,n⟩;have i:=g.at' D
  have live:∀{a W q b U},dG (aj P f) h a W q b U y c->∀d,y.tag=C d->WgLive d.D.ty d.D.Wg q:=λH d S=>by obtain⟨a6,_,T,_⟩:=H.ok;exact(T.wg d S).mode.live
  have x:=v _ _ (live i) a0;rcases Ye a3 with rfl|Z
  .obtain⟨m,e,k,t,u⟩:=a2 a W (q.at D) o b U i x
   grind [bV.head]
  obtain⟨r,s,e,k,p,t,u,L,N,O,Q,R⟩:=(aj P f).step o i.ok i.bF i.bg g.me n Z Y X;refine bV.head (a1.trans t) ?_;have w:dG (aj P f) h r s e (b++k) p y c:=⟨N,O,Q,L,R.trans g.hears⟩;exact a4 r u s e o _ p w (v _ _ (live w) x)
theorem Ap{m:M}{u:XD}{H:Loc->Own}{t:bR}{a4:Xt}(a8:dG (aj P f) h a W q b U y c)(d3:jU b q m U H 0 u)(d2:∀X∈u,X.g=0)(d0:t.S=y.S)(d4:y.β.le t.β)
 (d1:∀R Z a0 a1 a2 a3 b9,q.heap[R]?=C (.chan Z a0 a1 a2 a3 b9)->U (.obj R)=.sync->m.heap[R]?=q.heap[R]?)
 (b4:∀i,y.tag=C i->fw i.D 0 q m/\∃l,t.tag=C l/\l.D=i.D/\l.fin=i.fin)(e6:∀o,bB P W q b U y o->∀l,t.tag=C l->dS l o W.size m H):
 cY P f a ((W.map (Go.Conc.woken P c a4 m)).setIfInBounds 0 a4) m (b++u) H t:=by
 obtain⟨o,rfl,x,b8⟩:=a8.ok;have e4:=(XN.1 a8.me).1
 have b2:∀g k,0<g->g<W.size->(o g).chan=C k->m.heap[k]?=q.heap[k]?:=by
  intro g k Q a9 p;rw[aF.cA]at p;cases b7:(o g).pd with
  |none=>simp_all
  |some Y=>rw[b7]at p;cases p;obtain⟨f3,z,cl,v,d⟩:=(x.each g _ Q (XP a9)).Me b7;exact d1 _ _ _ _ _ _ _ d.heap d.own
 have b3:∀g,g≠0->Deaf (b++u) g=Deaf b g:=λg Q=>ZR b (g':=0) (λa=>Q a.symm) u d2
 have frame:∀e w,0<e->W[e]?=C w->cw P e w m (b++u) H t (o e):=by
  intro e w n r
  have D:cw P e w m (b++u) H {t with tag:=y.tag} (o e):=
   (x.each e w n r).frame a8.bF d3 (by omega) (b3 e (by omega)) ⟨d0,d4,A⟩ (λk p=>b2 e k n ((XN.1 r).1) p) (λX e5 a=>by simp_all) (λi b5=>(b4 i b5).1)
  generalize o e=d7 at D;cases d7 with
  |lv d5=>exact D
  |wk b1=>obtain⟨i,L,S,d⟩:=D;obtain⟨_,l,c6,d9,e0⟩:=b4 i L;exact⟨l,c6,by simp_all,by simp_all⟩
  |pr Y s i d8=>obtain⟨L,S,⟨z,v,d⟩,a5,N,a6,a7⟩:=D;exact⟨L,S,⟨z,v,⟨d.heap,d.count,d.room,d.own,d.msgs⟩⟩,a5,N,a6,a7⟩
  |pb Y s i d8 e2 f4 f5=>obtain⟨L,S,c7,⟨z,v,d,c8⟩,a5,N,a6,a7,c9⟩:=D;exact⟨L,S,c7,⟨z,v,⟨d.heap,d.count,d.room,d.own,d.msgs⟩,c8⟩,a5,N,a6,a7,c9⟩
  |pq Y d5=>obtain⟨⟨z,v,d⟩,N⟩:=D;exact⟨⟨z,v,⟨d.heap,d.count,d.room,d.own,d.msgs⟩⟩,N⟩
 refine⟨o,by simp,⟨λe w n r=>?_,?_,λj T=>?_,λl b5=>?_,λg X Q=>?_⟩,?_⟩
 .rw[Ya (by omega),Yk]at r;cases b0:W[e]? with
  |none=>simp_all
  |some b1=>rw[b0]at r;simp only[Zo,Yh]at r;rw[(x.each e b1 n b0).woken c a4 λk p=>b2 e k n (XN.1 b0).1 p]at r;simp_all
 .intro e j k c0 n T O b6;simp only[Yr,ZG]at O b6;exact x.one e j k c0 n T O b6
 .simp only[Yr,ZG]at T;rw[b3 j (by omega)];exact x.above j T
 .simp_all
 .simp only[Yr,ZG];rcases XU Q with⟨_,a9⟩|⟨_,e3⟩
  .exact x.ops g X a9
  simp_all
 cases f with
 |none=>intro e n O;simp only[Yr,ZG]at O;exact b8 e n O
 |some b1=>
  obtain⟨q1,f1,d6,Z,a0,a1,a2,a3,f2⟩:=b8;refine⟨q1,by simp_all,d6,Z,a0,a1,a2,a3,?_⟩
  grind [aF.cA]
theorem iS{d:M}{sl:Xp (E×E)}{e:Xt}(i:W[0]?=C c)(g:stepG P J c q=.go e d S):
 runT P (crowd W q sl) 0=(.next (crowd ((W.map (Go.Conc.woken P c e d)).setIfInBounds 0 e) d sl),XE 0 c.frame.fn c.frame.place S):=
 A_ (P:=P) (sl:=sl) (i:=0) i g
theorem vj{i:Xt}(d:dG (aj P f) h a W q b U y c):dG (aj P f) h a ((W.map (Go.Conc.woken P c i q)).setIfInBounds 0 i) q (b++XE 0 c.frame.fn c.frame.place #[]) U y i:=by
 have n:XE 0 c.frame.fn c.frame.place #[]=#[]:=by rfl
 rw[n];have l:jU b q q U U 0 #[]:=mK (λm e=>by simp at e) (λm e=>by simp at e);refine⟨Ap d l (λm e=>by simp at e) A (Ren.le_refl _) (λ_ _ _ _ _ _ _ _ _=>rfl) (λg k=>⟨fw.same A rfl,g,k,A,A⟩) (λp o g k=>o.wg g k),d.bF.step l,d.bg.stay l (λ_ _ _=>rfl),?_,?_⟩
 .rw[XX (by simpa using(XN.1 d.me).1)]
 exact d.hears
theorem cF{e:dm}{Stop:Xt->M->Prop}(a9:y.tag=C e)(b4:∀c q,Stop c q->c.status=.running)
 (b8:∀t r l v o Q p,dG (aj P f) h r l v Q p y t->(∀d,Go.SimW.RL e.D.ty e.D.Wg v d->Stop t d)->bV P l v o Q z):
 ∀(k:E×Xg Ms)(c:Xt) W q sl b U,dG (aj P f) h k.2 W q b U y c->(∀d,Go.SimW.RL e.D.ty e.D.Wg q d->Go.Conc.Goes P J (Go.SimW.RL e.D.ty e.D.Wg) DC0 Stop k.1 c d)->bV P W q sl b z:=by
 have wf:=OK.wf E.lt_wfRel.wf (dR.wf Ms.wf);intro k
 induction wf.apply k with
 |intro k _ O=>
  obtain⟨s,a⟩:=k;intro c W q sl b U i u;by_cases L:∀d,Go.SimW.RL e.D.ty e.D.Wg q d->Stop c d
  .grind
  have live:∀{a W q b U c},dG (aj P f) h a W q b U y c->WgLive e.D.ty e.D.Wg q:=λg=>by obtain⟨b9,_,b0,_⟩:=g.ok;exact(b0.wg e a9).mode.live
  have w:c.status=.running:=by
   have g:=u q (Go.SimW.RL.refl q);cases s with
   |zero=>exact b4 c q (g q (Go.SimW.RL.refl q))
   |succ s=>
    rcases g with g|⟨g,_⟩
    .simp_all
    exact g
  obtain⟨b6,a1,x,o,H,b1,N⟩:=h_ (P:=P) (w:=q) (sl:=sl) (rT i w) ⟨0,c,i.me,w⟩;have m:=i.at' x;rcases Ye b6 with rfl|b3
  .obtain rfl:a1=c:=by have:=i.me;simp_all
   have b2:=u (q.at x) (λ_=>live m);cases s with
   |zero=>exact absurd (λd n=>u q (Go.SimW.RL.refl q) d n) L
   |succ s=>
    rcases b2 with g|⟨_,g⟩
    .exact absurd (λd n=>g d λ_=>n (live i)) L
    obtain⟨t,c6,S,Z,⟨rfl,rfl⟩,a0⟩:=aaG (g (q.at x) (Go.SimW.RL.refl _));exact bV.head (N.trans (iS H Z)) (O (s,a) (.left (Zx s)) t _ _ o _ U (vj m) (λd n=>a0.rely (λT X Y=>Go.SimW.RL.trans T X Y) n))
  obtain⟨r,l,d,b7,p,a2,a3,a4,a5,a6,a7,a8⟩:=(aj P f).step o m.ok m.bF m.bg i.me w b3 H b1;refine bV.head (N.trans a2) ?_;have D:dG (aj P f) h r l d (b++b7) p y c:=⟨a5,a6,a7,a4,a8.trans i.hears⟩;exact O (s,r) (.right a3) c l d o _ p D λR b5=>u R λ_=>b5 (live D)
def BJ(c:E)(a:XF):Prop:=((XM a).touch?=F\/(∃b wr,a=⟨.cell b,wr,J⟩/\b.block=c)\/∃b,(a=Go.ConcR.mk (.read b)\/a=Go.ConcR.mk (.write b))/\b.block=c)/\∀d,a.loc≠.mark (.release d)
theorem LW{d n:dm}{e:M}{O:Xt}{a9:E}(p:dG (aj P f) h a W q b U y c)(b0:y.tag=C d)(c6:n.D=d.D)(f2:n.fin=d.fin)(d3:n.lo=d.lo)(d0:n.hi=d.hi)
 (x:e=q\/∃v w,e=q.setCell ⟨d.D.Wg,v,F⟩ w)(X:∀a∈S,BJ d.D.Wg a)(b5:∀o,bB P W q b U y o->dY n o W.size e (sumTo W.size λZ=>(o Z).cnt))(hd:deafBehind h S=a9)(d8:∀o,bB P W q b U y o->(sumTo W.size λZ=>(o Z).cnt)<=n.vb):
 dG (aj P f) a9 a ((W.map (Go.Conc.woken P c O e)).setIfInBounds 0 O) e (b++XE 0 c.frame.fn c.frame.place S) U {y with tag:=C n} O:=by
 obtain⟨o,_,b2,_⟩:=p.ok;have g:=b2.wg d b0;have d2:WgLive d.D.ty d.D.Wg e:=by have:=(b5 o b2).live;simp_all
 have H:∀i,i≠d.D.Wg->e.heap[i]?=q.heap[i]?:=by
  intro i T;rcases x with rfl|⟨v,w,rfl⟩
  .rfl
  simp_all [Go.RowKit.Below.heap_setCell]
 have b6:e.heap.size=q.heap.size:=by
  rcases x with rfl|⟨v,w,rfl⟩
  .rfl
  simp
 have d5:e.os=q.os:=by rcases x with rfl|⟨v,w,rfl⟩<;>rfl
 have d6:e.output=q.output:=by rcases x with rfl|⟨v,w,rfl⟩<;>rfl
 have u:jU b q e U U 0 (XE 0 c.frame.fn c.frame.place S):=by
  refine⟨by omega,d5,λi T=>?_,λ_ _ _ _=>rfl,λf4 i _ k r=>by omega,λd9 Y e0 m d4=>?_,dU λa t L=>(X a t).2 L,Xh λd9 Y e0 m d4=>?_,d6⟩
  rotate_right
  .obtain⟨a,t,rfl⟩:=Go.Conc.mem_ofEvents Y;rcases(X a t).1 with k|⟨l,wr,rfl,k⟩|⟨l,k,r⟩
   .simp_all
   .simp[XM,MemAct.touch?]at m;subst m;exact g.rJ _ (Xi ⟨l,A,k⟩)
   rcases k with rfl|rfl<;>
   .simp[Go.ConcR.mk,XM,MemAct.touch?]at m;subst m;exact g.rJ _ (Xi ⟨l,A,r⟩)
  .by_cases c8:i=d.D.Wg
   .subst c8;exact Xi (Xh (Xh (g.rJ _ (Xh A))))
   grind
  obtain⟨a,t,rfl⟩:=Go.Conc.mem_ofEvents Y;rcases(X a t).1 with k|⟨l,wr,rfl,k⟩|⟨l,k,r⟩
  .simp_all
  .simp[XM,MemAct.touch?]at m;subst m;exact⟨A,d.D.Wg,Xi ⟨l,A,k⟩,by rw[b6];exact g.pU,Xi ⟨g.pU,Xi (Xi ⟨g.rJ _ (Xi ⟨l,A,k⟩),Xh A⟩)⟩⟩
  rcases k with rfl|rfl<;>
  .simp[Go.ConcR.mk,XM,MemAct.touch?]at m;subst m;exact⟨A,d.D.Wg,Xi ⟨l,A,r⟩,by rw[b6];exact g.pU,Xi ⟨g.pU,Xi (Xi ⟨g.rJ _ (Xi ⟨l,A,r⟩),Xi ⟨A,A⟩⟩)⟩⟩
 have f3:fw d.D 0 q e:=⟨λ_=>d2,λc0 f5 f1 c9=>⟨c0,(H _ g.ne).trans c9,A,λ_ _ _ _=>rfl⟩⟩
 have d7:aG P (b++XE 0 c.frame.fn c.frame.place S) e U 0 {y with tag:=C n}:=by
  have:=p.bg.stay u λL i c7=>H i λa=>by subst a;rcases p.bg.dv L _ c7 _ (Xh A)with Q|⟨Q,_⟩<;>(rw[g.rJ _ (.inl A)]at Q;cases Q)
  exact⟨this.base,this.rel,this.cO,this.dv,this.dV,this.low⟩
 refine⟨Ap p u (tF _ _ _ _) A (Ren.le_refl _) (λi e1 e2 e3 e4 e5 e6 T _=>H i λa=>?_) (λb8 b1=>?_) (λb7 R b8 b1=>?_),p.bF.step u,d7,?_,?_⟩
 .subst a;obtain⟨_,_,d1⟩:=g.mode.live;have:q.heap[d.D.Wg]?=_:=d1;rw[T]at this;cases this
 .simp_all
 .cases b1;have D:=R.wg d b0;have b4:=D.gv.step u D.KV;have b3:=D.gh.step u;obtain⟨b9,e9,a3,a4,a5,a6,f0,a7,a8,a0,e7,e8,a1,a2,_,N⟩:=D;rw[<-c6]at a3 a4 a5 a6 a7 a8 a0 N b4 b3;rw[<-d3,<-d0]at a1 a2 N;exact⟨b9,b5 b7 R,a3,a4,a5,a6.same (H _ (by grind)),b4,a7,a8,a0,(by omega),d8 b7 R,a1,a2,b3,N⟩
 .rw[XX (by simpa using(XN.1 p.me).1)]
 rw[ZM,p.hears];exact hd
theorem qu{c:E}:∀a∈#[Go.ConcR.mk .disable],BJ c a:=by intro a b;simp[Go.ConcR.mk]at b;subst b;exact⟨Xh A,λe d=>by cases d⟩
theorem te{c:E}:∀a∈#[Go.ConcR.mk .enable],BJ c a:=by intro a b;simp[Go.ConcR.mk]at b;subst b;exact⟨Xh A,λe d=>by cases d⟩
theorem Hg{b:E}:∀a∈#[Go.ConcR.rd (stA b),Go.ConcR.wr (stA b)],BJ b a:=by intro a c;simp[Go.ConcR.rd,Go.ConcR.wr]at c;rcases c with rfl|rfl<;>exact⟨Xi (Xh ⟨_,_,A,A⟩),λe d=>by cases d⟩
theorem uo{b:E}:∀a∈#[Go.ConcR.rd (stA b)],BJ b a:=by intro a c;simp[Go.ConcR.rd]at c;subst c;exact⟨Xi (Xh ⟨_,_,A,A⟩),λe d=>by cases d⟩
theorem Jo{b:E}:∀a∈#[Go.ConcR.mk (.read (smA b))],BJ b a:=by intro a c;simp at c;subst c;exact⟨Xi (Xi ⟨_,Xh A,A⟩),λe d=>by cases d⟩
theorem EX{b:E}:∀a∈#[Go.ConcR.mk (.write (smA b))],BJ b a:=by intro a c;simp at c;subst c;exact⟨Xi (Xi ⟨_,Xi A,A⟩),λe d=>by cases d⟩
theorem ik{e:dm}(r:y.tag=C e){Stop:Xt->M->Prop}(a1:∀c q,Stop c q->c.status=.running){sl:Xp (E×E)}(k:dG (aj P f) h a W q b U y c)
 (t:∀d,Go.SimW.RL e.D.ty e.D.Wg q d->Stop c d)
 (Z:∀a W q sl b U,dG (aj P f) h a W q b U y c->Stop c q->∃m d S g l,stepG P J c q=.go m d S/\g.D=e.D/\g.fin=e.fin/\g.lo=e.lo/\g.hi=e.hi/\(d=q\/∃a3 a4,d=q.setCell ⟨e.D.Wg,a3,F⟩ a4)/\(∀a∈S,BJ e.D.Wg a)/\
   (∀i,bB P W q b U y i->dY g i W.size d (sumTo W.size λo=>(i o).cnt))/\deafBehind h S=l/\(∀i,bB P W q b U y i->(sumTo W.size λo=>(i o).cnt)<=g.vb)/\
   ∀p u,dG (aj P f) l a p d u U {y with tag:=C g} m->bV P p d sl u z):bV P W q sl b z:=by
 refine sE (λv=>∀d,Go.SimW.RL e.D.ty e.D.Wg v d->Stop c d) (λq d a0 n w a2=>n w λ_=>a2 (a0 e r)) (a1 c q (t q (Go.SimW.RL.refl q))) ?_ a W q sl b U k t;intro a W q sl b U k n;obtain⟨m,d,S,g,l,x,H,L,N,O,Q,R,T,X,Y,D⟩:=Z a W q sl b U k (n q (Go.SimW.RL.refl q));exact⟨_,_,_,iS k.me x,D _ _ (LW k r H L N O Q R T X Y)⟩
theorem bU{d:dm}{a:Xg Ms}{W:Xk Xt}{b:XD}{U:Loc->Own}{Stop:Xt->M->Prop}(l:Go.Conc.Goes P J (Go.SimW.RL d.D.ty d.D.Wg) DC0 Stop s c q):
 ∀e,Go.SimW.RL d.D.ty d.D.Wg q e->Go.Conc.Goes P J (Go.SimW.RL d.D.ty d.D.Wg) DC0 Stop s c e:=λe m=>l.rely (λg i k=>Go.SimW.RL.trans g i k) m
theorem No{d:dm}{u:Xt}(g:y.tag=C d)(d4:d.wt=0)(e0:d.pend=0)(b9:u.status=.running)(c0:∀q,WgLive d.D.ty d.D.Wg q->Go.Conc.Goes P J (Go.SimW.RL d.D.ty d.D.Wg) DC0 (Go.SimW.VY P d.D.ty d.D.Wg u) s c q)
 (d7:∀a W q sl b U,dG (aj P f) 0 a W q b U {y with tag:=C {d with pend:=1}} u->bV P W q sl b z){sl:Xp (E×E)}(m:dG (aj P f) 0 a W q b U y c):bV P W q sl b z:=by
 have live:∀{h a W q b U y c}{d:dm},dG (aj P f) h a W q b U y c->y.tag=C d->WgLive d.D.ty d.D.Wg q:=λe g=>by obtain⟨p,_,b6,_⟩:=e.ok;exact(b6.wg _ g).mode.live
 refine cF g (λc q e=>e.1) (λx N Q t R T L r n=>?_) (s,a) c W q sl b U m (bU (W:=W) (b:=b) (U:=U) (a:=a) (c0 q (live m g)));refine ik g (λc q e=>e.1) r n λa W q sl b U m o=>?_;obtain⟨_,a6,c7,d2,c6⟩:=o;refine⟨a6,q,_,d,1,c7,A,A,A,A,Xh A,qu,λp e=>(e.wg d g).mode,A,λp e=>(e.wg d g).bound,λv w a8=>?_⟩;have b4:({y with tag:=C d}:bR)=y:=by rw[<-g]
 rw[b4]at a8;refine cF g (λc q e=>e.1) (λx N Q t R T L r n=>?_) (d2,a) a6 v q sl w U a8 (bU (W:=W) (b:=b) (U:=U) (a:=a) c6);refine ik g (λc q e=>e.1) r n λa W q sl b U m o=>?_;obtain⟨_,o⟩:=o;obtain⟨b1,_,b7,_⟩:=m.ok;have X:=b7.wg d g;have d8:=X.zF;have d6:=X.yt;obtain⟨V,b5⟩:∃V,V=sumTo W.size λa3=>(b1 a3).cnt:=by simp
 have b0:=X.mode;rw[<-b5]at b0
 have a2:WgAt d.D.ty d.D.Wg q ((V:Xj)*KK) 0/\∀j,0<j->j<W.size->(b1 j).iK=0:=by
  cases b0 with
  |opn i d3 k l=>simp_all
  |reg i b2 k l=>omega
  |last d1 i k l h a b3=>omega
  |fin i k l=>omega
  |By i k l=>omega
 obtain⟨a7,c8,d0,d9⟩:=o V (by omega) a2.1;refine⟨a7,_,_,{d with pend:=1},1,c8,A,A,A,A,Xi ⟨0,_,A⟩,Hg,λp e=>?_,A,λp e=>(e.wg d g).bound,λv w b8=>?_⟩
 .have a9:=(e.wg d g).mode;generalize d5:(sumTo W.size λa3=>(p a3).cnt)=a5 at a9;cases a9 with
  |opn i d3 k l=>
   have:a5=V:=by have:=(WgAt.unique (by simpa using l) a2.1).1;simp only[KK]at this;omega
   subst this;refine .opn i (XS _) k ?_;show WgAt _ _ _ (((a5+1:E):Xj)*KK) 0;exact a2.1.setSt _
  |reg i b2 k l=>omega
  |last d1 i k l h a b3=>omega
  |fin i k l=>omega
  |By i k l=>omega
 have tail:∀(O:Xt)(H:E) a W q sl b U,dG (aj P f) 1 a W q b U {y with tag:=C {d with pend:=1}} O->Go.Conc.Goes P J (Go.SimW.RL d.D.ty d.D.Wg) DC0 (Go.SimW.Vi P d.D.ty d.D.Wg u) H O q->bV P W q sl b z:=by
  intro O H a W q sl b U m Z;refine cF (e:={d with pend:=1}) A (λc q e=>e.1) (λx N Q t R T L r n=>?_) (H,a) O W q sl b U m (bU (d:={d with pend:=1}) (W:=W) (b:=b) (U:=U) (a:=a) Z);refine ik (e:={d with pend:=1}) A (λc q e=>e.1) r n λa W q sl b U m o=>?_;obtain⟨_,D,a1,a4,a0⟩:=o;refine⟨D,q,_,{d with pend:=1},0,a1,A,A,A,A,Xh A,te,λp e=>(e.wg _ A).mode,A,λp e=>(e.wg _ A).bound,λv w Y=>?_⟩;refine cF (e:={d with pend:=1}) A (λc q e=>by rw[show c=u from e];exact b9) (λx N Q t R T L r n=>?_) (a4,a) D v q sl w U Y (bU (d:={d with pend:=1}) (W:=W) (b:=b) (U:=U) (a:=a) a0);have:x=u:=n t (Go.SimW.RL.refl t)
  grind
 by_cases c9:V=0
 .obtain⟨H,Z⟩:=d0 c9;refine cF (e:={d with pend:=1}) A (λc q e=>e.1) (λx N Q t R T L r n=>?_) (H,a) a7 v _ sl w U b8 (bU (d:={d with pend:=1}) (W:=W) (b:=b) (U:=U) (a:=a) Z);refine ik (e:={d with pend:=1}) A (λc q e=>e.1) r n λa W q sl b U m o=>?_;obtain⟨_,D,a1,a4,a0⟩:=o;exact⟨D,q,_,{d with pend:=1},1,a1,A,A,A,A,Xh A,Jo,λp e=>(e.wg _ A).mode,A,λp e=>(e.wg _ A).bound,λv w Y=>tail D a4 _ _ _ _ _ _ Y a0⟩
 grind
end
variable{i:E}{z:dB}{b:Xg Ms}{a:XD}
section
variable{f:cZ}
theorem qN{a:dm}{f:E->aF}{g:E}(k:dY a f h q g)(n:a.wt=0)(o:a.pend=0):WgAt a.D.ty a.D.Wg q ((g:Xj)*KK) 0/\∀j,0<j->j<h->(f j).iK=0:=by
 cases k with
 |opn c r d e=>simp_all
 |reg c l d e=>omega
 |last p c d e i b m=>omega
 |fin c d e=>omega
 |By c d e=>omega
theorem LH{e:dm}{a:E->aF}(p:dS e a h q U)(r:sumTo h (λf=>(a f).cnt)=0)(n:∀j,0<j->j<h->(a j).iK=0):∀j c,0<j->j<h->a j=.wk c->∃g d cl b,c=.quit g d cl b:=by
 intro j c l m o
 have i:(a j).cnt=0:=by grind [Go.ConcN.le_sumTo]
 have k:=n j l m;rw[o]at i k;cases c with
 |work s cl e b=>grind [aF.cnt,nD.cnt]
 |done f s d cl b=>grind [aF.cnt,aF.iK,nD.cnt,nD.iK]
 |quit g d cl b=>simp
structure Legacy(P:Xy)(e:dm)(a:XD)(q:M)(U:Loc->Own)(g:E)(cl:bE)(d:bR):Prop where
 bg:aG P a q U g d
 own:uI e.D g cl
 Mg:di e.D d.S d.β cl q
 fin:e.fin g cl d.w
structure rQ(P:Xy)(f:cZ)(d:dm)(b:Xg Ms)(W:Xk Xt)(q:M)(a:XD)(U:Loc->Own)(y:bR):Prop where
 ok:cY P f b W q a U y
 left:∀e,d.lo<=e->e<d.hi->e<W.size/\Told a U e/\∃cl p,Legacy P d a q U e cl p
 rJ:∀g,az g d.D.Wg->U g=.sync
 zQ:U (.obj d.D.gb)=.void
 own:∀e,d.lo<=e->e<d.hi->∀k m,d.D.own e k->U (.cell ⟨d.D.gb,k,m⟩)=.iM e
 gb:tU d.D q
 pos:0<d.lo
 gh:IP d.D q U
 KU:∀g,az g d.D.gb->g=.obj d.D.gb\/U g=.iM 0\/∃e k m,d.lo<=e/\e<d.hi/\g=.cell ⟨d.D.gb,k,m⟩/\d.D.own e k/\U g=.iM e
 SL:∀l n o,f=C (l,n,o)->0<l/\¬(d.lo<=l/\l<d.hi)
theorem zv{u:dm}{sl:Xp (E×E)}{a0:Xt}(b5:y.tag=C u)(w:dG (aj P f) 0 b W q a U y c)(g7:stepG P J c q=.go a0 q #[Go.ConcR.mk (.acquire (stA u.D.Wg))])
 (g5:∀x,bB P W q a U y x->∀j k,0<j->j<W.size->x j=.wk k->∃D e cl Y,k=.quit D e cl Y):
 ∃b1 g c8,runT P (crowd W q sl) 0=(.next (crowd b1 q sl),g)/\dG (aj P f) 0 c8 b1 q (a++g) U {y with tag:=F} a0/\rQ P f u c8 b1 q (a++g) U {y with tag:=F}:=by
 obtain⟨x,rfl,H,b7⟩:=w.ok;have p:=H.wg u b5;have e0:=g5 x H;obtain⟨g,e2⟩:∃g,g=XE 0 c.frame.fn c.frame.place #[Go.ConcR.mk (.acquire (stA u.D.Wg))]:=⟨_,A⟩;have i2:g=#[({g:=0,fn:=c.frame.fn,pos:=c.frame.place,act:=.mark (.acquire (stA u.D.Wg))}:MemOp)]:=by simp_all [XE,Go.ConcR.mk,XM]
 have g4:∀v∈g,∀k,v.act.touch?=C k->False:=by grind [MemAct.touch?]
 have d6:∀v∈g,∀f2,v.act≠.mark (.release f2):=by grind
 have g1:∀v∈g,v.g=0:=by grind
 have a8:jU a q q U U 0 g:=mK g4 d6;have d2:∀l,l≠0->Deaf (a++g) l=Deaf a l:=λl R=>ZR a (g':=0) (λb=>R b.symm) g g1
 have g6:(a++g).act? a.size=C (.mark (.acquire (stA u.D.Wg))):=by
  have:(a++g)[a.size]?=C {g:=0,fn:=c.frame.fn,pos:=c.frame.place,act:=.mark (.acquire (stA u.D.Wg))}:=by grind
  rw[act?_of this]
 have d9:(a++g).g? a.size=C 0:=by
  have:(a++g)[a.size]?=C {g:=0,fn:=c.frame.fn,pos:=c.frame.place,act:=.mark (.acquire (stA u.D.Wg))}:=by grind
  rw[fB this]
 have told:∀d e,RelBy (stA u.D.Wg) a d e->0<d->Told (a++g) U d:=by
  intro d e a4 r l v k R d3 t d5 b6;rcases XU R with⟨g3,a3⟩|⟨_,g2⟩
  .have b0:e<a.size:=i_ a4.act;have d0:HappensBefore (a++g) e a.size:=.single (Xi ⟨.marked b0 (Xi (by rw[abd b0];exact a4.act)) g6 (λl _ _=>(w.bF.norel _).app (λv d8=>d6 v d8 _) l),(ZA b0).2 a4.heard,⟨0,d9,by rw[deaf_old (XS _)];exact w.hears⟩⟩);have i0:l<=e:=E.le_of_not_lt λS=>
    a4.after l S (by simp[XD.g?,a3,d3]) ⟨k,by rw[<-YM a3]at t;exact t,d5,Xi (b6.elim (w.bF.jB l k (by rw[YM a3];exact t) d5) (ZA g3).1)⟩
   have g0:(a++g).g? e=C d:=by rw[g?_old b0];exact a4.g
   obtain⟨c6,e3,e4⟩:=YE.1 d9;rcases H_ l e with d1|d1
   .exact⟨a.size,c6,e3,e4,Xi (.trans (.single (Xh ⟨d1,d,(by simp[XD.g?,R,d3]),g0⟩)) d0)⟩
   obtain rfl:l=e:=by omega
   exact⟨a.size,c6,e3,e4,Xi d0⟩
  simp_all
 have i1:0<W.size:=(XN.1 w.me).1
 let O:aF->aF:=λe=>match e with
  |.wk (.quit D _ _ _)=>.lv D
  |.wk _=>.lv 0
  |e=>e
 have upd:∀e,O e=(match e with
  |.wk (.quit D _ _ _)=>.lv D
  |.wk _=>.lv 0
  |e=>e):=λ_=>rfl
 have h3:∀e,(O e).pd=e.pd:=by intro e;rw[upd];cases e with
  |wk k=>cases k<;>rfl
  |_=>rfl
 have h2:∀e,(O e).chan=e.chan:=by simp_all [aF.cA]
 have i7:∀e k,O e≠.wk k:=by grind
 have h5:∀l L,0<l->l<W.size->(x l).chan=C L->q.heap[L]?=q.heap[L]?:=λ_ _ _ _ _=>rfl
 have h6:∀d Q,0<d->W[d]?=C Q->cw P d Q q (a++g) U {y with tag:=F} (O (x d)):=by
  intro d Q r N;have S:=(XN.1 N).1;have T:=H.each d Q r N;have a6:cw P d Q q (a++g) U y (x d):=T.frame w.bF a8 (by omega) (d2 d (by omega)) (iV.refl y) (λL h9=>rfl) (λv d8 b=>by simp_all) (λ_ _=>fw.same A rfl);obtain⟨c0,e1⟩:∃c0,x d=c0:=⟨_,A⟩;rw[e1]at a6 T⊢
  cases c0 with
  |lv D=>exact a6
  |wk k=>obtain⟨D,e,cl,Y,rfl⟩:=e0 d k r S e1;obtain⟨f1,n,o,m⟩:=T;rw[b5]at n;cases n;obtain⟨b8,e5,e6,e7,g8⟩:=m;exact⟨by grind,told d e b8 r⟩
  |pr a7 s u Y=>obtain⟨n,o,⟨a5,Z,m⟩,b2,a1,b3,b4⟩:=a6;exact⟨n,o,⟨a5,Z,⟨m.heap,m.count,m.room,m.own,m.msgs⟩⟩,b2,a1,b3,b4⟩
  |pb a7 s u Y h8 i8 c6=>obtain⟨n,o,f6,⟨a5,Z,m,f7⟩,b2,a1,b3,b4,f8⟩:=a6;exact⟨n,o,f6,⟨a5,Z,⟨m.heap,m.count,m.room,m.own,m.msgs⟩,f7⟩,b2,a1,b3,b4,f8⟩
  |pq a7 D=>obtain⟨⟨a5,Z,m⟩,a1⟩:=a6;exact⟨⟨a5,Z,⟨m.heap,m.count,m.room,m.own,m.msgs⟩⟩,a1⟩
 have d7:cY P f (ua (λd=>O (x d)) W.size) ((W.map (Go.Conc.woken P c a0 q)).setIfInBounds 0 a0) q (a++g) U {y with tag:=F}:=by
  refine⟨λd=>O (x d),by simp,⟨λd Q r N=>?_,?_,λj a9=>?_,λh4 f9=>(by cases f9),λl v R=>?_⟩,?_⟩
  .rw[Ya (by omega),Yk]at N;cases t:W[d]? with
   |none=>simp_all
   |some k=>rw[t]at N;simp only[Zo,Yh]at N;rw[(H.each d k r t).woken c a0 λL _=>rfl]at N;simp_all
  .intro d j L f3 r a9 a2 d4 n o;simp only[Yr,ZG]at a2 d4;rw[h2]at n o;exact H.one d j L f3 r a9 a2 d4 n o
  .simp only[Yr,ZG]at a9;rw[d2 j (by omega)];exact H.above j a9
  .simp only[Yr,ZG];rcases XU R with⟨_,a3⟩|⟨_,g2⟩
   .exact H.ops l v a3
   simp_all
  cases f with
  |none=>intro d r a2;simp only[Yr,ZG]at a2;rw[h3];exact b7 d r a2
  |some k=>obtain⟨e8,a7,l⟩:=k;obtain⟨q1,h0,b9,f0⟩:=b7;exact⟨q1,by simp_all,by simp_all,f0⟩
 have X:=w.bg.stay a8 λ_ _ _=>rfl;refine⟨_,g,_,by rw[e2];exact iS w.me g7,⟨d7,w.bF.step a8,⟨X.base,X.rel,X.cO,X.dv,X.dV,X.low⟩,?_,?_⟩,⟨d7,λd n o=>?_,p.rJ,p.zQ,λd n o g9 h1 b6=>?_,p.gb,p.tT.1,p.gh,p.KU,?_⟩⟩
 .simp_all
 .rw[e2,ZM,w.hears];rfl
 .have r:0<d:=XY p.tT.1 n;have S:d<W.size:=E.lt_of_lt_of_eq o p.tT.2.2.1;obtain⟨k,t⟩:=p.tT.2.2.2 d n o;obtain⟨D,e,cl,Y,rfl⟩:=e0 d k r S t;have T:=H.each d _ r (XP S);rw[t]at T;obtain⟨f1,c9,f4,f5⟩:=T;rw[b5]at c9;cases c9;obtain⟨b8,e5,e6,e7,g8⟩:=f5;exact⟨by simp_all,told d e b8 r,cl,Y,⟨e5.other (i:=0) (by omega) a8,f4,e6,e7⟩⟩
 .obtain⟨k,t⟩:=p.tT.2.2.2 d n o;exact p.own d k (XY p.tT.1 n) (E.lt_of_lt_of_eq o p.tT.2.2.1) t g9 h1 b6
 rintro e8 a7 l rfl;obtain⟨q1,h0,b9,f0⟩:=b7;refine⟨q1,λ⟨n,o⟩=>?_⟩;obtain⟨k,t⟩:=p.tT.2.2.2 e8 n o;rw[t]at b9;cases b9
theorem JQ{Stop:Xt->M->Prop}(L:∀c q,Stop c q->c.status=.running)
 (v:∀k r n m D o p,dG (aj P f) i r n m o p y k->(∀d,Stop k d)->bV P n m D o z):
 ∀(s:E)(c:Xt)(b:Xg Ms) W q sl a U,dG (aj P f) i b W q a U y c->Go.SimW.GT P J Stop s c->bV P W q sl a z:=by
 intro s
 induction s with
 |zero=>intro c b W q sl a U e l;exact v c b W q sl a U e λd=>l d d trivial
 |succ s x=>
  intro c b W q sl a U e l;by_cases N:∀d,Stop c d
  .grind
  have w:c.status=.running:=by
   rcases l q with g|⟨g,_⟩
   .simp_all
   exact g
  refine sE (λ_=>True) (λ_ _ _ _=>trivial) w ?_ b W q sl a U e trivial;intro b W q sl a U e _;rcases l q with g|⟨_,g⟩
  .simp_all
  obtain⟨k,O,H,t,⟨rfl,rfl⟩,u⟩:=aaG (g q trivial);exact⟨_,_,_,iS e.me t,(x k b _ _ sl _ U (vj e) λd=>u.rely (λ_ _ _ _ _=>trivial) trivial)⟩
theorem Np{d:dm}{d7:Xt}(N:y.tag=C d)(b1:d.wt=1)(j8:d.pend=0)(b2:∀q,WgLive d.D.ty d.D.Wg q->Go.SimW.Vm P d.D.ty d.D.Wg d7 c q)
 (g7:∀b9 d4 b W q sl a U,dG (aj P f) i b W q a U {y with tag:=C {d with wt:=2}} b9->Go.Conc.Goes P J (Go.SimW.RL d.D.ty d.D.Wg) DC0 (Go.SimW.Wl P d.D.ty d.D.Wg d7) d4 b9 q->bV P W q sl a z):
 ∀(b:Xg Ms),
  (∀W q sl a U,dG (aj P f) i b W q a U y {c with status:=.blocked}->(∃e,WgAt d.D.ty d.D.Wg q e 0)->bV P W q sl a z)/\(∀W q sl a U,dG (aj P f) i b W q a U y c->bV P W q sl a z):=by
 intro b
 induction (dR.wf Ms.wf).apply b with
 |intro b _ d3=>
  have live:∀{b W q a U c},dG (aj P f) i b W q a U y c->WgLive d.D.ty d.D.Wg q:=λo=>by obtain⟨v,_,Y,_⟩:=o.ok;exact(Y.wg d N).mode.live
  have j7:∀{b W q a U},dG (aj P f) i b W q a U y c->c.offers=F:=λo=>(b2 _ (live o)).2.1
  have d8:∀W q sl a U,dG (aj P f) i b W q a U y {c with status:=.blocked}->(∃e,WgAt d.D.ty d.D.Wg q e 0)->bV P W q sl a z:=by
   intro W q sl a U n b4;have c7:c.offers=F:=(b2 _ (live n)).2.1;have a1:c.status=.running:=(b2 _ (live n)).1
   have g4:∀d0,({c with status:=.blocked}:Xt).again d0=c:=by intro d0;obtain⟨i8,i9,j0,j1,j2⟩:=c;simp only at c7 a1;subst c7 a1;rfl
   obtain⟨v,g8,Y,h2⟩:=n.ok;have X:=Y.wg d N;have g2:∀r∈W,Go.Conc.awake r:=by
    intro r Q;obtain⟨k,O,rfl⟩:=YQ.1 Q;rcases Ye k with rfl|Z
    .have:W[0]={c with status:=.blocked}:=by have:=n.me;simp_all
     rw[this];exactλa h0=>by cases h0
    exact(aj P f).awake n.ok k _ Z (XP O)
   have g9:∃(k:E)(c:Xt),W[k]?=C c/\c.status=.running:=by
    have f1:∀j r,0<j->j<W.size->v j=.wk r->(r.cnt=1\/r.iK=1)->∃(k:E)(c:Xt),W[k]?=C c/\c.status=.running:=by
     intro j r c6 e1 Q j4;have e6:=Y.each j _ c6 (XP e1);rw[Q]at e6;obtain⟨i2,i6,i7,d6⟩:=e6;refine⟨j,_,XP e1,?_⟩;cases r with
     |work s cl i3 a8=>exact d6.1
     |done m s H cl a8=>exact Go.SimW.qC d6.2.2.2.2.2.2
     |quit c8 H cl a8=>grind [nD.cnt,nD.iK]
    have b3:=X.mode;generalize g1:(sumTo W.size λm=>(v m).cnt)=V at b3;cases b3 with
    |opn e d5 l g=>omega
    |fin e l g=>obtain⟨r,Q⟩:=b4;have:=(g.unique Q).2;omega
    |By e l g=>omega
    |last k e l g i b b0=>
     have D:(v k).iK=1:=b;cases a0:v k with
     |wk r=>exact f1 k r l g a0 (Xi (by rw[a0]at D;exact D))
     |lv c8=>rw[a0]at D;cases D
     |pr a9 s d a8=>rw[a0]at D;cases D
     |pb a9 s d a8 c h8 i0=>rw[a0]at D;cases D
     |pq a9 c8=>rw[a0]at D;cases D
    |reg e b7 l g=>
     have:∃j,j<W.size/\1<=(v j).cnt:=by
      refine Classical.byContradiction λj6=>?_
      have k0:(sumTo W.size λm=>(v m).cnt)<=0*W.size:=Go.ConcN.sumTo_le (f:=λm=>(v m).cnt) (c:=0) λj c6=>by simp_all
      omega
     obtain⟨j,c6,b1⟩:=this;have g6:0<j:=by
      rcases Ye j with rfl|o
      .have:=X.zero;omega
      exact o
     cases e5:v j with
     |wk r=>
      refine f1 j r g6 c6 e5 (Xh ?_);rw[e5]at b1;have S:1<=r.cnt:=b1;cases r<;>simp only[nD.cnt]at S⊢
      .grind
      omega
     |lv c8=>simp_all [aF.cnt]
     |pr a9 s d a8=>simp_all [aF.cnt]
     |pb a9 s d a8 c h8 i0=>simp_all [aF.cnt]
     |pq a9 c8=>simp_all [aF.cnt]
   obtain⟨k,d1,h,w,O,c0,b5⟩:=h_ (P:=P) (w:=q) (sl:=sl) g2 g9;have Z:0<k:=by
    rcases Ye k with rfl|o
    .have:=n.me;grind
    exact o
   have u:=n.at' h;obtain⟨a7,j9,d9,e7⟩:=u.ok
   have fin:∀{H p t L x},runT P (crowd W (q.at h) w) k=(.next (crowd p t w),L)->Ms.lt (aF.ms H) (a7 k).ms->p.size=W.size->(p[0]?=C {c with status:=.blocked}\/p[0]?=C c)->bB P p t (a++L) x y (λm=>if m=k then H else a7 m)->cQ (a++L) t x->aG P (a++L) t x 0 y->Deaf (a++L) 0=Deaf a 0->
    eJ f p t (λm=>if m=k then H else a7 m)->((∃e,WgAt d.D.ty d.D.Wg (q.at h) e 0)->(∃l,WgAt d.D.ty d.D.Wg t l 1)->p[0]?=C c)->bV P W q sl a z:=by
    intro H p t L x q1 c9 a2 R T a3 a4 a5 a6 b6;refine bV.head (b5.trans q1) ?_
    have e3:dR Ms.lt (ua (λm=>if m=k then H else a7 m) p.size) b:=by grind [lj]
    have e2:=(T.wg d N).mode;generalize (sumTo p.size λj=>(if j=k then H else a7 j:aF).cnt)=V at e2;rcases R with R|R
    .refine(d3 _ e3).1 p t w _ x ⟨⟨_,A,T,a6⟩,a3,a4,R,a5.trans n.hears⟩ ?_;cases e2 with
     |opn e d5 l g=>omega
     |reg e b7 l g=>grind
     |last k e l g i b b0=>grind
     |By e l g=>omega
     |fin e l g=>
      have:=b6 b4 ⟨_,g⟩
      grind
    exact(d3 _ e3).2 p t w _ x ⟨⟨_,A,T,a6⟩,a3,a4,R,a5.trans n.hears⟩
   by_cases hd:uY P d1 (a7 k)
   .obtain⟨H,p,t,L,x,q1,c9,a2,R,T,a3,a4,a5,a6,b6,e9⟩:=yp w d9 u.bF u.bg n.me (Xi c7) Z O c0 hd;refine fin q1 c9 a2 ?_ T a3 a4 a5 (iI e7 a2 a6 b6) λQ e8=>?_
    .grind [Go.Conc.woken]
    obtain⟨e,X⟩:=Q;obtain⟨l,g3⟩:=e8;have:=((X.of_block (e9 d N)).unique g3).2;omega
   obtain⟨H,p,t,L,x,q1,c9,a2,⟨e,b7,R⟩,T,a3,a4,a5,a6,b6,e9⟩:=quiet_step w d9 u.bF u.bg n.me Z O c0 hd;refine fin q1 c9 a2 ?_ T a3 a4 a5 (iI e7 a2 a6 λm g h f3 b8 f4=>(b6 m g h f3 b8 f4).2) λQ e8=>?_
   .rw[R];unfold Go.Conc.woken;split
    .right;rw[g4]
    left;rfl
   grind
  refine⟨d8,?_⟩;intro W q sl a U n;have a1:=(λo=>(b2 _ (live o)).1) n;obtain⟨k,d1,h,w,O,c0,b5⟩:=h_ (P:=P) (w:=q) (sl:=sl) (rT n a1) ⟨0,c,n.me,a1⟩;have u:=n.at' h;rcases Ye k with rfl|Z
  .obtain rfl:d1=c:=by have:=n.me;simp_all
   obtain⟨_,c7,h3,h1⟩:=b2 (q.at h) (live u);obtain⟨v,g8,Y,h2⟩:=u.ok;have X:=Y.wg d N;have b3:=X.mode;have j5:0<W.size:=(XN.1 n.me).1
   have block:(∃e,WgAt d.D.ty d.D.Wg (q.at h) e 0)->bV P W q sl a z:=by intro b4;have d2:=h3 b4;exact bV.head (b5.trans (iS O d2)) (d8 _ _ w _ U (vj u) b4)
   generalize g1:(sumTo W.size λm=>(v m).cnt)=V at b3;cases b3 with
   |opn e d5 l g=>omega
   |reg e b7 l g=>grind
   |last k e l g i b b0=>grind
   |By e l g=>omega
   |fin e l g=>
    obtain⟨b9,d2,d4,g5⟩:=h1 g;refine bV.head (b5.trans (iS O d2)) ?_;refine g7 b9 d4 _ _ _ w _ U (LW u N (n:={d with wt:=2}) A rfl rfl rfl (Xi ⟨1,_,A⟩) (λb e0=>?_) (λf0 S=>?_) (a9:=i) ?_ (λf0 S=>(S.wg d N).bound)) g5
    .simp[semEvents]at e0;rcases e0 with rfl|rfl|rfl|rfl
     .exact⟨Xh A,λe o=>by cases o⟩
     .exact⟨Xi (Xh ⟨_,_,A,A⟩),λe o=>by cases o⟩
     .exact⟨Xi (Xh ⟨_,_,A,A⟩),λe o=>by cases o⟩
     exact⟨Xh A,λe o=>by cases o⟩
    .have e4:=(S.wg d N).mode;generalize j3:(sumTo W.size λm=>(f0 m).cnt)=i4 at e4;cases e4 with
     |opn e d5 l g=>omega
     |reg e b7 l c2=>have:=(g.unique c2).2;omega
     |last k e l c2 i b b0=>have:=(g.unique b0).2;omega
     |By f2 b8 c2=>omega
     |fin f2 b8 c2=>exact .By A b8 (g.setSm 0)
    rfl
  obtain⟨f5,p,t,L,x,b1,S,f6,f7,f8,f9,g0⟩:=(aj P f).step w u.ok u.bF u.bg n.me a1 Z O c0;exact bV.head (b5.trans b1) ((d3 f5 S).2 p t w _ x ⟨f7,f8,f9,f6,g0.trans n.hears⟩)
theorem JU{d:dm}{Q:Xt}{a3:Xt->M->Prop}(Y:y.tag=C d)(a1:d.wt=0)(a8:d.pend=0)(g4:Q.status=.running)(e4:∀c a2,a3 c a2->c.status=.running)
 (d6:∀q,WgLive d.D.ty d.D.Wg q->Go.Conc.Goes P J (Go.SimW.RL d.D.ty d.D.Wg) DC0 (Go.SimW.Wj P d.D.ty d.D.Wg a3) s c q)(f6:∀c a2,a3 c a2->∃s,Go.SimW.GL P J d.D.ty d.D.Wg (Go.SimW.Wk P d.D.ty d.D.Wg Q a3) s c)
 (h0:∀b W q a U e3,dG (aj P f) 0 b W q a U {y with tag:=F} e3->rQ P f d b W q a U {y with tag:=F}->∃d0 e0,dG (aj P f) 0 b W q a d0 e0 e3/\∀b W q sl a U,dG (aj P f) 0 b W q a U e0 Q->bV P W q sl a z)
 {sl:Xp (E×E)}(m:dG (aj P f) 0 b W q a U y c):bV P W q sl a z:=by
 have live:∀{i b W q a U y c}{d:dm},dG (aj P f) i b W q a U y c->y.tag=C d->WgLive d.D.ty d.D.Wg q:=λe Y=>by obtain⟨k,_,e6,_⟩:=e.ok;exact(e6.wg _ Y).mode.live
 have f1:∀(g:E)(b3:bR){i b W q a U c},b3.tag=C {d with wt:=2,vb:=g}->dG (aj P f) i b W q a U b3 c->WgAt d.D.ty d.D.Wg q 0 0/\∀k,bB P W q a U b3 k->(sumTo W.size λx=>(k x).cnt)=0/\∀j,0<j->j<W.size->(k j).iK=0:=by
  intro g b3 i b W q a U c f5 m
  have k6:∀k,bB P W q a U b3 k->(sumTo W.size λx=>(k x).cnt)=0/\(∀j,0<j->j<W.size->(k j).iK=0)/\WgAt d.D.ty d.D.Wg q 0 0:=by
   intro k e;have Z:=(e.wg _ f5).mode;generalize (sumTo W.size λx=>(k x).cnt)=V at Z;cases Z with
   |opn R k7 a0 a4=>cases R
   |reg R j8 a0 a4=>cases R
   |last f0 R a0 a4 i b k0=>cases R
   |fin R a0 a4=>cases R
   |By R a0 a4=>exact⟨A,a0,a4⟩
  obtain⟨k,_,e6,_⟩:=m.ok
  grind
 have tail:∀(g:E)(S:Xt)(b0:E) b W q sl a U,dG (aj P f) 1 b W q a U {y with tag:=C {d with wt:=2,vb:=g}} S->Go.Conc.Goes P J (Go.SimW.RL d.D.ty d.D.Wg) DC0 (Go.SimW.Vn P d.D.ty d.D.Wg Q) b0 S q->bV P W q sl a z:=by
  intro g S b0 b W q sl a U m g6;refine cF (e:={d with wt:=2,vb:=g}) A (λc q e=>e.1) (λN u w n D L t p o=>?_) (b0,b) S W q sl a U m (bU (d:={d with wt:=2,vb:=g}) (W:=W) (b:=a) (U:=U) (a:=b) g6);refine ik (e:={d with wt:=2,vb:=g}) A (λc q e=>e.1) p o λb W q sl a U m r=>?_;obtain⟨_,e1,h7,b1,a6⟩:=r;refine⟨e1,q,_,{d with wt:=2,vb:=g},0,h7,A,A,A,A,Xh A,te,λk e=>(e.wg _ A).mode,A,λk e=>(e.wg _ A).bound,λv H g2=>?_⟩;refine cF (e:={d with wt:=2,vb:=g}) A (λc q e=>e.1) (λN u w n D L t p o=>?_) (b1,b) e1 v q sl H U g2 (bU (d:={d with wt:=2,vb:=g}) (W:=W) (b:=a) (U:=U) (a:=b) a6);refine sE (λf2=>∀d1,Go.SimW.RL d.D.ty d.D.Wg f2 d1->Go.SimW.Wm P d.D.Wg Q N d1) (λq d1 h1 d8 f4 i1=>d8 f4 λ_=>i1 (h1 {d with wt:=2,vb:=g} A)) (o n (Go.SimW.RL.refl n)).1 ?_ u w n D L t p o;intro b W q sl a U m d8;obtain⟨_,X,a9,b2,a7⟩:=d8 q (Go.SimW.RL.refl q);obtain⟨_,c7⟩:=f1 g _ A m;obtain⟨b9,c8,d2,i7,i8,T⟩:=zv (u:={d with wt:=2,vb:=g}) (sl:=sl) A m a9 λk e=>LH (e.wg _ A) (c7 k e).1 (c7 k e).2;refine⟨b9,q,c8,i7,?_⟩
  have i9:rQ P f d d2 b9 q (a++c8) U {y with tag:=F}:=⟨T.ok,λf0 R a0=>by
   obtain⟨j5,j6,cl,j4,c9⟩:=T.left f0 R a0
   exact⟨j5,j6,cl,j4,⟨c9.bg,c9.own,c9.Mg,c9.fin⟩⟩,T.rJ,T.zQ,T.own,T.gb,T.pos,T.gh,T.KU,T.SL⟩
  obtain⟨d0,e0,j0,k8⟩:=h0 d2 b9 q (a++c8) U X i8 i9;refine JQ (Stop:=Go.SimW.Vj Q) (λc q e=>by rw[show c=Q from e];exact g4) (λb8 j9 k1 f3 k9 l0 j7 k3 h5=>?_) b2 X d2 b9 q sl (a++c8) d0 j0 a7;have:b8=Q:=h5 f3
  grind
 have j3:∀(h g:E),g<=h->∀(S:Xt) b W q sl a U,dG (aj P f) 1 b W q a U {y with tag:=C {d with vb:=g}} S->a3 S q->bV P W q sl a z:=by
  intro h
  induction h using E.strongRecOn with
  |_ h i2=>
   intro g k5 S b W q sl a U m g1;obtain⟨b0,AZ⟩:=f6 S q g1;refine cF (e:={d with vb:=g}) A (λc q e=>e.1) (λN u w n D L t p o=>?_) (b0,b) S W q sl a U m (bU (d:={d with vb:=g}) (W:=W) (b:=a) (U:=U) (a:=b) (AZ q (live (d:={d with vb:=g}) m A)));refine ik (e:={d with vb:=g}) A (λc q e=>e.1) p o λb W q sl a U m r=>?_;obtain⟨_,r⟩:=r;obtain⟨j1,_,f9,_⟩:=m.ok;have c0:=f9.wg _ A;obtain⟨V,f7⟩:∃V,V=sumTo W.size λx=>(j1 x).cnt:=⟨_,A⟩;have d7:=qN c0.mode a1 a8;have h2:=c0.zF;have k4:=c0.yt;have d3:=c0.bound;rw[<-f7]at d7 h2 d3;have d3:V<=g:=d3
   have b4:∀k,bB P W q a U {y with tag:=C {d with vb:=g}} k->(sumTo W.size λx=>(k x).cnt)=V/\∀j,0<j->j<W.size->(k j).iK=0:=by intro k e;have Z:=qN (e.wg _ A).mode a1 a8;refine⟨?_,Z.2⟩;have:=(Z.1.unique d7.1).1;simp only[KK]at this;omega
   obtain⟨b7,e8,c7,h4⟩:=r V (by omega) d7.1;by_cases d9:V=0
   .obtain⟨b1,a6⟩:=c7 d9;refine⟨b7,q,_,{d with wt:=2,vb:=g},1,e8,A,A,A,A,Xh A,uo,λk e=>?_,A,λk e=>(e.wg _ A).bound,λv H a5=>tail g b7 b1 _ _ _ _ _ _ a5 a6⟩;rw[(b4 k e).1,d9];refine .By A (b4 k e).2 ?_;simp_all
   obtain⟨b1,a6⟩:=h4 d9;refine⟨b7,q,_,{d with vb:=V},1,e8,A,A,A,A,Xh A,uo,λk e=>?_,A,λk e=>ZZ (b4 k e).1,λv H a5=>?_⟩
   .rw[(b4 k e).1];exact .opn a1 (by simp_all) (b4 k e).2 (by simp_all)
   refine cF (e:={d with vb:=V}) A (λc q e=>e.1) (λN u w n D L t p o=>?_) (b1,b) b7 v q sl H U a5 (bU (d:={d with vb:=V}) (W:=W) (b:=a) (U:=U) (a:=b) a6);refine ik (e:={d with vb:=V}) A (λc q e=>e.1) p o λb W q sl a U m r=>?_;obtain⟨_,r⟩:=r;obtain⟨j2,_,g0,_⟩:=m.ok;have e5:=g0.wg _ A;obtain⟨O,f8⟩:∃O,O=sumTo W.size λx=>(j2 x).cnt:=⟨_,A⟩;have c6:=qN e5.mode a1 a8;have d4:=e5.bound;rw[<-f8]at c6 d4;have d4:O<=V:=d4
   have b5:∀k,bB P W q a U {y with tag:=C {d with vb:=V}} k->(sumTo W.size λx=>(k x).cnt)=O/\∀j,0<j->j<W.size->(k j).iK=0:=by
    intro k e;have Z:=qN (e.wg _ A).mode a1 a8;refine⟨?_,Z.2⟩;have:=(Z.1.unique c6.1).1
    grind [KK]
   obtain⟨g9,h3⟩:=r O (by omega) c6.1;by_cases e9:O=V
   .obtain⟨X,a9,b2,a7⟩:=g9 e9;refine⟨X,_,_,{d with wt:=1,vb:=V},1,a9,A,A,A,A,Xi ⟨0,_,A⟩,Hg,λk e=>?_,A,λk e=>(e.wg _ A).bound,λv H d5=>?_⟩
    .rw[(b5 k e).1];exact .reg A (by omega) (b5 k e).2 (c6.1.setSt _)
    refine cF (e:={d with wt:=1,vb:=V}) A (λc q e=>e.1) (λN u w n D L t p o=>?_) (b2,b) X v _ sl H U d5 (bU (d:={d with wt:=1,vb:=V}) (W:=W) (b:=a) (U:=U) (a:=b) a7);refine ik (e:={d with wt:=1,vb:=V}) A (λc q e=>e.1) p o λb W q sl a U m r=>?_;obtain⟨_,b8,h8,i5,g7⟩:=r;refine⟨b8,q,_,{d with wt:=1,vb:=V},1,h8,A,A,A,A,Xh A,EX,λk e=>(e.wg _ A).mode,A,λk e=>(e.wg _ A).bound,λv H e7=>?_⟩;refine cF (e:={d with wt:=1,vb:=V}) (Stop:=λc _=>∀a2,WgLive d.D.ty d.D.Wg a2->Go.SimW.Vm P d.D.ty d.D.Wg Q c a2) A (λc q e=>((e _ (live (d:={d with wt:=1,vb:=V}) e7 A)).1)) (λN u w n D L t p o=>?_) (i5,b) b8 v q sl H U e7 (bU (d:={d with wt:=1,vb:=V}) (W:=W) (b:=a) (U:=U) (a:=b) g7);refine(Np (d:={d with wt:=1,vb:=V}) (y:={y with tag:=C {d with wt:=1,vb:=V}}) (d7:=Q) A rfl a8 (o n (Go.SimW.RL.refl n)) (λb6 i3 b W q sl a U m d6=>?_) u).2 w n D L t p;refine cF (e:={d with wt:=2,vb:=V}) A (λc q e=>e.1) (λN u w n D L t p o=>?_) (i3,b) b6 W q sl a U m (bU (d:={d with wt:=2,vb:=V}) (W:=W) (b:=a) (U:=U) (a:=b) d6);refine ik (e:={d with wt:=2,vb:=V}) A (λc q e=>e.1) p o λb W q sl a U m r=>?_;obtain⟨i0,_⟩:=f1 V _ A m;obtain⟨_,r⟩:=r;obtain⟨e2,h9,i6,g8⟩:=r i0;exact⟨e2,q,_,{d with wt:=2,vb:=V},1,h9,A,A,A,A,Xh A,uo,λk e=>(e.wg _ A).mode,A,λk e=>(e.wg _ A).bound,λv H g3=>tail V e2 i6 _ _ _ _ _ _ g3 g8⟩
   obtain⟨X,a9,b2,a7⟩:=h3 e9;refine⟨X,q,_,{d with vb:=O},1,a9,A,A,A,A,Xh A,uo,λk e=>?_,A,λk e=>ZZ (b5 k e).1,λv H d5=>?_⟩
   .rw[(b5 k e).1];exact .opn a1 (by simp_all) (b5 k e).2 (by simp_all)
   exact cF (e:={d with vb:=O}) A (λc q e=>e4 c q e) (λN u w n D L t p o=>(i2 O (by omega) O (XS _) N u w n D L t p (o n (Go.SimW.RL.refl n)))) (b2,b) X v q sl H U d5 (bU (d:={d with vb:=O}) (W:=W) (b:=a) (U:=U) (a:=b) a7)
 have k2:({y with tag:=C {d with vb:=d.vb}}:bR)=y:=by rw[show({d with vb:=d.vb}:dm)=d from A,<-Y]
 refine cF Y (λc q e=>e.1) (λN u w n D L t p o=>?_) (s,b) c W q sl a U m (bU (W:=W) (b:=a) (U:=U) (a:=b) (d6 q (live m Y)));refine ik Y (λc q e=>e.1) p o λb W q sl a U m r=>?_;obtain⟨_,b6,h6,i4,g5⟩:=r;exact⟨b6,q,_,d,1,h6,A,A,A,A,Xh A,qu,λk e=>(e.wg d Y).mode,A,λk e=>(e.wg d Y).bound,λv H a5=>(cF (e:=d) A (λc q e=>e4 c q e) (λN u w n D L t p o=>(j3 d.vb d.vb (XS _) N u w n D L t p (o n (Go.SimW.RL.refl n)))) (i4,b) b6 v q sl H U a5 (bU (W:=W) (b:=a) (U:=U) (a:=b) g5))⟩
end
variable{m:E}{k:Xt}{b:XD}{e:E}{n:E}
section
variable{l:cZ}{f:bR}{c:XD}{a:Loc->Own}
structure oY(c:XD):Prop where
 touch:∀d∈c,∀o,d.act.touch?=C o->False
 norel:∀d∈c,∀i,d.act≠.mark (.release i)
 still:∀b g,Deaf (b++c) g=Deaf b g
theorem oY.nil:oY #[]:=⟨by simp,by simp,λb a=>by simp⟩
def iU(U a:Loc->Own):Prop:=∀b,b.isMemory=J->a b=U b\/U b=.iM 0
theorem iU.keep(c:iU U a){b:Loc}(d:b.isMemory=J)(e:U b≠.iM 0):a b=U b:=(c b d).resolve_right e
theorem iU.sync(e:iU U a){c:Loc}(f:c.isMemory=J)(g:a c≠.sync):U c≠.sync:=λd=>by
 rcases e c f with b|b
 .exact g (b.trans d)
 rw[d]at b;cases b
theorem Told.jA(p:Told b U e)(r:iU U a)(D:oY c):Told (b++c) a e:=by
 intro H i o t s g d x;rcases XU t with⟨w,u⟩|⟨_,v⟩
 .exact(p H i o u s g d (x.imp (r.sync d) (ZA w).1)).app c
 exact(D.touch i v o g).elim
theorem kI.jA(p:kI b U e h)(r:iU U a)(D:oY c):kI (b++c) a e h:=by
 intro H i o t s g d x;rcases XU t with⟨w,u⟩|⟨_,v⟩
 .exact(p H i o u s g d (x.imp (r.sync d) (ZA w).1)).app c
 exact(D.touch i v o g).elim
theorem aG.jA{D:bR}(g:aG P b q U e D)(w:e≠0)(u:iU U a)(O:oY c):aG P (b++c) q a e D where
 low:=g.low
 base:=g.base
 rel:=g.rel
 cO:=g.cO
 dv:=by
  intro r i s p o;have t:=bQ o;rcases g.dv r i s p o with d|⟨d,v⟩
  .rw[u.keep t (by rw[d];simp[w])];exact Xh d
  rw[u.keep t (by rw[d];simp)];exact Xi ⟨d,v⟩
 dV:=by
  intro r i s p o x;have t:=bQ o;have H:U p=.ro:=by
   rcases g.dv r i s p o with d|⟨d,v⟩
   .rw[u.keep t (by rw[d];simp[w]),d]at x;cases x
   exact d
  exact(g.dV r i s p o H).app λQ N i L _ _=>(O.touch Q N i L).elim
theorem ui.jA{s:PD}(d:ui s b q U e)(x:e≠0)(i:iU U a)(O:oY c):ui s (b++c) q a e where
 KJ:=by
  intro Q u v D w t p N;rcases XU D with⟨_,H⟩|⟨_,L⟩
  .rcases d.KJ Q u v H w t p (i.sync p N)with g|g
   .rw[i.keep p (by rw[g];simp[x])];exact Xh g
   exact Xi g
  exact(O.touch u L v t).elim
 ro:=λr o=>by rw[i.keep (d.low r o).1 (by rw[d.ro r o];simp)];exact d.ro r o
 low:=d.low
 kn:=d.kn
 KT:=d.KT
def Holds(e:aF)(y f:bR):Prop:=∀a,e.pd=C a->(∀d,fj a.sh (a.τ d))/\∀b c,a.sh b->y.β b c->f.β b c
theorem kD.jA{g:PD}{s r:E}{cl:Xo}{p:Xk Xe}(d:kD g q U y s r cl p)(t:iU U a)(u:∀x,fj g.sh (g.τ x))(v:∀i o,g.sh i->y.β i o->f.β i o):kD g q a f s r cl p where
 heap:=d.heap
 count:=d.count
 room:=d.room
 own:=by rw[t.keep A (by rw[d.own];simp)];exact d.own
 msgs:=λe D w=>an.to v (u _) (d.msgs e D w)
theorem cw.jA{p:aF}(D:cw P e k q b U y p)(w:e≠0)(o:iU U a)(d:oY c)(b6:∀a3∈c,a3.g≠e)(a1:Holds p y f)(b4:∀t,y.tag=C t->∃N,f.tag=C N/\N.D=t.D/\N.fin=t.fin):cw P e k q (b++c) a f p:=by
 cases p with
 |lv a6=>exact⟨by rw[d.still];exact D.1,D.2.jA o d⟩
 |wk c7=>
  obtain⟨t,u,r,g⟩:=D;obtain⟨N,a8,a4,a9⟩:=b4 t u;refine⟨N,a8,by rw[a4];exact r,?_⟩;rw[a4,a9]
  have a7:∀p,RelBy (stA t.D.Wg) b e p->RelBy (stA t.D.Wg) (b++c) e p:=λp c0=>c0.app λc6 a5 b5=>by
   obtain⟨a3,b7,b8⟩:=YE.1 b5;rcases XU b7 with⟨c9,_⟩|⟨_,b9⟩
   .omega
   exact absurd b8 (b6 a3 b9)
  cases c7 with
  |work a2 cl t Z=>obtain⟨u,r,g,v,s⟩:=g;exact⟨u,by rw[d.still];exact r,g.jA w o d,v,s⟩
  |done c6 a2 p cl Z=>obtain⟨b0,u,r,g,v,s,i⟩:=g;exact⟨b0,by rw[d.still];exact u,λa5=>a7 p (r a5),g.jA w o d,v,s,i⟩
  |quit a6 p cl Z=>obtain⟨r,g,v,s,i⟩:=g;exact⟨a7 p r,g.jA w o d,v,s,by rw[d.still];exact i⟩
 |pr L a2 t Z=>obtain⟨u,r,⟨Y,R,g⟩,v,s,⟨i,S,T⟩,W⟩:=D;obtain⟨H,x⟩:=a1 L A;exact⟨u,r,⟨Y,R,g.jA o H x⟩,v.jA w o d,by rw[d.still];exact s,⟨⟨λO Q X a0=>x O Q X (i.1 O Q X a0),i.2⟩,S.jA w o d,T⟩,W⟩
 |pb L a2 t Z c8 d4 d5=>obtain⟨u,r,b2,⟨Y,R,g,b3⟩,v,s,⟨i,S,T⟩,W,b1⟩:=D;obtain⟨H,x⟩:=a1 L A;exact⟨u,r,b2,⟨Y,R,g.jA o H x,b3⟩,v.jA w o d,by rw[d.still];exact s,⟨⟨λO Q X a0=>x O Q X (i.1 O Q X a0),i.2⟩,S.jA w o d,T⟩,an.to x (H _) W,b1⟩
 |pq L a6=>
  obtain⟨⟨Y,R,g⟩,s,h,i,S,T,W⟩:=D;obtain⟨H,x⟩:=a1 L A;refine⟨⟨Y,R,g.jA o H x⟩,by rw[d.still];exact s,h,?_,?_,T.jA o d,W.jA w o d⟩
  .rw[abd (i_ i)];exact i
  exact(ZA (i_ i)).2 S
theorem cQ.jA(G:cQ b q U)(Q:iU U a)(w:oY c)(a1:∀i,i.isMemory=J->a i≠U i->(∃j,a i=.iM j/\j=n)\/a i=.ro\/a i=.void\/(a i=.sync/\∀g p,touchAt b g=C p->p.loc≠i))(a4:∀g,Knows b 0 g->Knows (b++c) n g):cQ (b++c) q a where
 jP:=⟨λi W O Y=>by
  have T:=G.jP.ro i W O Y
  rw[Q.keep (bQ O) (by rw[T];intro a2;cases a2)];exact T,G.jP.heap,G.jP.size,G.jP.os,G.jP.out⟩
 clean:=λa9=>tD (p:=0) (G.clean a9) (λH S p s _=>(w.touch H S p s).elim) (λ_ _ _ H S W Y _=>(w.touch H S W Y).elim)
 mine:=by
  intro i j r O;intro g d v R;obtain⟨p,s,t⟩:=ZL v;rcases XU s with⟨_,x⟩|⟨_,D⟩
  .have L:touchAt b g=C d:=by rw[YM x];exact t
   by_cases u:a i=U i
   .exact(G.mine i j r (u▸O) g d L R).app c
   have X:=(Q i r).resolve_left u;rcases a1 i r u with⟨a8,o,a3⟩|o|o|⟨o,_⟩<;>rw[O]at o<;>cases o
   subst a3;exact a4 g (G.mine i 0 r X g d L R)
  exact(w.touch p D d t).elim
 row:=by
  intro i r O g d v R a7;obtain⟨p,s,t⟩:=ZL v;rcases XU s with⟨_,x⟩|⟨_,D⟩
  .have L:touchAt b g=C d:=by rw[YM x];exact t
   by_cases u:a i=U i
   .exact(G.row i r (u▸O) g d L R a7).app c
   exact(G.mine i 0 r ((Q i r).resolve_left u) g d L R).app c
  exact(w.touch p D d t).elim
 low:=by
  intro g d v;obtain⟨p,s,t⟩:=ZL v;rcases XU s with⟨_,x⟩|⟨_,D⟩
  .exact G.low g d (by rw[YM x];exact t)
  exact(w.touch p D d t).elim
 OO:=by
  intro g d v r N;obtain⟨p,s,t⟩:=ZL v;rcases XU s with⟨a0,x⟩|⟨_,D⟩
  .have L:touchAt b g=C d:=by rw[YM x];exact t
   have gk:(b++c).g? g=b.g? g:=by simp only[XD.g?,getElem?_append_old a0]
   rw[gk];by_cases u:a d.loc=U d.loc
   .exact G.OO g d L r (u▸N)
   rcases a1 d.loc r u with⟨a8,o,_⟩|o|o|⟨_,o⟩
   .rw[N]at o;cases o
   .rw[N]at o;cases o
   .rw[N]at o;cases o
   exact absurd A (o g d L)
  exact(w.touch p D d t).elim
 norel:=λd=>(G.norel d).app λH S=>w.norel H S d
 PQ:=by
  intro g H p j a5 s r N;rcases XU a5 with⟨_,Z⟩|⟨_,a6⟩
  .by_cases u:a p.loc=U p.loc
   .exact(G.PQ g H p j Z s r (u▸N)).imp id λT=>T.app c
   have X:=(Q _ r).resolve_left u;right;rcases G.PQ g H p 0 Z s r X with o|o
   .have:=(abj Z).app c;rw[o]at this;exact this
   exact o.app c
  exact(w.touch H a6 p s).elim
 jB:=by
  intro g d v r N;obtain⟨p,s,t⟩:=ZL v;rcases XU s with⟨a0,x⟩|⟨_,D⟩
  .exact(ZA a0).2 (G.jB g d (by rw[YM x];exact t) r (Q.sync r N))
  exact(w.touch p D d t).elim
def QX(U a:Loc->Own):Prop:=∀b,b.isMemory=J->a b=U b\/(a b=.iM 0/\U b≠.sync/\¬Rz b)
theorem cQ.take(G:cQ b q U)(l:QX U a)(v:∀c,c.isMemory=J->a c≠U c->Perm b 0 c):cQ b q a where
 jP:=⟨λc r f u=>by
  rcases l c (bQ f)with o|⟨_,_,o⟩
  .rw[o];exact G.jP.ro c r f u
  exact absurd ⟨r,f,u⟩ o,G.jP.heap,G.jP.size,G.jP.os,G.jP.out⟩
 clean:=G.clean
 mine:=by
  intro c j d f;by_cases e:a c=U c
  .exact G.mine c j d (e▸f)
  have g:=((l c d).resolve_left e).1;rw[f]at g;cases g;exact v c d e
 row:=by
  intro c d f;by_cases e:a c=U c
  .exact G.row c d (e▸f)
  have g:=((l c d).resolve_left e).1;rw[f]at g;cases g
 low:=G.low
 OO:=by
  intro i k p d h;by_cases e:a k.loc=U k.loc
  .exact G.OO i k p d (e▸h)
  have g:=((l _ d).resolve_left e).1;rw[h]at g;cases g
 norel:=G.norel
 PQ:=by
  intro i z m j w x d h;by_cases e:a m.loc=U m.loc
  .exact G.PQ i z m j w x d (e▸h)
  right;exact v m.loc d e i m (by rw[YM w];exact x) A
 jB:=by
  intro i k p d h;refine G.jB i k p d λs=>?_;rcases l _ d with t|⟨t,y⟩
  .exact h (t.trans s)
  exact y.1 s
end
variable{d:Xg Ms}{l:M}
section
variable{h m:cZ}{f:bR}{k i:Xt}{b:Loc->Own}
theorem vT{sl:Xp (E×E)}(R:dG (aj P h) 0 d W q a U y c)(d8:stepG P J c q=.spawn k i q #[])(b2:iU U b){a1:aF}
 (d4:∀H,H.isMemory=J->b H≠U H->(∃j,b H=.iM j/\j=W.size)\/b H=.ro\/b H=.void\/(b H=.sync/\∀g o,touchAt a g=C o->o.loc≠H))
 (d7:∀r,oY r->aG P (a++r) q b 0 f)
 (d6:∀r,oY r->(∀g,Knows a 0 g->Knows (a++r) W.size g)->Deaf (a++r) W.size=0->(∀(g:E) e o,(a++r)[g]?=C e->e.g=W.size->e.act.touch?=C o->False)->cw P W.size i q (a++r) b f a1)
 (c9:∀a3,y.tag=C a3->∃u,f.tag=C u/\u.D=a3.D/\u.fin=a3.fin)(d2:∀p,bB P W q a U y p->eJ h W q p->∀n,0<n->n<W.size->Holds (p n) y f)
 (e1:∀p,bB P W q a U y p->∀u,f.tag=C u->dS u (λg=>if g=W.size then a1 else p g) (W.size+1) q b)
 (b6:a1.chan=F\/h=F)(e0:∀p,bB P W q a U y p->eJ h W q p->eJ m ((W.setIfInBounds 0 k).push i) q (λg=>if g=W.size then a1 else p g)):
 ∃b0 r c0,runT P (crowd W q sl) 0=(.next (crowd b0 q sl),r)/\dG (aj P m) 0 c0 b0 q (a++r) b f k:=by
 obtain⟨p,rfl,t,a0⟩:=R.ok;have b1:=R.me;have e5:=(XN.1 b1).1;have b7:=runT_crowd_spawn (P:=P) (sl:=sl) (i:=0) b1 d8;obtain⟨o,z⟩:∃o:MemOp,o={g:=0,fn:=c.frame.fn,pos:=c.frame.place,act:=.go W.size}:=by simp
 obtain⟨s,D⟩:∃s:MemOp,s={g:=W.size,fn:=i.frame.fn,pos:=c.frame.place,act:=.start}:=by simp
 have c7:((XE 0 c.frame.fn c.frame.place #[]).push {g:=0,fn:=c.frame.fn,pos:=c.frame.place,act:=.go W.size} |>.push {g:=W.size,fn:=i.frame.fn,pos:=c.frame.place,act:=.start})=#[o,s]:=by rw[z,D];simp[XE]
 rw[c7]at b7;have Z:∀e∈#[o,s],e=o\/e=s:=by intro e O;simpa using O
 have x:oY #[o,s]:=by
  refine⟨λe O a2 Q=>?_,λe O e2=>?_,λa g=>?_⟩
  .rcases Z e O with rfl|rfl
   .rw[z]at Q;simp[MemAct.touch?]at Q
   rw[D]at Q;simp[MemAct.touch?]at Q
  .rcases Z e O with rfl|rfl
   .rw[z];simp
   rw[D];simp
  have c6:(#[o,s]:XD)=[o,s].toArray:=A;rw[c6,U_];simp[deafStep,z,D]
 have b3:=t.above _ (XS _);have b4:∀g,Knows a 0 g->Knows (a++#[o,s]) W.size g:=λg T=>fork_knows (k:=W.size) ⟨by rw[z],by rw[z]⟩ ⟨by rw[D],by rw[D]⟩ R.hears b3 T;have d1:∀n,0<n->n<W.size->∀e∈#[o,s],e.g≠n:=by
  intro n L d3 e O d;rcases Z e O with rfl|rfl
  .rw[z]at d;simp only at d;omega
  rw[D]at d;simp only at d;omega
 have d9:((W.setIfInBounds 0 k).push i).size=W.size+1:=by simp
 have d5:∀(g:E) e a2,(a++#[o,s])[g]?=C e->e.g=W.size->e.act.touch?=C a2->False:=by
  intro g e a2 T e3 Q;rcases XU T with⟨_,a7⟩|⟨_,a8⟩
  .have:=t.ops g e a7;omega
  exact x.touch e a8 a2 Q
 refine⟨_,_,_,b7,⟨⟨_,A,⟨λn c8 L S=>?_,λn j b8 b9 L a6 d3 e4 v w=>?_,λj a6=>?_,λu d0=>?_,λg e T=>?_⟩,e0 p t a0⟩,R.bF.jA b2 x d4 b4,d7 _ x,?_,by rw[x.still];exact R.hears⟩⟩
 .by_cases a5:n=W.size
  .subst a5;simp only[Yc];rw[Ze,XC (by simp)]at S;cases S;exact d6 _ x b4 (by rw[x.still];exact b3) d5
  simp only[a5,Yf];rw[Ze,Xx (by simpa using a5),Ya (by omega)]at S;have b5:=(XN.1 S).1;exact(t.each n c8 L S).jA (by omega) b2 x (d1 n L b5) (d2 p t a0 n L b5) c9
 .by_cases X:n=W.size<;>by_cases Y:j=W.size
  .exact X.trans Y.symm
  .simp only[X,Yc]at v;simp only[Y,Yf]at w;rcases b6 with N|N
   .rw[N]at v;cases v
   subst N;have:=a0 j a6 (by omega);rw[aF.cA,this]at w;cases w
  .simp only[Y,Yc]at w;simp only[X,Yf]at v;rcases b6 with N|N
   .rw[N]at w;cases w
   subst N;have:=a0 n L (by omega);rw[aF.cA,this]at v;cases v
  simp only[X,Yf]at v;simp only[Y,Yf]at w;exact t.one n j b8 b9 L a6 (by omega) (by omega) v w
 .rw[x.still];exact t.above j (by omega)
 .rw[d9];exact e1 p t u d0
 .rcases XU T with⟨_,a7⟩|⟨_,a8⟩
  .have:=t.ops g e a7;omega
  rcases Z e a8 with rfl|rfl
  .rw[z];simp
  rw[D];simp
 grind
theorem JS(r:dG (aj P h) 0 d W q a U y c)(b8:QX U b)(d3:∀g,g.isMemory=J->b g≠U g->Perm a 0 g)(e7:∀g,U g=.iM 0->b g=.iM 0)
 (e9:∀e,0<e->e<W.size->∀g,g.isMemory=J->U g=.iM e->b g≠U g->∀k,bB P W q a U y k->eJ h W q k->(k e).pd=F)
 (e8:∀k,bB P W q a U y k->eJ h W q k->∀e i,0<e->e<W.size->(k e).pd=C i->∀g,i.mine g->b g=U g)
 (d5:aG P a q b 0 f)(e4:y.tag=F)(e5:f.tag=F)(b3:∀k,bB P W q a U y k->eJ h W q k->∀e,0<e->e<W.size->Holds (k e) y f):dG (aj P h) 0 d W q a b f c:=by
 obtain⟨k,rfl,v,c0⟩:=r.ok
 have a9:∀g,g.isMemory=J->(b g=.sync↔U g=.sync):=by
  intro g t;rcases b8 g t with w|⟨w,T,_⟩
  .rw[w]
  simp_all
 have c7:∀e i,0<e->e<W.size->(k e).pd=C i->∀g,g.isMemory=J->(U g=.iM e\/i.mine g)->b g=U g:=by grind
 have bg:∀e i z,0<e->e<W.size->(k e).pd=C i->uN i z->aG P a q U e z->aG P a q b e z:=by
  intro e i z p s l d4 R;have d8:∀n m,z.β n m->∀g,az g m->b g=U g:=by
   intro n m N g o;rcases R.dv n m N g o with w|⟨w,T⟩
   .grind [bQ]
   exact c7 e i p s l g (bQ o) (Xi (d4 n m N T g o))
  exact⟨R.base,R.rel,R.cO,λn m N g o=>by rw[d8 n m N g o];exact R.dv n m N g o,λn m N g o X=>R.dV n m N g o (by grind),R.low⟩
 have KJ:∀e i,0<e->e<W.size->(k e).pd=C i->ui i a q U e->ui i a q b e:=by
  intro e i p s l Y;refine⟨λa6 a7 D a5 a4 S t X=>?_,λg o=>?_,Y.low,Y.kn,Y.KT⟩
  .have:=Y.KJ a6 a7 D a5 a4 S t (λd=>X ((a9 _ t).2 d))
   grind
  rw[c7 e i p s l g (Y.low g o).1 (.inr o)];exact Y.ro g o
 have c8:∀{i b5 x cl u e},Holds (k e) y f->(k e).pd=C i->kD i q U y b5 x cl u->kD i q b f b5 x cl u:=by intro i b5 x cl u e b3 l r;obtain⟨d6,d7⟩:=b3 i l;exact⟨r.heap,r.count,r.room,(a9 _ A).2 r.own,λe D S=>an.to d7 (d6 _) (r.msgs e D S)⟩
 refine⟨⟨k,A,⟨λe c9 p b9=>?_,v.one,v.above,λe2 e6=>(by simp_all),v.ops⟩,c0⟩,r.bF.take b8 d3,d5,r.me,r.hears⟩;have s:=(XN.1 b9).1;have Q:=v.each e c9 p b9;have O:=b3 k v c0 e p s;have c6:=bg e;have b6:=KJ e;have b0:=@c8;obtain⟨b4,a8⟩:∃b4,k e=b4:=by simp
 rw[a8]at Q⊢
 cases b4 with
 |lv e1=>exact⟨Q.1,λa6 a7 D a5 a4 S t X=>Q.2 a6 a7 D a5 a4 S t (X.imp (λv d=>v ((a9 _ t).2 d)) id)⟩
 |wk D=>obtain⟨b7,w,_⟩:=Q;simp_all
 |pr i d9 b7 z=>
  have l:(k e).pd=C i:=by rw[a8];rfl
  obtain⟨w,T,⟨x,u,Z⟩,b1,a0,⟨H,a1,L⟩,a2⟩:=Q;exact⟨w,T,⟨x,u,b0 O l Z⟩,c6 i z p s l L b1,a0,⟨⟨λn m a3 b2=>(O i l).2 n m a3 (H.1 n m a3 b2),H.2⟩,b6 i p s l a1,L⟩,a2⟩
 |pb i d9 b7 z e3 f4 f5=>
  have l:(k e).pd=C i:=by rw[a8];rfl
  obtain⟨w,T,d1,⟨x,u,Z,d2⟩,b1,a0,⟨H,a1,L⟩,a2,d0⟩:=Q;exact⟨w,T,d1,⟨x,u,b0 O l Z,d2⟩,c6 i z p s l L b1,a0,⟨⟨λn m a3 b2=>(O i l).2 n m a3 (H.1 n m a3 b2),H.2⟩,b6 i p s l a1,L⟩,an.to (O i l).2 ((O i l).1 _) a2,d0⟩
 |pq i e1=>
  have l:(k e).pd=C i:=by rw[a8];rfl
  obtain⟨⟨x,u,Z⟩,a0,e0,H,a1,L,a2⟩:=Q;exact⟨⟨x,u,b0 O l Z⟩,a0,e0,H,a1,λa6 a7 D a5 a4 S t X=>L a6 a7 D a5 a4 S t (X.imp (λv d=>v ((a9 _ t).2 d)) id),b6 i p s l a2⟩
open Classical in
noncomputable def dj(U:Loc->Own):Loc->Own:=λa=>if U a=.sync\/Rz a then U a else .iM 0
theorem yf(p:dG (aj P F) 0 d W q a U y c)(N:y.tag=F):∀(f:E) b e,a[f]?=C b->b.act.touch?=C e->e.loc.isMemory=J->U e.loc≠.sync->Knows a 0 f:=by
 intro f b e n u r s;obtain⟨z,_,m,t⟩:=p.ok;have o:=m.ops f b n;rcases Ye b.g with h|h
 .grind [knows_own]
 have i:=m.each b.g _ h (XP o);have g:=t b.g h o;generalize z b.g=x at i g;cases x with
 |lv w=>exact i.2 f b e n A u r (Xh s)
 |wk e=>obtain⟨l,L,_⟩:=i;simp_all
 |pr k v l D=>cases g
 |pb k v l D H T X=>cases g
 |pq k w=>cases g
theorem Ct(g:dG (aj P F) 0 d W q a U y c)(O:y.tag=F)(a9:f.tag=F)(Y:aG P a q (dj U) 0 f):dG (aj P F) 0 d W q a (dj U) f c:=by
 have b2:=yf g O;obtain⟨H,rfl,e,x⟩:=g.ok
 have N:cQ a q (dj U):=by
  refine g.bF.take (λZ p=>?_) (λZ p b3 D a6 Q b1=>?_)
  .unfold dj
   grind
  obtain⟨s,z,b4⟩:=ZL Q;simp_all [dj]
 refine⟨⟨H,A,⟨λr L w v=>?_,e.one,e.above,λa5 b0=>(by simp_all),e.ops⟩,x⟩,N,Y,g.me,g.hears⟩;have S:=(XN.1 v).1;have o:=e.each r L w v;have n:=x r w S;generalize H r=a3 at o n⊢
 cases a3 with
 |lv a2=>exact⟨o.1,λD a1 s T R z p X=>o.2 D a1 s T R z p (X.imp (λe d=>e (by simp_all [dj])) id)⟩
 |wk s=>obtain⟨u,a8,_⟩:=o;simp_all
 |pr t a0 u a4=>cases n
 |pb t a0 u a4 a7 b9 c0=>cases n
 |pq t a2=>cases n
theorem wN{t:bR}(k:aG P a q U 0 t){f:Ren}{o:E->Prop}{i:Set}{y:Xp dm}(m:Base P f)(v:aV i f l q)(w:my i o l)(x:∀b c,f b c->∀d,az d c->U d≠.sync)(G:cQ a q U)(s:∀b c,f b c->t.β b c)(u:∀b,Im b->o b):aG P a q (dj U) 0 ⟨i,f,l,o,y⟩ where
 base:=m
 low:=⟨k.low.1,λb c e m=>k.low.2 b c (s b c e) m⟩
 rel:=v
 cO:=w
 dv:=λb c e d h=>by
  unfold dj;by_cases g:U d=.sync\/Rz d
  .rw[XC g];obtain⟨z,r,p⟩:=g.resolve_left (x b c e d h);have:=de r h;subst this;exact Xi ⟨G.jP.ro d _ r p,u b (k.low.2 b _ (s b _ e) p)⟩
  simp_all
 dV:=λb c e d h n=>by
  unfold dj at n;by_cases g:U d=.sync\/Rz d
  .rw[XC g]at n;exact G.row d (bQ h) n
  simp_all
end
variable{f:Xt}{c:Xg Ms}{h:M}
def sY(a:cZ)(U:Loc->Own)(b:Loc):Prop:=
 Rz b\/match a with
 |none=>False
 |some (d,c,_)=>U b=.iM d\/c.mine b
open Classical in
noncomputable def ij(a:cZ)(U:Loc->Own):Loc->Own:=λb=>if U b=.sync\/sY a U b then U b else .iM 0
section
variable{a:cZ}{d:bR}
theorem Nc(Q:dG (aj P a) 0 c W q b U y f)(a3:y.tag=F):∀(i:E) d g,b[i]?=C d->d.act.touch?=C g->g.loc.isMemory=J->U g.loc≠.sync->¬sY a U g.loc->Knows b 0 i:=by
 intro i d g o z t v u;obtain⟨H,_,m,x⟩:=Q.ok;have p:=m.ops i d o;rcases Ye d.g with k|k
 .grind [knows_own]
 have h:=m.each d.g _ k (XP p)
 have l:∀e,(H d.g).pd=C e->ui e b q U d.g->False:=by
  intro e w T;cases a with
  |none=>have:=x d.g k p;simp_all
  |some L=>
   obtain⟨D,N,a4⟩:=L;obtain⟨q1,Z,a0,a9⟩:=x;have R:=m.one d.g D e.rc N.rc k q1 p Z (by grind [aF.cA]) (by grind [aF.cA]);rw[R,a0]at w;cases w;rcases T.KJ i d g o A z t v with n|n
   .exact u (Xi (Xh (by simp_all)))
   exact u (Xi (Xi n))
 obtain⟨r,S⟩:∃r,H d.g=r:=by simp
 rw[S]at h l;cases r with
 |lv Y=>exact h.2 i d g o A z t (Xh v)
 |wk g=>obtain⟨s,n,_⟩:=h;simp_all
 |pr e X s a1=>exact(l e A h.2.2.2.2.2.1.2.1).elim
 |pb e X s a1 a2 b0 L=>exact(l e A h.2.2.2.2.2.2.1.2.1).elim
 |pq e Y=>obtain⟨_,_,D,_,_,_,O⟩:=h;exact(l e A O).elim
theorem Ah(z:dG (aj P a) 0 c W q b U y f)(v:y.tag=F)(w:d.tag=F)(H:aG P b q (ij a U) 0 d)
 (D:∀h,bB P W q b U y h->eJ a W q h->∀g,0<g->g<W.size->Holds (h g) y d):dG (aj P a) 0 c W q b (ij a U) d f:=by
 have ne:∀e,ij a U e≠U e->ij a U e=.iM 0/\U e≠.sync/\¬sY a U e:=by
  intro e r;unfold ij at r⊢
  simp_all
 have one:∀h,bB P W q b U y h->eJ a W q h->∀g k,0<g->g<W.size->(h g).pd=C k->∃s,a=C (g,k,s):=by
  intro h i n g k l m o;cases a with
  |none=>have:=n g l m;simp_all
  |some Q=>obtain⟨L,u,Z⟩:=Q;obtain⟨q1,N,O,a0⟩:=n;have T:=i.one g L k.rc u.rc l q1 m N (by rw[aF.cA,o];rfl) (by rw[aF.cA,O];rfl);simp_all
 refine JS z (λe t=>?_) (λe t r s R x S=>?_) (λe p=>?_) (λg l m e t p r h i n=>?_) (λh i n g k l m o e p=>?_) H v w D
 .by_cases i:ij a U e=U e
  .exact Xh i
  exact Xi ⟨(ne e i).1,(ne e i).2.1,λc=>(ne e i).2.2 (Xh c)⟩
 .obtain⟨a1,X,Y⟩:=ZL x
  grind [Nc]
 .grind
 .cases o:(h g).pd with
  |none=>rfl
  |some k=>exfalso;obtain⟨s,rfl⟩:=one h i n g k l m o;exact(ne e r).2.2 (Xi (Xh p))
 obtain⟨s,rfl⟩:=one h i n g k l m o;unfold ij;rw[XC (.inr (.inr (.inr p)))]
theorem wO{v:bR}(s:aG P b q U 0 v){l:Ren}{r:E->Prop}{m:Set}{O:Xp dm}(w:Base P l)(H:aV m l h q)(L:my m r h)
 (N:∀i e,l i e->∀g,az g e->(U g≠.sync/\¬sY a U g)\/(U g=.ro/\r i/\∃n,v.β n e))(x:∀i e,l i e->e<dA.heap.size->Im i):aG P b q (ij a U) 0 ⟨m,l,h,r,O⟩ where
 base:=w
 low:=⟨s.low.1,x⟩
 rel:=H
 cO:=L
 dv:=λi e u g p=>by
  unfold ij
  grind
 dV:=λi e u g p z=>by
  unfold ij at z;by_cases D:U g=.sync\/sY a U g
  .rcases N i e u g p with⟨o,t⟩|⟨o,t,n,k⟩
   .rcases D with k|k
    .exact absurd k o
    exact absurd k t
   exact s.dV n e k g p o
  simp_all
end
variable{x:Xt}{r:XD}{z:E}{u:Xg Ms}{h:Set}{f:E->Prop}{m:Ren}{c:M}{p:Xr}{Q:Xg Item}{l:Xg Xr}{R:Xg E}{L:Oper}{s:Xu}{n:Xu}
section
variable{d:cZ}{H:bR}
theorem cw.bg{t:aF}(a:cw P z x q r U y t)(R:H.S=y.S)(v:H.β=y.β)(a0:H.tag=y.tag):cw P z x q r U H t:=by
 have l:∀{b D d cl c},kD b q U y D d cl c->kD b q U H D d cl c:=λa=>⟨a.heap,a.count,a.room,a.own,λz L W=>by rw[R,v];exact a.msgs z L W⟩;have w:∀{b i},kH b i y->kH b i H:=λa=>⟨λs p S T=>by rw[v];exact a.1 s p S T,a.2⟩;cases t with
 |lv Y=>exact a
 |wk L=>obtain⟨k,h,e⟩:=a;exact⟨k,by simp_all,e⟩
 |pr b X k i=>obtain⟨h,e,⟨d,c,f⟩,m,g,⟨n,o⟩,u⟩:=a;exact⟨h,e,⟨d,c,l f⟩,m,g,⟨w n,o⟩,u⟩
 |pb b X k i Z a5 a6=>obtain⟨h,e,O,⟨d,c,f,Q⟩,m,g,⟨n,o⟩,u,N⟩:=a;exact⟨h,e,O,⟨d,c,l f,Q⟩,m,g,⟨w n,o⟩,by simp_all,N⟩
 |pq b Y=>obtain⟨⟨d,c,f⟩,g⟩:=a;exact⟨⟨d,c,l f⟩,g⟩
theorem cY.bg(e:cY P d u W q r U y)(h:H.S=y.S)(m:H.β=y.β)(b:H.tag=y.tag):cY P d u W q r U H:=by obtain⟨n,f,a,g⟩:=e;exact⟨n,f,⟨λz x l k=>(a.each z x l k).bg h m b,a.one,a.above,λc i=>a.wg c (by rw[<-b];exact i),a.ops⟩,g⟩
def sW(P:Xy)(d:cZ)(b:Xp dm)(a:dB)(h:Set)(f:E->Prop)(m:Ren)(c:M)(x:Xt):Prop:=
 ∀u W q sl r U,dG (aj P d) 0 u W q r U ⟨h,m,c,f,b⟩ x->bV P W q sl r a
def goalAt(P:Xy)(d:cZ)(b:Xp dm)(e:dB)(h:Set)(f:E->Prop):Goal P h J f where
 G:=sW P d b e h f
 ON:=by intro m c x z D u W q sl r U a;obtain⟨i,y⟩:=D.tree;refine(yL i u W q sl r U ⟨h,m,c,f,b⟩ x a y z).bind λn k L N H=>?_;obtain⟨l,g,⟨O,Y,X,R,S⟩,Q,p,⟨_,s⟩,t,v,w⟩:=H;subst t v w;exact s l n k L N g p
 tape:=by intro m c T x o u W q sl r U a;refine o u W q sl r U ⟨a.ok.bg A rfl rfl,a.bF,?_,a.me,a.hears⟩;have:=a.bg;exact⟨this.base,⟨this.rel.inj,this.rel.obj,this.rel.os⟩,this.cO,this.dv,this.dV,this.low⟩
end
section
variable{d:Goal P h J f}
def Co(d:Goal P h J f)(o:XI)(n:Xk Xe)(c:M)(k:Xe->M->Prop):Prop:=
 ∀(m:Ren)(e:Xk Xe)(v:Xr)(l:Xg Xr),Inv P h f m c->aw h m n e->
  (∀b g i a,Inv P h f b a->cV f m c b a->an h b g i->k g a->d.G b a (rg (v.finish i) l))->d.G m c (rg (Frame.enter P o e .normal) (v::l))
section frame
variable{O:Xg Item}{v:Xr}
theorem qj(a4:Good P h)(a8:h.fr p.fn=J)(b8:p.kind=.normal){fn:Func}(Y:P.funcs[p.fn]?=C fn)(k:Inv P h f m c){a5:Rt}(e3:a5.d0=[])(a9:ar h m a5 s n)(hd:s.defers=[]){S:Xe->M->Prop}(d1:Tp (λc=>∃a,(results fn s.tmps).run P c=.ok a c/\S a c) c)
 (next:∀a g i,Inv P h f m i->cV f m c m i->an h m a g->S a i->d.G m i (rg (v.finish g) l)):d.G m c (rg {p.at n O with mode:=.returning} (v::l)):=by
 have b9:n.defers=[]:=by obtain⟨e1,o,a6⟩:=a9.defers;rw[hd]at a6;cases a6;simp_all
 refine d.ON A (.step A (λ_ b0 i a7=>a7.status=.running/\d.G b0 i a7) (λq b7=>?_) (λ_ _ _ _ X=>.stop X))
 let b3:Xr:={fn:=p.fn,tmps:=s.tmps,todo:=[],defers:=[],mode:=.returning,kind:=.normal}
 let b4:Xr:={fn:=p.fn,tmps:=n.tmps,todo:=[],defers:=[],mode:=.returning,kind:=.normal}
 have c6:bH P h Xf m b3 b4:=⟨A,a8,a9.tmps,.nil,.nil,.returning,A,Xh A,.none⟩;obtain⟨e2,a,g,b0,a3,T,new,a0,t,o,d4,a2,rfl,c7,b6,_⟩:=nO a4 (u:=S) k.base c6 b7 (d1.mono λc⟨a,t,b5⟩=>⟨a,b5,A,A,A,fn,Y,t⟩);rw[Y]at t;cases t
 have d6:stepG P J (rg {p.at n O with mode:=.returning} (v::l)) q=.go (rg (v.finish g) l) T (kept a0).toArray:=by
  obtain⟨b,e⟩:∃b,b=({p.at n O with mode:=.returning}:Xr):=by simp
  have c9:b.mode=.returning:=by rw[e]
  have c0:b.defers=[]:=by rw[e];exact b9
  have c8:b.kind=.normal:=by rw[e];exact b8
  have d3:b.tmps=n.tmps:=by rw[e];rfl
  have d0:b.fn=p.fn:=by rw[e];rfl
  have o:(results fn n.tmps).runT P q #[]=(.ok g T,a0.toArray):=o;rw[<-e,ia (by simp_all)];simp only[unwind,c9,c0,d0,Y,d3,o,doReturn,c8,GStep.after];rw[seen_eq a4 (show h.fr p.fn=J from a8) a2.lz];simp[rg]
 obtain⟨Z,d5⟩:=iE k.cO k.iQ a2 ⟨a3,.refl _,λd9 _=>by rw[c7]⟩;obtain⟨a1,d2⟩:=b6.one;refine⟨_,_,a3,T,new,a0,d6,a2,Z,d5,A,A,d.tape (t:=a1) ?_⟩;have b1:Inv P h f _ {a3 with tape:=a1}:=(k.keep k.base Z).tape a1;exact next a g _ b1 ⟨Ren.le_refl _,λd9 e4 X=>Xh X,by simp_all,Z⟩ d4 d2
theorem Bt{g:XI}{a:Xk XJ}{S:Xk Xq}{fn:Func}{T:XG}(a3:p.kind≠.early)(N:D[z]?=C L)(a9:Region.wanted L (yielded D s.tmps)=J)(a6:L.op=.call {callee:=.value (.func g),args:=a,argTypes:=S})
 (a1:P.funcs[g]?=C fn)(a4:(fn.name== "runtime.NumGoroutine")=Xf)(Y:fn.body=C T)(b5:a.toList.all (du P h.fn)=J)(u:Inv P h f m c){k:Rt}(a0:k.free L.dst=J)(o:ar h m k s n)
 {v:Xe->M->Prop}(Z:Co d g (a.map s.eval) c v)
 (next:∀e w i b,Inv P h f e b->cV f m c e b->ar h e k (s.put L.dst i) w->v i b->d.G e b (rg (p.at w (Xv D R::Q)) l)):d.G m c (rg (p.at n (Xv D (z::R)::Q)) l):=by
 have b0:Region.wanted L (yielded D n.tmps)=J:=by rw[<-ga o.tmps];exact a9
 have a5:(D[z]?).bind (·.dst)=L.dst:=by rw[N];rfl
 have a7:∀q,stepG P J (rg (p.at n (Xv D (z::R)::Q)) l) q=.go (rg (Frame.enter P g (a.map n.eval) .normal) (p.at n (Xv D (z::R)::Q)::l)) q:=by
  intro q
  have:=goes_call (P:=P) (main:=J) (w:=q) (cs:=l) (k:=Q) (rest:=R) (K:=λx c y=>x=rg (Frame.enter P g (a.map n.eval) .normal) (p.at n (Xv D (z::R)::Q)::l)/\c=q/\y=#[]) N b0 a3 a6 a1 a4 Y ⟨by simp_all [G,rg,Frame.enter,Frame.at,base],A,A⟩
  obtain⟨x,c,y,U,rfl,rfl,rfl⟩:=aaG this;exact U
 have X:aw h m (a.map s.eval) (a.map n.eval):=by
  refine⟨by simp,λj b7 b8 r t=>?_⟩;rw[Yk]at r t;cases a2:a[j]? with
  |none=>simp_all
  |some b1=>
   rw[a2]at r t;cases r;cases t;refine lF u.base o.tmps s.defers n.defers b1 ?_
   grind
 refine d.pure A rfl a7 (Z m _ _ _ u X λe i b6 b O H a8 W=>?_);rw[YK,a5];exact next e _ i b O H ((o.mono H.le).put L.dst a0 a8) W
theorem GZ(S:Good P h){a:XI}{g:Xk Xe}{fn:Func}{k:XG}(a9:h.fr a=J)(a8:P.funcs[a]?=C fn)(b6:fn.body=C k){b:Xe->M->Prop}
 (a4:∀v l,CW d (base a) ⟨[],[]⟩ (v::l) k N ⟨g++Array.replicate (fn.ntmps-g.size) I,[]⟩ c)
 (a5:∀u s c,N u s c->(u=.normal\/u=.ret)/\s.defers=[]/\∀r,∃e,(results fn s.tmps).run P {c with tape:=r}=.ok e {c with tape:=r}/\b e {c with tape:=r}):Co d a g c b:=by
 intro m i v l T o next
 have a1:Frame.enter P a i .normal=(base a).at ⟨i++Array.replicate (fn.ntmps-i.size) I,[]⟩ [.code k]:=by simp_all [Frame.enter,Frame.at,base]
 rw[a1];refine a4 v l m [] _ T ⟨by rw[<-o.1];exact o.append (aw.replicate _ aY),⟨[],A,.nil⟩,by simp⟩ λu w Z a0 t X a2 b1 b3=>?_;obtain⟨a7,hd,b0⟩:=a5 u Z t b3
 have fin:∀O,d.G w t (rg {(base a).at a0 O with mode:=.returning} (v::l)):=λO=>qj S a9 A a8 X A b1 hd (S:=b) (Tp.all λr=>b0 r) λe b4 b5 Y a3 b2 a6=>next w e b4 b5 Y (a2.trans a3) b2 a6
 rcases a7 with rfl|rfl
 .exact d.pure A rfl (λq=>by rfl) (fin [])
 exact fin
end frame
end
variable{d:Xr}{e:Xu}{p:E}{n:Oper}
section
variable{main:Xo}{g:Goal P h main f}
variable{k:Rt}
def CO(g:Goal P h main f)(d:Xr)(k:Rt)(l:Xg Xr)(D:Xk Oper)(i:Xg E)(N:Exit->Xu->M->Prop)(e:Xu)(c:M):Prop:=
 ∀(m:Ren)(b:Xg Item)(a:Xu),Inv P h f m c->ar h m k e a->mB P h main f g d k l b N m c->g.G m c (rg (d.at a (Xv D i::b)) l)
theorem dC(f:N .normal e c):CO g d k l D [] N e c:=λm o b a i h=>g.pure A rfl (λn=>iT) (h .normal m e b c a (.refl _ _) i f)
theorem Ha{h:Xg E}(b:∃f,CO g d k l D h N e {c with tape:=f}):CO g d k l D h N e c:=λm v o i t s=>by obtain⟨f,b⟩:=b;exact g.tape (b m v o (i.tape f) t λr y p q x n a u w=>s r y p q x n ⟨a.le,a.fresh,a.size,a.keep⟩ u w)
theorem nF(s:Good P h)(u:h.fr d.fn=J)(v:d.kind≠.early)(i:oE P h k D=J){L:Xu->M->Prop}{more:Xg E}:∀(a2:Xg E){e:Xu}{c:M},Tp (λc=>wpOps P D (eP L) a2 e c) c->
 (∀q o,Tp (L q) o->gO h f c o)->(∀q o,Tp (L q) o->CO g d k l D more N q o)->CO g d k l D (a2++more) N e c
 |[],e,c,b,t,next=>next e c b
 |p::y,e,c,b,t,next=>by
  intro m R a6 H w Q;rw[Yp];cases a:D[p]? with
  |none=>simp only[wpOps,a]at b;refine g.pure A rfl (λa5=>stepG_unwanted (by rw[a];rfl)) ?_;rw[a];exact nF s u v i y b t next m R a6 H w Q
  |some n=>
   simp only[wpOps,a]at b;by_cases r:Region.wanted n (yielded D e.tmps)=J
   .simp only[r,Yc]at b;refine He s g u v a r (jF i a).1 (jF i a).2 H w (b.mono λc r=>r.resolve_right λz=>fQ z.2) (λa4 q a0 o b0 q1 S a3 T x=>?_) λa4 q a0 o q1 S a3 T x a7 a8=>?_
    .obtain⟨b7,O,b2,Y,b1,b3,b4,b5,b6,U,a9⟩:=uy s i y q1 S T x;obtain⟨Z,W,X⟩:=t O Y U;exact⟨Z,a9.trans W,X⟩
    refine nF s u v i y a8 (λO Y U=>?_) next a4 R a0 q1 a7 (Q.grow ⟨S,a3,T,x⟩)
    obtain⟨Z,W,X⟩:=t O Y U;exact⟨Z,W,λz a1=>by rw[X z a1,x z a1]⟩
   simp only[r]at b;refine g.pure A rfl (λa5=>stepG_unwanted ?_) ?_
   .rw[a];simp only[Zo,Zz];rw[<-ga w.tmps];simpa using r
   rw[a];exact nF s u v i y b t next m R _ H (w.put n.dst (jF i a).2 aY) Q
theorem Mh(u:Good P h)(v:h.fr d.fn=J)(w:d.kind≠.early)(y:oE P h k D=J){r:Xu->M->Prop}{t more:Xg E}(i:∀q,wpOps P D (eP r) t e {c with tape:=q})
 (x:∀b a,r b a->∀o,f o->a.heap[o]?=c.heap[o]?)(next:∀b a,r b a->CO g d k l D more N b a):CO g d k l D (t++more) N e c:=
 nF u v w y t (.all i) (λb a i=>⟨a,.refl _,by
  obtain⟨q,s⟩:=i.one
  exactλo z=>x _ _ s o z⟩) λb a i=>Ha (by
  obtain⟨q,s⟩:=i.one
  exact⟨q,next _ _ s⟩)
theorem Po{g:Goal P h J f}{more:Xg E}{o:XI}{i:Xk XJ}{t:Xk Xq}{fn:Func}{v:XG}(O:d.kind≠.early)(H:k.free n.dst=J)(R:D[p]?=C n)(X:Region.wanted n (yielded D e.tmps)=J)(S:n.op=.call {callee:=.value (.func o),args:=i,argTypes:=t})
 (L:P.funcs[o]?=C fn)(Q:(fn.name== "runtime.NumGoroutine")=Xf)(x:fn.body=C v)(T:i.toList.all (du P h.fn)=J){q:Xe->M->Prop}(z:Co g o (i.map e.eval) c q)
 (next:∀a b,q a b->CO g d k l D more N (e.put n.dst a) b):CO g d k l D (p::more) N e c:=λm Y a1 r U y=>
 Bt O R X S L Q x T r H U z λa0 u a b s w W Z=>next a b Z a0 Y u s W (y.grow w)
theorem yo{id:E}(f:CO g d k l D (Xg.range D.size) N e c):CW g d k l (.region id D Xf) N e c:=λm n b a i h=>g.pure A rfl (λo=>by rw[bu A];simp[stepG.exec,Frame.at,rg]) (f m n b a i h)
theorem vp{id:E}(n:∀v,CO g d k l D (Region.schedule (P.follows .mixedOrders) D v) N e c):CW g d k l (.region id D J) N e c:=λm o i q u t=>by
 refine g.ON A (.step A (λ_ x w s=>xm P h main f (λm c p=>p.status=.running/\g.G m c p) x w s) (λa b=>?_) (λ_ _ _ _ n=>n))
 have r:stepG P main (rg (d.at i (.code (.region id D J)::o)) l) a=.go (rg (d.at i (.inRegion D (Region.schedule (P.follows .mixedOrders) D (a.tape a.drawn (.order d.fn id)))::o)) l) {a with drawn:=a.drawn+1}:=by rw[bu A];simp[stepG.exec,Frame.at,rg,choose,Sem.run];rfl
 refine⟨_,m,c,_,[],[],r,?_,λ_ _=>rfl,by simp,A,.stop ⟨A,n _ m o i q u t⟩⟩;exact{bD.refl b with rel:=⟨b.inj,b.obj,b.os⟩}
theorem ot(s:Good P h)(t:h.fr d.fn=J)(u:d.kind≠.early)(x:oE P h k D=J)(w:P.follows .mixedOrders=J){id:E}{i:Xu->M->Prop}
 (o:∀q,wpAny P .any D (eP i) D.size (Array.replicate D.size Xf) e {c with tape:=q})(v:∀b a,i b a->∀r,f r->a.heap[r]?=c.heap[r]?)(next:∀b a,i b a->N .normal b a):CW g d k l (.region id D J) N e c:=
 vp λq=>by rw[<-YT (Region.schedule _ _ _)];refine Mh (more:=[]) s t u x (r:=i) (λy=>?_) v λb a o=>dC (next b a o);simp only[Region.schedule,w,Xo.true_or,Yc];exact wpAny_sound D.size q _ e _ (o y)
theorem vq(o:Good P h)(p:h.fr d.fn=J)(q:d.kind≠.early)(s:oE P h k D=J){id:E}{i:Xu->M->Prop}
 (m:∀t,wpOps P D (eP i) (Xg.range D.size) e {c with tape:=t})(r:∀b a,i b a->∀n,f n->a.heap[n]?=c.heap[n]?)(next:∀b a,i b a->N .normal b a):CW g d k l (.region id D Xf) N e c:=
 yo (by
  rw[<-YT (Xg.range D.size)]
  exact Mh (more:=[]) o p q s (r:=i) m r λb a m=>dC (next b a m))
end
variable{z:dB}{r:M}{c:E}{b:Xg Ms}
section
variable{v:Type}{s:uK P v}{l:XD}{o:M}{u:Loc->Own}{f:E}{n:Obj}
theorem kW(L:k.status=.running)(a2:∀b W q sl a U,dG s p b W q a U y k->∃i o l,runT P (crowd W q sl) 0=(.next (crowd i o sl),l)/\bV P i o sl (a++l) z):
 ∀(b:v) W q sl a U,dG s p b W q a U y k->bV P W q sl a z:=by
 intro b
 induction s.wf.apply b with
 |intro b _ a4=>
  intro W q sl a U d;have Z:∀N∈W,Go.Conc.awake N:=by
   intro N a3;obtain⟨c,t,rfl⟩:=YQ.1 a3;rcases Ye c with rfl|w
   .have:W[0]=k:=by have:=d.me;simp_all
    exactλa a6=>by simp_all
   exact s.awake d.ok c _ w (XP t)
  obtain⟨c,a5,e,x,t,a0,a1⟩:=h_ (P:=P) (w:=q) (sl:=sl) Z ⟨0,k,d.me,L⟩;have g:dG s p b W (q.at e) a U y k:=⟨s.at_ e d.ok,d.bF.at e,d.bg.at e,d.me,d.hears⟩;rcases Ye c with rfl|w
  .obtain⟨i,o,l,D,H⟩:=a2 b W (q.at e) x a U g
   grind [bV.head]
  obtain⟨O,Q,o,l,u,D,H,R,S,T,X,Y⟩:=s.step x g.ok g.bF g.bg d.me L w t a0;exact bV.head (a1.trans D) (a4 O H Q o x _ u ⟨S,T,X,R,Y.trans d.hears⟩)
structure Hid(f:E)(n:Obj)(q:M)(a:XD)(U:Loc->Own)(y:bR):Prop where
 heap:q.heap[f]?=C n
 free:∀g,¬y.β g f
 none:∀(i:E) e,touchAt a i=C e->¬az e.loc f
 own:∀d,az d f->U d=.iM 0
theorem Hid.at(b:Hid f n q a U y)(c:E):Hid f n (q.at c) a U y:=⟨b.heap,b.free,b.none,b.own⟩
theorem Hid.lt(b:Hid f n q a U y):f<q.heap.size:=(XN.1 b.heap).1
theorem Oz{p:Ren}{D:M}{new i:Xg XF}(n:bD h m p r D q o new i)(x:f<q.heap.size)(y:∀a,¬m a f):
 o.heap[f]?=q.heap[f]?/\(∀a,¬p a f)/\∀b∈i,¬az b.loc f:=by
 have l:∀a,p a f->False:=λa d=>by
  rcases n.fresh a f d with t|⟨_,t⟩
  .exact y a t
  omega
 have k:∀b∈i,¬az b.loc f:=by
  intro b g e;obtain⟨s,L,hrel⟩:=iz n.lz g;have c:=hrel.1;rcases e with e|⟨O,e,z⟩
  .rw[e]at c;cases d:s.loc<;>rw[d]at c<;>simp only[dX]at c;exact l _ c
  rw[e]at c;subst z;cases d:s.loc<;>rw[d]at c<;>simp only[dX]at c;exact l _ c.1
 refine⟨?_,l,k⟩;rcases n.same f x λb g _=>⟨λd=>k b g (Xh d),λa u v=>k b g (Xi ⟨a,u,v⟩)⟩with w|⟨⟨H,N,_⟩,_⟩
 .exact w
 simp_all
theorem Hv{w:E->aF}{r:Xt}{N:E}(sl:Xp (E×E))(i:bB P W q a U y w)(G:cQ a q U)(Z:aG P a q U 0 y)(a7:W[0]?=C r)(b3:r.status=.running)(Q:0<c)(t:W[c]?=C k)(Y:k.status=.running)(L:w c=.lv N):
 ∃g h l,runT P (crowd W q sl) c=(.next (crowd h q sl),l)/\N=g+1/\h.size=W.size/\h[0]?=C r/\bB P h q (a++l) U y (λd=>if d=c then .lv g else w d)/\cQ (a++l) q U/\aG P (a++l) q U 0 y/\Deaf (a++l) 0=Deaf a 0/\∀e∈l,e.act.touch?=F:=by
 have v:=i.each c k Q t;rw[L]at v;obtain⟨g,O,p,rfl,q1,a2,b5⟩:=lU v.1 Y;have X:=λb s=>touch_mute (q1 b s)
 have m:jU a q q U U c (XE c k.frame.fn k.frame.place p):=nI X λb s a4 b2=>by grind [qR]
 obtain⟨a1,b4⟩:=fF (x:=.lv g) i m (λ_ _ _ _=>rfl) (by rw[L];exact⟨A,A,A⟩) ⟨λo f=>(by cases f),λo f=>by simp_all⟩;have T:=(XN.1 t).1;have R:(c==0)=Xf:=by simp;omega
 have z:∀d,d≠c->Deaf (a++XE c k.frame.fn k.frame.place p) d=Deaf a d:=λd n=>ZR a (g':=c) (λb=>n b.symm) _ (tF _ _ _ _);have a0:∀e∈XE c k.frame.fn k.frame.place p,e.act.touch?=F:=by intro e u;obtain⟨b,s,rfl⟩:=Go.Conc.mem_ofEvents u;simp_all
 refine⟨g,_,_,A_ (P:=P) (sl:=sl) (i:=c) t (by rw[R];exact a2 q),A,by simp,?_,?_,G.step m,Z.other (by omega) m,z 0 (by omega),a0⟩
 .simp_all [woken_run]
 refine i.jS G m (iV.refl y) (by simp) (λd n S=>mQ d n λo f=>(i.each d o S f).woken k O λx D=>rfl) z (λd x a8 a9 _ b0=>rfl) T (λa6 _ H=>?_) (λx D=>by cases D)
  (λd n _ e u=>by grind [tF]) a1 (λa3 b1=>by simp_all)
 rw[XX (by simp_all)]at H;cases H;exact⟨by simp_all [ZM],v.2.mine G λe u o f=>by simp_all⟩
theorem vL(d:Hid f n q a U y)(w:∀i∈l,∀b,i.act.touch?=C b->¬az b.loc f)(r:o.heap[f]?=q.heap[f]?){k:bR}(t:∀m,¬k.β m f)(p:∀h,az h f->u h=.iM 0):Hid f n o (a++l) u k where
 heap:=by rw[r];exact d.heap
 free:=t
 none:=by
  intro g b c;unfold touchAt XD.act? at c;cases e:(a++l)[g]? with
  |none=>simp_all
  |some i=>
   rw[e]at c;rcases XU e with⟨_,s⟩|⟨_,v⟩
   .exact d.none g b (by rw[YM s];exact c)
   grind
 own:=p
def cW(P:Xy)(f:E)(n:Obj):uK P (Xg Ms) where
 lt:=dR Ms.lt
 wf:=dR.wf Ms.wf
 Ok:=λb W q a U y=>cY P F b W q a U y/\y.tag=F/\Hid f n q a U y
 awake:=λ⟨⟨L,_,v,_⟩,_⟩ c k h g=>(v.each c k h g).awake
 at_:=λp⟨m,r,s⟩=>⟨(aj P F).at_ p m,r,s.at p⟩
 step:=by
  rintro b W q a U y a2 c k sl⟨⟨L,rfl,r,s⟩,w,d⟩ G z i x h g a7;have R:=(XN.1 g).1;obtain⟨H,T⟩:∃H,L c=.lv H:=by
   have u:=r.each c k h g;have t:=s c h R;generalize L c=b9 at u t;cases b9 with
   |lv H=>simp
   |wk a0=>obtain⟨c0,m,_⟩:=u;simp_all
   |pr=>cases t
   |pb=>cases t
   |pq=>cases t
  obtain⟨d8,a3,l,D,rfl,Z,b1,b2,b3,b4,b5,d2⟩:=Hv sl r G z i x h g a7 T;refine⟨_,a3,q,l,U,D,?_,b1,⟨⟨_,by rw[Z],b2,?_⟩,w,vL d (λb8 S a0 X=>by simp_all) A d.free d.own⟩,b3,b4,b5⟩
  .exact lj R (by rw[T];exact .right _ (.left _ _ (Zx _)))
  intro Y a6 d1;by_cases Q:Y=c
  .subst Q;simp only[Yc];rfl
  simp only[Q,Yf];exact s Y a6 (by omega)
 main:=by
  rintro b W q a U y a2 c9 e0 d9 o new b7⟨m,w,d⟩ G z i a4 x a8 N a9 u;obtain⟨D,b0,Z⟩:=Oz N d.lt d.free;refine⟨(aj P F).main m G z i a4 x a8 N a9 u,w,vL d (λb8 S a0 X=>?_) D b0 λb6 e=>?_⟩
  .obtain⟨b,d0,rfl⟩:=Go.Conc.mem_ofEvents S;have a5:b∈b7:=by
    simp_all [kept]
   rcases wY X with⟨O,c7,c8⟩|⟨d4,O⟩
   .simp_all
   obtain⟨a1,i,hrel⟩:=iz N.lz a5;have e:=hrel.1;rw[O]at e;cases v:a1.loc<;>rw[v]at e<;>simp only[dX]at e
   grind [wZ]
  rw[qP e d.lt];exact d.own b6 e
theorem MR{g:Xt}(sl:Xp (E×E))(N:dG (cW P f n) p b W q a U y k)(R:k.status=.running)(m:0<c)(h:W[c]?=C g)(Q:g.status=.running):
 ∃r d l,runT P (crowd W q sl) c=(.next (crowd d q sl),l)/\dR Ms.lt r b/\dG (cW P f n) p r d q (a++l) U y k:=by
 obtain⟨⟨⟨D,rfl,s,t⟩,L,i⟩,G,S,H,hd⟩:=N;have v:=(XN.1 h).1;obtain⟨o,w⟩:∃o,D c=.lv o:=by
  have x:=s.each c g m h;have e:=t c m v;generalize D c=a3 at x e;cases a3 with
  |lv o=>simp
  |wk a4=>obtain⟨a5,a6,_⟩:=x;simp_all
  |pr=>cases e
  |pb=>cases e
  |pq=>cases e
 obtain⟨b6,d,l,T,rfl,X,Y,Z,a0,a1,a2,b0⟩:=Hv sl s G S H R m h Q w;refine⟨_,d,l,T,?_,⟨⟨_,by rw[X],Z,?_⟩,L,vL i (λb2 a8 a4 a9=>by simp_all) A i.free i.own⟩,a0,a1,Y,a2.trans hd⟩
 .exact lj v (by rw[w];exact .right _ (.left _ _ (Zx _)))
 intro z O a7;by_cases u:z=c
 .subst u;simp only[Yc];rfl
 simp only[u,Yf];exact t z O (by omega)
theorem JE(d:dG (cW P f n) p b W q a U y k)(l:k.status=.running):∀e∈W,Go.Conc.awake e:=by
 intro e i;obtain⟨c,g,rfl⟩:=YQ.1 i;rcases Ye c with rfl|h
 .have:W[0]=k:=by have:=d.me;simp_all
  exactλa m=>by simp_all
 exact(cW P f n).awake d.ok c _ h (XP g)
theorem vP{g:M->Prop}(v:∀(q:M) d,g q->g (q.at d))(i:k.status=.running)(L:∀b W q sl a U,dG (cW P f n) p b W q a U y k->g q->∃h o l,runT P (crowd W q sl) 0=(.next (crowd h o sl),l)/\bV P h o sl (a++l) z):
 ∀(b:Xg Ms) W q sl a U,dG (cW P f n) p b W q a U y k->g q->bV P W q sl a z:=by
 intro b
 induction (dR.wf Ms.wf).apply b with
 |intro b _ T=>
  intro W q sl a U e D;obtain⟨c,O,d,s,x,w,S⟩:=h_ (P:=P) (w:=q) (sl:=sl) (JE e i) ⟨0,k,e.me,i⟩;have m:dG (cW P f n) p b W (q.at d) a U y k:=⟨(cW P f n).at_ d e.ok,e.bF.at d,e.bg.at d,e.me,e.hears⟩;rcases Ye c with rfl|H
  .obtain⟨h,o,l,t,u⟩:=L b W (q.at d) s a U m (v q d D)
   grind [bV.head]
  obtain⟨N,Q,l,t,u,R⟩:=MR s m i H x w
  grind [bV.head]
def Rw(P:Xy)(f:E)(n:Obj)(z:dB)(h:Set)(c:E->Prop)(m:Ren)(r:M)(k:Xt):Prop:=
 ∀b W q sl a U,dG (cW P f n) 0 b W q a U ⟨h,m,r,c,F⟩ k->bV P W q sl a z
def PE(P:Xy)(f:E)(n:Obj)(z:dB)(h:Set)(d:E->Prop):Goal P h J d where
 G:=Rw P f n z h d
 ON:=by intro m r k y D b W q sl a U c;obtain⟨l,x⟩:=D.tree;refine(yL l b W q sl a U ⟨h,m,r,d,F⟩ k c x y).bind λs o L N H=>?_;obtain⟨p,u,⟨O,Y,X,R,S⟩,Q,v,⟨_,w⟩,e,g,i⟩:=H;simp only at e g i;subst e g i;exact w p s o L N u v
 tape:=by intro m r T k t b W q sl a U c;refine t b W q sl a U ⟨⟨c.ok.1.bg A rfl rfl,A,⟨c.ok.2.2.heap,c.ok.2.2.free,c.ok.2.2.none,c.ok.2.2.own⟩⟩,c.bF,?_,c.me,c.hears⟩;have:=c.bg;exact⟨this.base,⟨this.rel.inj,this.rel.obj,this.rel.os⟩,this.cO,this.dv,this.dV,this.low⟩
end
variable{v:Xe}{X:E->Prop}{a:M}{b:Xt}
inductive aR(e:E->Prop):Xe->Prop
 |bS:aR e (.tuple #[])
 |bool (o:Xo):aR e (.bool o)
 |int (r:IntKind) (c:Xj):aR e (.int r c)
 |string (s:XB):aR e (.string s)
 |cG:aR e (XA F)
 |ptr {i:Xw} (k:e i.block):aR e (XA (C i))
 |aO (c g:E):aR e (Xm F c g)
 |slice {i:Xw} (k:e i.block) (c g:E):aR e (Xm (C i) c g)
 |iface (t:Xq) {v:Xe} (k:aR e v):aR e (.iface t v)
 |nilIface:aR e .nilIface
 |agg {g:Xk Xe} (k:∀(p:E) n,g[p]?=C n->aR e n):aR e (.agg g)
 |map {l:E} (k:e l):aR e (.map (C l))
 |ft:aR e (.map F)
 |ed:aR e (.chan F)
 |nilFunc:aR e .nilFunc
theorem an.Ts{t:Set}{s:Ren}{o:E->Prop}(g:∀e f,o e->m e f->s e f){l:Xe}(x:aR o v)(a:an h m v l):an t s v l:=by
 induction x generalizing l with
 |bS=>
  cases a with
  |bS a=>exact .bS a
  |tuple p q=>exact .tuple p λi n r d _=>by simp at d
 |bool f=>cases a;exact .bool _
 |int D c=>cases a;exact .int _ _
 |string H=>cases a;exact .string _
 |cG=>cases a;exact .cG
 |ptr b=>cases a with|ptr a=>exact .ptr ⟨g _ _ b a.1,a.2⟩
 |aO c u=>cases a;exact .aO _ _
 |slice b c u=>cases a with|slice a=>exact .slice ⟨g _ _ b a.1,a.2⟩ _ _
 |iface z _ k=>cases a with|iface _ a=>exact .iface z (k a)
 |nilIface=>cases a;exact .nilIface
 |agg p k=>cases a with|agg w q=>exact .agg w λi n r d y=>k i n d (q i n r d y)
 |map b=>cases a with|map a=>exact .map (g _ _ b a)
 |ft=>cases a;exact .ft
 |ed=>cases a;exact .ed
 |nilFunc=>cases a;exact .nilFunc
def Obj.whole:Obj->Obj
 |.cells a c _=>.cells a c (0,a.size)
 |b=>b
open Classical in
noncomputable def jR(X:E->Prop)(a:M):M:={a with heap:=a.heap.mapIdx λc b=>if X c then Obj.whole b else b}
theorem qy(X:E->Prop)(a:M):(jR X a).heap.size=a.heap.size:=by simp[jR]
theorem iN{b:E}(c:X b):(jR X a).heap[b]?=(a.heap[b]?).map Obj.whole:=by simp_all [jR]
theorem uq{b:E}(c:¬X b):(jR X a).heap[b]?=a.heap[b]?:=by simp[jR,M_,c]
def Closed(X:E->Prop)(a:M):Prop:=∀c,X c->∃b g d,a.heap[c]?=C (Xn b g d)/\0<b.size/\d.2<=b.size/\(∀(f:E) e,b[f]?=C e->aR X e)/\¬aT b
theorem vG{b d:E×E}(a:kS b d)(f:0<c)(e:b.2<=c):kS (0,c) d:=by
 rcases a with a|⟨_,_,a⟩
 .exact Xh a
 exact Xi ⟨by omega,YA _,XZ a e⟩
section
variable{Sp:Set}
theorem aV.jR(c:aV h m a q)(l:Closed X a):aV h m (Sim.jR X a) q where
 inj:=c.inj
 os:=c.os
 obj:=by
  intro b g n;obtain⟨y,r,d,i,k⟩:=c.obj b g n;by_cases e:X b
  .obtain⟨u,f,w,q1,s,t,_⟩:=l b e;rw[d]at q1;cases q1;refine⟨_,r,by rw[iN e,d];rfl,i,?_⟩;cases k with
   |cells f p o=>exact .cells f p (vG o s t)
  simp_all [uq]
theorem aV.part(i:aV h m a q)(L:Closed X a):aV Sp (λe g=>X e/\m e g) (Sim.jR X a) q where
 inj:=λe u g w D H=>i.inj e u g w D.2 H.2
 os:=i.os
 obj:=by
  rintro e g⟨o,k⟩;obtain⟨a1,R,l,x,y⟩:=i.obj e g k;obtain⟨Y,s,Z,q1,S,T,U,_⟩:=L e o;rw[l]at q1;cases q1;refine⟨_,R,by rw[iN o,l];rfl,x,?_⟩;cases y with
  |cells s n O=>exact .cells s ⟨n.1,λr t W p Q=>an.Ts (λe g N k=>⟨N,k⟩) (U r t p) (n.2 r t W p Q)⟩ (vG O S T)
theorem ru(e:Closed X a):my h X (Sim.jR X a):=λd c=>by obtain⟨b,i,k,q1,f,l,_,g⟩:=e d c;exact⟨.cells b i (0,b.size),by rw[iN c,q1];rfl,A,f,g⟩
theorem we(e:Closed X a):kF h X (Sim.jR X a):=Xi λd c g k b=>by obtain⟨f,n,i,q1,l,m,_⟩:=e d c;rw[iN c,q1]at b;cases b
theorem kX(d:Base P m)(g:∀b,(0<b\/b=P.globals.size)->b<=P.globals.size->X b):Base P (λa c=>X a/\m a c):=
 ⟨λb e f=>⟨g b e f,d.1 b e f⟩,λa c h=>d.2 a c h.2⟩
def dy(X:E->Prop)(m:Ren)(c:Loc):Prop:=∃a b,X a/\m a b/\az c b
end
section
variable{d:Obj}
theorem Nq{k:E->Xt}(w:b.status=.running)(Q:∀l,(k l).status=.running)(R:∀q,stepG P J b q=.go (k q.heap.size) {q with heap:=q.heap.push d})(next:∀l,Rw P l d z h f m a (k l)):sW P F F z h f m a b:=by
 intro p r q sl x o e;refine kW (s:=aj P F) w (λp r q sl x o e=>?_) p r q sl x o e;refine⟨_,_,_,iS (P:=P) e.me (R q),?_⟩;have lt:∀i g,m i g->g<q.heap.size:=λi g y=>e.bg.rel.right y
 have n:bD h m m a a q {q with heap:=q.heap.push d} [] []:=by
  refine{bD.refl e.bg.rel with rel:=⟨e.bg.rel.inj,λi g s=>?_,e.bg.rel.os⟩,uP:=by simp,same:=λg t _=>?_}
  .obtain⟨a2,a3,Y,Z,a0⟩:=e.bg.rel.obj i g s
   grind
  grind
 have u:=fy e.bg n (λ_ _=>rfl) (by simp) e.hears b.frame.fn b.frame.place;have O:=(XN.1 e.me).1;have D:=(aj P F).main (g₁:=k q.heap.size) e.ok e.bF e.bg e.me e.hears w (Q _) n (λ_ _=>rfl) (by simp);have H:=e.bF.step u;have L:=e.bg.own n (λ_ _=>rfl) u;refine next q.heap.size _ _ _ _ _ _ ⟨⟨D,A,?_,λi s=>?_,λT U S t=>?_,λa1 N=>?_⟩,H,L,by simp[O],e.hears⟩
 .simp
 .grind
 .have:=e.bF.low T U S;rw[bn t]at this;omega
 rw[qO N (XS _) (by simp)]
def GK(P:Xy)(g:E)(d:Obj)(i:M->Prop)(z:dB)(h:Set)(f:E->Prop)(m:Ren)(a:M)(b:Xt):Prop:=
 ∀l c q sl e k,dG (cW P g d) 0 l c q e k ⟨h,m,a,f,F⟩ b->i q->bV P c q sl e z
theorem JF{k:E}{u:M->Prop}(H:b.status=.running)(O:∀q,aV h m a q->∃n t p l new s,stepG P J b q=.go n l (kept s).toArray/\bD h m t a p q l new s/\(∀g,f g->p.heap[g]?=a.heap[g]?)/\
 (∀i∈new,i.write=J->∀g,f g->i.loc≠.obj g/\∀N,i.loc=.cell N->N.block≠g)/\n.status=.running/\u l/\GK P k d u z h f t p n):Rw P k d z h f m a b:=by
 intro i x q sl L w e;refine kW (s:=cW P k d) H (λi x q sl L w e=>?_) i x q sl L w e;obtain⟨n,t,p,l,new,s,Q,o,r,y,R,S,T⟩:=O q e.bg.rel;have D:=fy e.bg o r y e.hears b.frame.fn b.frame.place;have U:=(XN.1 e.me).1;exact⟨_,_,_,iS (P:=P) e.me Q,T _ _ _ _ _ _ ⟨(cW P k d).main e.ok e.bF e.bg e.me e.hears H R o r y,e.bF.step D,e.bg.own o r D,by simp[U],by rw[jj o.lz];exact e.hears⟩ S⟩
theorem nK{k:E}{g:M->Prop}{i:Xt}(y:∀(q:M) c,g q->g (q.at c))(t:b.status=.running)(H:i.status=.running)(w:∀q,stepG P J b q=.go i q)(next:GK P k d g z h f m a i):GK P k d g z h f m a b:=by
 intro p r q sl u o e n;refine vP y t (λp r q sl u o e n=>?_) p r q sl u o e n;have l:=bD.refl e.bg.rel;have s:=fy e.bg l (λ_ _=>rfl) (by simp) e.hears b.frame.fn b.frame.place;have D:=(XN.1 e.me).1;have x:stepG P J b q=.go i q (kept []).toArray:=by rw[w q];rfl
 exact⟨_,_,_,iS (P:=P) e.me x,next _ _ _ _ _ _ ⟨(cW P k d).main e.ok e.bF e.bg e.me e.hears t H l (λ_ _=>rfl) (by simp),e.bF.step s,e.bg.own l (λ_ _=>rfl) s,by simp[D],by exact e.hears⟩ n⟩
def zl(B a:E)(q:M):Prop:=∃c b,q.heap[B]?=C (Xn #[.chan (C a)] c b)
theorem JG{r B a6:E}{a5:E->Xe}{W:E->Prop}{Sp:Set}{b0 a7:Xt}(f5:b.status=.running)(g0:∀q,stepG P J b q=.spawn b0 a7 q #[])(e2:a7.status=.running)
 (R:Closed X a)(d7:∀b,(0<b\/b=P.globals.size)->b<=P.globals.size->X b)(f9:∀g,W g->X g)(d4:m a6 B)(e0:X a6)(i4:∀g,f g->X g)(f6:∀g,Im g->f g)
 (f8:jx P Sp X (IQ ⟨r,c,a5,W,dy X m,B⟩) (iW P ⟨r,c,a5,W,dy X m,B⟩ Sp X c) (λg i=>X g/\m g i) (jR X a) a7)
 (next:∀g8,sW P (C (g8,⟨r,c,a5,W,dy X m,B⟩,0)) F z h X m (jR X a) b0):GK P r (.chan 4 #[] Xf 0 0 Xf) (zl B r) z h f m a b:=by
 classical
 intro a8 y q sl L u b3 b4;refine vP (λ_ _ p=>p) f5 (λa8 y q sl L u b3 b4=>?_) a8 y q sl L u b3 b4;obtain⟨⟨d3,_,S⟩,a0,o,c6,e3⟩:=b3;have c0:dG (aj P F) 0 a8 y q L u ⟨h,m,a,f,F⟩ b:=⟨d3,a0,o,c6,e3⟩
 have f0:∀g i,m g i->∀e,az e i->Rz e->f g:=λg i k e l⟨O,D,a1⟩=>by
  have w:=a0.jP.ro e O D a1;rcases o.dv g i k e l with p|⟨_,p⟩
  .simp_all
  exact p
 have e1:=Ct (f:=⟨h,m,a,f,F⟩) c0 A rfl (wN o o.base o.rel o.cO (λg i k e l a2=>by rcases o.dv g i k e l with p|⟨p,_⟩<;>(simp_all)) a0 (λ_ _ p=>p) f6)
 have c7:∀{e:Loc}{i:E},az e i->e.isMemory=J:=λp=>bQ p
 have f2:∀{e:Loc}{g i:E},m g i->az e i->¬az e r:=by
  intro e g i k w n;have:i=r:=by
   rcases w with rfl|⟨t,rfl,rfl⟩
   .rcases n with n|⟨Y,n,_⟩
    .simp_all
    cases n
   rcases n with n|⟨Y,n,b1⟩
   .cases n
   simp_all
  subst this;exact S.free g k
 let x:Loc->Own:=λe=>if az e r then .sync else if dy X m e then .ro else dj u e
 have h5:∀e,az e r->dj u e=.iM 0:=λe l=>by unfold dj;split<;>first|exact S.own e l|rfl
 have h6:∀g i,m g i->∀e,az e i->dj u e=.iM 0\/(dj u e=.ro/\f g):=λg i k e l=>by
  have:u e≠.sync:=λa2=>by rcases o.dv g i k e l with p|⟨p,_⟩<;>(simp_all)
  unfold dj;split
  .rename_i p;have e9:=p.resolve_left this;obtain⟨O,D,a1⟩:=e9;exact Xi ⟨a0.jP.ro e O D a1,f0 g i k e l ⟨O,D,a1⟩⟩
  simp
 have c8:∀e,az e r->x e=.sync:=by grind
 have c9:∀e,dy X m e->x e=.ro:=λe⟨g,i,s,k,l⟩=>by grind
 have g7:∀e,¬az e r->¬dy X m e->x e=dj u e:=λe w n=>by grind
 have d5:iU (dj u) x:=by
  intro e f1
  grind [dy]
 have d0:∀e,dy X m e->Perm L 0 e:=λe⟨g,i,s,k,l⟩ U Y g3 g4=>by obtain⟨H,T,f4⟩:=ZL g3;refine yf c0 A U H Y T f4 (g4▸c7 l) λa2=>?_;rcases o.dv g i k e l with p|⟨p,_⟩<;>(simp_all)
 let Z:PD:=⟨r,c,a5,W,dy X m,B⟩
 have i1:∀a4,kD Z q x a4 0 0 Xf #[]:=λa4=>⟨S.heap,A,by simp,c8 _ (Xh A),λa3 t s=>by simp at s⟩;obtain⟨b7,b2⟩:=f8.tree
 have h0:∃Q N a9,runT P (crowd y q sl) 0=(.next (crowd Q q sl),N)/\dG (aj P (C (y.size,Z,0))) 0 a9 Q q (L++N) x ⟨h,m,jR X a,X,F⟩ b0:=by
  refine vT (h:=F) (m:=C (y.size,Z,0)) (sl:=sl) (f:=⟨h,m,jR X a,X,F⟩) (b:=x) e1 (g0 q) d5 (a1:=.pr Z c b7 ⟨Sp,λg i=>X g/\m g i,jR X a,X,F⟩)
   (λe f1 i3=>by
     by_cases w:az e r
     .exact Xi (Xi (Xi ⟨c8 e w,λU t s a2=>S.none U t s (a2▸w)⟩))
     grind)
   (λN b5=>{
     base:=o.base
     low:=o.low
     rel:=o.rel.jR R
     cO:=ru R
     dv:=λg i k e l=>by
      by_cases s:X g
      .grind
      left;rw[g7 e (f2 k l) (λ⟨d2,O,b6,d8,D⟩=>?_)]
      .grind
      have:i=O:=by
       rcases l with rfl|⟨t,rfl,rfl⟩
       .rcases D with n|⟨Y,n,_⟩
        .simp_all
        cases n
       rcases D with n|⟨Y,n,b1⟩
       .cases n
       simp_all
      subst this;exact s ((o.rel.inj g d2 i i k d8).2 A▸b6)
     dV:=λg i k e l f3=>by
      have f7:dy X m e:=by grind [dy]
      exact(PermW.of (d0 e f7)).app λH T t s _ _=>(b5.touch H T t s).elim})
   (λN b5 e7 e4 g1=>?_)
   (λb7 b2=>by cases b2) (λd1 w n a3 e5 e6 h1 b8=>by rw[n a3 e5 e6]at b8;cases b8) (λd1 _ h4 d6=>by cases d6) (Xi A) (λd1 w n=>?_)
  .refine⟨e2,XS _,⟨0,#[],by grind⟩,?_,e4,⟨⟨λg i b9 k=>k.2,λg b9=>?_⟩,?_,λg i k _ e l=>⟨g,i,k.1,k.2,l⟩⟩,b2⟩
   .exact{
     base:=kX o.base d7
     low:=⟨o.low.1,λg i k d9=>o.low.2 g i k.2 d9⟩
     rel:=o.rel.part R
     cO:=ru R
     dv:=λg i k e l=>Xi ⟨c9 e ⟨g,i,k.1,k.2,l⟩,k.1⟩
     dV:=λg i k e l f3 a3 t s g2 i5=>by
      obtain⟨H,T,b6⟩:=ZL s;rcases XU T with⟨_,i2⟩|⟨_,e8⟩
      .exact e7 _ (d0 e ⟨g,i,k.1,k.2,l⟩ a3 t (by simp_all [YM]) g2)
      exact(b5.touch H e8 t b6).elim}
   .obtain⟨h7,L,h8,q1,_⟩:=R g (f9 g b9)
    grind [qy]
   exact⟨λU H t w n b1 h9 i0=>(g1 U H t w n b1).elim,c9,λe⟨g,i,s,k,l⟩=>⟨c7 l,(bn l).2 (o.rel.right k)⟩,b4,λe l=>⟨a6,B,e0,d4,l⟩⟩
  refine⟨(XN.1 c6).1,by simp,by simp[aF.pd],?_⟩;exact⟨_,_,_,_,_,S.heap⟩
 obtain⟨Q,N,a9,g5,g6⟩:=h0;exact⟨Q,q,N,g5,next y.size a9 Q q sl (L++N) x g6⟩
end
variable{b:M}{a:Xt}{e:E}{k:M}
section
variable{n:Xp dm}{d:E}{c:PD}{l:Xe}
theorem Jw(R:a.status=.running)(w:∀k,aV h m b k->IQ c k->∃r H t u new y,stepG P J a k=.go r u (kept y).toArray/\bD h m H b t k u new y/\(∀o,f o->t.heap[o]?=b.heap[o]?)/\
 (∀p∈new,p.write=J->∀o,f o->p.loc≠.obj o/\∀D,p.loc=.cell D->D.block≠o)/\r.status=.running/\sW P (C (e,c,d)) n z h f H t r):sW P (C (e,c,d)) n z h f m b a:=by
 intro p v k sl S N g;refine kW (s:=aj P (C (e,c,d))) R (λp v k sl S N g=>?_) p v k sl S N g;have Y:IQ c k:=by
  obtain⟨a3,_,X,x,q,i,_⟩:=g.ok;have s:=X.each e _ x (XP q);generalize a3 e=a2 at i s;cases a2 with
  |lv a1=>cases i
  |wk D=>cases i
  |pr L a0 T a4=>cases i;exact s.2.2.2.2.2.1.2.1.kn
  |pb L a0 T a4 a6 b1 l=>cases i;exact s.2.2.2.2.2.2.1.2.1.kn
  |pq L a1=>cases i;obtain⟨_,_,_,_,_,_,w⟩:=s;exact w.kn
 obtain⟨r,H,t,u,new,y,x,q,i,O,U,W⟩:=w k g.bg.rel Y;have Q:=fy g.bg q i O g.hears a.frame.fn a.frame.place;have Z:0<v.size:=(XN.1 g.me).1;exact⟨_,_,_,iS (P:=P) g.me x,W _ _ _ _ _ _ ⟨(aj P (C (e,c,d))).main g.ok g.bF g.bg g.me g.hears R U q i O,g.bF.step Q,g.bg.own q i Q,by simp[Z],by rw[jj q.lz];exact g.hears⟩⟩
theorem BV(y:AtRecv P c.rc l a a)(S:d<c.n->∀o,an h m (c.τ d) o->sW P (C (e,c,d+1)) F z h f m b (Go.Conc.served a (.tuple #[o,.bool J])))
 (R:d=c.n->sW P F F z h f m b (Go.Conc.served a (.tuple #[l,.bool Xf]))):sW P (C (e,c,d)) F z h f m b a:=by
 intro O Q N sl W L g;refine((JR y O).1 Q N sl W L ⟨h,m,b,f,F⟩ a g.ok g.bF g.bg g.me g.hears y).bind λu s D H T=>?_;obtain⟨t,r,v,w,x,⟨q1,o,p,q,U⟩|⟨q1,p,q⟩⟩:=T
 .exact S q1 o q t u s D H r ⟨U,v,w,p,x⟩
 exact R q1 t u s D H r ⟨q,v,w,p,x⟩
theorem Py{r:Ren}{t:E->Prop}(u:∀g q,r g q->m g q)(D:Base P m->Base P r)(N:∀p,aV h m b p->aV h r k p)(Q:my h t k)(O:∀g,Im g->t g)(next:sW P F F z h t r k a):sW P F F z h f m b a:=by
 intro w x p sl S v o;refine next w x p sl S (dj v) (Ct o A rfl (wN o.bg (D o.bg.base) (N p o.bg.rel) Q (λg q y R L H=>?_) o.bF u O))
 rcases o.bg.dv g q (u g q y) R L with s|⟨s,_⟩<;>(rw[H]at s;cases s)
end
section
variable{i:M->Prop}{Stop:Ren->M->Xt->Prop}
def yw(P:Xy)(h:Set)(f:E->Prop)(i:M->Prop)(Stop:Ren->M->Xt->Prop)(v:∀m(b:M) g a,Stop m {b with tape:=g} a->Stop m b a):Goal P h Xf f where
 G:=jx P h f i Stop
 ON:=λk d=>(jx.SM d).bind λ_ _ _ d=>d.2
 tape:=by
  intro m b g a d;generalize l:({b with tape:=g}:M)=H at d;cases d with
  |stop d=>subst l;exact .stop (v _ _ _ _ d)
  |step k y d w=>subst l;refine .step k y (λn e hF=>?_) w;obtain⟨p,D,z,o,new,x,q,c,r,s,t,u⟩:=d n ⟨e.inj,e.obj,e.os⟩ hF;exact⟨p,D,z,o,new,x,q,⟨c.le,c.rel,c.lz,c.size,c.uP,c.os,c.out,c.tape,c.same,c.wr,c.fresh,c.iG,c.oe,c.qn,c.iq,c.qU,c.jR⟩,r,s,t,u⟩
theorem wM(r:a.status=.running)(n:∀g,aV h m b g->i g->∃d k e o new p,stepG P Xf a g=.go d o (kept p).toArray/\bD h m k b e g o new p/\(∀c,f c->e.heap[c]?=b.heap[c]?)/\
 (∀l∈new,l.write=J->∀c,f c->l.loc≠.obj c/\∀q,l.loc=.cell q->q.block≠c)/\d.status=.running/\jx P h f i Stop k e d):jx P h f i Stop m b a:=
 .step r (λ_ k e d=>jx P h f i Stop k e d) n λ_ _ _ _ n=>n
end
variable{d:Xe}{b:Xk Xe}{a:M}
open Classical in
noncomputable def jk(X:E->Prop)(d:Xe):Xe:=if aR X d then d else .tuple #[]
theorem cT(a:aR X d):jk X d=d:=XC a
theorem px(a:¬aR X d):jk X d=.tuple #[]:=Xx a
theorem an.SG{m:Ren}{e:Xe}(a:an h m d e)(c:bO d):bO e:=by
 cases a<;>first|exact c|trivial|(cases c;done)|skip
 rename_i fn k l n b g f _ _ _ _;cases f with
 |func i a=>trivial
 |yield a=>trivial
theorem an.jk{Sp:Set}{m:Ren}{i:Xe}(g:an h m d i)(n:aR X d\/bO d):an Sp (λe f=>X e/\m e f) (Sim.jk X d) i:=by
 by_cases c:aR X d
 .rw[cT c];exact an.Ts (λe f k l=>⟨k,l⟩) c g
 rw[px c];exact .bS (g.SG (n.resolve_left c))
theorem aw.jk{Sp:Set}{m:Ren}{g:Xk Xe}(i:aw h m b g)(p:∀(c:E) e,b[c]?=C e->aR X e\/bO e):aw Sp (λf o=>X f/\m f o) (b.map (Sim.jk X)) g:=by refine⟨by simpa using i.1,λc e s k r=>?_⟩;rw[Yk]at k;obtain⟨n,l,rfl⟩:=YE.1 k;exact(i.2 c n s l r).jk (p c n l)
noncomputable def Obj.part(X:E->Prop):Obj->Obj
 |.cells b e _=>.cells (b.map (jk X)) e (0,b.size)
 |c=>c
open Classical in
noncomputable def cP(X:E->Prop)(a:M):M:={a with heap:=a.heap.mapIdx λe c=>if X e then Obj.part X c else c}
theorem dh(X:E->Prop)(a:M):(cP X a).heap.size=a.heap.size:=by simp[cP]
theorem nz{b:E}(c:X b):(cP X a).heap[b]?=(a.heap[b]?).map (Obj.part X):=by simp only[cP,M_,c,Yc]
theorem dW{c:E}(f:X c){d:Xq}{e:E×E}(g:a.heap[c]?=C (Xn b d e)):(cP X a).heap[c]?=C (Xn (b.map (jk X)) d (0,b.size)):=by rw[nz f,g];rfl
def jw(X:E->Prop)(a:M):Prop:=∀c,X c->
 (∃b k g,a.heap[c]?=C (Xn b k g)/\0<b.size/\g.2<=b.size/\(∀(h:E) d,b[h]?=C d->aR X d\/bO d)/\¬aT b)\/
 ∃f i,a.heap[c]?=C (.map f i)/\∀e∈f.toList,aR X e.key/\aR X e.val
section
variable{Sp:Set}{m:Ren}
theorem Cs{d e:XH->XH->Prop}{c g:Xg XH}(h:aZ d c g)(f:∀a b,a∈c->d a b->e a b):aZ e c g:=by
 induction h with
 |nil=>exact .nil
 |cons i _ l=>exact .cons (f _ _ (YZ ..) i) (l λa b k=>f a b (Ym _ k))
theorem aV.cP(k:aV h m a q)(H:jw X a):aV Sp (λc e=>X c/\m c e) (Sim.cP X a) q where
 inj:=λc x e y z D=>k.inj c x e y z.2 D.2
 os:=k.os
 obj:=by
  rintro c e⟨n,f⟩;obtain⟨Y,v,g,r,s⟩:=k.obj c e f;rcases H c n with⟨b,w,U,q1,i,Q,R,_⟩|⟨T,u,q1,i⟩
  .rw[g]at q1;cases q1;refine⟨_,v,dW n g,r,?_⟩;cases s with
   |cells w O L=>exact .cells w (O.jk R) (vG L i Q)
  rw[g]at q1;cases q1;refine⟨_,v,by rw[nz n,g];rfl,r,?_⟩;cases s with
  |map u N=>exact .map u (Cs N λp S t o=>⟨an.Ts (λc e l f=>⟨l,f⟩) (i p t).1 o.1,an.Ts (λc e l f=>⟨l,f⟩) (i p t).2 o.2.1,o.2.2⟩)
theorem JJ(e:¬aT b):¬aT (b.map (jk X)):=by
 rintro⟨g,h,c⟩;rw[Yk]at c;obtain⟨i,f,a⟩:=YE.1 c;refine e ⟨g,h,?_⟩;rw[f];by_cases d:aR X i
 .rw[cT d]at a;rw[a]
 rw[px d]at a;cases a
theorem jJ(g:jw X a):my h X (Sim.cP X a):=λe c=>by
 rcases g e c with⟨b,p,n,q1,k,o,_,l⟩|⟨f,i,q1,_⟩
 .exact⟨_,dW c q1,by simp,by simpa using k,JJ l⟩
 exact⟨.map f i,by rw[nz c,q1];rfl,trivial⟩
theorem yD(o:Base P m)(i:jw X a)(p:∀d,(0<d\/d=P.globals.size)->d<=P.globals.size->X d)(q:h.bZ=Xf\/∀c,X c->∀g k,a.heap[c]?≠C (.map g k)):Inv P h X (λc l=>X c/\m c l) (Sim.cP X a):=
 ⟨kX o p,jJ i,q.imp id λn c e g k f=>by
   rcases i c e with⟨b,u,s,q1,_⟩|⟨r,t,q1,_⟩
   .rw[dW e q1]at f;cases f
   exact n c e _ _ q1⟩
end
noncomputable def Act.jk(X:E->Prop)(c:Xu):Xu:=⟨c.tmps.map (Sim.jk X),c.defers⟩
theorem ar.jk{Sp:Set}{m:Ren}{i:Rt}{c g:Xu}(e:ar h m i c g)(hd:c.defers=[])(o:∀(p:E) f,c.tmps[p]?=C f->aR X f\/bO f):ar Sp (λc l=>X c/\m c l) i (Act.jk X c) g:=
 ⟨e.tmps.jk o,by
   obtain⟨r,n,k⟩:=e.defers;rw[hd]at k;cases k
   exact⟨[],n,by show aZ _ c.defers [];rw[hd];exact .nil⟩,e.kn⟩
structure TG(a e:M):Prop where
 size:e.heap.size=a.heap.size
 os:e.os=a.os
 heap:∀c:E,e.heap[c]?=a.heap[c]?\/∃b f g i,aT b/\a.heap[c]?=C (Obj.cells b f g)/\e.heap[c]?=C (Obj.cells b f i)
theorem Ey{m:Ren}{i:M}(k:aV h m a i)(r:q.os=i.os)(s:∀c e f,m c e->i.heap[e]?=C f->Bf f q e)(u:E->Prop):
 ∃g:M,TG a g/\g.tape=a.tape/\aV h m g q/\∀c,u c->g.heap[c]?=a.heap[c]?:=by
 refine⟨a,⟨A,A,λ_=>Xh A⟩,A,⟨k.inj,λc e l=>?_,k.os.trans r.symm⟩,λ_ _=>rfl⟩;obtain⟨f,n,o,p,t⟩:=k.obj c e l;exact⟨f,n,o,s c e n l p,t⟩
def Ren.plus(m:Ren)(e:E)(d:Xg E):Ren:=λa b=>m a b\/∃c,a=e+c/\d[c]?=C b
theorem Ren.Hs(m:Ren)(b:E)(a:Xg E):m.le (Ren.plus m b a):=λ_ _ c=>Xh c
theorem Ki{m:Ren}(p:aV h m a q){l:Xg E}(L:l.Nodup)(w:∀d∈l,∀n,¬m n d){Os:Xg Obj}(O:Os.length=l.length)
 (N:∀(e:E) d,l[e]?=C d->∃i k,Os[e]?=C i/\q.heap[d]?=C k/\gP h (Ren.plus m a.heap.size l) i k):
 aV h (Ren.plus m a.heap.size l) {a with heap:=a.heap++Os.toArray} q where
 inj:=by
  rintro n u d v(c|⟨e,rfl,c⟩)(g|⟨s,rfl,g⟩)
  .exact p.inj n u d v c g
  .refine⟨λf=>?_,λf=>?_⟩
   .obtain⟨i,k,b,_⟩:=p.obj n d c;have:=(XN.1 b).1;omega
   subst f;exact absurd c (w _ (Yj g) _)
  .refine⟨λf=>?_,λf=>?_⟩
   .obtain⟨i,k,b,_⟩:=p.obj u v g;have:=(XN.1 b).1;omega
   subst f;exact absurd g (w _ (Yj c) _)
  refine⟨λf=>?_,λf=>?_⟩
  .have:e=s:=by omega
   subst this;rw[c]at g;cases g;rfl
  subst f;have D:=(YH.1 c);have H:=(YH.1 g);obtain⟨y,b⟩:=D;obtain⟨z,o⟩:=H;have x:=x_.1 L;have:e=s:=by
   rcases E.lt_trichotomy e s with r|r|r
   .exact absurd (b.trans o.symm) (x e s y z r)
   .exact r
   exact absurd (o.trans b.symm) (x s e z y r)
  omega
 os:=p.os
 obj:=by
  rintro n d(c|⟨e,rfl,c⟩)
  .obtain⟨i,k,b,o,t⟩:=p.obj n d c;exact⟨i,k,by rw[aam (XN.1 b).1];exact b,o,t.mono (Ren.Hs m _ l)⟩
  obtain⟨i,k,b,o,t⟩:=N e d c;exact⟨i,k,by rw[r_ (by omega)];simpa using b,o,t⟩
theorem Kh{Os:Xg Obj}{b:E}{c:Obj}(d:Os[b]?=C c):(a.heap++Os.toArray)[a.heap.size+b]?=C c:=by rw[r_ (by omega)];simpa using d
variable{b:Xt}{c:XD}{e:Xg Ms}{o:E->Prop}
section
variable{a:cZ}{l:bR}{d:Loc->Own}
theorem Ag(H:dG (aj P a) 0 e W q c U y b)(T:iU U d)
 (b0:∀s,s.isMemory=J->d s≠U s->d s=.ro\/d s=.void\/(d s=.sync/\∀p N,touchAt c p=C N->N.loc≠s))
 (b2:aG P c q d 0 l)(X:y.tag=F)(a7:∀r,bB P W q c U y r->eJ a W q r->∀g,0<g->g<W.size->Holds (r g) y l)
 (b3:∀r,bB P W q c U y r->r 0=.lv 0->∀x,l.tag=C x->dS x r W.size q d):∃a5,dG (aj P a) 0 a5 W q c d l b:=by
 obtain⟨r,rfl,D,a1⟩:=H.ok
 let v:E->aF:=λp=>if p=0 then .lv 0 else r p
 have w:∀p,0<p->v p=r p:=λp Z=>Xx (by omega);have u:bB P W q c U y v:=⟨λg O n L=>by rw[w g n];exact D.each g O n L,λg j a3 a4 n Y Q a8 R S=>by rw[w g n]at R;rw[w j Y]at S;exact D.one g j a3 a4 n Y Q a8 R S,D.above,λa2 t=>(by rw[X]at t;cases t),D.ops⟩;have a0:eJ a W q v:=by
  cases a with
  |none=>intro g n Q;rw[w g n];exact a1 g n Q
  |some N=>obtain⟨b4,b8,p⟩:=N;obtain⟨q1,b5,b6,b7⟩:=a1;exact⟨q1,b5,by rw[w b4 q1];exact b6,b7⟩
 have b9:c++(#[]:XD)=c:=by simp
 have G:=H.bF.jA T oY.nil (n:=0) (λs a9 a6=>Xi (b0 s a9 a6)) (λp Z=>by exact Z);refine⟨_,⟨v,A,⟨λg O n L=>?_,u.one,u.above,λx t=>b3 v u A x t,u.ops⟩,a0⟩,G,b2,H.me,H.hears⟩;have:=(u.each g O n L).jA (by omega) T oY.nil (λc0 b1=>by simp at b1) (a7 v u a0 g n (XN.1 L).1) (λa2 t=>by rw[X]at t;cases t);simp_all
theorem rI{a:E->E}(d:∀b,b<i->a b=0):sumTo i a=0:=by
 have:=Go.ConcN.sumTo_le (f:=a) (c:=0) (j:=i) λg f=>by simp_all
 omega
def kg(a:cZ)(o:E->Prop):Prop:=∀f b c,a=C (f,b,c)->(∀c,fj b.sh (b.τ c))/\∀d,b.sh d->o d
theorem holds_of{e:Xg Ms}(L:kg a o)(R:∀r u,o r->y.β r u->l.β r u):∀n,bB P W q c U y n->eJ a W q n->∀g,0<g->g<W.size->Holds (n g) y l:=by
 intro n N x g v w D p;cases a with
 |none=>rw[x g v w]at p;cases p
 |some Q=>
  obtain⟨s,H,S⟩:=Q;obtain⟨q1,O,t,Y⟩:=x;have:g=s:=by
   have c1:(n g).chan=C D.rc:=by rw[aF.cA,p];rfl
   have c2:(n s).chan=C H.rc:=by rw[aF.cA,t];rfl
   exact N.one g s _ _ v q1 w O c1 c2
  subst this;rw[p]at t;cases t;obtain⟨T,X⟩:=L _ _ _ A;simp_all
theorem Hy(r:dG (aj P a) 0 e W q c U y b):∀h k n,a=C (h,k,n)->∀d,k.mine d->U d=.ro:=by
 rintro h k n rfl d l;obtain⟨x,_,p,s⟩:=r.ok;obtain⟨q1,v,f,Q⟩:=s;have i:=p.each h _ q1 (XP v);generalize x h=w at i f;cases w with
 |lv u=>cases f
 |wk S=>cases f
 |pr m t o z=>cases f;obtain⟨_,_,_,_,_,⟨_,g,_⟩,_⟩:=i;exact g.ro d l
 |pb m t o z D R T=>cases f;obtain⟨_,_,_,_,_,_,⟨_,g,_⟩,_⟩:=i;exact g.ro d l
 |pq m u=>cases f;obtain⟨_,_,h,_,_,_,g⟩:=i;exact g.ro d l
end
section
variable{a:cZ}
def RA(m:Ren):Prop:=∀a b,m a b->b<dA.heap.size->Im a
def Fe(m:Ren)(b:E)(c:M)(a:E)(f:Obj):Prop:=(∃d,m d a)/\a≠b/\c.heap[a]?=C f
theorem JB{a2:E->Xt}{N:E->Prop}{a8 a1 b7:E}{yA O k1:Xq}{g6 d2:E×E}{cl:Xk Xe}{own:E->E->E->Prop}{fin:E->Fin}
 (f3:b.status=.running)(j2:∀g0,(a2 g0).status=.running)(j4:∀q,stepG P J b q=.go (a2 q.heap.size) {q with heap:=q.heap.push (Go.ConcR.wgBlock O 0 0)})
 (e8:jw N k)(l4:∀p,N p->∀g5 d9,k.heap[p]?≠C (.map g5 d9))(i1:∀b,(0<b\/b=P.globals.size)->b<=P.globals.size->N b)(f5:∀p,f p->N p)
 (g8:k.heap[a8]?=C (Xn #[Xm (C ⟨a1,0,F⟩) i i] k1 g6))(h0:∃T,m a8 T)(l3:¬f a8)(AZ:k.heap[a1]?=C (Xn cl yA d2))(i0:d2.1=d2.2)(i3:cl.size=b7)(f0:¬N a1)(g9:a8≠a1)
 (h7:∀a0 w j c8,own a0 w c8->own a0 j c8->w=j)(h3:kg a f)
 (next:∀(a7:M) T v a0,aV h m k a7->m a8 T->m a1 v->0<a0->(∀p n,m p n->∀g,az g n->¬f p->¬sY a (λ_=>.ro) g)->Base P m->RA m->
   sW P a (C ⟨⟨O,a7.heap.size,T,Xm (C ⟨v,0,F⟩) i i,v,yA,b7,own a0,Fe m v a7,C a7⟩,0,0,0,a0,a0,fin a0⟩) z h N (λp n=>N p/\m p n) (cP N k) (a2 a7.heap.size)):
 sW P a F z h f m k b:=by
 classical
 intro e W q sl c U s;refine kW (s:=aj P a) f3 (λe W q sl c U s=>?_) e W q sl c U s;refine⟨_,_,_,iS (P:=P) s.me (j4 q),?_⟩;obtain⟨f9,l7⟩:∃f9,f9=Go.ConcR.wgBlock O 0 0:=⟨_,A⟩;have lt:∀p n,m p n->n<q.heap.size:=λp n u=>s.bg.rel.right u
 have f4:aV h m k {q with heap:=q.heap.push (Go.ConcR.wgBlock O 0 0)}:=⟨s.bg.rel.inj,λp n r=>by
  obtain⟨c6,e1,g3,e6,g4⟩:=s.bg.rel.obj p n r
  exact⟨c6,e1,g3,by rw[J' (lt p n r)];rw[XP (lt p n r)]at e6;exact e6,g4⟩,s.bg.rel.os⟩
 have b9:∀n,n<q.heap.size->(q.heap.push (Go.ConcR.wgBlock O 0 0))[n]?=q.heap[n]?:=λn a4=>by rw[J' a4,XP a4]
 have e4:bD h m m k k q {q with heap:=q.heap.push (Go.ConcR.wgBlock O 0 0)} [] []:=by refine{bD.refl s.bg.rel with rel:=f4,uP:=by simp,same:=λn a4 _=>Xh (b9 n a4)}
 have b5:=fy s.bg e4 (λ_ _=>rfl) (by simp) s.hears b.frame.fn b.frame.place;have i8:0<W.size:=(XN.1 s.me).1;have i6:XE 0 b.frame.fn b.frame.place (kept []).toArray=XE 0 b.frame.fn b.frame.place #[]:=by simp[kept]
 have D:=(aj P a).main (g₁:=a2 q.heap.size) s.ok s.bF s.bg s.me s.hears f3 (j2 _) e4 (λ_ _=>rfl) (by simp);have H:=s.bF.step b5;have a3:=s.bg.own e4 (λ_ _=>rfl) b5;have e5:XE 0 b.frame.fn b.frame.place #[]=#[]:=by simp[XE]
 rw[i6,e5,aar]at D H a3;rw[e5,aar];have l5:=Hy s;obtain⟨R,d3⟩:∃R,R=Own.more U 0 q.heap.size (q.heap.push (Go.ConcR.wgBlock O 0 0)).size:=⟨_,A⟩;simp only at D H a3;rw[<-d3]at D H a3;obtain⟨x,d7⟩:∃x,x=((W.map (Go.Conc.woken P b (a2 q.heap.size) {q with heap:=q.heap.push (Go.ConcR.wgBlock O 0 0)})).setIfInBounds 0 (a2 q.heap.size)):=⟨_,A⟩;have d5:dG (aj P a) 0 e x {q with heap:=q.heap.push (Go.ConcR.wgBlock O 0 0)} c R ⟨h,m,k,f,F⟩ (a2 q.heap.size):=⟨by rw[d7];exact D,H,a3,by rw[d7];simp[i8],s.hears⟩;rw[<-d7];obtain⟨T,KW⟩:=h0
 have i7:∃v k0 a5,m a1 v/\q.heap[T]?=C (Xn #[Xm (C ⟨v,0,F⟩) i i] k0 a5):=by
  obtain⟨c6,e1,q1,S,X⟩:=s.bg.rel.obj _ _ KW;rw[g8]at q1;cases q1;cases X with
  |cells m2 c0 _=>
   rename_i c2 _ k9;have b1:=c0.1;simp at b1;have Q:=c0.2 0 (Xm (C ⟨a1,0,F⟩) i i) c2[0] (by simp) (XP (by omega));cases Y:c2[0]with
   |slice m0 g b3=>
    rw[Y]at Q;cases Q with
    |slice d4=>
     rename_i g1;obtain⟨j6,j7,j8⟩:=d4;obtain⟨v,l9,m1⟩:=g1;subst j7 j8
     have d6:c2=#[Xm (C ⟨v,0,F⟩) i i]:=by
      apply aaj (by simp[b1]);intro w a9 b8;obtain rfl:w=0:=by omega
      simp[Y]
     rw[d6]at S;exact⟨v,_,_,j6,S⟩
   |_=>rw[Y]at Q;cases Q
 obtain⟨v,k2,g7,xn,h1⟩:=i7
 have i2:∃b3 a5,q.heap[v]?=C (Xn b3 yA a5)/\a5.1=a5.2/\b3.size=b7:=by
  obtain⟨c6,e1,q1,S,X⟩:=s.bg.rel.obj _ _ xn;rw[AZ]at q1;cases q1;cases X with
  |cells c c0 b4=>
   refine⟨_,_,S,?_,by rw[<-c0.1];exact i3⟩;rcases b4 with b4|⟨b4,_⟩
   .exact b4
   exact absurd i0 b4
 have j0:T≠v:=λa6=>g9 ((s.bg.rel.inj _ _ _ _ KW xn).2 a6);have h2:=lt _ _ xn;have c9:∀{g:Loc}{p n:E},m p n->az g n->R g=U g:=λr t=>by rw[d3];exact qP t (lt _ _ r)
 have d0:=s.bg.dv;have k3:∀g,az g q.heap.size->R g=.iM 0:=λg t=>by rw[d3];exact qO t (XS _) (by simp)
 have e0:∀{g:Loc}{p n:E},m p n->az g n->¬az g q.heap.size:=λr D H=>by have:=de D H;have:=lt _ _ r;omega
 let b6:Loc->Prop:=λg=>∃p n,m p n/\az g n/\n≠v/\R g=.iM 0
 let d:Loc->Own:=λg=>if az g q.heap.size then .sync else if g=.obj v then .void else if b6 g then .ro else R g
 have f8:∀g,az g q.heap.size->d g=.sync:=λg t=>XC t
 have f7:d (.obj v)=.void:=by show(if _ then _ else if _ then _ else _)=_;rw[Xx (e0 xn (.inl A)),XC A]
 have c7:∀p n g,m p n->az g n->n≠v->d g=.ro:=λp n g r t b0=>by
  show(if _ then _ else if _ then _ else if _ then _ else _)=_;rw[Xx (e0 r t),Xx (λu=>b0 (de t (by rw[u];exact .inl A)))];by_cases b1:b6 g
  .rw[XC b1]
  rw[Xx b1];have Y:R g≠.iM 0:=λu=>b1 ⟨p,n,r,t,b0,u⟩;rcases d0 p n r g t with u|⟨u,_⟩
  .rw[c9 r t]at Y;exact absurd u Y
  rw[c9 r t];exact u
 have e2:∀g,¬az g q.heap.size->g≠.obj v->¬b6 g->d g=R g:=λg D H a3=>by show(if _ then _ else if _ then _ else if _ then _ else _)=_;rw[Xx D,Xx H,Xx a3]
 have e9:∀g,az g v->R g=.iM 0:=λg t=>by
  rw[c9 xn t];rcases d0 a1 v xn g t with u|⟨_,u⟩
  .exact u
  exact absurd (f5 _ u) f0
 have h4:iU R d:=by
  intro g i9;by_cases q1:az g q.heap.size
  .exact Xi (k3 g q1)
  by_cases S:g=.obj v
  .subst S;exact Xi (e9 _ (Xh A))
  by_cases X:b6 g
  .obtain⟨_,_,_,_,_,u⟩:=X;exact Xi u
  exact Xh (e2 g q1 S X)
 obtain⟨b2,e7⟩:∃b2:dm,b2=⟨⟨O,q.heap.size,T,Xm (C ⟨v,0,F⟩) i i,v,yA,b7,own x.size,Fe m v q,C q⟩,0,0,0,x.size,x.size,fin x.size⟩:=⟨_,A⟩;have f1:0<x.size:=(XN.1 d5.me).1
 have j3:aG P c {q with heap:=q.heap.push (Go.ConcR.wgBlock O 0 0)} d 0 ⟨h,λp n=>N p/\m p n,cP N k,N,C b2⟩:={
  base:=kX s.bg.base i1
  low:=⟨XZ s.bg.low.1 (by simp),λp n r a4=>s.bg.low.2 p n r.2 a4⟩
  rel:=f4.cP e8
  cO:=jJ e8
  dv:=λp n r g t=>Xi ⟨c7 p n g r.2 t λa6=>f0 (by have Q:=r.1;rw[(s.bg.rel.inj _ _ _ _ r.2 xn).2 a6]at Q;exact Q),r.1⟩
  dV:=λp n r g t l6=>by
   rcases d0 p n r.2 g t with u|⟨u,_⟩
   .exact PermW.of (d5.bF.mine g 0 (bQ t) (by rw[c9 r.2 t];exact u))
   exact s.bg.dV p n r.2 g t u}
 have j5:∀Z,bB P x {q with heap:=q.heap.push (Go.ConcR.wgBlock O 0 0)} c R ⟨h,m,k,f,F⟩ Z->Z 0=.lv 0->∀d1,C b2=C d1->dS d1 Z x.size {q with heap:=q.heap.push (Go.ConcR.wgBlock O 0 0)} d:=by
  intro Z h6 Y d1 h5;cases h5
  have Ia:∀w L,0<w->w<x.size->Z w≠.wk L:=λw L a9 b8 a6=>by have:=h6.each w _ a9 (XP b8);rw[a6]at this;obtain⟨k5,u,_⟩:=this;cases u
  have h9:∀w,w<x.size->(Z w).cnt=0:=λw a9=>by
   rcases Ye w with rfl|u
   .rw[Y];rfl
   have:=λL=>Ia w L u a9;generalize Z w=e3 at this;cases e3 with
   |wk L=>exact absurd A (this L)
   |_=>rfl
  have f6:(sumTo x.size λw=>(Z w).cnt)=0:=rI h9;subst e7
  exact{
   zero:=by rw[Y];rfl
   mode:=by
    rw[f6];refine .opn A (YA _) (λj i4 i5=>?_) ?_
    .have:=λL=>Ia j L i4 i5;generalize Z j=e3 at this;cases e3 with
     |wk L=>exact absurd A (this L)
     |_=>rfl
    show(q.heap.push (Go.ConcR.wgBlock O 0 0))[q.heap.size]?=_;simp
   rJ:=f8
   zQ:=f7
   own:=λw L a9 b8 Q=>absurd Q (Ia w L a9 b8)
   gb:=by obtain⟨b3,a5,q1,S,X⟩:=i2;exact⟨b3,a5,(b9 v h2).trans q1,S,X⟩
   gv:=⟨k2,g7,(b9 T (lt _ _ KW)).trans h1⟩
   KV:=c7 a8 T _ KW (Xh A) j0
   ne:=by show v≠q.heap.size;omega
   apart:=λw j c8 D H=>h7 _ w j c8 D H
   yt:=by show x.size<x.size+1000000;omega
   bound:=by rw[f6];exact YA _
   tT:=⟨f1,XS _,A,λw D H=>by
    have D:x.size<=w:=D;have H:w<x.size:=H
    omega⟩
   Ia:=λw L D H Q=>absurd Q (Ia w L D H)
   gh:=by refine⟨λa7 u=>by cases u;rfl,?_⟩;rintro n c6⟨⟨p,r⟩,H,a3⟩;exact⟨λg t=>c7 p n g r t H,(b9 n (lt _ _ r)).trans a3⟩
   KU:=λg t=>by
    by_cases f2:g=.obj v
    .subst f2;exact Xh A
    refine Xi (Xh ?_);show d g=_;rw[e2 g (e0 xn t) f2 λ⟨p,n,r,d8,b0,_⟩=>b0 (de d8 t)]
    exact e9 g t}
 obtain⟨k8,d6⟩:=Ag (l:=⟨h,λp n=>N p/\m p n,cP N k,N,C b2⟩) d5 h4 (λg i9 b0=>by
  by_cases q1:az g q.heap.size
  .refine Xi (Xi ⟨f8 g q1,λd9 L Q a6=>?_⟩);have:=s.bF.low d9 L Q;rw[a6,bn q1]at this;exact absurd this (E.lt_irrefl _)
  by_cases S:g=.obj v
  .subst S;exact Xi (Xh f7)
  by_cases X:b6 g
  .obtain⟨p,n,r,t,a4,_⟩:=X;exact Xh (c7 p n g r t a4)
  exact absurd (e2 g q1 S X) b0)
  j3 A (holds_of (e:=e) h3 λp n d4 r=>⟨f5 p d4,r⟩) j5
 subst e7;refine next q T v x.size s.bg.rel KW xn f1 (λp n r g t j1 b5=>?_) s.bg.base s.bg.low.2 _ _ _ _ _ _ d6
 rcases b5 with⟨g2,d8,h8⟩|b5
 .have D:=s.bF.jP.ro g g2 d8 h8;rcases d0 p n r g t with u|⟨_,u⟩
  .rw[D]at u;cases u
  exact j1 u
 grind
end
variable{b:Xk Xe}{k:Xe}{Y:Xe}{a:E}{o:Xe}{s:E}{D:Xg Ms}{z:XD}{g:E}
structure LR where
 d:XB
 st:Xg Xj
 names:Xg XB
 ev:Xe
def gr(c:Xg XB)(s:E)(sl:Xe)(r:M):Prop:=
 (sl=Xm F 0 0/\c=[])\/
 ∃e d b g u,sl=Xm (C ⟨e,0,F⟩) c.length d/\s<=e/\r.heap[e]?=C (Xn b g u)/\u.1=u.2/\c.length<=d/\d<=b.size/\
  ∀(a:E) f,c[a]?=C f->b[a]?=C (.string f)
def cf(a:LR)(s:E)(b:Xk Xe)(r:M):Prop:=a.st.length=7/\∃sl,b.toList=.string a.d::(a.st.map (.int K ·)++[sl])/\gr a.names s sl r
def TQ(a Y:Xe):Prop:=∀h m,an h m a Y
def Bg(c b:Xk Xe):Prop:=c.size=b.size/\∀(a:E) k Y,c[a]?=C k->b[a]?=C Y->TQ k Y
theorem pf{d:Xe->Xe->Prop}(t:∀(a:E) Y,b[a]?=C Y->∃c,d c Y):∃l:Xk Xe,l.size=b.size/\∀(a:E) k Y,l[a]?=C k->b[a]?=C Y->d k Y:=by
 have v:∀a:E,∃c:Xe,∀Y,b[a]?=C Y->d c Y:=λa=>by
  cases w:b[a]? with
  |none=>exact⟨I,λ_ D=>by cases D⟩
  |some Y=>obtain⟨c,a0⟩:=t a Y w;exact⟨c,λ_ D=>by cases D;exact a0⟩
 obtain⟨n,x⟩:=Classical.axiomOfChoice v;refine⟨((Xg.range b.size).map n).toArray,by simp,λa k Y e i=>?_⟩;have Z:a<b.size:=(XN.1 i).1;simp[Z]at e;subst e;exact x a Y i
theorem VU(d:an h m k Y):∃q,TQ q Y:=by
 induction d with
 |bS d=>exact⟨_,λ_ _=>.bS d⟩
 |bool s=>exact⟨_,λ_ _=>.bool s⟩
 |int v g=>exact⟨_,λ_ _=>.int v g⟩
 |string x=>exact⟨_,λ_ _=>.string x⟩
 |cG=>exact⟨_,λ_ _=>.cG⟩
 |ptr d=>exact⟨_,λ_ _=>.bS trivial⟩
 |aO g b=>exact⟨_,λ_ _=>.aO g b⟩
 |slice d g b=>exact⟨_,λ_ _=>.bS trivial⟩
 |ft=>exact⟨_,λ_ _=>.ft⟩
 |map d=>exact⟨_,λ_ _=>.bS trivial⟩
 |ed=>exact⟨_,λ_ _=>.ed⟩
 |chan d=>exact⟨_,λ_ _=>.bS trivial⟩
 |func t=>cases t with
  |func=>exact⟨_,λ_ _=>.bS trivial⟩
  |yield=>exact⟨_,λ_ _=>.bS trivial⟩
 |nilFunc=>exact⟨_,λ_ _=>.nilFunc⟩
 |iface z d e=>obtain⟨q,u⟩:=e;exact⟨_,λh m=>.iface z (u h m)⟩
 |nilIface=>exact⟨_,λ_ _=>.nilIface⟩
 |@agg b f n w e=>
  obtain⟨y,i,l⟩:=pf (b:=f) (d:=TQ) λa Y c=>by
   have o:a<b.size:=by rw[n];exact(XN.1 c).1
   exact e a _ Y (XP o) c
  exact⟨_,λh m=>.agg i λa k Y p c=>l a k Y p c h m⟩
 |@tuple b f n w e=>
  obtain⟨y,i,l⟩:=pf (b:=f) (d:=TQ) λa Y c=>by
   have o:a<b.size:=by rw[n];exact(XN.1 c).1
   exact e a _ Y (XP o) c
  exact⟨_,λh m=>.tuple i λa k Y p c=>l a k Y p c h m⟩
theorem Ov{c:Xk Xe}(e:aw h m b c):∃d,Bg d c:=by
 obtain⟨d,g,i⟩:=pf (b:=c) (d:=TQ) λa Y f=>by
  have k:a<b.size:=by rw[e.1];exact(XN.1 f).1
  exact VU (e.2 a _ Y (XP k) f)
 exact⟨d,g,i⟩
theorem Bg.string{c d:Xk Xe}(b:Bg c d){g:XB}(e:d[a]?=C (.string g)):c[a]?=C (.string g):=by
 have f:a<c.size:=by rw[b.1];exact(XN.1 e).1
 have:=b.2 a _ _ (XP f) e;rw[XP f];generalize c[a]=l at this;have h:=this {fn:=λ_=>Xf,code:=λ_=>Xf,bi:=λ_ _=>Xf,fr:=λ_=>Xf,bZ:=Xf} (λ_ _=>False);cases h with
 |bS b=>exact b.elim
 |string=>rfl
inductive Plain:Xe->Prop
 |string (d:XB):Plain (.string d)
 |int (c:IntKind) (g:Xj):Plain (.int c g)
 |slice (g b:E):Plain (Xm F g b)
 |nil:Plain .nilIface
 |iface (z:Xq) (c:IntKind) (g:Xj):Plain (.iface z (.int c g))
theorem Plain.eq{b:Xe}(c:Plain o)(a:an h m o b):b=o:=by
 cases c with
 |iface=>cases a with|iface _ a=>cases a;rfl
 |_=>cases a;rfl
theorem Plain.refl(h:Set)(m:Ren)(a:Plain o):an h m o o:=by
 cases a with
 |string d=>exact .string _
 |int c g=>exact .int _ _
 |slice g b=>exact .aO _ _
 |nil=>exact .nilIface
 |iface z c g=>exact .iface z (.int _ _)
def QU(p:E->LR)(g L s:E)(yA:Xq)(r:M):Prop:=∃b u,r.heap[L]?=C (Obj.cells b yA u)/\b.size=g*10/\u.1=u.2/\
 ∀a,a<g->∃c,cf (p a) s c r/\(∀j,j<9->b[a*10+j]?=c[j]?)/\b[a*10+9]?=C (p a).ev
theorem NG(c:Xg E):∃b:Xg E,b.Nodup/\∀k,k∈b↔k∈c:=by
 induction c with
 |nil=>exact⟨[],.nil,λk=>Iff.rfl⟩
 |cons d c h=>
  obtain⟨b,f,e⟩:=h;by_cases g:d∈c
  .refine⟨b,f,λk=>?_⟩;rw[e];refine⟨λa=>Ym _ a,λa=>?_⟩;rcases XV.1 a with rfl|a
   .exact g
   exact a
  exact⟨d::b,Xg.nodup_cons.2 ⟨λa=>g ((e d).1 a),f⟩,λk=>by simp[e]⟩
theorem cf.size{n:LR}{c:Xk Xe}(d:cf n s c r):c.size=9:=by obtain⟨e,sl,i,_⟩:=d;have:=YU List.length i;simp[e]at this;exact this
theorem cf.at{a:LR}{c:Xk Xe}(g:cf a s c r):∃sl,gr a.names s sl r/\c[8]?=C sl/\∀j,j<8->∃o,c[j]?=C o/\Plain o/\(Value.string a.d::a.st.map (.int K ·))[j]?=C o:=by
 obtain⟨d,sl,h,i⟩:=g;have f:∀j:E,c[j]?=(Value.string a.d::(a.st.map (.int K ·)++[sl]))[j]?:=λj=>by rw[<-h];simp
 refine⟨sl,i,?_,λj m=>?_⟩
 .rw[f];simp[d]
 have k:(Value.string a.d::(a.st.map (.int K ·)++[sl]))[j]?=(Value.string a.d::a.st.map (.int K ·))[j]?:=by rw[<-Yp,Zw (by simp[d];omega)]
 have e:j<(Value.string a.d::a.st.map (.int K ·)).length:=by simp[d];omega
 refine⟨_,(f j).trans (k.trans (Yy e)),?_,Yy e⟩;have b:=aaH e;rcases XV.1 b with b|b
 .rw[b];exact .string _
 obtain⟨n,_,l⟩:=YB.1 b;rw[<-l];exact .int _ _
theorem cf.mk'{a:LR}(c:a.st.length=7){sl:Xe}(b:gr a.names s sl r):cf a s (Value.string a.d::(a.st.map (.int K ·)++[sl])).toArray r:=⟨c,sl,by simp,b⟩
section
variable{N:cZ}{O:E->Prop}{R:Ren}{Q T:M}{X:Xt}{y:dm}{p:E->LR}{L S H:E}{yA:Xq}{u:E×E}{cl:Xk Xe}
theorem JN(S:rQ P N y D W q z U ⟨h,R,Q,O,F⟩)(d1:y.D.gn=g*10)
 (c9:∀c,c<g->∃a,y.lo<=a/\a<y.hi/\∀cl r,y.fin a cl r->∃a1,(c*10,a1)∈cl/\(c*10+9,#[(p c).ev])∈cl/\cf (p c) H a1 r)(c7:∀c,c<g->Plain (p c).ev)(f0:P.globals.size<=H):
 ∃b t,q.heap[y.D.gb]?=C (Xn b y.D.yA t)/\t.1=t.2/\b.size=g*10/\∀c,c<g->(p c).st.length=7/\(∀j,j<8->b[c*10+j]?=(Value.string (p c).d::(p c).st.map (.int K ·))[j]?)/\b[c*10+9]?=C (p c).ev/\
  ∃sl,b[c*10+8]?=C sl/\((sl=Xm F 0 0/\(p c).names=[])\/
   ∃e n s b4 u,sl=Xm (C ⟨e,0,F⟩) (p c).names.length n/\q.heap[e]?=C (Xn s b4 u)/\u.1=u.2/\(p c).names.length<=n/\n<=s.size/\
    (∃e7,Bg e7 s)/\(∀(a:E) v,(p c).names[a]?=C v->s[a]?=C (.string v))/\P.globals.size<=e/\∀x,az x e->∃a,0<a/\y.lo<=a/\a<y.hi/\U x=.iM a):=by
 obtain⟨b,t,q1,d9,e0⟩:=S.gb;refine⟨b,t,q1,d9,e0.trans d1,λc a8=>?_⟩;obtain⟨a,T,a7,c8⟩:=c9 c a8;obtain⟨_,_,cl,a0,l⟩:=S.left a T a7;obtain⟨a1,b2,d8,b0⟩:=c8 cl a0.w l.fin;obtain⟨sl,d6,c0,d2⟩:=b0.at
 have put:∀(Y:E) a2,(Y,a2)∈cl->∀(j:E) o,a2[j]?=C o->∃k,b[Y+j]?=C k/\an a0.S a0.β o k:=by intro Y a2 d5 j o m;obtain⟨c2,f9,e9,k,f,i,b8⟩:=l.Mg _ d5 j o m;rw[q1]at f;cases f;exact⟨k,i,b8⟩
 refine⟨b0.1,λj d3=>?_,?_,?_⟩
 .obtain⟨o,e4,e5,e6⟩:=d2 j d3;obtain⟨k,f,i⟩:=put _ _ b2 j o e4;rw[f,e5.eq i,e6]
 .obtain⟨k,f,i⟩:=put _ _ d8 0 (p c).ev (by simp);rw[show c*10+9=c*10+9+0 from A,f,(c7 c a8).eq i]
 obtain⟨k,f,i⟩:=put _ _ b2 8 sl c0;refine⟨k,f,?_⟩;rcases d6 with⟨rfl,d⟩|⟨e,n,s,b4,e8,rfl,f6,b3,Z,e1,e2,e3⟩
 .exact Xh ⟨(Plain.slice 0 0).eq i,d⟩
 right;cases i with
 |slice c6=>
  rename_i b5;obtain⟨L,f3,f7⟩:=b5;obtain⟨w,a3,a4⟩:=c6;simp only at w a3 a4;subst a3 a4;obtain⟨f4,f5,a5,b6,b7⟩:=l.bg.rel.obj e L w;rw[b3]at a5;cases a5;cases b7 with
  |cells f8 m d0=>
   rename_i c2 b9;refine⟨L,n,c2,_,b9,A,b6,?_,e1,by rw[<-m.1];exact e2,Ov m,λa v d7=>?_,?_,λx d4=>⟨a,XY S.pos T,T,a7,?_⟩⟩
   .rcases d0 with d|⟨d,_⟩
    .exact d
    exact absurd Z d
   .have a6:=e3 a v d7;have a9:a<c2.size:=by rw[<-m.1];exact(XN.1 a6).1
    have:=m.2 a _ _ a6 (XP a9);rw[XP a9,(Plain.string v).eq this]
   .have:=(l.bg.base.2 e L w).2;omega
   rcases l.bg.dv e L w x d4 with d|⟨_,d⟩
   .exact d
   exfalso;obtain⟨f2,b1,X⟩:=l.bg.cO e d;rw[b3]at b1;cases b1;obtain⟨X,f1⟩:=X;rw[X]at Z;simp at Z;omega
end
variable{c:M}{b:Xg Ms}{r:XD}{d:E}
section
variable{l:cZ}{o:E->Prop}{v:Ren}{u s:M}{y:Xt}{g:dm}{a:E->LR}{p k x:E}{yA:Xq}{i:E×E}{cl:Xk Xe}
theorem FI(c:Xg E)(b:E->Xp E):∃a:Xg E,a.Nodup/\∀d,d∈a↔∃e∈c,b e=C d:=by
 obtain⟨a,f,g⟩:=NG (c.filterMap b)
 grind
theorem PG(b8:dG (aj P l) 0 b W q r U ⟨h,v,u,o,F⟩ y)(b4:rQ P l g b W q r U ⟨h,v,u,o,F⟩)
 (f5:cV o (λn e=>o n/\m n e) (cP o c) v u)(o6:jw o c)(g2:∀n,f n->o n)(d1:Inv P h f m c)
 (l3:g.D.gh=Fe m k s)(l1:g.D.g0=C s)(i3:g.D.gb=k)(l5:g.D.yA=yA)(l4:g.D.gn=d*10)
 (e3:aV h m c s)(xn:m p k)(AZ:c.heap[p]?=C (Xn cl yA i))(l0:i.1=i.2)(i4:¬o p)(k4:kg l f)
 (i6:∀n e,m n e->∀N,az N e->¬f n->¬sY l (λ_=>.ro) N)
 (k8:∀t,t<d->∃w,g.lo<=w/\w<g.hi/\∀cl c,g.fin w cl c->∃j1,(t*10,j1)∈cl/\(t*10+9,#[(a t).ev])∈cl/\cf (a t) x j1 c)(f4:∀t,t<d->Plain (a t).ev)(k5:P.globals.size<=x):
 ∃j6 g7 a6,dG (aj P l) 0 b W q r j6 ⟨h,g7,a6,f,F⟩ y/\Inv P h f g7 a6/\cV f m c g7 a6/\
  (∀n,n<c.heap.size->n≠p->a6.heap[n]?=c.heap[n]?\/∃b0 r Z g9,aT b0/\c.heap[n]?=C (Obj.cells b0 r Z)/\a6.heap[n]?=C (Obj.cells b0 r g9))/\QU a d p c.heap.size yA a6:=by
 obtain⟨b0,o5,q1,n3,n4,g5⟩:=JN b4 l4 k8 f4 k5;rw[i3,l5]at q1;have f6:=λn e a4 T O b9=>b4.gh.2 e a4 (by rw[l3];exact⟨⟨n,T⟩,O,b9⟩)
 have f7:∀n e,m n e->∃a4,s.heap[e]?=C a4:=λn e T=>by obtain⟨a4,p5,_,f2,_⟩:=e3.obj n e T;simp_all
 obtain⟨j0,p1⟩:=f7 _ _ xn;obtain⟨d8,k7⟩:∃d8:M,d8={q with heap:=q.heap.setIfInBounds k j0}:=by simp
 have h6:∀w:E,d8.heap[w]?=if w=k then C j0 else q.heap[w]?:=λw=>by grind
 have h7:d8.os=q.os:=by rw[k7]
 have p0:∀{n e:E},o n->m n e->e≠k:=λa8 T d2=>i4 ((e3.inj _ _ _ _ T xn).2 d2▸a8)
 obtain⟨a6,g8,_,m4,o8⟩:=Ey e3 (h7.trans (b4.gh.1 s l1)) (q:=d8) (λn e a4 T b9=>by
  by_cases O:e=k
  .show _=_
   grind
  show _=_
  rw[h6,Xx O];exact(f6 n e a4 T O b9).2) f
 have m0:∀t,∃e6:Xp E,t<d->(e6=F->b0[t*10+8]?=C (Xm F 0 0)/\(a t).names=[])/\∀R,e6=C R->∃b1 Q S i,b0[t*10+8]?=C (Xm (C ⟨R,0,F⟩) (a t).names.length b1)/\q.heap[R]?=C (Obj.cells Q S i)/\i.1=i.2/\(a t).names.length<=b1/\b1<=Q.size/\
  (∃a1,Bg a1 Q)/\(∀(w:E) e7,(a t).names[w]?=C e7->Q[w]?=C (.string e7))/\P.globals.size<=R/\∀N,az N R->∃w,0<w/\g.lo<=w/\w<g.hi/\U N=.iM w:=by
  intro t;by_cases Y:t<d
  .obtain⟨_,_,_,sl,c9,z⟩:=g5 t Y;rcases z with⟨rfl,z⟩|⟨R,b1,Q,S,Z,rfl,z⟩
   .exact⟨F,λ_=>⟨λ_=>⟨c9,z⟩,λR b=>(by cases b)⟩⟩
   exact⟨C R,λ_=>⟨λb=>(by cases b),λn2 b=>(by grind)⟩⟩
  exact⟨F,λz=>absurd z Y⟩
 obtain⟨g4,f9⟩:=Classical.axiomOfChoice m0;obtain⟨a0,k3,h2⟩:=FI (Xg.range d) g4
 have d0:∀e∈a0,∃Q S i,q.heap[e]?=C (Obj.cells Q S i)/\(∃a1,Bg a1 Q)/\P.globals.size<=e/\∀N,az N e->∃w,0<w/\g.lo<=w/\w<g.hi/\U N=.iM w:=by intro e O;obtain⟨t,Y,d2⟩:=(h2 e).1 O;obtain⟨b1,Q,S,Z,_,d7,_,_,_,n5,_,n6,n7⟩:=(f9 t (abe.1 Y)).2 e d2;exact⟨Q,S,Z,d7,n5,n6,n7⟩
 have h1:∀e∈a0,e≠k:=λe O d2=>by
  obtain⟨_,_,_,_,_,_,z⟩:=d0 e O;obtain⟨w,_,_,_,z⟩:=z (.obj e) (Xh A);have:=b4.zQ
  grind
 have k2:∀e∈a0,∀n,¬m n e:=λe O n T=>by
  obtain⟨a4,b9⟩:=f7 n e T;have L:=(f6 n e a4 T (h1 e O) b9).1 (.obj e) (Xh A);obtain⟨_,_,_,_,_,_,z⟩:=d0 e O;obtain⟨w,_,_,_,z⟩:=z (.obj e) (Xh A)
  grind
 have p3:=g8.size
 obtain⟨Os,k6,h5⟩:∃Os:Xg Obj,Os.length=a0.length/\∀(t:E) e,a0[t]?=C e->∃Q S Z a1,q.heap[e]?=C (Obj.cells Q S Z)/\Bg a1 Q/\Os[t]?=C (Obj.cells a1 S Z):=by
  have c0:∀e:E,∃e6:Obj,e∈a0->∃Q S Z a1,q.heap[e]?=C (Obj.cells Q S Z)/\Bg a1 Q/\e6=Obj.cells a1 S Z:=λe=>by
   by_cases O:e∈a0
   .obtain⟨Q,S,Z,z,⟨a1,a9⟩,_⟩:=d0 e O;exact⟨_,λ_=>⟨Q,S,Z,a1,z,a9,A⟩⟩
   exact⟨.stringIter .empty 0,λz=>absurd z O⟩
  obtain⟨j8,k9⟩:=Classical.axiomOfChoice c0;refine⟨a0.map j8,by simp,λt e O=>?_⟩;obtain⟨Q,S,Z,a1,z,a9,b⟩:=k9 e (Yj O);exact⟨Q,S,Z,a1,z,a9,by grind⟩
 have g1:=Ki m4 k3 k2 k6 (λt e O=>by
  obtain⟨Q,S,Z,a1,z,a9,b⟩:=h5 t e O
  exact⟨_,_,b,by rw[h6,Xx (h1 e (Yj O))];exact z,.cells S ⟨a9.1,λw b6 j2 c0 i8=>a9.2 w b6 j2 c0 i8 _ _⟩ (kS.refl _)⟩)
 obtain⟨a2,h4⟩:∃a2,a2=a6.heap.size:=by simp
 rw[<-h4]at g1
 have e1:∀H:E,∃a5:Xe,H<d*10->∃X,b0[H]?=C X/\an h (Ren.plus m a2 a0) a5 X/\(Plain X->a5=X)/\∀R N b7,X=Xm (C ⟨R,0,F⟩) N b7->∃t,a0[t]?=C R/\a5=Xm (C ⟨a2+t,0,F⟩) N b7:=by
  intro H;by_cases D:H<d*10
  .have Y:H/10<d:=by omega
   have g0:H/10*10+H%10=H:=by omega
   have plain:∀X,b0[H]?=C X->Plain X->∃a5:Xe,H<d*10->∃X,b0[H]?=C X/\an h (Ren.plus m a2 a0) a5 X/\(Plain X->a5=X)/\∀R N b7,X=Xm (C ⟨R,0,F⟩) N b7->∃t,a0[t]?=C R/\a5=Xm (C ⟨a2+t,0,F⟩) N b7:=by intro X L c8;refine⟨X,λ_=>⟨X,L,c8.refl _ _,λ_=>rfl,λR N b7 b=>?_⟩⟩;subst b;cases c8
   obtain⟨c6,d6,d7,_⟩:=g5 _ Y;by_cases c9:H%10<8
   .have e0:H%10<(Value.string (a (H/10)).d::(a (H/10)).st.map (.int K ·)).length:=by simp[c6];omega
    have:=d6 _ c9;rw[g0,Yy e0]at this;refine plain _ this ?_;have a3:=aaH e0;rcases XV.1 a3 with a3|a3
    .rw[a3];exact .string _
    obtain⟨j3,_,a9⟩:=YB.1 a3;rw[<-a9];exact .int _ _
   by_cases k1:H%10=9
   .rw[<-k1,g0]at d7;exact plain _ d7 (f4 _ Y)
   have k0:H%10=8:=by omega
   obtain⟨e8,e9⟩:=f9 _ Y;rw[<-k0,g0]at e8 e9;cases d3:g4 (H/10)with
   |none=>exact plain _ (e8 d3).1 (.slice _ _)
   |some R=>
    obtain⟨b1,Q,S,Z,e2,_⟩:=e9 R d3;have a3:=(h2 R).2 ⟨_,abe.2 Y,d3⟩;obtain⟨t,l7⟩:=k_.1 a3;have b2:bC (Ren.plus m a2 a0) ⟨a2+t,0,F⟩ ⟨R,0,F⟩:=⟨Xi ⟨t,A,l7⟩,A,A⟩;refine⟨Xm (C ⟨a2+t,0,F⟩) (a (H/10)).names.length b1,λ_=>⟨_,e2,.slice b2 _ _,λz=>(by cases z),λn2 N b7 b=>?_⟩⟩;cases b
    grind
  exact⟨.nilIface,λz=>absurd z D⟩
 obtain⟨a5,e1⟩:=Classical.axiomOfChoice e1;obtain⟨b3,i0⟩:∃b3:Xk Xe,b3=Xk.ofFn (n:=d*10) λH=>a5 H.1:=by simp
 have i2:b3.size=d*10:=by rw[i0];simp
 have i1:∀H:E,H<d*10->b3[H]?=C (a5 H):=λH D=>by rw[i0];simp[D]
 obtain⟨c7,i7⟩:∃c7:M,c7={a6 with heap:=a6.heap++Os.toArray}:=by simp
 rw[<-i7]at g1;have o7:=(XN.1 AZ).1;have p4:c7.heap.size=a2+Os.length:=by grind
 obtain⟨b5,m9⟩:∃b5:M,b5={c7 with heap:=c7.heap.setIfInBounds p (.cells b3 yA i)}:=by simp
 have g3:∀w:E,b5.heap[w]?=if w=p then C (Xn b3 yA i)else c7.heap[w]?:=λw=>by grind [getElem?_set]
 have m5:aV h (Ren.plus m a2 a0) b5 q:=by
  refine g1.put (Xh xn) (.cells yA ⟨i2.trans n4.symm,λw b6 j2 c0 i8=>?_⟩ (Xh n3)) g3 (λw=>?_) (by rw[m9]) h7.symm
  .have e4:w<d*10:=by have:=(XN.1 c0).1;omega
   rw[i1 w e4]at c0;cases c0
   grind
  by_cases e4:w=k
  .rw[XC e4,e4,q1]
  grind
 have p2:∀n,f n->n≠p:=λn a8 d2=>i4 (d2▸g2 n a8);have NJ:∀n:E,n<c.heap.size->c7.heap[n]?=a6.heap[n]?:=λn a8=>by grind
 have i5:∀n,f n->b5.heap[n]?=c.heap[n]?:=λn a8=>by
  obtain⟨a4,d6,_⟩:=d1.cO n a8
  grind
 have h8:Base P (Ren.plus m a2 a0):=by
  refine⟨λj9 L c8=>Xh (d1.base.1 j9 L c8),?_⟩;rintro n e(z|⟨t,rfl,Y⟩)
  .exact d1.base.2 n e z
  obtain⟨_,_,_,_,_,z,_⟩:=d0 e (Yj Y);have L:=d1.base.types;obtain⟨a4,_,c8,_⟩:=e3.obj _ _ L;have:=(XN.1 c8).1;omega
 have h3:=d1.keep h8 i5
 have l2:cV f m c (Ren.plus m a2 a0) b5:=⟨Ren.Hs _ _ _,λb6 j3 z=>by
  rcases z with z|⟨t,rfl,_⟩
  .exact Xh z
  omega,by grind,i5⟩
 have o9:=Hy b8
 have m7:=wO (a:=l) b8.bg (r:=f) (m:=h) (O:=F) h8 m5 h3.cO (by
  rintro n e(T|⟨t,rfl,Y⟩) N e5
  .by_cases O:e=k
   .left;subst O;have L:U N=.void\/U N=.iM 0\/∃w,g.lo<=w/\w<g.hi/\U N=.iM w:=by
     rcases b4.KU N (by rw[i3];exact e5)with z|z|⟨w,_,_,d4,d5,_,_,z⟩
     .left;rw[z];exact b4.zQ
     .exact Xi (Xh z)
     grind
    have m3:U N≠.ro:=by rcases L with L|L|⟨w,_,_,L⟩<;>rw[L]<;>simp
    refine⟨by rcases L with L|L|⟨w,_,_,L⟩<;>rw[L]<;>simp,λD=>?_⟩;rcases D with⟨f1,f8,f3⟩|D
    .exact m3 (b8.bF.jP.ro N f1 f8 f3)
    cases l with
    |none=>exact D
    |some b6=>
     obtain⟨H,f0,t⟩:=b6;obtain⟨n1,i9⟩:=b4.SL H f0 t A;rcases D with D|D
     .rcases L with L|L|⟨w,d4,d5,L⟩
      .rw[L]at D;cases D
      .rw[L]at D;cases D;omega
      rw[L]at D;cases D;exact i9 ⟨d4,d5⟩
     grind
   obtain⟨a4,b9⟩:=f7 n e T;have L:=(f6 n e a4 T O b9).1 N e5;by_cases b2:f n
   .exact Xi ⟨L,b2,n,f5.le _ _ ⟨g2 n b2,T⟩⟩
   left;refine⟨by rw[L];simp,λD=>?_⟩;refine i6 n e T N e5 b2 ?_;rcases D with D|D
   .exact Xh D
   cases l with
   |none=>exact D.elim
   |some b6=>
    rcases D with D|D
    .grind
    exact Xi (Xi D)
  .left;obtain⟨_,_,_,_,_,_,z⟩:=d0 e (Yj Y);obtain⟨w,n0,d4,d5,z⟩:=z N e5;refine⟨by rw[z];simp,λD=>?_⟩;rcases D with⟨f1,f8,f3⟩|D
   .have:=b8.bF.jP.ro N f1 f8 f3
    grind
   cases l with
   |none=>exact D
   |some b6=>
    obtain⟨H,f0,t⟩:=b6;obtain⟨n1,i9⟩:=b4.SL H f0 t A;rcases D with D|D
    .grind
    grind) (by
  rintro n e(T|⟨t,rfl,Y⟩) O
  .have b2:=Classical.byContradiction λb2=>i6 n e T (.obj e) (Xh A) b2 (Xh ⟨e,Xh A,O⟩);exact b8.bg.low.2 n e (f5.le _ _ ⟨g2 n b2,T⟩) O
  obtain⟨_,_,_,_,_,_,z⟩:=d0 e (Yj Y);obtain⟨w,n0,d4,d5,z⟩:=z (.obj e) (Xh A);have:=b8.bF.jP.ro (.obj e) e (Xh A) O
  grind)
 refine⟨_,_,b5,Ah b8 A rfl m7 (holds_of (e:=b) k4 λn e a8 T=>?_),h3,l2,λn a8 m1=>?_,b3,i,by grind,i2,l0,λt Y=>?_⟩
 ·
  rcases f5.fresh n e T with z|z
  .exact Xh z.2
  rw[dh]at z;obtain⟨a4,d6,_⟩:=d1.cO n a8
  grind
 .rw[g3,Xx m1,NJ n a8];exact g8.heap n
 obtain⟨c6,d6,d7,_⟩:=g5 t Y;have h9:∀j,j<10->b3[t*10+j]?=C (a5 (t*10+j)):=λj l6=>i1 _ (by omega);obtain⟨e8,e9⟩:=f9 t Y
 have l9:∃sl,a5 (t*10+8)=sl/\gr (a t).names c.heap.size sl b5:=by
  obtain⟨X,a7,f2,d9,j7⟩:=e1 (t*10+8) (by omega);cases d3:g4 t with
  |none=>obtain⟨e2,g6⟩:=e8 d3;rw[e2]at a7;cases a7;exact⟨_,d9 (.slice _ _),Xh ⟨A,g6⟩⟩
  |some R=>obtain⟨b1,Q,S,Z,e2,g6,n8,n9,o0,p7,o1,_⟩:=e9 R d3;rw[e2]at a7;cases a7;obtain⟨w,d4,d5⟩:=j7 R _ _ A;obtain⟨o4,p9,g9,a1,j4,j5,o2⟩:=h5 w R d4;rw[g6]at j4;cases j4;refine⟨_,d5,Xi ⟨a2+w,b1,a1,S,Z,A,by omega,?_,n8,n9,by rw[j5.1];exact o0,λw e7 m6=>j5.string (o1 w e7 m6)⟩⟩;rw[g3,Xx (by omega),i7,h4];exact Kh o2
 obtain⟨sl,m8,m2⟩:=l9;refine⟨_,cf.mk' c6 m2,λj l6=>?_,?_⟩
 .rw[h9 j (by omega)];have l8:(Value.string (a t).d::((a t).st.map (.int K ·)++[sl])).toArray[j]?=(Value.string (a t).d::((a t).st.map (.int K ·)++[sl]))[j]?:=by simp
  rw[l8];by_cases c9:j<8
  .rw[<-Yp,Zw (by simp[c6];omega),<-d6 j c9];obtain⟨X,a7,f2,d9,_⟩:=e1 (t*10+j) (by omega);rw[a7];have e0:j<(Value.string (a t).d::(a t).st.map (.int K ·)).length:=by simp[c6];omega
   have h0:=d6 j c9;rw[a7,Yy e0]at h0;cases h0
   congr 1
   apply d9;have a3:=aaH e0;rcases XV.1 a3 with a3|a3
   .rw[a3];exact .string _
   obtain⟨j3,_,a9⟩:=YB.1 a3;rw[<-a9];exact .int _ _
  obtain rfl:j=8:=by omega
  rw[m8,<-Yp,YP (by simp[c6])];simp[c6]
 rw[h9 9 (by omega)];obtain⟨X,a7,f2,d9,_⟩:=e1 (t*10+9) (by omega);rw[d7]at a7;cases a7;rw[d9 (f4 t Y)]
end
variable{z:dB}{a:M}{i:Xt}{p:Xe}
section
variable{l:cZ}{e:Set}{d b:E->Prop}{r:Ren}{q n:M}{x t:Xt}{c:dm}{k u o:E}
def KZ(b:E->Prop)(c:E):E->Prop:=λa=>b a\/a=c
def nt(b:E->Prop)(m:Ren)(e d:E):Ren:=λa c=>(b a/\m a c)\/(a=e/\c=d)
noncomputable def dJ(b:E->Prop)(a:M)(p:Xe)(c:Xq):M:={cP b a with heap:=(cP b a).heap.push (.cells #[p] c (0,1))}
def zp(d:E->Prop)(a:M):Prop:=∀b,d b->∀c f e,a.heap[b]?=C (Obj.cells c f e)->¬aT c
theorem xj{e:Xq}{c:E}(d:c<a.heap.size):(dJ b a p e).heap[c]?=(cP b a).heap[c]?:=by
 have:c<(cP b a).heap.size:=by rw[dh];exact d
 show((cP b a).heap.push _)[c]?=_
 grind
theorem AX{c:Xq}:(dJ b a p c).heap[a.heap.size]?=C (Xn #[p] c (0,1)):=by
 show((cP b a).heap.push _)[a.heap.size]?=_
 grind [dh]
theorem JA{a7:E}{T:E}{b3:Xq}{f2:E×E}(l4:i.status=.running)(l6:∀U,stepG P J i U=.spawn x t U #[])(k2:t.status=.running)
 (b1:aV h m a n)(b4:Base P m)(e1:jw d a)(f5:jw b a)(g3:∀i,(0<i\/i=P.globals.size)->i<=P.globals.size->d i/\b i)(q5:zp (λg=>b g/\¬d g) a)
 (d0:cV d (λg v=>d g/\m g v) (cP d a) r q)(k8:c.D.gh=Fe m k n)(k6:c.D.g0=C n)(e2:c.D.gb=k)(xn:m u k)(l0:¬d u)(k9:¬b u)(g8:∀g,f g->d g)(j2:kg l f)
 (i9:q.heap[o]?=C (Xn #[Xd K a7] b3 f2))(p6:f2.1=f2.2)(f4:r o T)(j0:¬d o)(l7:c.wt=0)(q6:c.pend=1)(q8:c.vb=c.hi-c.lo)(k5:c.hi+1<c.lo+1000000)
 (l3:RA m)
 (l5:jx P e (KZ b a.heap.size) (tW c.D) (kV P c.D (c.fin c.hi) c.hi e (KZ b a.heap.size) s []) (nt b m a.heap.size T) (dJ b a (Xd K a7) b3) t)
 (next:sW P l (C {c with pend:=0,vb:=c.vb+1,hi:=c.hi+1}) z h d (λg v=>d g/\m g v) (cP d a) x):sW P l (C c) z h d r q i:=by
 classical
 intro a0 Q U sl c0 a8 a1;refine kW (s:=aj P l) l4 (λa0 Q U sl c0 a8 a1=>?_) a0 Q U sl c0 a8 a1;have hrel:=a1.bg.rel;simp only at hrel;have n7:=a1.bg.dv;simp only at n7;obtain⟨_,_,j7,_⟩:=a1.ok;have b7:=j7.wg c A;have p8:c.hi=Q.size:=b7.tT.2.2.1
 have e3:∀g v,m g v->v≠k->(∀w,az w v->a8 w=.ro)/\∃W,n.heap[v]?=C W/\Bf W U v:=λg v N d6=>by obtain⟨W,b2,_,b0,_⟩:=b1.obj g v N;obtain⟨q1,d3⟩:=b7.gh.2 v b2 (by rw[k8];exact⟨⟨g,N⟩,d6,b0⟩);simp_all
 have g7:U.os=n.os:=b7.gh.1 n k6;have d7:∀{g v:E},b g->m g v->v≠k:=λL N a2=>k9 ((b1.inj _ _ _ _ N xn).2 a2▸L);have g5:∀{g v:E},d g->m g v->v≠k:=λL N a2=>l0 ((b1.inj _ _ _ _ N xn).2 a2▸L)
 have e0:∀w,az w T->a8 w=.iM 0:=λw O=>by grind
 have h7:∀{g v:E},m g v->v≠k->v≠T:=λN d6 a2=>by have H:=(e3 _ _ N d6).1 (.obj T) (a2▸Xh A);rw[e0 _ (.inl A)]at H;cases H
 have e7:T≠k:=λa2=>by have H:=e0 (.obj T) (Xh A);have R:=b7.zQ;simp_all
 have p2:a.heap.size<=o:=by
  rcases d0.fresh _ _ f4 with D|D
  .exact absurd D.1 j0
  simp_all [dh]
 have p7:P.globals.size<a.heap.size:=by
  obtain⟨W,_,R,_⟩:=b1.obj _ _ b4.types
  grind
 have p3:P.globals.size<=T:=by have:=(a1.bg.base.2 o T f4).2;omega
 let d5:Loc->Prop:=λw=>∃X Y,w=.cell ⟨k,X,Y⟩/\c.D.own Q.size X
 let a4:Loc->Own:=λw=>if az w T then .ro else if d5 w then .iM Q.size else a8 w
 have m4:∀w,az w T->a4 w=.ro:=λw O=>XC O
 have m5:∀w,d5 w->a4 w=.iM Q.size:=λw O=>by
  show(if _ then _ else if _ then _ else _)=_
  rw[Xx (λD=>by
   obtain⟨X,Y,rfl,_⟩:=O
   exact e7 (de D (.inr ⟨_,A,A⟩))),XC O]
 have e8:∀w,¬az w T->¬d5 w->a4 w=a8 w:=λw H R=>by grind
 have m6:∀w,d5 w->a8 w=.iM 0:=by
  rintro w⟨X,Y,rfl,a5⟩;rcases b7.KU (.cell ⟨k,X,Y⟩) (by rw[e2];exact Xi ⟨_,A,A⟩)with D|D|⟨y,h8,i2,m0,m1,D,i8,_⟩
  .cases D
  .exact D
  cases D;have:=b7.apart _ _ _ i8 a5;omega
 have h9:∀g v,m g v->v≠k->∀w,az w v->a4 w=.ro:=λg v N d6 w O=>by grind
 have j3:iU a8 a4:=by
  intro w c6
  grind
 have j5:∀w,az w c.D.Wg->a4 w=a8 w:=λw O=>e8 w (λD=>by
  have H:=e0 w D
  rw[b7.rJ w O]at H;cases H) (λe4=>by
  have H:=m6 w e4
  rw[b7.rJ w O]at H;cases H)
 obtain⟨Tr,p4⟩:=l5.tree;have m3:∀g,d g->q.heap[g]?=(cP d a).heap[g]?:=d0.keep
 have n1:aV h (λg v=>d g/\m g v) (cP d a) U:={
  inj:=λg d4 v f0 H R=>b1.inj g d4 v f0 H.2 R.2
  os:=by obtain⟨Z,b0⟩:a.os=n.os/\U.os=n.os:=⟨b1.os,g7⟩;show a.os=U.os;rw[Z,b0]
  obj:=by
   rintro g v⟨S,N⟩;obtain⟨W,b2,Z,b0,c8⟩:=hrel.obj g v (d0.le _ _ ⟨S,N⟩);rw[m3 g S]at Z;refine⟨W,b2,Z,b0,?_⟩
   have b5:∀g v,d g->r g v->d g/\m g v:=λg v L j6=>⟨L,by
    rcases d0.fresh g v j6 with D|D
    .exact D.2
    rw[dh]at D
    rcases e1 g L with⟨_,_,_,g0,_⟩|⟨_,_,g0,_⟩<;>(simp_all)⟩
   rcases e1 g S with⟨a9,r9,o8,q1,d3,m7,i0,_⟩|⟨o5,d2,q1,d3⟩
   .rw[dW S q1]at Z;cases Z;cases c8 with
    |cells n8 d9 c9=>
     refine .cells _ ⟨d9.1,λy a3 i4 h2 e6=>?_⟩ c9;have h4:=h2;rw[Yk]at h4;obtain⟨i5,q9,l9⟩:=YE.1 h4;refine an.Ts b5 ?_ (d9.2 y a3 i4 h2 e6);rw[<-l9];by_cases a5:aR d i5
     .simp_all [cT]
     rw[px a5];exact .bS
   rw[nz S,q1]at Z;cases Z;cases c8 with
   |map d2 O=>exact .map d2 (Cs O λa0 g1 a2 e9=>⟨an.Ts b5 (d3 a0 a2).1 e9.1,an.Ts b5 (d3 a0 a2).2 e9.2.1,e9.2.2⟩)}
 have n5:∀a6,oY a6->aG P (c0++a6) U a4 0 ⟨h,λg v=>d g/\m g v,cP d a,d,C {c with pend:=0,vb:=c.vb+1,hi:=c.hi+1}⟩:=λa6 d8=>{
  base:=kX b4 λi H R=>(g3 i H R).1
  low:=⟨a1.bg.low.1,λg v N b4=>a1.bg.low.2 g v (d0.le _ _ N) b4⟩
  rel:=n1
  cO:=jJ e1
  dv:=λg v N w O=>Xi ⟨h9 g v N.2 (g5 N.1 N.2) w O,N.1⟩
  dV:=λg v N w O a5=>(a1.bF.row w (bQ O) ((e3 g v N.2 (g5 N.1 N.2)).1 w O)).app λf8 f7 a3 S _ _=>(d8.touch f8 f7 a3 S).elim}
 have f3:∃f1,U.heap[T]?=C (Xn #[Xd K a7] b3 f1)/\f1.1=f1.2:=by
  obtain⟨W,b2,Z,b0,c8⟩:=hrel.obj _ _ f4;rw[i9]at Z;cases Z;cases c8 with
  |cells n8 d9 c9=>
   rename_i c2 o6;have g9:=d9.1;simp at g9;have S:=d9.2 0 (Xd K a7) c2[0] (by simp) (XP (by omega));have k0:c2=#[Xd K a7]:=by
    apply aaj (by simp[g9]);intro y b8 f6;obtain rfl:y=0:=by omega
    simp only[(Plain.int K a7).eq S];rfl
   rw[k0]at b0;refine⟨_,b0,?_⟩;rcases c9 with c9|⟨c9,_⟩
   .exact c9
   omega
 obtain⟨o7,f3,k4⟩:=f3
 have n4:∀g v W,b g->m g v->(cP b a).heap[g]?=C W->∃b2,U.heap[v]?=C b2/\gP e (λg v=>b g/\m g v) W b2:=λg v W L N j8=>by obtain⟨r5,r6,i1,m8,m9⟩:=(b1.cP (Sp:=e) f5).obj g v ⟨L,N⟩;rw[j8]at i1;cases i1;obtain⟨_,b2,H,R⟩:=e3 g v N (d7 L N);rw[m8]at H;cases H;exact⟨_,R,m9⟩
 have n2:aV e (nt b m a.heap.size T) (dJ b a (Xd K a7) b3) U:=by
  have d1:=b1.cP (Sp:=e) f5
  have lt:∀{g v:E},b g/\m g v->g<a.heap.size:=λD=>by
   obtain⟨_,_,Z,_⟩:=b1.obj _ _ D.2
   grind
  refine⟨?_,?_,?_⟩
  .rintro g d4 v f0(H|⟨rfl,rfl⟩)(R|⟨rfl,rfl⟩)
   .exact d1.inj g d4 v f0 H R
   .have:=lt H;exact⟨λa0=>by omega,λa0=>absurd a0 (h7 H.2 (d7 H.1 H.2))⟩
   .have:=lt R;exact⟨λa0=>by omega,λa0=>absurd a0.symm (h7 R.2 (d7 R.1 R.2))⟩
   simp
  .rintro g v(H|⟨rfl,rfl⟩)
   .obtain⟨W,_,Z,_⟩:=d1.obj g v H;obtain⟨b2,b0,c8⟩:=n4 g v W H.1 H.2 Z;exact⟨W,b2,by grind [xj],b0,c8.mono λa3 i5 D=>Xh D⟩
   exact⟨_,_,AX,f3,.cells _ ⟨A,λy a3 i4 S e5=>by
    rw[S]at e5;cases e5;have:y=0:=by grind
    subst this;simp at S
    rw[<-S];exact .int _ _⟩ (Xh k4)⟩
  show a.os=U.os;rw[b1.os,g7]
 have n3:my e (KZ b a.heap.size) (dJ b a (Xd K a7) b3):=by
  rintro g(L|rfl)
  .obtain⟨W,H,R⟩:=jJ (h:=e) f5 g L
   grind [dh,xj]
  exact⟨_,AX,A,by simp,by rintro⟨d2,c7,b5⟩;grind⟩
 have n6:∀a6,oY a6->(∀d2,Knows c0 0 d2->Knows (c0++a6) Q.size d2)->aG P (c0++a6) U a4 Q.size ⟨e,nt b m a.heap.size T,dJ b a (Xd K a7) b3,KZ b a.heap.size,F⟩:=λa6 d8 b5=>{
  base:=⟨λi H R=>Xh ⟨(g3 i H R).2,b4.1 i H R⟩,by
   rintro g v(D|⟨rfl,rfl⟩)
   .exact b4.2 g v D.2
   omega⟩
  low:=⟨a1.bg.low.1,by
   rintro g v(D|⟨rfl,rfl⟩) b4
   .exact l3 g v D.2 b4
   have:=a1.bF.jP.ro (.obj _) _ (Xh A) b4
   rw[e0 _ (.inl A)]at this;cases this⟩
  rel:=n2
  cO:=n3
  dv:=by
   rintro g v(D|⟨rfl,rfl⟩) w O
   .exact Xi ⟨h9 g v D.2 (d7 D.1 D.2) w O,Xh D.1⟩
   exact Xi ⟨m4 w O,Xi A⟩
  dV:=by
   rintro g v N w O a5 y a3 S h3 l8;obtain⟨f8,f7,e5⟩:=ZL S;rcases XU f7 with⟨_,q2⟩|⟨_,l2⟩
   .have e6:touchAt c0 y=C a3:=by simp_all [YM]
    rcases N with D|⟨rfl,rfl⟩
    .exact b5 _ (a1.bF.row w (bQ O) ((e3 g v D.2 (d7 D.1 D.2)).1 w O) y a3 e6 h3 l8)
    exact b5 _ (a1.bF.mine w 0 (bQ O) (e0 w O) y a3 e6 h3)
   exact(d8.touch f8 l2 a3 e5).elim}
 have Y:=vT (h:=l) (m:=l) (sl:=sl) (f:=⟨h,λg v=>d g/\m g v,cP d a,d,C {c with pend:=0,vb:=c.vb+1,hi:=c.hi+1}⟩) (b:=a4) a1 (l6 U) j3
  (a1:=.wk (.work s [] Tr ⟨e,nt b m a.heap.size T,dJ b a (Xd K a7) b3,KZ b a.heap.size,F⟩))
  (λw c6 d6=>by grind)
  n5
  (λa6 d8 b5 k3 q7=>⟨_,A,λf9 d1=>(by cases d1),k2,k3,n6 a6 d8 b5,λf9 d1=>(by cases d1),by simp_all⟩)
  (λo2 p5=>by simp_all)
  (holds_of (e:=a0) j2 λg v L N=>⟨g8 g L,by
    rcases d0.fresh g v N with D|D
    .exact D.2
    rw[dh]at D
    rcases e1 g (g8 g L)with⟨_,_,_,g0,_⟩|⟨_,_,g0,_⟩<;>(simp_all)⟩)
  (λb6 g4 o1 j4=>?_) (Xh A) (λb6 g4 h1=>?_)
 .obtain⟨g2,a6,g1,h5,h6⟩:=Y;exact⟨g2,U,a6,h5,next g1 g2 U sl (c0++a6) a4 h6⟩
 .cases j4;have L:=g4.wg c A;have q3:0<Q.size:=(XN.1 a1.me).1;have old:∀y,y≠Q.size->(if y=Q.size then aF.wk (.work s [] Tr ⟨e,nt b m a.heap.size T,dJ b a (Xd K a7) b3,KZ b a.heap.size,F⟩)else b6 y)=b6 y:=λy b8=>Xx b8
  have h0:(sumTo (Q.size+1) λy=>(if y=Q.size then aF.wk (.work s [] Tr ⟨e,nt b m a.heap.size T,dJ b a (Xd K a7) b3,KZ b a.heap.size,F⟩)else b6 y).cnt)=(sumTo Q.size λy=>(b6 y).cnt)+1:=by
   have Z:∀c7,c7<=Q.size->(sumTo c7 λy=>(if y=Q.size then aF.wk (.work s [] Tr ⟨e,nt b m a.heap.size T,dJ b a (Xd K a7) b3,KZ b a.heap.size,F⟩)else b6 y).cnt)=sumTo c7 λy=>(b6 y).cnt:=by
    intro c7 q4
    induction c7 with
    |zero=>rfl
    |succ c7 m2=>simp only[sumTo];rw[m2 (by omega),Xx (by omega)]
   simp only[sumTo];rw[Z _ (XS _)];rfl
  have k1:∀y X Y,0<y->y<Q.size->c.D.own y X->a4 (.cell ⟨c.D.gb,X,Y⟩)=a8 (.cell ⟨c.D.gb,X,Y⟩):=λy X Y b8 f6 a5=>e8 _ (λD=>e7 (by rw[<-e2];exact de D (Xi ⟨_,A,A⟩))) λ⟨h8,i2,a2,g6⟩=>by cases a2;have:=L.apart _ _ _ a5 g6;omega
  have k7:a4 (.obj c.D.gb)=.void:=by rw[e8 _ (λD=>e7 (by rw[<-e2];exact de D (.inl A))) λ⟨h8,i2,a2,g6⟩=>by cases a2];exact L.zQ
  refine{
   zero:=by simp only[Xx (show¬(0=Q.size)by omega)];exact L.zero
   mode:= ?_
   rJ:=λw O=>by rw[j5 w O];exact L.rJ w O
   zQ:=k7
   own:=λy a3 H R S X Y a5=>?_
   gb:=L.gb
   gv:=L.gv
   KV:= ?_
   ne:=L.ne
   apart:=L.apart
   yt:=k5
   bound:=by rw[h0];exact E.succ_le_succ L.bound
   tT:=⟨L.tT.1,E.le_succ_of_le L.tT.2.1,by simp_all,λy H R=>?_⟩
   Ia:=λy a3 H R S=>?_
   gh:=⟨L.gh.1,λv W j9=>?_⟩
   KU:=λw O=>?_}
  .rw[h0];refine .opn l7 (YA _) (λj p9 q0=>?_) ?_
   .by_cases l1:j=Q.size
    .simp only[XC l1];rfl
    have c6:=L.mode;generalize (sumTo Q.size λy=>(b6 y).cnt)=V at c6;cases c6 with
    |opn g f9 v a9=>grind
    |reg g d4 v a9=>omega
    |last y g v a9 i6 a0 i7=>omega
    |fin g v a9=>omega
    |By g v a9=>omega
   have c6:=L.mode;generalize (sumTo Q.size λy=>(b6 y).cnt)=V at c6⊢
   cases c6 with
   |opn g f9 v a9=>simp_all
   |reg g d4 v a9=>omega
   |last y g v a9 i6 a0 i7=>omega
   |fin g v a9=>omega
   |By g v a9=>omega
  .by_cases b9:y=Q.size
   .grind
   rw[old y b9]at S;rw[k1 y X Y H (by omega) a5];exact L.own y a3 H (by omega) S X Y a5
  .have H:=L.KV
   grind
  .have R:y<c.hi+1:=R;by_cases b9:y=Q.size
   .simp_all
   rw[old y b9];exact L.tT.2.2.2 y H (by omega)
  .by_cases b9:y=Q.size
   .refine⟨by have:=L.tT.2.1;simp_all,by simp_all⟩
   rw[old y b9]at S;obtain⟨h5,h6⟩:=L.Ia y a3 H (by omega) S;simp_all
  .obtain⟨q1,d3⟩:=L.gh.2 v W j9
   grind
  have j1:¬az w T:=λD=>e7 ((de D O).trans e2);by_cases e4:d5 w
  .refine Xi (Xi ⟨Q.size,?_⟩);obtain⟨X,Y,a2,a5⟩:=e4;exact⟨X,Y,by have:=L.tT.2.1;simp_all,by simp_all,by simp_all,a5,m5 w ⟨X,Y,a2,a5⟩⟩
  rw[e8 w j1 e4];rcases L.KU w O with D|D|⟨y,X,Y,m0,m1,r0,r1,r2⟩
  .exact Xh D
  .exact Xi (Xh D)
  grind
 cases l with
 |none=>
  intro y b8 f6;simp only[aa2,Yr]at f6;by_cases b9:y=Q.size
  .simp only[XC b9];rfl
  simp only[Xx b9];exact h1 y b8 (by omega)
 |some a3=>obtain⟨q1,d3,m7,i0⟩:=h1;exact⟨q1,by simp;omega,by grind,i0⟩
end
end
variable{h:Set}{c:M}{l:Xr}{p:Xg Xr}{n:E}{s:Xg E}{e:Oper}{g:Xu}
section
variable{main:Xo}
variable{t:Rt}
def uH(a:Xe->M->Prop):Result Next->Prop
 |.ok (.value b) c=>a b c
 |_=>False
theorem Qg(O:Good P h)(Z:h.fr l.fn=J)(a1:l.kind≠.early)(R:D[n]?=C e)(a7:Region.wanted e (yielded D d.tmps)=J)(a5:jd P h.fn h.bi h.bZ e.op=J)(v:Inv P h f m c)(S:ar h m t d g)
 {L:Xe->M->Prop}(b:∀T,uH L ((execOp d.eval e).run P {c with tape:=T}))(a2:∀u U,L u U->∀a,f a->U.heap[a]?=c.heap[a]?)(Q:aV h m c q):
 ∃x u H i y new z,stepG P main (rg (l.at g (Xv D (n::s)::r)) p) q=.go (rg (l.at (g.put e.dst H) (Xv D s::r)) p) y (kept z).toArray/\(execOp g.eval e).runT P q #[]=(.ok (.value H) y,z.toArray)/\
  bD h m x c i q y new z/\(∀a,f a->i.heap[a]?=c.heap[a]?)/\(∀w∈new,w.write=J->∀d,f d->w.loc≠.obj d/\∀a,w.loc=.cell a->a.block≠d)/\Inv P h f x i/\cV f m c x i/\an h x u H/\Tp (L u) i:=by
 obtain⟨b2,W⟩:=g;have a8:Region.wanted e (yielded D b2)=J:=by rw[<-ga S.tmps];exact a7
 have a4:(D[n]?).bind (·.dst)=e.dst:=by rw[R];rfl
 obtain⟨x,b4,b5,i,y,new,z,w,a3,o,k⟩:=Aq O v.base (lF v.base S.tmps d.defers W) a5 (y:=uH L) (by intro b c a0;exact a0) (.all b) Q;have Y:=v.base.jS Q o;cases a3 with
 |@value u H a6=>obtain⟨T,X⟩:=k.one;obtain⟨N,b1⟩:=iE v.cO v.iQ o ⟨i,.refl _,λa a9=>a2 u _ X a a9⟩;refine⟨x,u,H,i,y,new,z,?_,w,o,N,b1,v.keep Y N,⟨o.le,λa b3 b0=>(o.fresh a b3 b0).imp id (·.1),o.size,N⟩,a6,k⟩;rw[stepG_value O Z a1 o.lz R a8 (.inl w),YK,a4]
 |skip=>exact(k.one).elim λ_ b=>b.elim
 |defer=>exact(k.one).elim λ_ b=>b.elim
 |enter=>exact(k.one).elim λ_ b=>b.elim
 |round=>exact(k.one).elim λ_ b=>b.elim
 |recover=>exact(k.one).elim λ_ b=>b.elim
end
section
variable[Inhabited aM]
theorem iW.tape{b:PD}:∀(a:E)(i:Ren)(g:M)(t:E->Question->E)(c:Xt),iW P b h f a i {g with tape:=t} c->iW P b h f a i g c
 |0,_,_,_,_,d=>d
 |a+1,i,g,t,c,d=>by obtain⟨l,q,r,m,n,o,p⟩:=d;exact⟨l,q,r,λk e=>m k ⟨e.inj,e.obj,e.os⟩,n,o,(yw P h f (IQ b) (iW P b h f a) (iW.tape a)).tape p⟩
def fO(P:Xy)(a:PD)(h:Set)(f:E->Prop)(b:E):Goal P h Xf f:=yw P h f (IQ a) (iW P a h f b) (iW.tape b)
end
variable{a:Xr}{c:Xg Xr}
section
variable{main:Xo}{f:Xk Xe}{d:Xg Deferred}{e:Xg Item}
def cC(a:Xk Xq)(d:Xq)(c:E)(b:Xk Xo):Deferred:={target:=.builtin .close a d b,args:=#[.chan (C c)]}
theorem EK{g:Xk Xq}{h:Xq}{i:Xk Xo}{b l n m:E}{k:Xk Xe}{o:Xo}(H:∀fn,P.funcs[a.fn]?=C fn->fn.norace=Xf)(r:q.heap[b]?=C (.chan l k Xf n m o)):
 stepG P main (rg {a.at ⟨f,cC g h b i::d⟩ e with mode:=.returning} c) q=.go (rg {a.at ⟨f,d⟩ e with mode:=.returning} c) (q.setChan b l k J n m o) #[⟨.obj b,Xf,J⟩,⟨.obj b,J,J⟩]:=by
 have t:(invoke (cC g h b i).target (cC g h b i).args)=(do pure (Next.value (<-Builtin.close_ g h #[.chan (C b)])):Xz Next):=A
 have p:(invoke (cC g h b i).target (cC g h b i).args).runT P q #[]=(.ok (.value (.tuple #[])) (q.setChan b l k J n m o),#[⟨.obj b,Xf,J⟩,⟨.obj b,J,J⟩]):=by
  rw[t];have s:=run_close_open (P:=P) (w:=q) g h r;have z:=events_close_open (P:=P) (w:=q) (es:=#[]) g h r;refine V_ ?_ ?_
  .simp[s,M.setChan]
  simp_all
 have w:seen P a.fn #[(⟨.obj b,Xf,J⟩:XF),⟨.obj b,J,J⟩]=#[⟨.obj b,Xf,J⟩,⟨.obj b,J,J⟩]:=by simp[seen]
 have u:(invoke (.builtin .close g h i) #[.chan (C b)]).run P q=.ok (.value (.tuple #[])) (q.setChan b l k J n m o):=by have:=YU Prod.fst p;rw[aaT]at this;exact this
 have v:(invoke (.builtin .close g h i) #[.chan (C b)]).events P q #[]=#[⟨.obj b,Xf,J⟩,⟨.obj b,J,J⟩]:=YU Prod.snd p;rw[ia (by simp)];simp[unwind,callDeferred,Frame.at,cC,u,v,w,GStep.after,rg]
end
section
variable{main:Xo}{c:Xk Xe}{d:Xg Item}
def dx(P:Xy):Xr:={(default:Xr)with fn:=P.funcs.size,defers:=[],mode:=.panicking [goexitEntry]}
theorem vf{b:XI}{fn:Func}{d:XG}{a c:Xk Xe}(g:P.funcs[b]?=C fn)(h:(fn.name== "runtime.NumGoroutine")=Xf)(f:fn.body=C d):
 stepG P main (born P {target:=.fn (.func b) c,args:=a}) q=.go (rg (Frame.enter P b (a++c) .deferred) [dx P]) q:=by
 have e:¬fn.name= "runtime.NumGoroutine":=by simp_all
 simp[born,stepG,unwind,callDeferred,invoke,callFunc,g,e,f,GStep.after,aX,rg,dx]
theorem yj{l:Xg Deferred}{fn:Func}(k:a.kind=.deferred)(i:P.funcs[a.fn]?=C fn)(e:fn.results=#[]):QuitsD P 2 0 (rg {a.at ⟨c,[]⟩ d with mode:=.returning} [dx P]):=by
 refine .ctl A (g':=rg (dx P) []) (λb=>?_) (.ctl A (g':={rg (dx P) []with status:=.finished}) (λb=>?_) ⟨A,A⟩)
 .have f:(results fn c).run P b=.ok (.tuple #[]) b:=by simp[results,e]
  have g:(results fn c).events P b #[]=#[]:=by simp[results,e]
  simp[rg,stepG,unwind,doReturn,Frame.at,k,i,f,g,seen,GStep.after,dx,goexitEntry]
 simp[rg,stepG,unwind,dx,Xr.catches,goexitEntry];rfl
end
variable{c:M}
theorem FZ{b:PD}{e:Xk Xe}{d:Xg Item}{g:Xk Xq}{l:Xq}{i:Xk Xo}{fn:Func}
 (p:a.kind=.deferred)(o:P.funcs[a.fn]?=C fn)(q:fn.results=#[])(y:fn.norace=Xf)(r:mayWake P (rg {a.at ⟨e,[cC g l b.rc i]⟩ d with mode:=.returning} [dx P])=J):
 iW P b h f 0 m c (rg {a.at ⟨e,[cC g l b.rc i]⟩ d with mode:=.returning} [dx P]):=
 ⟨A,r,rg {a.at ⟨e,[]⟩ d with mode:=.returning} [dx P],A,λs u t D z H n=>EK (λw x=>by simp_all) n,2,yj (l:=[]) p o q⟩
variable{c:Xr}{a:Xu}{f:Xg Item}{e:Xg Xr}{h:E}{g:Xg E}{d:Oper}
section
variable{main:Xo}
theorem Gu{k i:XJ}{b:E}(n:D[h]?=C d)(p:Region.wanted d (yielded D a.tmps)=J)(m:c.kind≠.early)(s:d.op=.send k i)(t:a.eval k=.chan (C b)):
 stepG P main (rg (c.at a (Xv D (h::g)::f)) e) q=.comm (rg (c.at a (Xv D (h::g)::f)) e) #[scase b (a.eval i) (.tuple #[])] J .send q #[]:=by
 have o:(execOp a.eval d).run P q=.ok (.comm #[scase b (a.eval i) (.tuple #[])] J .send) q:=by simp_all [execOp,scase]
 have l:(execOp a.eval d).events P q #[]=#[]:=by simp_all [execOp]
 have:=stepG_comm (P:=P) (main:=main) (b:=c) (a:=a) (k:=f) (cs:=e) (rest:=g) n p m o;unfold listed at this;rw[l,seen_none]at this;exact this
end
variable{h:Set}{f:E->Prop}{d:M}{e:Xr}{g:Xg Item}{l:Xg Xr}{r:Xu}{c:Xu}{u:E}{v:Xg E}{p:Oper}{s:E}
section
variable[Inhabited aM]
def Kc(D:Xk Oper):E->Xk Xo->Xg (Xg E)
 |0,_=>[[]]
 |a+1,listed=>match Region.ready .any D listed with
  |[]=>[[]]
  |b::c=>(b::c).flatMap λu=>(Kc D a (listed.setIfInBounds u J)).map (u::·)
theorem vR(D:Xk Oper):∀(a b:E)(listed:Xk Xo),Region.linearise.go .any D a b listed []∈Kc D a listed:=by
 intro a
 induction a with
 |zero=>simp[Region.linearise.go,Kc]
 |succ a c=>
  intro b listed
  change (match(Region.ready .any D listed)[b%(Region.ready .any D listed).length]? with
   |some u=>Region.linearise.go .any D a (b/(Region.ready .any D listed).length) (listed.setIfInBounds u J) [u]
   |none=>[].reverse)∈_
  unfold Kc
  grind [Nat.mod_lt,linearise_go_acc]
theorem xV{s:Xo}(b:s=J)(D:Xk Oper)(a:E):Region.schedule s D a∈Kc D D.size (Array.replicate D.size Xf):=by subst b;exact vR D D.size a _
section
variable{main:Xo}{n:Goal P h main f}
variable{t:Rt}
theorem rF{main:Xo}{a:XJ}{i:E}{b:Xk Xq}(z:D[u]?=C p)(O:Region.wanted p (yielded D c.tmps)=J)(U:e.kind≠.early)
 (H:p.op=.defer {callee:=.builtin .close,args:=#[a],argTypes:=b})(hd:p.dst=F)(Q:c.eval a=.chan (C i)):
 ∃k,∀q,stepG P main (rg (e.at c (Xv D (u::v)::g)) l) q=.go (rg (e.at ⟨c.tmps,cC b p.type i k::c.defers⟩ (Xv D v::g)) l) q:=by
 refine⟨#[a].map λ|.const _=>J|_=>Xf,λq=>?_⟩
 have L:(execOp c.eval p).run P q=.ok (.defer (cC b p.type i (#[a].map λ|.const _=>J|_=>Xf))) q:=by simp only[H,resolve,cC,go_sem];simp[Q];rfl
 have w:(execOp c.eval p).events P q #[]=#[]:=by simp_all [execOp,resolve]
 have x:(e.at ⟨c.tmps,cC b p.type i (#[a].map λ|.const _=>J|_=>Xf)::c.defers⟩ (Xv D (u::v)::g)).finish I=e.at (Act.put ⟨c.tmps,cC b p.type i (#[a].map λ|.const _=>J|_=>Xf)::c.defers⟩ p.dst I) (Xv D v::g):=by grind [Frame.finish_at]
 have y:(e.kind==CallKind.early)=Xf:=by simp_all
 have o:e.at ⟨c.tmps,cC b p.type i (#[a].map λ|.const _=>J|_=>Xf)::c.defers⟩ (Xv D v::g)=(e.at ⟨c.tmps,cC b p.type i (#[a].map λ|.const _=>J|_=>Xf)::c.defers⟩ (Xv D (u::v)::g)).finish I:=by rw[x,hd];rfl
 rw[o,show rg (e.at c (Xv D (u::v)::g)) l=Go.Conc.G (e.at c (Xv D (u::v)::g)) l from A,stepG_oper z O];simp[stepG.apply,L,w,Go.Conc.G,Frame.at,y,GStep.after,seen_none,rg]
end
def lT(P:Xy)(h:Set)(a:Xg E)(D:Xk Oper):Xo:=D.toList.all λp=>jd P h.fn h.bi h.bZ p.op&&a.all λg=>p.dst !=C g
theorem nf{t:Rt}{a:Xg E}(c:t.kn.map (·.1)=a)(b:lT P h a D=J):oE P h t D=J:=by grind [lT,oE,Rt.free]
section
variable{main:Xo}{n:Goal P h main f}
variable{t:Rt}
theorem mI(m:Good P h)(o:h.fr e.fn=J)(p:e.kind≠.early){c:Xg Oper}(s:oE P h t c.toArray=J){id:E}{g:Xu->M->Prop}
 (u:∀k,wpList P c.toArray (eP g) c r {d with tape:=k})(q:∀b a,g b a->∀i,f i->a.heap[i]?=d.heap[i]?)(next:∀b a,g b a->N .normal b a):CW n e t l (.region id c.toArray Xf) N r d:=
 vq m o p s (λk=>by simp_all [W_,wpOps_eq_wpList]) q next
theorem MJ{w:XG}{o:Xu->M->Prop}(O:CW n e t l w (eP o) r d)(y:Inv P h f m d)(Q:ar h m t r c)
 (next:∀b i k a,Inv P h f b a->cV f m d b a->ar h b t i k->o i a->n.G b a (rg (e.at k g) l)):n.G m d (rg (e.at c (.code w::g)) l):=
 O m g c y Q λH b i k a z L R x=>by
   cases H with
   |normal=>exact next b i k a z L R x
   |_=>exact x.elim
theorem bz{a b:XG}(f:n.G m d (rg (e.at c (.code a::.code b::g)) l)):n.G m d (rg (e.at c (.code (.seq a b)::g)) l):=
 n.pure A rfl (λq=>by rfl) f
theorem ie{id:E}{a:XG}(b:n.G m d (rg (e.at c (.code a::.inBlock id::g)) l)):n.G m d (rg (e.at c (.code (.block id a)::g)) l):=
 n.pure A rfl (λq=>by rfl) b
theorem BU{id:E}(a:n.G m d (rg (e.at c g) l)):n.G m d (rg (e.at c (.inBlock id::g)) l):=
 n.pure A rfl (λq=>by rfl) a
theorem MK{a:XG}(b:n.G m d (rg (e.at c (.code a::.inLoop a::g)) l)):n.G m d (rg (e.at c (.code (.loop a)::g)) l):=
 n.pure A rfl (λq=>by rfl) b
theorem Hk{a:XG}(b:n.G m d (rg (e.at c (.code a::.inLoop a::g)) l)):n.G m d (rg (e.at c (.inLoop a::g)) l):=
 n.pure A rfl (λq=>by rfl) b
theorem sq(a:n.G m d (rg (e.at c g) l)):n.G m d (rg (e.at c (.code .skip::g)) l):=
 n.pure A rfl (λq=>by rfl) a
theorem sb{id:E}{a:Xg Item}(i:exitTo id g=C a)(b:n.G m d (rg (e.at c a) l)):n.G m d (rg (e.at c (.code (.exit id)::g)) l):=
 n.pure A rfl (λq=>by rw[bu A];simp[stepG.exec,Frame.at,rg,i]) b
theorem iO{a:XJ}{b i:XG}{k:Xo}(w:c.eval a=.bool k)(o:n.G m d (rg (e.at c (.code (if k then b else i)::g)) l)):n.G m d (rg (e.at c (.code (.cond a b i)::g)) l):=
 n.pure A rfl (λq=>by
  have x:=Xr.eval_at e c (.code (.cond a b i)::g) a;rw[bu A]
  simp_all [stepG.exec,Frame.at,rg]) o
theorem iP{a:XJ}{d:Xo}(e:Base P m)(i:ar h m t r c)(g:du P h.fn a=J)(f:r.eval a=.bool d):c.eval a=.bool d:=by have b:=lF e i.tmps r.defers c.defers a g;rw[f]at b;generalize c.eval a=k at b;cases b;rfl
theorem eA{id:E}(a:n.G m d (rg (e.at c (Xv D (Xg.range D.size)::g)) l)):n.G m d (rg (e.at c (.code (.region id D Xf)::g)) l):=
 n.pure A rfl (λq=>by rfl) a
theorem bP(a:n.G m d (rg (e.at c g) l)):n.G m d (rg (e.at c (Xv D []::g)) l):=
 n.pure A rfl (λq=>iT) a
theorem Sq(y:P.follows .mixedOrders=J){id:E}{i:Xg (Xg E)}(x:Kc D D.size (Array.replicate D.size Xf)=i)(b:∀z∈i,n.G m d (rg (e.at c (Xv D z::g)) l)):n.G m d (rg (e.at c (.code (.region id D J)::g)) l):=by
 refine n.ON A (.step A (λ_ L H w=>xm P h main f (λm d k=>k.status=.running/\n.G m d k) L H w) (λq a=>?_) (λ_ _ _ _ b=>b))
 have o:stepG P main (rg (e.at c (.code (.region id D J)::g)) l) q=.go (rg (e.at c (.inRegion D (Region.schedule (P.follows .mixedOrders) D (q.tape q.drawn (.order e.fn id)))::g)) l) {q with drawn:=q.drawn+1}:=by rfl
 refine⟨_,m,d,_,[],[],o,?_,λ_ _=>rfl,by simp,A,.stop ⟨A,b _ (x▸xV y D _)⟩⟩;exact{bD.refl a with rel:=⟨a.inj,a.obj,a.os⟩}
end
section
variable{main:Xo}
variable{t:Rt}
theorem pD(Q:Good P h)(a1:h.fr e.fn=J)(a3:e.kind≠.early)(a5:D[u]?=C p)(b0:Region.wanted p (yielded D r.tmps)=J)(a6:jd P h.fn h.bi h.bZ p.op=J)(a0:t.free p.dst=J)(R:Inv P h f m d)(z:ar h m t r c)
 (hd:p.dst=C j){L V:Xe}(a4:∀H,uH (λw O=>w=L/\O.heap=d.heap) ((execOp r.eval p).run P {d with tape:=H}))(a7:(execOp c.eval p).run P q=.ok (.value V) q)(b5:j<c.tmps.size)(Z:aV h m d q):
 ∃i a new k,stepG P main (rg (e.at c (Xv D (u::v)::g)) l) q=.go (rg (e.at (c.put p.dst V) (Xv D v::g)) l) q (kept k).toArray/\
  bD h m i d a q q new k/\(∀b,f b->a.heap[b]?=d.heap[b]?)/\(∀o∈new,o.write=J->∀r,f r->o.loc≠.obj r/\∀b,o.loc=.cell b->b.block≠r)/\Inv P h f i a/\cV f m d i a/\a.heap=d.heap/\ar h i ⟨t.d0,(j,V)::t.kn⟩ (r.put p.dst L) (c.put p.dst V):=by
 obtain⟨i,w,b4,a,T,new,k,U,W,b3,b1,b2,S,x,a9,Y⟩:=Qg (main:=main) (r:=g) (p:=l) (s:=v) Q a1 a3 a5 b0 a6 R z a4 (λw O X b _=>by rw[X.2]) Z;have y:(execOp c.eval p).run P q=.ok (.value b4) T:=by rw[<-aaT P _ q #[],W]
 rw[a7]at y;cases y;obtain⟨H,a8,a2⟩:=Y.one;subst a8;refine⟨i,a,new,k,U,b3,b1,b2,S,x,a2,((z.mono x.le).put p.dst a0 a9).more ?_⟩;simp_all [Act.put]
theorem NP{a:PD}{t:Rt}(L:Good P h)(X:h.fr e.fn=J)(a0:e.kind≠.early)(a2:D[u]?=C p)(a5:Region.wanted p (yielded D r.tmps)=J)(a3:jd P h.fn h.bi h.bZ p.op=J)(W:t.free p.dst=J)(O:Inv P h f m d)(x:ar h m t r c)
 (hd:p.dst=C j){H:Xe}(a1:∀a9,uH (λb1 b2=>b1=H/\b2.heap=d.heap) ((execOp r.eval p).run P {d with tape:=a9}))(a4:∀q o k,q.heap[a.bx]?=C (Xn #[.chan (C a.rc)] o k)->(execOp c.eval p).run P q=.ok (.value (.chan (C a.rc))) q)(Z:j<r.tmps.size)
 (next:∀i w b,Inv P h f i b->cV f m d i b->b.heap=d.heap->ar h i ⟨t.d0,(j,.chan (C a.rc))::t.kn⟩ (r.put (C j) H) w->(fO P a h f s).G i b (rg (e.at w (Xv D v::g)) l)):(fO P a h f s).G m d (rg (e.at c (Xv D (u::v)::g)) l):=by
 refine wM A λq T S=>?_;obtain⟨o,k,U⟩:=S;obtain⟨i,b,new,a8,z,b0,a6,a7,Q,R,Y,y⟩:=pD (main:=Xf) (g:=g) (l:=l) (v:=v) L X a0 a2 a5 a3 W O x hd a1 (a4 q o k U) (by rw[<-x.tmps.1];exact Z) T;rw[hd]at y z;exact⟨_,i,b,q,new,a8,z,b0,a6,a7,A,next _ _ _ Q R Y y⟩
theorem ar.Mx{e:Xg (E×Xe)}{b:Deferred}(a:ar h m ⟨[],e⟩ r c)(hd:r.defers=[]):ar h m ⟨[b],e⟩ r ⟨c.tmps,b::c.defers⟩:=by obtain⟨f,g,d⟩:=a.defers;rw[hd]at d;cases d;refine⟨a.tmps,⟨[],?_,by rw[hd];exact .nil⟩,a.kn⟩;simp_all
theorem xD{n:Goal P h main f}{q:XJ}{o:E}{b:Xk Xq}{k:Xg (E×Xe)}(w:e.kind≠.early)(x:D[u]?=C p)(H:Region.wanted p (yielded D c.tmps)=J)
 (y:p.op=.defer {callee:=.builtin .close,args:=#[q],argTypes:=b})(hd:p.dst=F)(L:c.eval q=.chan (C o))(z:ar h m ⟨[],k⟩ r c)(t:r.defers=[])
 (next:∀a i,ar h m ⟨[cC b p.type o a],k⟩ r i->n.G m d (rg (e.at i (Xv D v::g)) l)):n.G m d (rg (e.at c (Xv D (u::v)::g)) l):=by
 obtain⟨a,s⟩:=rF (P:=P) (main:=main) (g:=g) (l:=l) (v:=v) x H w y hd L;exact Goal.pure _ A rfl s (next a _ (z.Mx t))
theorem bT{n:Goal P h main f}{t:Rt}(H:Good P h)(Q:h.fr e.fn=J)(R:e.kind≠.early){k:Xg Oper}{z:Xg E}(T:t.kn.map (·.1)=z)(U:lT P h z k.toArray=J){id:E}(L:Inv P h f m d)(W:ar h m t r c)(w:Xu->M->Prop)
 (O:∀b:M,b.heap=d.heap->b.drawn=d.drawn->b.os=d.os->b.output=d.output->wpList P k.toArray (eP w) k r b)(S:∀i a,w i a->∀x,f x->a.heap[x]?=d.heap[x]?)
 (next:∀o i y a,Inv P h f o a->cV f m d o a->ar h o t i y->w i a->n.G o a (rg (e.at y g) l)):n.G m d (rg (e.at c (.code (.region id k.toArray Xf)::g)) l):=
 MJ (mI H Q R (nf T U) (λY=>O _ A rfl rfl rfl) S λ_ _ X=>X) L W next
theorem Kj{i:PD}{a:XG}(k:E->Ren->M->Xu->Prop)
 (round:∀s,(∀m d c,k s m d c->(fO P i h f s).G m d (rg (e.at c (.inLoop a::g)) l))->∀m d c,k (s+1) m d c->(fO P i h f (s+1)).G m d (rg (e.at c (.code a::.inLoop a::g)) l))
 (last:∀m d c,k 0 m d c->(fO P i h f 0).G m d (rg (e.at c (.code a::.inLoop a::g)) l)):∀(b:E) m d c,k b m d c->(fO P i h f b).G m d (rg (e.at c (.code (.loop a)::g)) l):=by
 have p:∀(b:E) m d c,k b m d c->(fO P i h f b).G m d (rg (e.at c (.code a::.inLoop a::g)) l):=by
  intro b
  induction b with
  |zero=>exact last
  |succ s o=>exact round s λm d c n=>Hk (o m d c n)
 simp_all [MK]
def bN(D:Xk Oper)(u:E)(a:Xp Tmp)(b:Op):Prop:=∃p,D[u]?=C p/\p.dst=a/\p.op=b/\p.guard=F
theorem vH{n:Goal P h main f}{t:Rt}{H:Xp Tmp}{S:Op}(X:Good P h)(a2:h.fr e.fn=J)(a3:e.kind≠.early)(a6:bN D u H S)
 {W:Xg E}(a5:t.kn.map (·.1)=W)(a7:jd P h.fn h.bi h.bZ S=J)(b9:(W.all λg=>H !=C g)=J)(Y:Inv P h f m d)(a8:ar h m t r c)(o:Xu->M->Prop)
 (O:∀y:M,y.heap=d.heap->y.drawn=d.drawn->y.os=d.os->y.output=d.output->∀U T L,(⟨H,S,U,T,L,F⟩:Oper).wp P r y o (eP λ_ _=>False))(a4:∀b a,o b a->∀z,f z->a.heap[z]?=d.heap[z]?)
 (next:∀i b w a,Inv P h f i a->cV f m d i a->ar h i t b w->o b a->n.G i a (rg (e.at w (Xv D v::g)) l)):n.G m d (rg (e.at c (Xv D (u::v)::g)) l):=by
 obtain⟨⟨b7,c0,U,T,L,b8⟩,Q,R,a0,a1⟩:=a6;subst R a0 a1 a5;refine He X n a2 a3 Q A a7 (by grind [Rt.free]) Y a8 (T:=o) (a1:=λ_ _=>False) (.all λk=>O {d with tape:=k} A rfl rfl rfl U T L) ?_ ?_
 .intro i b w a b6 _ _ _ _ x;obtain⟨k,x⟩:=x.one;exact⟨{a with tape:=k},⟨λr O=>O,λ_ e p Q R=>⟨p,Q,R⟩⟩,λz a9=>a4 _ _ x z a9⟩
 intro i b w a Z q1 b0 b1 b2 b3 b4;obtain⟨k,x⟩:=b4.one;exact n.tape (next i b w {a with tape:=k} (Z.tape k) ⟨q1,b0,b1,b2⟩ b3 x)
end
end
variable{a:E}
theorem GY:∀(b:Xg Xo)(a:E),b[a]?=C Xf->((b.set a J).filter (!·)).length+1=(b.filter (!·)).length
 |[],a,c=>by simp at c
 |d::b,0,c=>by simp_all
 |d::b,a+1,c=>by have:=GY b a (by simpa using c);cases d<;>simp[Xg.set_cons_succ]at this⊢<;>omega
theorem Br:∀(d:Xg Xo),(d.filter (!·)).length=0->∀(a:E)(c:Xo),d[a]?=C c->c=J
 |[],_,a,c,b=>by simp at b
 |f::d,e,a,c,b=>by
  cases f with
  |false=>simp at e
  |true=>
   cases a with
   |zero=>simp at b;exact b
   |succ a=>exact Br d (by simpa using e) a c (by simpa using b)
def Bz(D:Xk Oper):Xo:=(Xg.range D.size).all λa=>((D[a]?).map λc=>c.after.all λb=>!Region.binds .any b||decide (b.on<a)).getD Xf
theorem ls{b:Xk Xo}:a∈Region.ready .any D b↔a<D.size/\b.getD a J=Xf/\∃d,D[a]?=C d/\∀c∈d.after,Region.binds .any c=J->b.getD c.on Xf=J:=by
 unfold Region.ready
 grind [Array.all_eq_true_iff_forall_mem]
theorem LG(hd:Bz D=J){b:Xk Xo}(k:b.size=D.size)(i:Region.ready .any D b=[]):∀a,a<D.size->b.getD a Xf=J:=by
 intro a
 induction a using E.strongRecOn with
 |_ a h=>
  intro c;apply Classical.byContradiction;intro e;have:a∈Region.ready .any D b:=by
   refine ls.2 ⟨c,?_,D[a],XP c,λd g f=>?_⟩
   .rw[Yu,XP (by omega)]at e⊢
    simpa using e
   unfold Bz at hd;rw[Za]at hd;have:=hd a (abe.2 c);rw[XP c]at this;simp only[Zo,Zz]at this;rw[a_]at this;have:=this d g;rw[f]at this;simp at this;exact h d.on this (by omega)
  simp_all
variable{u:Xe}{r:Xk Xe}{n:Xr}{e:Xu}{l:Xg Item}{t:Xg Xr}{p:E}{x:Xg E}{g:Oper}{s:Xu}
section
variable[Inhabited aM]
def wu:Xe->Xo
 |.agg _|.tuple _=>Xf
 |_=>J
theorem tM{s:Xw}(a:wu u=J){i:Xe}(b:q.cell? s=C i)(c:q.frozen? s=Xf):
 (store s u).runT P q S=(.ok () (q.setCell s u),S.push ⟨.cell s,J,Xf⟩):=by
 unfold store;cases u<;>first|(cases a;done)|(simp[Xz.runT,b,c];rfl)
def xQ(r:Xk Xe)(g:E):Xg Xe->Xk Xe
 |[]=>r
 |u::a=>xQ (r.setIfInBounds g u) (g+1) a
theorem yS:∀(a:Xg Xe)(r:Xk Xe)(g:E),(xQ r g a).size=r.size
 |[],_,_=>rfl
 |u::b,r,g=>by unfold xQ;rw[yS];simp
theorem wD:∀(a:Xg Xe)(r:Xk Xe)(g l:E),l<g\/g+a.length<=l->(xQ r g a)[l]?=r[l]?
 |[],_,_,_,_=>rfl
 |u::b,r,g,l,c=>by unfold xQ;rw[wD b _ _ _ (by grind),Array.getElem?_setIfInBounds,if_neg (by grind)]
theorem Ii:∀(a:Xg Xe)(r:Xk Xe)(g l:E),g+a.length<=r.size->l<a.length->(xQ r g a)[g+l]?=a[l]?
 |[],_,_,_,_,b=>by simp at b
 |u::c,r,g,0,b,_=>by
  grind [xQ,wD]
 |u::c,r,g,l+1,b,d=>by
  unfold xQ;have:=Ii c (r.setIfInBounds g u) (g+1) l (by grind) (by simp_all)
  grind
theorem po{a g:E}{c:Xq}{b:E×E}(d:q.heap[a]?=C (Xn r c b)):
 (q.setCell ⟨a,g,F⟩ u).heap[a]?=C (Xn (r.setIfInBounds g u) c b):=by
 simp[M.setCell,Zf,d]
theorem ml{P:Xy}{a:E}{z:Xq}{i:E×E}(T:i.1=i.2):∀(c:Xg Xe)(g p:E)(q:M)(r:Xk Xe)(S:Xk XF),(∀w∈c,wu w=J)->q.heap[a]?=C (Xn r z i)->g+p+c.length<=r.size->
 ∃b new,(storeCells ⟨a,g,F⟩ c p).runT P q S=(.ok () b,S++new)/\(b.os=q.os/\b.output=q.output)/\b.heap.size=q.heap.size/\(∀n,n≠a->b.heap[n]?=q.heap[n]?)/\b.heap[a]?=C (Xn (xQ r (g+p) c) z i)/\
  ∀o∈new,∃l,l<c.length/\o=⟨.cell ⟨a,g+p+l,F⟩,J,Xf⟩
 |[],g,p,q,r,S,_,v,_=>⟨q,#[],by rfl,⟨A,A⟩,A,λ_ _=>rfl,v,by simp⟩
 |u::U,g,p,q,r,S,y,v,a2=>by
  have a3:g+p<r.size:=by grind
  have O:q.cell? ⟨a,g+p,F⟩=C r[g+p]:=by simp_all [M.cell?]
  have Q:q.frozen? ⟨a,g+p,F⟩=Xf:=by simp_all [M.frozen?]
  have a4:=tM (P:=P) (S:=S) (y u (by simp)) O Q;obtain⟨b,new,W,H,X,Y,L,N⟩:=ml (P:=P) T U g (p+1) (q.setCell ⟨a,g+p,F⟩ u) (r.setIfInBounds (g+p) u) (S.push ⟨.cell ⟨a,g+p,F⟩,J,Xf⟩) (λw R=>y w (Ym _ R)) (po v) (by grind);refine⟨b,#[⟨.cell ⟨a,g+p,F⟩,J,Xf⟩]++new,?_,H,?_,λn a0=>?_,L,?_⟩
  .have Z:Addr.add ⟨a,g,F⟩ p=⟨a,g+p,F⟩:=by simp[Addr.add]
   simp_all [storeCells]
  .simp_all
  .simp_all [M.setCell,Zf,YX]
  intro o k;rcases Xk.mem_append.1 k with k|k
  .simp_all
  obtain⟨l,a1,rfl⟩:=N o k;exact⟨l+1,by simp_all,by grind⟩
theorem seen_cells{fn:XI}(f:∀c,P.funcs[fn]?=C c->c.norace=Xf)(e:∀b∈S,∀d,b.loc≠.mark d):seen P fn S=S:=by
 have g:(P.funcs[fn]?).any (·.norace)=Xf:=by grind
 have i:∀(a:Xg XF)(kept:Xk XF),(∀b∈a,∀d,b.loc≠.mark d)->a.foldl (seenStep λc=>(P.funcs[c]?).any (·.norace)) (Xf,kept)=(Xf,kept++a.toArray):=by
  intro a
  induction a with
  |nil=>simp
  |cons b a h=>simp_all [seenStep]
 simp_all [seen_def]
section
variable{main:Xo}
theorem DO{k:Xq}{v O:XJ}{c i:E}{b:Xg Xe}{N:Xq}{o:E×E}(a2:D[p]?=C g)(a6:Region.wanted g (yielded D e.tmps)=J)(Z:n.kind≠.early)(a3:g.op=.store k v O)(hd:g.dst=F)
 (a7:e.eval v=XA (C ⟨c,i,F⟩))(a8:e.eval O=u)(L:u.cells.toList=b)(a1:∀fn,P.funcs[n.fn]?=C fn->fn.norace=Xf)(a5:∀q S,(Go.sizeOf k).runT P q S=(.ok b.length q,S))(W:∀v∈b,wu v=J)
 (a9:o.1=o.2)(Y:q.heap[c]?=C (Xn r N o))(b6:i+b.length<=r.size):
 ∃a S,stepG P main (rg (n.at e (Xv D (p::x)::l)) t) q=.go (rg (n.at e (Xv D x::l)) t) a S/\(a.os=q.os/\a.output=q.output)/\a.heap.size=q.heap.size/\(∀n,n≠c->a.heap[n]?=q.heap[n]?)/\a.heap[c]?=C (Xn (xQ r i b) N o)/\
  ∀y∈S,∃l,l<b.length/\y=⟨.cell ⟨c,i+l,F⟩,J,Xf⟩:=by
 obtain⟨a,new,b3,R,T,U,b4,b5⟩:=ml (P:=P) a9 b i 0 q r #[] W Y (by omega)
 have a4:(execOp e.eval g).runT P q #[]=(.ok .skip a,new):=by
  unfold execOp;rw[a3];simp only[a7,a8]
  have Q:(Instr.storeAt k (XA (C ⟨c,i,F⟩)) u)=(Go.sizeOf k).bind λb1=>if u.cells.size≠b1 then stuck "storeVar: the value has not the size of the variable"else storeCells ⟨c,i,F⟩ b:=by subst L;rfl
  show((Instr.storeAt k (XA (C ⟨c,i,F⟩)) u).bind λ_=>(Sem.pure Next.skip:Xz Next)).runT P q #[]=_;have b7:u.cells.size=b.length:=by rw[<-L];simp
  rw[J_,Q,J_,a5];simp_all
 have a0:∀y∈new,∀b0,y.loc≠.mark b0:=by grind
 refine⟨a,new,?_,R,T,U,by omega,by omega⟩;obtain⟨z,w⟩:=e;obtain⟨b2,X,H⟩:=fM (P:=P) (n.at ⟨z,w⟩ (Xv D (p::x)::l)) t (execOp (Act.eval ⟨z,w⟩) g) q;rw[jv a2 a6,X];rw[a4]at H⊢
 rw[H Z trivial];simp only[eQ,stepG.apply,Xz.runT,Yc,YW,aX,aN,rg,GStep.after];rw[show(n.at ⟨z,w⟩ (Xv D (p::x)::l)).fn=n.fn from A,seen_cells a1 a0];simp_all [YK,Act.put]
end
section
variable{main:Xo}
theorem BT{u:Goal P h main f}{w:Rt}{v:Xp Tmp}{N:Op}(S:Good P h)(Z:h.fr n.fn=J)(a0:n.kind≠.early)(a2:bN D p v N)
 (a3:jd P h.fn h.bi h.bZ N=J)(Y:w.free v=J)(T:Inv P h f m d)(a4:ar h m w s e)(k:Xu->M->Prop)
 (z:∀R:M,R.heap=d.heap->∀Q O y,(⟨v,N,Q,O,y,F⟩:Oper).wp P s R k (eP λ_ _=>False))(a1:∀b a,k b a->∀r,f r->a.heap[r]?=d.heap[r]?)
 (next:∀c b o a,Inv P h f c a->cV f m d c a->ar h c w b o->k b a->u.G c a (rg (n.at o (Xv D x::l)) t)):u.G m d (rg (n.at e (Xv D (p::x)::l)) t):=by
 obtain⟨⟨b3,b5,Q,O,y,b4⟩,H,L,W,X⟩:=a2;subst L W X;refine He S u Z a0 H A a3 Y T a4 (T:=k) (a1:=λ_ _=>False) (.all λi=>z {d with tape:=i} A Q O y) ?_ ?_
 .intro c b o a b2 _ _ _ _ q;obtain⟨i,q⟩:=q.one;exact⟨{a with tape:=i},⟨λs z=>z,λ_ n g H L=>⟨g,H,L⟩⟩,λr a5=>a1 _ _ q r a5⟩
 intro c b o a U q1 a6 a7 a8 a9 b0;obtain⟨i,q⟩:=b0.one;exact u.tape (next c b o {a with tape:=i} (U.tape i) ⟨q1,a6,a7,a8⟩ a9 q)
theorem Hj{o:Goal P h main f}{b:Rt}{L:Op}(Y:n.kind≠.early)(a6:∀fn,P.funcs[n.fn]?=C fn->fn.norace=Xf)(Z:bN D p (C j) L)
 (W:b.free (C j)=J)(H:ar h m b s e)(X:j<s.tmps.size){a:Xe}(U:bO a)(a0:∀q k i c,(execOp e.eval ⟨C j,L,k,i,c,F⟩).runT P q #[]=(.ok (.value a) q,#[]))
 (next:∀v,ar h m ⟨b.d0,(j,a)::b.kn⟩ (s.put (C j) I) v->o.G m d (rg (n.at v (Xv D x::l)) t)):o.G m d (rg (n.at e (Xv D (p::x)::l)) t):=by
 obtain⟨⟨a3,a1,k,i,c,a4⟩,y,Q,R,T⟩:=Z;subst T;obtain rfl:=Q;obtain rfl:=R;refine o.pure A rfl (g₁:=rg (n.at (e.put (C j) a) (Xv D x::l)) t) (λq=>?_) (next _ ?_)
 .obtain⟨N,w⟩:=e;obtain⟨a2,O,z⟩:=fM (P:=P) (n.at ⟨N,w⟩ (Xv D (p::x)::l)) t (execOp (Act.eval ⟨N,w⟩) ⟨C j,a1,k,i,c,F⟩) q;rw[jv y A,O];rw[a0 q k i c]at z⊢
  rw[z Y trivial];simp only[eQ,stepG.apply,Xz.runT,Yc,YW,aX,aN,rg,GStep.after];simp[YK,y,Act.put,aX]
 refine(H.put (C j) W (.bS U)).more ?_;simp[Act.put,<-H.tmps.1,X]
theorem qw{o:Type}{c:o->Goal P h main f}{r:XG}(b:E->o->Ren->M->Xu->Prop)
 (round:∀k,(∀a m d e,b k a m d e->(c a).G m d (rg (n.at e (.inLoop r::l)) t))->∀a m d e,b (k+1) a m d e->(c a).G m d (rg (n.at e (.code r::.inLoop r::l)) t))
 (last:∀a m d e,b 0 a m d e->(c a).G m d (rg (n.at e (.code r::.inLoop r::l)) t))(i:E){a:o}(v:b i a m d e):(c a).G m d (rg (n.at e (.code (.loop r)::l)) t):=by
 have y:∀(i:E) a m d e,b i a m d e->(c a).G m d (rg (n.at e (.code r::.inLoop r::l)) t):=by
  intro i
  induction i with
  |zero=>exact last
  |succ k w=>grind [Hk]
 grind [MK]
theorem Hl{N:Type}{c:N->Goal P h main f}(a0:P.follows .mixedOrders=J)(a8:Bz D=J)(o:Xk Xo->N->Ren->M->Xu->Xu->Prop)
 (step:∀a p x,a.size=D.size->p∈Region.ready .any D a->(∀b m d s e,o (a.setIfInBounds p J) b m d s e->(c b).G m d (rg (n.at e (Xv D x::l)) t))->∀b m d s e,o a b m d s e->(c b).G m d (rg (n.at e (Xv D (p::x)::l)) t))
 (fin:∀a,(∀p,p<D.size->a.getD p Xf=J)->∀b m d s e,o a b m d s e->(c b).G m d (rg (n.at e (Xv D []::l)) t))
 {id:E}{b:N}(w:o (Array.replicate D.size Xf) b m d s e):(c b).G m d (rg (n.at e (.code (.region id D J)::l)) t):=by
 have a3:∀(i k:E)(a:Xk Xo) b(m:Ren)(d:M)(s e:Xu),a.size=D.size->(a.toList.filter (!·)).length<=i->o a b m d s e->(c b).G m d (rg (n.at e (Xv D (Region.linearise.go .any D i k a [])::l)) t):=by
  intro i
  induction i with
  |zero=>
   intro k a b m d s e z T y;refine fin a (λp Q=>?_) b m d s e y;have Z:p<a.size:=by omega
   rw[Yu,XP Z];exact Br _ (E.le_zero.1 T) p _ (by simp)
  |succ i a2=>
   intro k a b m d s e z T y
   change (c b).G m d (rg (n.at e (.inRegion D (match(Region.ready .any D a)[k%(Region.ready .any D a).length]? with
    |some p=>Region.linearise.go .any D i (k/(Region.ready .any D a).length) (a.setIfInBounds p J) [p]
    |none=>[].reverse)::l)) t)
   cases Q:(Region.ready .any D a)[k%(Region.ready .any D a).length]? with
   |none=>
    have b0:Region.ready .any D a=[]:=by
     cases b1:Region.ready .any D a with
     |nil=>rfl
     |cons b b3=>simp_all [abm]
    grind [LG]
   |some p=>
    have R:=Yj Q;simp only[];rw[linearise_go_acc,Xg.reverse_singleton,Xg.singleton_append];refine step a p _ z R (λa4 L H U W a1=>a2 _ _ a4 L H U W (by simp[z]) ?_ a1) b m d s e y;obtain⟨a6,a7,_⟩:=ls.1 R;have a9:a.toList[p]?=C Xf:=by simp_all
    grind [GY]
 refine(c b).ON A (.step A (λ_ L H Y=>xm P h main f (λm d O=>O.status=.running/\(c b).G m d O) L H Y) (λq v=>?_) (λ_ _ _ _ w=>w))
 have X:stepG P main (rg (n.at e (.code (.region id D J)::l)) t) q=.go (rg (n.at e (.inRegion D (Region.schedule (P.follows .mixedOrders) D (q.tape q.drawn (.order n.fn id)))::l)) t) {q with drawn:=q.drawn+1}:=by rfl
 refine⟨_,m,d,_,[],[],X,?_,λ_ _=>rfl,by simp,A,.stop ⟨A,?_⟩⟩
 .exact{bD.refl v with rel:=⟨v.inj,v.obj,v.os⟩}
 simp only[Region.schedule,a0,Xo.true_or,Yc];exact a3 D.size _ _ b m d s e (by simp) (by simp) w
theorem Tz{H:M->Prop}{Stop:Ren->M->Xt->Prop}{Q:∀m(d:M) a L,Stop m {d with tape:=a} L->Stop m d L}{y:Rt}{z:Op}(U:Good P h)(a8:h.fr n.fn=J)(b1:n.kind≠.early)(b3:bN D p (C j) z)
 (b4:jd P h.fn h.bi h.bZ z=J)(a7:y.free (C j)=J)(W:Inv P h f m d)(R:ar h m y s e){T w:Xe}{O:E}(a4:∀q,H q->∃v o,q.heap[O]?=C (Xn #[w] v o))
 (b2:∀a c b c6,uH (λu c8=>u=T/\c8.heap=d.heap) ((execOp s.eval ⟨C j,z,a,c,b,F⟩).run P {d with tape:=c6}))(b5:∀q v o a c b,q.heap[O]?=C (Xn #[w] v o)->(execOp e.eval ⟨C j,z,a,c,b,F⟩).run P q=.ok (.value w) q)(b0:j<s.tmps.size)
 (next:∀k N i,Inv P h f k i->cV f m d k i->i.heap=d.heap->ar h k ⟨y.d0,(j,w)::y.kn⟩ (s.put (C j) T) N->(yw P h f H Stop Q).G k i (rg (n.at N (Xv D x::l)) t)):(yw P h f H Stop Q).G m d (rg (n.at e (Xv D (p::x)::l)) t):=by
 obtain⟨⟨c9,d0,a,c,b,L⟩,Z,a0,a1,a2⟩:=b3;subst a2;obtain rfl:=a0;obtain rfl:=a1;refine wM A λq a5 a3=>?_;obtain⟨v,o,a6⟩:=a4 q a3;obtain⟨k,i,new,b9,c0,c7,b7,b8,X,Y,a9,b6⟩:=pD (main:=Xf) (g:=l) (l:=t) (v:=x) U a8 b1 Z A b4 a7 W R A (b2 a c b) (b5 q v o a c b a6) (by rw[<-R.tmps.1];exact b0) a5;exact⟨_,k,i,q,new,b9,c0,c7,b7,b8,A,next _ _ _ X Y a9 b6⟩
end
end
noncomputable section
abbrev TP:Xy:=Go.Proofs.Tryz.prog
def Iv:Xg E:=[15,17,19,20,21,22,26,27,29,30,32,34,35,36,40,41,42,51,52,58,60,61,62,63,64,65,66,95,96,97,98,104,105,106,107,108,109,110,111,112,113,114,128,129,130,131,132,134,135,136,137,138,139,140,141,142,143,144,145,146,147,148,149,150,151,152,153,154,155,156,157,166,167,168,169,170,171,172,173,174,175,176,177,178,179,180,181,182,183,184,185,186,187,188,189,190,200,201,202,203,204,205,206,207,208,209,210,211,212,213,214,215,216,217,218,228,229,230,231,232,233,234,235,236,237,238,239,240,246,247,248,249,250,251,252,253,254,256,257,258,259,260,261,262,263,264,265,266,267,268,269]
def KC:Xg E:=[3,4,5,6,7,8,9,10,11,12,14,15,16,17,18,19,20,21,22,26,27,28,29,30,31,32,34,35,36,39,40,41,42,51,52,58,60,61,62,63,64,65,66,95,96,97,98,104,105,106,107,108,109,110,111,112,113,114,128,129,130,131,132,134,135,136,137,138,139,140,141,142,143,144,145,146,147,148,149,150,151,152,153,154,155,156,157,166,167,168,169,170,171,172,173,174,175,176,177,178,179,180,181,182,183,184,185,186,187,188,189,190,200,201,202,203,204,205,206,207,208,209,210,211,212,213,214,215,216,217,218,228,229,230,231,232,233,234,235,236,237,238,239,240,246,247,248,249,250,251,252,253,254,256,257,258,259,260,261,262,263,264,265,266,267,268,269]
def Gs:Xg E:=[171,230,248,256,262,263]
def wC:Xg E:=[38,53,54,81]
def vS:Xg E:=[58,95,96,97,98,107,128,129,130,131,132,145,146,166,167,168,169,174,175,200,201,202,203,204,205,206,207,208,209,210,211,212,228,229,230,231,232,233,234,235,246,247,248,249,250,251,256,257]
def setOf(b c:Xg E)(bZ:Xo):Set where
 fn:=λa=>b.contains a
 fr:=λa=>c.contains a
 bi:=Jc TP bZ
 code:=codeOk TP (λa=>b.contains a) (Jc TP bZ) bZ
 bZ:=bZ
def al:Set:=setOf Iv KC J
def aJ:Set:=setOf wC (37::wC) Xf
def aW:Set:=setOf vS (56::vS) Xf
def BR(b:Set)(a:E):Xo:=
 match TP.funcs[a]? with
 |some fn=>!fn.norace&&!(fn.name== "runtime.NumGoroutine")&&(match fn.body with|some c=>b.code c|none=>Gs.contains a)
 |none=>Xf
theorem Tm:(Iv.all (BR al))=J:=by decide+kernel
theorem Qm:(wC.all (BR aJ))=J:=by rfl
theorem look_ok:(vS.all (BR aW))=J:=by decide+kernel
end
variable{a:Xk Xe}
def ZV(a:Xe):Prop:=∀(b:Set)(c:Ren),an b c a a
def zu(a:Xk Xe):Prop:=∀(b:Set)(c:Ren),aw b c a a
theorem ZV.cells{a:Xe}(c:ZV a):zu a.cells:=λb d=>dM (c b d)
theorem zu.agg{a:Xk Xe}(c:zu a):ZV (.agg a):=λb d=>.agg A (c b d).2
theorem zu.append{c:Xk Xe}(e:zu a)(f:zu c):zu (a++c):=λb d=>aw.append (e b d) (f b d)
theorem zu.nil:zu #[]:=λ_ _=>aw.nil
theorem zu.of(f:∀b∈a,ZV b):zu a:=λe g=>⟨A,λh b i c d=>by rw[c]at d;cases d;exact f b (Ys c) e g⟩
theorem zu.mem(e:zu a):∀c∈a,ZV c:=λc f d h=>by obtain⟨g,b,rfl⟩:=YQ.1 f;exact(e d h).2 g _ _ (XP b) (XP b)
theorem yu{m g:Type}(i:m->g->Xp (ForInStep g))(c:g->Prop)(step:∀h b e,c b->i h b=C e->c (match e with|.yield b=>b|.done b=>b)):∀(l:Xg m)(d f:g),c d->forIn l d i=C f->c f
 |[],d,f,k,a=>by simp at a;subst a;exact k
 |h::l,d,f,k,a=>by
  rw[aaZ]at a;simp only[bind,Yb]at a;obtain⟨e,n,a⟩:=a;have:=step h d e k n;cases e with
  |done b=>simp[pure]at a;subst a;exact this
  |yield b=>exact yu i c step l b f this a
theorem DU{i:Xq->Xp TypeInfo}(s:∀x e f,i x=C e->e.zero=C f->ZV f){q:Xk Field}{e:TypeInfo}{f:Xe}(d:Made.reckonStruct i q=C e)(v:e.zero=C f):ZV f:=by
 unfold Made.reckonStruct at d;simp only[bind,Yb,pure]at d;obtain⟨l,m,d⟩:=d;rw[<-g_]at m;have w:=yu _ (λg=>∀a,g.2.2.2.2.2.2.2.1=C a->zu a) (λp g y r b=>?_) _ _ _ (λa c=>by cases c;exact zu.nil) m
 .have fin:l.2.2.2.2.2.2.2.1.map Value.agg=e.zero:=by
   split at d<;>(cases d;rfl)
  rw[v]at fin;cases c:l.2.2.2.2.2.2.2.1 with
  |none=>rw[c]at fin;cases fin
  |some a=>rw[c]at fin;cases fin;exact(w a c).agg
 cases h:i p.type with
 |none=>rw[h]at b;cases b
 |some n=>
  rw[h]at b;simp only[ZO]at b
  have leaf:∀a,(if g.2.1+n.size>Made.mostCells then F else g.2.2.2.2.2.2.2.1.bind λk=>n.zero.bind λo=>C (k++o.cells))=C a->zu a:=by
   intro a c;split at c
   .cases c
   simp only[Yb]at c;obtain⟨k,t,o,u,c⟩:=c;cases c;exact(r k t).append (s _ _ _ h u).cells
  split at b
  .cases b
  split at b
  .cases b
  split at b
  .split at b<;>(cases b;exact leaf)
  rw[Yb]at b;obtain⟨tag,_,b⟩:=b;split at b<;>(cases b;exact leaf)
theorem Dt{k:Xq->Xp TypeInfo}(h:∀o d e,k o=C d->d.zero=C e->ZV e){l:TypeDesc}{d:TypeInfo}{e:Xe}(a:Made.reckon k l=C d)(b:d.zero=C e):ZV e:=by
 unfold Made.reckon at a;split at a
 .simp only[bind,Yb,pure]at a;obtain⟨j,_,a⟩:=a;split at a
  .cases a
  .split at a
   .cases a
   rw[Yb]at a;obtain⟨_,_,a⟩:=a;cases a;cases b;exactλc f=>.cG
  rw[Yb]at a;obtain⟨_,_,a⟩:=a;cases a;cases b;exactλc f=>.cG
 .simp only[bind,Yb,pure]at a;obtain⟨_,_,_,_,a⟩:=a;cases a;cases b;exactλc f=>.aO _ _
 .simp only[bind,Yb,pure]at a;obtain⟨_,_,_,_,_,_,_,_,a⟩:=a;cases a;cases b;exactλc f=>.ft
 .simp only[bind,Yb,pure]at a;obtain⟨_,_,_,_,a⟩:=a;cases a;cases b;exactλc f=>.ed
 .simp only[bind,Yb,pure]at a;obtain⟨_,_,a⟩:=a;cases a;cases b;exactλc f=>.nilFunc
 .simp only[bind,Yb,pure]at a;obtain⟨j,m,_,_,a⟩:=a;cases a;dsimp only at b;split at b
  .cases b
  split at b
  .cases b;exact zu.nil.agg
  rw[YE]at b;obtain⟨r,n,rfl⟩:=b;refine zu.agg (zu.of λp g=>?_);rw[Xk.mem_flatten]at g;obtain⟨q,i,g⟩:=g;rw[Xk.mem_replicate]at i;obtain⟨_,rfl⟩:=i;exact(h _ _ _ m n).cells.mem p g
 .exact DU h a b
 cases a
theorem tj{g:Tables}(h:∀(d:E)(a:TypeInfo)(b:Xe),g.types[d]?=C a->a.zero=C b->ZV b):∀(e d:E)(a:TypeInfo)(b:Xe),Made.infoAt g e d=C a->a.zero=C b->ZV b
 |0,d,a,b,c,f=>by cases c
 |e+1,d,a,b,c,f=>by
  unfold Made.infoAt at c;split at c
  .exact h d a b c f
  rw[Yb]at c;obtain⟨i,_,c⟩:=c;exact Dt (λd a b=>tj h e d a b) c f
theorem OJ(e:∀(d:E)(a:TypeInfo)(b:Xe),P.types[d]?=C a->a.zero=C b->ZV b):iL P:=by
 intro d a b c f;unfold Tables.info? at c;split at c
 .exact e d a b c f
 exact tj e _ d a b c f
theorem mH{fn:XI->Xo}:∀(d:E)(e:Xe),bL (λ_=>Xf) d e=J->bL fn d e=J
 |0,_,c=>by simp[bL]at c
 |d+1,e,c=>by
  have g:∀a:Xk Xe,a.toList.all (bL (λ_=>Xf) d)=J->a.toList.all (bL fn d)=J:=λa f=>by
   rw[Za]at f⊢
   exactλh k=>mH d h (f h k)
  cases e with
  |bool l=>rfl
  |int m o=>rfl
  |string q=>rfl
  |pointer b=>cases b with
   |none=>rfl
   |some b=>simp[bL]at c
  |slice b n a=>cases b with
   |none=>rfl
   |some b=>simp[bL]at c
  |map b=>cases b with
   |none=>rfl
   |some b=>simp[bL]at c
  |chan b=>cases b with
   |none=>rfl
   |some b=>simp[bL]at c
  |nilFunc=>rfl
  |nilIface=>rfl
  |func i p a=>cases i<;>simp[bL]at c
  |iface r e=>exact mH d e c
  |agg a=>exact g a c
  |tuple a=>exact g a c
  |_=>simp[bL]at c
def IA(a:TypeInfo):Xo:=(match a.desc with|.float _|.complex _=>Xf|_=>J)&&(match a.zero with|some b=>bL (λ_=>Xf) 8 b|none=>J)
theorem OB:TP.types.toList.all IA=J:=by decide+kernel
theorem IB{c:E}{a:TypeInfo}(b:TP.types[c]?=C a):IA a=J:=by have:=OB;rw[Za]at this;exact this a (by rw[Yz];exact Ys b)
theorem QF:iL TP:=OJ λf e a b c d g=>by have:=IB b;unfold IA at this;rw[c]at this;simp only[Yg]at this;exact ir 8 a (mH 8 a this.2)
theorem Kq{e:Xq->Xp TypeInfo}{d:TypeDesc}{c:TypeInfo}(a:Made.reckon e d=C c)(f:FloatKind):c.desc≠.complex f:=by
 unfold Made.reckon at a;split at a
 .simp only[bind,Yb,pure]at a;obtain⟨j,_,a⟩:=a;split at a
  .cases a
  .split at a
   .cases a
   rw[Yb]at a;obtain⟨_,_,a⟩:=a;cases a;intro b;cases b
  rw[Yb]at a;obtain⟨_,_,a⟩:=a;cases a;intro b;cases b
 .simp only[bind,Yb,pure]at a;obtain⟨_,_,_,_,a⟩:=a;cases a;intro b;cases b
 .simp only[bind,Yb,pure]at a;obtain⟨_,_,_,_,_,_,_,_,a⟩:=a;cases a;intro b;cases b
 .simp only[bind,Yb,pure]at a;obtain⟨_,_,_,_,a⟩:=a;cases a;intro b;cases b
 .simp only[bind,Yb,pure]at a;obtain⟨_,_,a⟩:=a;cases a;intro b;cases b
 .simp only[bind,Yb,pure]at a;obtain⟨j,h,_,_,a⟩:=a;cases a;intro b;cases b
 .unfold Made.reckonStruct at a;simp only[bind,Yb,pure]at a;obtain⟨g,_,a⟩:=a;split at a<;>(cases a;intro b;cases b)
 cases a
theorem Iz{f:Xq}{d:TypeInfo}(a:TP.info? f=C d)(e:FloatKind):d.desc≠.float e/\d.desc≠.complex e:=by
 by_cases c:f<TP.types.size
 .have g:TP.types[f]?=C d:=by
   unfold Tables.info? at a;rwa [XC c]at a
  have:=IB g;unfold IA at this;simp only[Yg]at this;refine⟨λb=>?_,λb=>?_⟩<;>(rw[b]at this;simp at this)
 refine⟨λb=>?_,?_⟩
 .have:=Tables.info?_beyond c a;rw[b]at this;cases this
 unfold Tables.info? at a;rw[Xx c]at a;unfold Made.depth Made.infoAt at a;rw[Xx c,Yb]at a;obtain⟨h,_,a⟩:=a;exact Kq a e
theorem Gw:jW TP:=by
 intro g c;unfold Xy.underlying;cases e:TP.info? g with
 |none=>simp
 |some h=>
  have d:=Iz e c;split
  .constructor<;>
   .intro a;rw[YE]at a;obtain⟨j,f,a⟩:=a;have b:=Iz f c
    first|exact b.1 a|exact b.2 a
  .rename_i j _ a;cases a;simp only[ne_eq,Yh];exact d
  rename_i a;cases a
theorem MC:Extern.findNext Tryz.f171=F/\Extern.find Tryz.f171=C (Extern.SlicesOverlaps.overlaps Tryz.f171.params Tryz.f171.resultTypes):=⟨by kernel_rfl,by kernel_rfl⟩
theorem MD:Extern.findNext Tryz.f230=F/\Extern.find Tryz.f230=C Extern.BytealgCount.count:=⟨by kernel_rfl,by kernel_rfl⟩
theorem ME:Extern.findNext Tryz.f248=F/\Extern.find Tryz.f248=C Extern.BytealgIndex.index:=⟨by kernel_rfl,by kernel_rfl⟩
theorem MF:Extern.findNext Tryz.f256=F/\Extern.find Tryz.f256=C Extern.BytealgIndexByte.indexByte:=⟨by kernel_rfl,by kernel_rfl⟩
theorem MG:Extern.findNext Tryz.f262=F/\Extern.find Tryz.f262=C Extern.AbiNoEscape.same:=⟨by kernel_rfl,by kernel_rfl⟩
theorem Sl:Extern.findNext Tryz.f263=F/\Extern.find Tryz.f263=C (Extern.BytealgMakeNoZero.makeNoZero Tryz.f263.params Tryz.f263.resultTypes):=⟨by kernel_rfl,by kernel_rfl⟩
theorem zf:∀a,TP.globals.findIdx? (·.name== "internal/bytealg.MaxLen")=C a->0<a:=by
 have:TP.globals.findIdx? (·.name== "internal/bytealg.MaxLen")=C 1:=by decide+kernel
 simp_all
theorem Tu{a:E}(d:Gs.contains a=J){fn:Func}(b:TP.funcs[a]?=C fn):Extern.findNext fn=F/\∃c,Extern.find fn=C c/\kG TP h c:=by
 have e:a=171\/a=230\/a=248\/a=256\/a=262\/a=263:=by simpa[Gs]using d
 rcases e with rfl|rfl|rfl|rfl|rfl|rfl
 .cases b;exact⟨MC.1,_,MC.2,AA _ _⟩
 .cases b;exact⟨MD.1,_,MD.2,Jk⟩
 .cases b;exact⟨ME.1,_,ME.2,JI zf⟩
 .cases b;exact⟨MF.1,_,MF.2,xF⟩
 .cases b;exact⟨MG.1,_,MG.2,Oe⟩
 grind [Tryz.func263,Sl,vU]
noncomputable def HY(a:E):Xo:=match TP.funcs[a]? with|some fn=>!fn.norace|none=>J
theorem zY{b c:Xg E}{bZ:Xo}(e:b.all (BR (setOf b c bZ))=J)(q:c.all HY=J)(r:b.all (λa=>c.contains a)=J)(l:TP.follows .rangeFuncRecover=J):Good TP (setOf b c bZ) where
 ux:=Gw
 zero:=QF
 code:=A
 bi:=A
 UG:=l
 norace:=λa fn f d=>by grind [setOf,HY]
 Fb:=λa f=>by simp_all [setOf]
 maxLen:=zf
 funcs:=λa f=>by
  rw[Za]at e;have:=e a (by simp_all [setOf]);unfold BR at this;cases d:TP.funcs[a]? with
  |none=>simp_all
  |some fn=>
   rw[d]at this;simp only[Yg,Xo.not_eq_true']at this;obtain⟨⟨_,m⟩,g⟩:=this;refine⟨fn,A,m,?_⟩;cases k:fn.body with
   |some n=>simp_all
   |none=>rw[k]at g;obtain⟨h,i⟩:=Tu g d;exact Xi ⟨A,h,i⟩
theorem Gx:TP.follows .rangeFuncRecover=J:=by rfl
theorem aC:Good TP al:=zY Tm (by decide+kernel) (by decide+kernel) Gx
theorem eI:Good TP aJ:=zY Qm (by rfl) (by rfl) Gx
theorem gS:Good TP aW:=zY look_ok (by decide+kernel) (by rfl) Gx
variable{U:Oper}{e:E->Prop}{s:E}{p:Xg Xr}{T:Xg E}{f:Xu}{Q:Xp Xw}
section
variable[Inhabited aM]
theorem hZ{w:XJ->Xe}{o:XJ}{a:E}{V:Xe}{Y:Xq}{W:E×E}(l:U.op=.load 99 o)(a3:w o=XA (C ⟨a,0,F⟩))(X:q.heap[a]?=C (Xn #[V] Y W)):
 (execOp w U).run TP q=.ok (.value V) q:=by
 have a2:q.cell? ⟨a,0,F⟩=C V:=by simp[M.cell?,X]
 obtain⟨a0,a4,a6,a5,Z,a1⟩:=U;simp only at l;subst l;go_simp
theorem lx:TP.follows .mixedOrders=J:=by rfl
structure RV where
 ak:Xj
 kind:Xj
 path:XB
 data:XB
 aE:Xj
 flags:Xj
 watch:Xo
 oa:Xp Xw
 on:E
 oc:E
def RV.jf(g:RV):Xk Xe:=#[Xd K g.ak,Xd K g.kind,.string g.path,.string g.data,Xd K g.aE,Xd K g.flags,.bool g.watch,.slice g.oa g.on g.oc]
structure RG(b:PD)(e:E->Prop)(k:M)(h n:E)(Q:Xp Xw)(S:E)(rq:E->RV):Prop where
 x5:e h
 x3:e n
 h5:∃l a,k.heap[h]?=C (Xn #[I] l a)
 h3:∃l a,k.heap[n]?=C (Xn #[.slice Q b.n S] l a)
 elem:∀c,c<b.n->∃o X W l a,Q=C ⟨o,X,F⟩/\e o/\k.heap[o]?=C (Xn W l a)/\∀j,j<8->W[X+c*8+j]?=(rq c).jf[j]?
 NS:∀c,c<b.n->∀d:M,(∀w,e w->d.heap[w]?=k.heap[w]?)->k.heap.size<=d.heap.size->Calls TP 38 #[Xd K c,.agg (rq c).jf] d λY Z=>Y=Xs (b.τ c)/\Below d.heap.size d Z
 only:∀c,c<b.n->fj b.sh (b.τ c)
 small:b.n<2^40
structure jY(e:E->Prop)(k:M)(i:E)(g:RV)(d:M):Prop where
 keep:∀o,e o->d.heap[o]?=k.heap[o]?
 size:k.heap.size<=d.heap.size
 box:d.heap[i]?=C (Xn g.jf 31 (0,0))
 out:¬e i
theorem jY.same{k c:M}{i:E}{g:RV}(a:jY e k i g d)(b:c.heap=d.heap):jY e k i g c:=⟨by rw[b];exact a.keep,by rw[b];exact a.size,by rw[b];exact a.box,a.out⟩
section
variable{b:PD}{k:M}{h i c:E}{g:RV}{r:Xg Item}{R:Xg Deferred}{t y z H L N O u v x:Xe}
theorem fV(b1:bN D 0 (C 12) (.load 99 (.tmp 0))){o:E×E}{w:Xq}(a6:k.heap[h]?=C (Xn #[I] w o))(b3:e h){b2 Z a0 a1:Xe}(a2:Inv TP aJ e m d)(W:jY e k i g d)
 (X:ar aJ m ⟨R,[(0,XA (C ⟨b.bx,0,F⟩))]⟩ ⟨#[XA (C ⟨h,0,F⟩),t,Xd K c,XA (C ⟨i,0,F⟩),y,z,H,L,N,O,u,v,b2,Z,a0,a1,x],[]⟩ f)
 (next:∀l a n,Inv TP aJ e l a->jY e k i g a->ar aJ l ⟨R,[(12,.chan (C b.rc)),(0,XA (C ⟨b.bx,0,F⟩))]⟩ ⟨#[XA (C ⟨h,0,F⟩),t,Xd K c,XA (C ⟨i,0,F⟩),y,z,H,L,N,O,u,v,I,Z,a0,a1,x],[]⟩ n->(fO TP b aJ e s).G l a (rg ((baseD 37).at n (Xv D T::r)) p)):
 (fO TP b aJ e s).G m d (rg ((baseD 37).at f (Xv D (0::T)::r)) p):=by
 obtain⟨⟨b4,b8,Y,b9,b5,b6⟩,a5,Q,S,U⟩:=b1;simp only at Q S U;subst Q S U
 have a4:f.eval (.tmp 0)=XA (C ⟨b.bx,0,F⟩):=by have:=X.kn (0,XA (C ⟨b.bx,0,F⟩)) (by simp);simp_all [Act.eval]
 have a9:d.heap[h]?=C (Xn #[I] w o):=by rw[W.keep h b3];exact a6
 refine NP eI (by decide) (by decide) a5 A (show jd TP aJ.fn aJ.bi aJ.bZ (.load 99 (.tmp 0))=J by rfl) A a2 X (j:=12) A (H:=I) (λY=>by rw[hZ (q:={d with tape:=Y}) A rfl a9];exact⟨A,A⟩)
  (λq w o a7=>hZ A a4 a7) (by simp) λl n a a3 b7 a8 b0=>next l a n a3 (W.same a8) b0
theorem fW(b0:bN D 1 (C 13) (.move (.tmp 2))){w:Xg (E×Xe)}{a1:Xg E}(a7:w.map (·.1)=a1)(a5:(a1.all λc=>C 13 !=C c)=J){W b1 X Y:Xe}(a2:Inv TP aJ e m d)(a6:jY e k i g d)
 (a8:ar aJ m ⟨R,w⟩ ⟨#[XA (C ⟨h,0,F⟩),t,Xd K c,XA (C ⟨i,0,F⟩),y,z,H,L,N,O,u,v,W,b1,X,Y,x],[]⟩ f)
 (next:∀l a o,Inv TP aJ e l a->jY e k i g a->ar aJ l ⟨R,w⟩ ⟨#[XA (C ⟨h,0,F⟩),t,Xd K c,XA (C ⟨i,0,F⟩),y,z,H,L,N,O,u,v,W,Xd K c,X,Y,x],[]⟩ o->(fO TP b aJ e s).G l a (rg ((baseD 37).at o (Xv D T::r)) p)):
 (fO TP b aJ e s).G m d (rg ((baseD 37).at f (Xv D (1::T)::r)) p):=by
 refine vH eI (by decide) (by decide) b0 a7 (by decide) a5 a2 a8 (λZ a=>Z=⟨#[XA (C ⟨h,0,F⟩),t,Xd K c,XA (C ⟨i,0,F⟩),y,z,H,L,N,O,u,v,W,Xd K c,X,Y,x],[]⟩/\a.heap=d.heap) (λb6 b2 _ _ _ b5 b4 a0=>?_) (λZ a a4 b7 _=>by rw[a4.2]) ?_
 .go_wp2
 rintro l _ o a a3 b3 a9⟨rfl,a0⟩;exact next l a o a3 (a6.same a0) a9
theorem iH(b3:bN D 2 (C 14) (.load 31 (.tmp 3))){X:Xg (E×Xe)}{a6:Xg E}(b1:X.map (·.1)=a6)(b0:(a6.all λc=>C 14 !=C c)=J){Y Z c9 a0:Xe}(a2:Inv TP aJ e m d)(W:jY e k i g d)
 (a5:ar aJ m ⟨R,X⟩ ⟨#[XA (C ⟨h,0,F⟩),t,Xd K c,XA (C ⟨i,0,F⟩),y,z,H,L,N,O,u,v,Y,Z,c9,a0,x],[]⟩ f)
 (next:∀l a o,Inv TP aJ e l a->jY e k i g a->ar aJ l ⟨R,X⟩ ⟨#[XA (C ⟨h,0,F⟩),t,Xd K c,XA (C ⟨i,0,F⟩),y,z,H,L,N,O,u,v,Y,Z,.agg g.jf,a0,x],[]⟩ o->(fO TP b aJ e s).G l a (rg ((baseD 37).at o (Xv D T::r)) p)):
 (fO TP b aJ e s).G m d (rg ((baseD 37).at f (Xv D (2::T)::r)) p):=by
 refine vH eI (by decide) (by decide) b3 b1 (by decide) b0 a2 a5 (λa3 a=>a3=⟨#[XA (C ⟨h,0,F⟩),t,Xd K c,XA (C ⟨i,0,F⟩),y,z,H,L,N,O,u,v,Y,Z,.agg g.jf,a0,x],[]⟩/\a.heap=d.heap) (λd0 a8 _ _ _ d7 d6 a4=>?_) (λa3 a a9 d8 _=>by rw[a9.2]) ?_
 .have w:=W.box;obtain⟨b7,b8,b9,c0,c6,c7,c8,b4,b6,b5⟩:=g;unfold RV.jf at w⊢
  rw[<-a8]at w
  have cell:∀j a1,#[Xd K b7,Xd K b8,.string b9,.string c0,Xd K c6,Xd K c7,.bool c8,.slice b4 b6 b5][j]?=C a1->d0.cell? ⟨i,j,F⟩=C a1:=λj a1 d5=>by simp_all [M.cell?]
  have d1:=cell 0 _ A;have c1:=cell 1 _ A;have c2:=cell 2 _ A;have c3:=cell 3 _ A;have c4:=cell 4 _ A;have c5:=cell 5 _ A;have d2:=cell 6 _ A;have d3:=cell 7 _ A;clear cell w W a5 next a2
  go_wp2
  rfl
 rintro l _ o a a7 d4 b2⟨rfl,a4⟩;exact next l a o a7 (W.same a4) b2
theorem fU(b6:bN D 3 (C 15) (.call {callee:=.value (.func 38),args:=#[.tmp 13,.tmp 14],argTypes:=#[3,31]}))(a8:∀d:M,(∀a,e a->d.heap[a]?=k.heap[a]?)->k.heap.size<=d.heap.size->Calls TP 38 #[Xd K c,.agg g.jf] d λo l=>o=Xs (b.τ c)/\Below d.heap.size d l)
 {a3:Xg (E×Xe)}{b0:Xg E}(b4:a3.map (·.1)=b0)(b3:(b0.all λc=>C 15 !=C c)=J){a4 b7:Xe}(a1:Inv TP aJ e m d)(w:jY e k i g d)
 (a9:ar aJ m ⟨R,a3⟩ ⟨#[XA (C ⟨h,0,F⟩),t,Xd K c,XA (C ⟨i,0,F⟩),y,z,H,L,N,O,u,v,a4,Xd K c,.agg g.jf,b7,x],[]⟩ f)
 (next:∀Y W Z,Inv TP aJ e Y W->jY e k i g W->ar aJ Y ⟨R,a3⟩ ⟨#[XA (C ⟨h,0,F⟩),t,Xd K c,XA (C ⟨i,0,F⟩),y,z,H,L,N,O,u,v,a4,Xd K c,.agg g.jf,b.τ c,x],[]⟩ Z->(fO TP b aJ e s).G Y W (rg ((baseD 37).at Z (Xv D T::r)) p)):
 (fO TP b aJ e s).G m d (rg ((baseD 37).at f (Xv D (3::T)::r)) p):=by
 have a0:∀a,e a->a<d.heap.size:=λa a0=>by obtain⟨U,c7,_⟩:=a1.cO a a0;grind
 refine vH eI (by decide) (by decide) b6 b4 (by decide) b3 a1 a9 (λa5 W=>a5=⟨#[XA (C ⟨h,0,F⟩),t,Xd K c,XA (C ⟨i,0,F⟩),y,z,H,L,N,O,u,v,a4,Xd K c,.agg g.jf,b.τ c,x],[]⟩/\∃l,l.heap=d.heap/\Below l.heap.size l W) (λl a2 _ _ _ d0 c8 o=>?_) ?_ ?_
 .have a7:=a8 l (λa a0=>by rw[a2];exact w.keep a a0) (by rw[a2];exact w.size);generalize g.jf=c9 at a7⊢
  clear a8 w a9 next a1
  go_wp2_with (go_at_call 38;refine a7.mono ?_;rintro a2 d1⟨rfl,X⟩)
  grind
 .rintro a5 W⟨_,l,o,X⟩ a a6;rw[<-o];exact X.block a (by simp_all)
 rintro Y _ Z W b1 c6 b5⟨rfl,l,o,X⟩;have b2:i<l.heap.size:=by rw[o];exact(XN.1 w.box).1
 refine next Y W Z b1 ⟨λa a6=>?_,?_,?_,w.out⟩ b5
 .rw[X.block a (by simp_all),o,w.keep a a6]
 .have:=X.size;have:=w.size;grind
 rw[X.block i b2,o];exact w.box
theorem fX(w:bN D 4 F (.send (.tmp 12) (.tmp 15)))(Y:c+(s+1)=b.n)(Z:fj b.sh (b.τ c)){Q:Xe}(S:Inv TP aJ e m d)
 (n:ar aJ m ⟨R,[(12,.chan (C b.rc)),(0,XA (C ⟨b.bx,0,F⟩))]⟩ ⟨#[XA (C ⟨h,0,F⟩),t,Xd K c,XA (C ⟨i,0,F⟩),y,z,H,L,N,O,u,v,I,Xd K c,Q,b.τ c,x],[]⟩ f)
 (next:(fO TP b aJ e s).G m d (rg ((baseD 37).at f (Xv D []::r)) p)):
 (fO TP b aJ e (s+1)).G m d (rg ((baseD 37).at f (Xv D (4::[])::r)) p):=by
 obtain⟨⟨T,a0,a2,a1,U,W⟩,a,g,k,l⟩:=w;simp only at g k l;subst g k l
 have o:f.eval (.tmp 12)=.chan (C b.rc):=by have:=n.kn (12,.chan (C b.rc)) (by simp);simp_all [Act.eval]
 have X:an aJ m (b.τ c) (f.eval (.tmp 15)):=n.tmps.getD 15 aY;refine .stop ⟨A,f.eval (.tmp 15),.tuple #[],λq _=>?_,?_,?_,?_⟩
 .exact Gu a A (by decide) A o
 .grind
 .grind
 have:Go.Conc.served (rg ((baseD 37).at f (Xv D (4::[])::r)) p) I=rg ((baseD 37).at f (Xv D []::r)) p:=by simp only[Go.Conc.served,rg,YK,a];rfl
 rw[this];exact next
theorem Oh(U:bN D 0 (C 12) (.load 99 (.tmp 0)))(w:bN D 1 (C 13) (.move (.tmp 2)))(Q:bN D 2 (C 14) (.load 31 (.tmp 3)))(S:bN D 3 (C 15) (.call {callee:=.value (.func 38),args:=#[.tmp 13,.tmp 14],argTypes:=#[3,31]}))(b3:bN D 4 F (.send (.tmp 12) (.tmp 15)))
 {a2:E×E}{a3:Xq}(T:k.heap[h]?=C (Xn #[I] a3 a2))(W:e h)(q:∀d:M,(∀Y,e Y->d.heap[Y]?=k.heap[Y]?)->k.heap.size<=d.heap.size->Calls TP 38 #[Xd K c,.agg g.jf] d λa1 a7=>a1=Xs (b.τ c)/\Below d.heap.size d a7)
 (b1:c+(s+1)=b.n)(b2:fj b.sh (b.τ c)){a0:Xg E}(Z:a0∈[[0,1,2,3,4],[0,2,1,3,4],[1,0,2,3,4],[1,2,0,3,4],[1,2,3,0,4],[2,0,1,3,4],[2,1,0,3,4],[2,1,3,0,4]])
 {a4 a5 X a6:Xe}(a:Inv TP aJ e m d)(l:jY e k i g d)
 (n:ar aJ m ⟨R,[(0,XA (C ⟨b.bx,0,F⟩))]⟩ ⟨#[XA (C ⟨h,0,F⟩),t,Xd K c,XA (C ⟨i,0,F⟩),y,z,H,L,N,O,u,v,a4,a5,X,a6,x],[]⟩ f)
 (next:∀m d f X,Inv TP aJ e m d->jY e k i g d->ar aJ m ⟨R,[(12,.chan (C b.rc)),(0,XA (C ⟨b.bx,0,F⟩))]⟩ ⟨#[XA (C ⟨h,0,F⟩),t,Xd K c,XA (C ⟨i,0,F⟩),y,z,H,L,N,O,u,v,I,Xd K c,X,b.τ c,x],[]⟩ f->(fO TP b aJ e s).G m d (rg ((baseD 37).at f (Xv D []::r)) p)):
 (fO TP b aJ e (s+1)).G m d (rg ((baseD 37).at f (Xv D a0::r)) p):=by
 simp only[XV,Yd,YS]at Z;rcases Z with rfl|rfl|rfl|rfl|rfl|rfl|rfl|rfl
 .refine fV U T W a l n ?_;intro m d f a l n;refine fW w (a1:=[12,0]) A rfl a l n ?_;intro m d f a l n;refine iH Q (a6:=[12,0]) A rfl a l n ?_;intro m d f a l n;refine fU S q (b0:=[12,0]) A rfl a l n ?_;grind [fX]
 .refine fV U T W a l n ?_;intro m d f a l n;refine iH Q (a6:=[12,0]) A rfl a l n ?_;intro m d f a l n;refine fW w (a1:=[12,0]) A rfl a l n ?_;intro m d f a l n;refine fU S q (b0:=[12,0]) A rfl a l n ?_;grind [fX]
 .refine fW w (a1:=[0]) A rfl a l n ?_;intro m d f a l n;refine fV U T W a l n ?_;intro m d f a l n;refine iH Q (a6:=[12,0]) A rfl a l n ?_;intro m d f a l n;refine fU S q (b0:=[12,0]) A rfl a l n ?_;grind [fX]
 .refine fW w (a1:=[0]) A rfl a l n ?_;intro m d f a l n;refine iH Q (a6:=[0]) A rfl a l n ?_;intro m d f a l n;refine fV U T W a l n ?_;intro m d f a l n;refine fU S q (b0:=[12,0]) A rfl a l n ?_;grind [fX]
 .refine fW w (a1:=[0]) A rfl a l n ?_;intro m d f a l n;refine iH Q (a6:=[0]) A rfl a l n ?_;intro m d f a l n;refine fU S q (b0:=[0]) A rfl a l n ?_;grind [fV,fX]
 .refine iH Q (a6:=[0]) A rfl a l n ?_;intro m d f a l n;refine fV U T W a l n ?_;intro m d f a l n;refine fW w (a1:=[12,0]) A rfl a l n ?_;intro m d f a l n;refine fU S q (b0:=[12,0]) A rfl a l n ?_;grind [fX]
 .refine iH Q (a6:=[0]) A rfl a l n ?_;intro m d f a l n;refine fW w (a1:=[0]) A rfl a l n ?_;intro m d f a l n;refine fV U T W a l n ?_;intro m d f a l n;refine fU S q (b0:=[12,0]) A rfl a l n ?_;grind [fX]
 refine iH Q (a6:=[0]) A rfl a l n ?_;intro m d f a l n;refine fW w (a1:=[0]) A rfl a l n ?_;intro m d f a l n;refine fU S q (b0:=[0]) A rfl a l n ?_;grind [fV,fX]
end
section
variable{b:PD}{h n S:E}{rq:E->RV}
abbrev FY(b:PD)(R:Xg Deferred):Rt:=⟨R,[(0,XA (C ⟨b.bx,0,F⟩))]⟩
theorem Kk(l:RG b e d h n Q S rq)(Y:Inv TP aJ e m d)(f5:m h b.bx){d6:Xe}(f3:an aJ m (XA (C ⟨n,0,F⟩)) d6):
 jx TP aJ e (IQ b) (iW TP b aJ e b.n) m d (born TP {target:=.fn (.func 37) #[XA (C ⟨b.bx,0,F⟩),d6],args:=#[]}):=by
 show(fO TP b aJ e b.n).G m d _;refine Goal.pure _ A rfl (λq=>vf Tryz.func37 (by decide) A) ?_;rw[enter_atD _ Tryz.func37 A]
 simp only[Tryz.ntmps37,Yt,Yl,Zd,E.reduceAdd,E.reduceSub,Zh,
  Zi,Zt,Zn,Zj,Yp]
 have g5:=aY (h:=aJ) (m:=m)
 have b7:ar aJ m (FY b []) ⟨#[XA (C ⟨h,0,F⟩),XA (C ⟨n,0,F⟩),I,I,I,I,I,I,I,I,I,I,I,I,I,I,I],[]⟩
  ⟨#[XA (C ⟨b.bx,0,F⟩),d6,I,I,I,I,I,I,I,I,I,I,I,I,I,I,I],[]⟩:=by
  refine⟨?_,⟨[],A,.nil⟩,by simp⟩;refine aZ.arr (.cons (.ptr ⟨f5,A,A⟩) (.cons f3 ?_))
  repeat (first|exact .nil|refine .cons g5 ?_)
 generalize (⟨#[XA (C ⟨b.bx,0,F⟩),d6,I,I,I,I,I,I,I,I,I,I,I,I,I,I,I],[]⟩:Xu)=f at b7⊢
 refine bz (eA ?_)
 have f2:f.eval (.tmp 0)=XA (C ⟨b.bx,0,F⟩):=by have:=b7.kn (0,XA (C ⟨b.bx,0,F⟩)) (by simp);simp_all [Act.eval]
 obtain⟨n0,l3,b5⟩:=l.h5
 refine NP eI (by decide) (by decide) A rfl (by rfl) A Y b7 (j:=4) A (H:=I) (λe3=>by rw[hZ (q:={d with tape:=e3}) A rfl b5];exact⟨A,A⟩)
  (λq j1 l1 h9=>hZ A f2 h9) (by simp) λj7 g9 Z e6 h6 d7 e2=>?_
 have f4:g9.eval (.tmp 4)=.chan (C b.rc):=by have:=e2.kn (4,.chan (C b.rc)) (by simp);simp_all [Act.eval]
 refine xD (by decide) A rfl rfl rfl f4 e2 A λc9 h0 d3=>bP (bz ?_);replace d3:ar aJ j7 (FY b [cC #[99] 0 b.rc c9]) ⟨#[XA (C ⟨h,0,F⟩),XA (C ⟨n,0,F⟩),I,I,I,I,I,I,I,I,I,I,I,I,I,I,I],[]⟩ h0:=d3.less A (by simp);obtain⟨m9,l2,d1⟩:=l.h3;refine bT eI (by decide) (by decide) (z:=[0]) A (by rfl) e6 d3 (λo Z=>o=⟨#[XA (C ⟨h,0,F⟩),XA (C ⟨n,0,F⟩),I,I,I,.slice Q b.n S,Xd K b.n,Xd K 0,I,I,I,I,I,I,I,I,I],[]⟩/\Z.heap=d.heap) (λa3 w _ _ _=>?_) ?_ ?_
 .have l8:a3.cell? ⟨n,0,F⟩=C (.slice Q b.n S):=by simp_all [M.cell?]
  rw[d7]at w;clear b7 l d1 d7
  go_wp2
  exact⟨A,w⟩
 .simp_all
 rintro j8 _ h1 j3 e7 h7 a1⟨rfl,f8⟩
 refine ie (Kj (λs m Z f=>∃(c:E)(c6 c7 a6 e4 c8 b9 c0 a8 a9 a2 b0 b1:Xe),c+s=b.n/\Inv TP aJ e m Z/\(∀a,e a->Z.heap[a]?=d.heap[a]?)/\d.heap.size<=Z.heap.size/\
  ar aJ m (FY b [cC #[99] 0 b.rc c9]) ⟨#[XA (C ⟨h,0,F⟩),XA (C ⟨n,0,F⟩),c6,c7,a6,.slice Q b.n S,Xd K b.n,Xd K c,e4,c8,b9,c0,a8,a9,a2,b0,b1],[]⟩ f) ?_ ?_ b.n j8 j3 h1
  ⟨0,_,_,_,_,_,_,_,_,_,_,_,_,by omega,e7,λa W=>by rw[f8],by simp_all,a1⟩)
 .clear a1 e7 f8 d3 h7 e2 f4 d7 e6 h6 b7 f2 g5 f3 f5 Y;rintro s d4 m Z f⟨c,c6,c7,a6,e4,c8,b9,c0,a8,a9,a2,b0,b1,b4,Y,b3,d2,a0⟩;have g1:(c:Xj)<b.n:=by omega
  have d9:c<b.n:=by omega
  have e1:=l.small;refine bz (bT eI (by decide) (by decide) (z:=[0]) A (by rfl) Y a0 (λo X=>o=⟨#[XA (C ⟨h,0,F⟩),XA (C ⟨n,0,F⟩),c6,c7,a6,.slice Q b.n S,Xd K b.n,Xd K c,.bool J,c8,b9,c0,a8,a9,a2,b0,b1],[]⟩/\X.heap=Z.heap) (λa3 w _ _ _=>?_) (λo X a7 a _=>by rw[a7.2]) ?_)
  .clear d4 b4 a0 d1 b5 l Y b3 d2 e1
   go_wp2
   exact⟨A,w⟩
  rintro j9 _ e9 b2 a4 f0 a1⟨rfl,d8⟩;refine bz (iO (k:=J) (iP a4.base a1 (by decide) A) (sq (bz (ie (bz ?_)))));obtain⟨a5,b8,g7,j2,h5,rfl,l6,h8,d0⟩:=l.elem c d9;obtain⟨⟨i4,i5,i6,i7,i8,i9,j0,i1,i3,i2⟩,g3⟩:∃g,rq c=g:=⟨_,A⟩;refine bT eI (by decide) (by decide) (z:=[0]) A (by rfl) a4 a1 (λo X=>o=⟨#[XA (C ⟨h,0,F⟩),XA (C ⟨n,0,F⟩),Xd K c,XA (C ⟨b2.heap.size,0,F⟩),a6,Xm (C ⟨a5,b8,F⟩) b.n S,Xd K b.n,Xd K c,.bool J,Xd K c,XA (C ⟨a5,b8+c*8,F⟩),.agg (rq c).jf,a8,a9,a2,b0,b1],[]⟩/\X.heap=b2.heap.push (.cells (rq c).jf 31 (0,0))) (λa3 w _ _ _=>?_) ?_ ?_
  .rw[g3]at d0⊢
   unfold RV.jf at d0⊢
   have f6:a3.heap[a5]?=C (Xn g7 j2 h5):=by grind
   have l7:a5<a3.heap.size:=(XN.1 f6).1
   have cell:∀j e5,j<8->#[Xd K i4,Xd K i5,.string i6,.string i7,Xd K i8,Xd K i9,.bool j0,.slice i1 i3 i2][j]?=C e5->a3.cell? ⟨a5,b8+c*8+j,F⟩=C e5:=λj e5 l9 m3=>by grind [World.cell?]
   have h3:=cell 0 _ (by decide) A;have c1:=cell 1 _ (by decide) A;have c2:=cell 2 _ (by decide) A;have c3:=cell 3 _ (by decide) A;have c4:=cell 4 _ (by decide) A;have c5:=cell 5 _ (by decide) A;have k7:=cell 6 _ (by decide) A;have k8:=cell 7 _ (by decide) A;rw[E.add_zero]at h3;rw[<-w];clear d4 b4 a0 d1 b5 l Y b3 d2 e1 a1 g3 d0 f0 a4 cell w f6
   go_wp2
   exact⟨A,A⟩
  .rintro o X⟨_,h4⟩ a W;rw[h4];obtain⟨U,m2,_⟩:=a4.cO a W
   grind
  rintro n2 _ k5 j4 e8 f1 g4⟨rfl,f9⟩;have g2:∀a,e a->a<b2.heap.size:=λa W=>by obtain⟨U,a7,_⟩:=a4.cO a W;grind
  have b6:jY e d b2.heap.size (rq c) j4:=by
   refine⟨λa W=>?_,?_,?_,λW=>E.lt_irrefl _ (g2 _ W)⟩
   .rw[f1.keep a W,d8,b3 a W]
   .rw[f9,aa2,d8];omega
   grind
  refine Sq lx (i:=[[0,1,2,3,4],[0,2,1,3,4],[1,0,2,3,4],[1,2,0,3,4],[1,2,3,0,4],[2,0,1,3,4],[2,1,0,3,4],[2,1,3,0,4]]) (by decide+kernel) λm4 e0=>?_;refine Oh ⟨_,A,A,A,A⟩ ⟨_,A,A,A,A⟩ ⟨_,A,A,A,A⟩ ⟨_,A,A,A,A⟩ ⟨_,A,A,A,A⟩ b5 l.x5 (l.NS c d9) b4 (l.only c d9) e0 e8 b6 g4 λm j5 f a2 Y b6 a0=>bP (BU ?_);have e1:=l.small;have l5:(0:Xj)<=c:=by omega
  have m0:(c:Xj)<2^40:=by omega
  refine bT eI (by decide) (by decide) (z:=[12,0]) A (by rfl) Y a0 (λo X=>o=⟨#[XA (C ⟨h,0,F⟩),XA (C ⟨n,0,F⟩),Xd K c,XA (C ⟨b2.heap.size,0,F⟩),a6,Xm (C ⟨a5,b8,F⟩) b.n S,Xd K b.n,Xd K ((c+1:E):Xj),.bool J,Xd K c,XA (C ⟨a5,b8+c*8,F⟩),.agg (rq c).jf,I,Xd K c,a2,b.τ c,Xd K ((c+1:E):Xj)],[]⟩/\X.heap=j5.heap) (λa3 w _ _ _=>?_) (λo X a7 a _=>by rw[a7.2]) ?_
  .generalize b.τ c=m7;generalize (rq c).jf=m5;clear l b6 a0 g4 e8 f9 f1 d0 h8 g2 d4
   go_wp2
   exact⟨by rfl,w⟩
  rintro k0 _ h2 j6 g8 l4 i0⟨rfl,g0⟩;exact d4 k0 j6 h2 ⟨c+1,_,_,_,_,_,_,_,_,_,_,_,_,by omega,g8,λa W=>by rw[g0,b6.keep a W],by rw[g0];exact b6.size,i0.less A (by simp)⟩
 rintro m Z f⟨c,c6,c7,a6,e4,c8,b9,c0,a8,a9,a2,b0,b1,b4,Y,b3,d2,a0⟩;have g1:¬((c:Xj)<b.n):=by omega
 refine bz (bT eI (by decide) (by decide) (z:=[0]) A (by rfl) Y a0 (λo X=>o=⟨#[XA (C ⟨h,0,F⟩),XA (C ⟨n,0,F⟩),c6,c7,a6,.slice Q b.n S,Xd K b.n,Xd K c,.bool Xf,c8,b9,c0,a8,a9,a2,b0,b1],[]⟩/\X.heap=Z.heap) (λa3 w _ _ _=>?_) (λo X a7 a _=>by rw[a7.2]) ?_)
 .have m1:b.n<=c:=by omega
  clear b4 a0 d1 b5 l b3 d2 g1
  go_wp2
  exact⟨by simp_all,w⟩
 rintro j9 _ e9 b2 a4 f0 a1⟨rfl,d8⟩;refine bz (iO (k:=Xf) (iP a4.base a1 (by decide) A) (sb A ?_));refine Goal.pure _ A rfl (λq=>by rw[bu A];simp[stepG.exec,Frame.at,rg];rfl) ?_;obtain⟨g6,k9⟩:=e9;obtain⟨l0,f7,e0⟩:=a1.defers;cases e0;simp only[Zj]at f7;subst f7;exact .stop (FZ (P:=TP) (a:=baseD 37) (e:=g6) (d:=[]) (g:=#[99]) (l:=0) (i:=c9) A Tryz.func37 A rfl rfl)
end
end
abbrev kP:Go.Conc.Lib.WgLink:={add:=55,done:=57,wait:=59,relMerge:=82,disable:=83,enable:=84,inBubble:=85,associate:=86,fatal:=87,uOr:=88,uAdd:=89,raceRead:=90,uLoad:=91,uStore:=92,disassociate:=93,semrelease:=94,acquire:=99,isAssociated:=100,uCas:=101,raceWrite:=102,semacquire:=103,orU64:=124,addU64:=125,loadU64:=126,storeU64:=127,casU64:=133,tWgP:=200,tUP:=202,tAssoc:=203,tWg:=151,tAU:=148,tU64:=146,tUint:=207,tU32:=149,tPU32:=208,tPAU:=241,tPU64:=243,tNoCopy:=143,tANoCopy:=144,tAlign64:=145}
theorem IG:Go.Conc.Lib.WgLib TP kP:=
 ⟨Tryz.func55,Tryz.func57,Tryz.func59,Tryz.func82,Tryz.func83,Tryz.func84,Tryz.func85,Tryz.func86,Tryz.func87,Tryz.func88,Tryz.func89,Tryz.func90,Tryz.func91,Tryz.func92,Tryz.func93,Tryz.func94,Tryz.func99,Tryz.func100,Tryz.func101,Tryz.func102,Tryz.func103,Tryz.func124,Tryz.func125,Tryz.func126,Tryz.func127,Tryz.func133,Tryz.underlying200,Tryz.runUnderlying200,Tryz.sizeOf200,Tryz.isAgg200,Tryz.zeroValue200,Tryz.underlying202,Tryz.runUnderlying202,Tryz.sizeOf202,Tryz.isAgg202,Tryz.zeroValue202,Tryz.underlying203,Tryz.runUnderlying203,Tryz.sizeOf203,Tryz.isAgg203,Tryz.zeroValue203,Tryz.underlying151,Tryz.runUnderlying151,Tryz.sizeOf151,Tryz.isAgg151,Tryz.zeroValue151,Tryz.underlying148,Tryz.runUnderlying148,Tryz.sizeOf148,Tryz.isAgg148,Tryz.zeroValue148,Tryz.underlying146,Tryz.runUnderlying146,Tryz.sizeOf146,Tryz.isAgg146,Tryz.zeroValue146,Tryz.underlying207,Tryz.runUnderlying207,Tryz.sizeOf207,Tryz.isAgg207,Tryz.zeroValue207,Tryz.underlying149,Tryz.runUnderlying149,Tryz.sizeOf149,Tryz.isAgg149,Tryz.zeroValue149,Tryz.underlying208,Tryz.runUnderlying208,Tryz.sizeOf208,Tryz.isAgg208,Tryz.zeroValue208,Tryz.underlying241,Tryz.runUnderlying241,Tryz.sizeOf241,Tryz.isAgg241,Tryz.zeroValue241,Tryz.underlying243,Tryz.runUnderlying243,Tryz.sizeOf243,Tryz.isAgg243,Tryz.zeroValue243,Tryz.underlying0,Tryz.runUnderlying0,Tryz.sizeOf0,Tryz.isAgg0,Tryz.zeroValue0,Tryz.underlying3,Tryz.runUnderlying3,Tryz.sizeOf3,Tryz.isAgg3,Tryz.zeroValue3,Tryz.underlying4,Tryz.runUnderlying4,Tryz.sizeOf4,Tryz.isAgg4,Tryz.zeroValue4,Tryz.underlying9,Tryz.runUnderlying9,Tryz.sizeOf9,Tryz.isAgg9,Tryz.zeroValue9,Tryz.underlying20,Tryz.runUnderlying20,Tryz.sizeOf20,Tryz.isAgg20,Tryz.zeroValue20,Tryz.underlying21,Tryz.runUnderlying21,Tryz.sizeOf21,Tryz.isAgg21,Tryz.zeroValue21,by kernel_rfl,by kernel_rfl⟩
variable{i:E}{f:E->Prop}{R:E}{d:E}{v:Xe}{u:Xu}{z:E->Prop}{y:Xu}{b:Xe}{Z:Xg E}{W:Xg Xr}{Y:Xe}
section
variable[Inhabited aM]
theorem kV.tape{c:WD}{fin:bE->M->Prop}(l:∀cl(w:M) t,fin cl {w with tape:=t}->fin cl w):∀(s:E)(cl:bE)(m:Ren)(w:M)(t:E->Question->E)(g:Xt),kV P c fin i h f s cl m {w with tape:=t} g->kV P c fin i h f s cl m w g
 |0,cl,_,w,t,_,a=>⟨a.1,a.2.1,l cl w t a.2.2⟩
 |s+1,cl,m,w,t,g,a=>by obtain⟨a0,n,x,a7,X,a1,a2,a3,a4,a5,a6⟩:=a;exact⟨a0,n,x,a7,X,a1,a2,a3,a4,a5,(yw P h f (tW c) (kV P c fin i h f s (cl++[(n,x)])) (kV.tape l s _)).tape a6⟩
def iX(P:Xy)(a:WD)(fin:bE->M->Prop)(c:∀cl(w:M) e,fin cl {w with tape:=e}->fin cl w)(i:E)(h:Set)(f:E->Prop)(b:E×bE):Goal P h Xf f:=yw P h f (tW a) (kV P a fin i h f b.1 b.2) (kV.tape c b.1 b.2)
structure WV where
 cb:E
 tp:Xe
 bl:E
 off:E
 n:E
 nc:E
 c:E
 gb:E
 gv:E
 path:XB
abbrev pt(a o:E):Xe:=XA (C ⟨a,o,F⟩)
def wT(V:WV)(r:Xk Xe)(p:Xe):Xg (E×E×Xe):=
 [(0,18,I),(1,19,Xd K V.c),(2,20,I),(3,21,Xd K V.c),(4,22,pt V.cb 0),(5,23,pt V.cb 0),(6,24,pt V.cb 2),(7,25,V.tp),(8,26,Xm (C ⟨V.bl,V.off,F⟩) V.n V.nc),(9,27,Xd K V.c),
  (10,28,pt V.bl (V.off+V.c*9)),(11,29,pt V.bl (V.off+V.c*9)),(12,30,pt V.bl (V.off+V.c*9+1)),(13,31,pt V.bl (V.off+V.c*9+1+1)),(14,32,pt V.bl (V.off+V.c*9+1+1+1)),(15,33,.string V.path),
  (16,34,.tuple #[.agg r,p]),(17,17,.tuple #[.agg r,p]),(18,35,.agg r),(19,36,p),(20,37,I),(21,38,I),(23,39,I),(24,40,I)]
def wK(V:WV):Xg (E×E×Xe):=
 [(0,18,Xm (C ⟨V.gb,0,F⟩) V.n V.n),(2,20,Xm (C ⟨V.gb,0,F⟩) V.n V.n),(20,37,pt V.gb (V.c*10)),(21,38,pt V.gb (V.c*10)),(23,39,pt V.gb (V.c*10)),(24,40,pt V.gb (V.c*10+9))]
def IJ(V:WV)(e:Xk Xo):Xg (E×Xe):=((wK V).filter λa=>e.getD a.1 Xf).map (λa=>(a.2.1,a.2.2))++[(4,pt V.gv 0)]
def dq(i:E):Xg E:=
 [[],[],[],[],[],[4],[5],[6],[],[],[8,9],[10],[11],[12],[13],[14],[7,15],[16],[17],[17],[0,1],[20],[21,18],[2,3,22],[23],[24,19,22]].getD i []
theorem Hf{a:E->Xg E}(n:D.size=R)(g:((Xg.range R).all λi=>(a i).all λj=>((D[i]?).map λo=>o.after.any λc=>c.on==j&&Region.binds .any c).getD Xf)=J){e:Xk Xo}(l:i∈Region.ready .any D e):∀j∈a i,e.getD j Xf=J:=by grind [ls]
structure WR(z:E->Prop)(O:M)(V:WV)(N:Xg Deferred)(U T S L:E)(Q:M)(H:Xk Xe->Xe->M->Prop)(e:Xk Xo)(r:Xk Xe)(p:Xe)(m:Ren)(w:M)(u y:Xu):Prop where
 inv:Inv TP aW z m w
 keep:∀b,z b->w.heap[b]?=O.heap[b]?
 size:O.heap.size<=w.heap.size
 len:u.tmps.size=41
 defs:u.defers=[]
 t1:u.tmps[1]?=C (pt U 0)
 t2:u.tmps[2]?=C (pt T 0)
 t3:u.tmps[3]?=C (pt S 0)
 t4:u.tmps[4]?=C (pt L 0)
 t5:u.tmps[5]?=C (Xd K V.c)
 tab:∀c∈wT V r p,e.getD c.1 Xf=J->u.tmps[c.2.1]?=C c.2.2
 rel:ar aW m ⟨N,IJ V e⟩ u y
 sn:e.getD 16 Xf=J->H r p w
 ord:∀j,j=17\/j=18\/j=19->e.getD j Xf=J->e.getD 16 Xf=J
 Uj:∀a,a<Q.heap.size->w.heap[a]?=Q.heap[a]?
 TE:Q.heap.size<=w.heap.size
theorem iB{n m:Type}{l:n->m}:∀{f:Xg n}{b e:n},(f.map l).Nodup->b∈f->e∈f->l b=l e->b=e
 |p::f,b,e,g,a,c,h=>by
  rw[YG,Xg.nodup_cons]at g;rcases XV.1 a with a|a<;>rcases XV.1 c with c|c
  .rw[a,c]
  .exact absurd (YB.2 ⟨e,c,by rw[<-h,a]⟩) g.1
  .exact absurd (YB.2 ⟨b,a,by rw[h,c]⟩) g.1
  exact iB g.2 a c h
theorem qz{e:Xk Xo}(b:(e.setIfInBounds i J).getD j Xf=J):j=i\/e.getD j Xf=J:=by
 by_cases a:j=i
 .exact Xh a
 simp_all [YX]
theorem Jy{e:Xk Xo}(a:e.getD j Xf=J):(e.setIfInBounds i J).getD j Xf=J:=by
 rw[Yu]at a⊢
 grind
theorem QD{b:Xg (E×E×Xe)}(g:(b.map (·.1)).Nodup)(p:(b.map (·.2.1)).Nodup)(m:(i,d,v)∈b)(hd:d<u.tmps.size){e:Xk Xo}(n:∀a∈b,e.getD a.1 Xf=J->u.tmps[a.2.1]?=C a.2.2):
 ∀a∈b,(e.setIfInBounds i J).getD a.1 Xf=J->(u.put (C d) v).tmps[a.2.1]?=C a.2.2:=by
 intro a l h;simp only[Act.put];rw[YO];by_cases f:d=a.2.1
 .grind [iB]
 rw[Xx f];rcases qz h with c|c
 .have:=iB g l m c;subst this;exact absurd A f
 grind
theorem OC(V:WV)(r:Xk Xe)(p:Xe):((wT V r p).map (·.1)).Nodup:=by show([0,1,2,3,4,5,6,7,8,9,10,11,12,13,14,15,16,17,18,19,20,21,23,24]:Xg E).Nodup;decide
theorem Ef(V:WV)(r:Xk Xe)(p:Xe):((wT V r p).map (·.2.1)).Nodup:=by show([18,19,20,21,22,23,24,25,26,27,28,29,30,31,32,33,34,17,35,36,37,38,39,40]:Xg E).Nodup;decide
theorem GD{V:WV}{a:E×E×Xe}(b:a∈wK V):a.1∈[0,2,20,21,23,24]/\a.2.1∈[18,20,37,38,39,40]:=by
 simp only[wK,XV,Yd,YS]at b
 grind
theorem Ei{V:WV}{e:Xk Xo}{N:Xg Deferred}(b:d∉[4,18,20,37,38,39,40]):(⟨N,IJ V e⟩:Rt).free (C d)=J:=by
 unfold Rt.free IJ;rw[Za];intro g c;simp only[YC,YB,j_,YI]at c;have:g.1≠d:=by
  rcases c with⟨h,⟨f,_⟩,rfl⟩|rfl
  .intro a;have:=(GD f).2;simp only at a;rw[a]at this;exact b (Ym _ this)
  rintro rfl;exact b (by simp)
 grind
theorem AY{V:WV}{e:Xk Xo}(c:i∉[0,2,20,21,23,24]):IJ V (e.setIfInBounds i J)=IJ V e:=by
 unfold IJ
 congr 2
 refine Xg.filter_congr λa f=>?_;have g:a.1≠i:=λb=>c (b▸(GD f).1);simp_all [YX]
section
variable{O:M}{V:WV}{N:Xg Deferred}{U T S L:E}{Q:M}{H:Xk Xe->Xe->M->Prop}{e:Xk Xo}{r:Xk Xe}{p:Xe}
theorem cm(a:u.tmps[j]?=C b)(c:j≠d):(u.put (C d) v).tmps[j]?=C b:=by simp_all [Act.put,YX]
theorem WR.put(a:WR z O V N U T S L Q H e r p m w u y){n:Ren}{l:M}{t:Xu}(a1:i≠16)(a3:i=17\/i=18\/i=19->e.getD 16 Xf=J)(a2:(i,d,v)∈wT V r p)(X:Inv TP aW z n l)(c:l.heap=w.heap)
 (a5:H r p w->H r p l)(a4:ar aW n ⟨N,IJ V (e.setIfInBounds i J)⟩ (u.put (C d) v) t)(hd:17<=d/\d<41):WR z O V N U T S L Q H (e.setIfInBounds i J) r p n l (u.put (C d) v) t where
 inv:=X
 keep:=by rw[c];exact a.keep
 size:=by rw[c];exact a.size
 len:=by simp[Act.put,a.len]
 defs:=a.defs
 t1:=cm a.t1 (by omega)
 t2:=cm a.t2 (by omega)
 t3:=cm a.t3 (by omega)
 t4:=cm a.t4 (by omega)
 t5:=cm a.t5 (by omega)
 tab:=QD (OC V r p) (Ef V r p) a2 (by rw[a.len];exact hd.2) a.tab
 rel:=a4
 sn:=λa0=>a5 (a.sn ((qz a0).resolve_left (YX a1)))
 ord:=λj x hd=>Jy (by
  rcases qz hd with rfl|hd
  .exact a3 x
  exact a.ord j x hd)
 Uj:=by rw[c];exact a.Uj
 TE:=by rw[c];exact a.TE
theorem eX{t:WD}{fin:bE->M->Prop}{x:∀cl(w:M) n,fin cl {w with tape:=n}->fin cl w}{a1:E}{b:E×bE}{l:Op}
 (b1:∀a:M,a.heap=w.heap->H r p w->H r p a)(a8:bN D i (C d) l)(a9:jd TP aW.fn aW.bi aW.bZ l=J)(a6:i∉[0,2,16,20,21,22,23,24,25])(hd:d∉[4,18,20,37,38,39,40]/\17<=d/\d<41)(a7:(i,d,v)∈wT V r p)(b0:i=17\/i=18\/i=19->e.getD 16 Xf=J)
 (g:WR z O V N U T S L Q H e r p m w u y)(run:∀a0:M,a0.heap=w.heap->∀n b2 a4,(⟨C d,l,n,b2,a4,F⟩:Oper).wp TP u a0 (λc a=>c=u.put (C d) v/\a.heap=w.heap) (eP λ_ _=>False))
 (next:∀m w u y,WR z O V N U T S L Q H (e.setIfInBounds i J) r p m w u y->(iX TP t fin x a1 aW z b).G m w (rg ((baseD 56).at y (Xv D Z::k)) W)):
 (iX TP t fin x a1 aW z b).G m w (rg ((baseD 56).at y (Xv D (i::Z)::k)) W):=by
 refine BT gS (by decide) (by decide) a8 a9 (Ei hd.1) g.inv g.rel (λc a=>c=u.put (C d) v/\a.heap=w.heap) run (λc a a5 b _=>by rw[a5.2]) ?_;rintro b3 _ a3 a a2 b4 b5⟨rfl,X⟩;refine next b3 a _ a3 (g.put (by rintro rfl;exact a6 (by simp)) b0 a7 a2 X (b1 a X) ?_ hd.2)
 simp_all [AY]
theorem WR.eval(a:WR z O V N U T S L Q H e r p m w u y)(c:(i,d,v)∈wT V r p)(hd:e.getD i Xf=J):u.eval (.tmp d)=v/\u.tmps.getD d I=v/\u.tmps[d]?.getD I=v:=by have:=a.tab _ c hd;simp_all [Act.eval]
theorem cB(a:u.tmps[d]?=C v):u.eval (.tmp d)=v/\u.tmps.getD d I=v/\u.tmps[d]?.getD I=v:=⟨by simp[Act.eval,a],by simp[a],by simp[a]⟩
theorem WR.yr(a:WR z O V N U T S L Q H e r p m w u y)(c:(i,d,v)∈wK V)(hd:e.getD i Xf=J):y.tmps[d]?=C v:=by refine a.rel.kn (d,v) ?_;show(d,v)∈IJ V e;unfold IJ;exact ZF _ (YB.2 ⟨_,j_.2 ⟨c,hd⟩,A⟩)
theorem yC{a:Rt}(b:ar h m a u y){R:Xj}(hd:u.tmps[d]?=C (Xd K R)):y.tmps[d]?=C (Xd K R):=by obtain⟨Y,c,e⟩:=b.tmps.get hd;cases e;exact c
theorem Ej(h:(i,d,v)∈wK V)(m:i<e.size):∀f∈IJ V (e.setIfInBounds i J),f∈(d,v)::IJ V e:=by
 intro f b;unfold IJ at b⊢
 simp only[YC,YB,j_,YI]at b;rcases b with⟨g,⟨c,hd⟩,rfl⟩|rfl
 .rcases qz hd with a|a
  .have l:((wK V).map (·.1)).Nodup:=by
    show([0,2,20,21,23,24]:Xg E).Nodup;decide
   have:=iB l c h a;subst this;exact YZ ..
  exact Ym _ (ZF _ (YB.2 ⟨g,j_.2 ⟨c,a⟩,A⟩))
 simp
theorem zi(b:(i,d,v)∈wK V)(g:e.getD i Xf=Xf):(⟨N,IJ V e⟩:Rt).free (C d)=J:=by
 unfold Rt.free IJ;rw[Za];intro m c;simp only[YC,YB,j_,YI]at c;have hd:=(GD b).2;have:m.1≠d:=by
  rcases c with⟨n,⟨h,a⟩,rfl⟩|rfl
  .intro f
   have l:((wK V).map (·.2.1)).Nodup:=by show([18,20,37,38,39,40]:Xg E).Nodup;decide
   have:=iB l h b f;subst this;simp only at a;rw[g]at a;cases a
  rintro rfl;simp at hd
 grind
theorem tN{g:XJ->Xe}{b:XJ}{a:E}{V:Xe}{t:Xq}{l:E×E}(c:o.op=.load 141 b)(a1:g b=XA (C ⟨a,0,F⟩))(n:q.heap[a]?=C (Xn #[V] t l)):
 (execOp g o).run TP q=.ok (.value V) q:=by
 have a0:q.cell? ⟨a,0,F⟩=C V:=by simp[M.cell?,n]
 obtain⟨d,a2,a4,a3,x,X⟩:=o;simp only at c;subst c;go_simp
theorem yY{c:XJ->Xe}{b f:XJ}{e a:E}(l:c b=Xm (C ⟨e,0,F⟩) R R)(m:c f=Xd K a)(h:a<R)(q:M)(p:Xq)(n:String)(g:Xk Edge):
 (execOp c ⟨C j,.indexAddr 141 b f,p,n,g,F⟩).runT TP q #[]=(.ok (.value (pt e (a*10))) q,#[]):=by
 have r:(a:Xj)<R:=by omega
 rw[s_];refine V_ ?_ ?_
 .simp only;go_simp
 simp only;simp[go_sem,l,m,h]
theorem yX{g:XJ->Xe}{b:XJ}{e c a:E}(l:a=0\/a=1)(f:g b=pt e c)(q:M)(n:Xq)(m:String)(h:Xk Edge):
 (execOp g ⟨C j,.fieldAddr 158 b a,n,m,h,F⟩).runT TP q #[]=(.ok (.value (pt e (c+9*a))) q,#[]):=by
 rw[s_];rcases l with rfl|rfl
 .refine V_ ?_ ?_
  .simp only;go_simp
  simp only;simp[go_sem,f]
 refine V_ ?_ ?_
 .simp only;go_simp
 simp only;simp[go_sem,f]
theorem OD{f:WD}{fin:bE->M->Prop}{s:∀cl(w:M) n,fin cl {w with tape:=n}->fin cl w}{R:E}{b:E×bE}
 (a7:∀c:M,c.heap=w.heap->H r p w->H r p c)(a6:bN D i (C d) (.load 141 (.tmp 4)))(a8:i<e.size)(a5:e.getD i Xf=Xf)(c0:i<16\/19<i)(a4:(i,d,I)∈wT V r p)(x:(i,d,Xm (C ⟨V.gb,0,F⟩) V.n V.n)∈wK V)(hd:17<=d/\d<41)
 (b8:f.gv=V.gv)(c6:f.gs=Xm (C ⟨V.gb,0,F⟩) V.n V.n){h:Xq}{g:E×E}(a2:O.heap[L]?=C (Xn #[I] h g))(b3:z L)(a:WR z O V N U T S L Q H e r p m w u y)
 (next:∀m w u y,WR z O V N U T S L Q H (e.setIfInBounds i J) r p m w u y->(iX TP f fin s R aW z b).G m w (rg ((baseD 56).at y (Xv D Z::k)) W)):
 (iX TP f fin s R aW z b).G m w (rg ((baseD 56).at y (Xv D (i::Z)::k)) W):=by
 have a1:=cB a.t4;have a3:w.heap[L]?=C (Xn #[I] h g):=by rw[a.keep L b3];exact a2
 have b1:y.tmps[4]?=C (pt V.gv 0):=a.rel.kn (4,pt V.gv 0) (n_ _ (by simp))
 refine Tz gS (by decide) (by decide) a6 (by rfl) (zi x a5) a.inv a.rel (T:=I) (w:=Xm (C ⟨V.gb,0,F⟩) V.n V.n) (O:=V.gv) (λq l=>by
  obtain⟨h,g,b9⟩:=l
  simp_all) (λn b0 a0 b2=>?_) (λq h g n b0 a0 l=>?_) (by rw[a.len];exact hd.2) λb4 Y c X b7 t a9=>next b4 c _ Y (a.put (by omega) (by omega) a4 X t (a7 c t) (a9.less A (Ej x a8)) hd)
 .rw[tN (q:={w with tape:=b2}) A a1.1 a3];exact⟨A,A⟩
 exact tN A (cB b1).1 l
theorem tA:∀fn,TP.funcs[(baseD 56).fn]?=C fn->fn.norace=Xf:=λfn a=>by have:TP.funcs[56]?=C fn:=a;rw[Tryz.func56]at this;cases this;rfl
theorem uB{l:WD}{fin:bE->M->Prop}{n:∀cl(w:M) g,fin cl {w with tape:=g}->fin cl w}{X:E}{b:E×bE}{x:Op}{c o:E}
 (a4:bN D i (C d) x)(a6:i<e.size)(a3:e.getD i Xf=Xf)(b0:i<16\/19<i)(a2:(i,d,I)∈wT V r p)(t:(i,d,pt c o)∈wK V)(hd:17<=d/\d<41)(a:WR z O V N U T S L Q H e r p m w u y)
 (a5:∀q g a8 a1,(execOp y.eval ⟨C d,x,g,a8,a1,F⟩).runT TP q #[]=(.ok (.value (pt c o)) q,#[]))
 (next:∀m w u y,WR z O V N U T S L Q H (e.setIfInBounds i J) r p m w u y->(iX TP l fin n X aW z b).G m w (rg ((baseD 56).at y (Xv D Z::k)) W)):
 (iX TP l fin n X aW z b).G m w (rg ((baseD 56).at y (Xv D (i::Z)::k)) W):=
 Hj (by decide) tA a4 (zi t a3) a.rel (by rw[a.len];exact hd.2) (a:=pt c o) trivial a5 λa0 a7=>next m w _ a0 (a.put (by omega) (by omega) a2 a.inv A id (a7.less A (Ej t a6)) hd)
theorem Tw{a1:WD}{fin:bE->M->Prop}{a6:∀cl(w:M) a0,fin cl {w with tape:=a0}->fin cl w}{b0:E}{b:E×bE}
 (d0:bN D 16 (C 34) (.call {callee:=.value (.func 58),args:=#[.tmp 25,.tmp 33],argTypes:=#[94,9]}))(d5:e.getD 16 Xf=Xf)(c6:e.getD 7 Xf=J)(c0:e.getD 15 Xf=J)
 (a8:∀w:M,(∀b,z b->w.heap[b]?=O.heap[b]?)->O.heap.size<=w.heap.size->Calls TP 58 #[V.tp,.string V.path] w λg c=>∃r p,g=Xs (.tuple #[.agg r,p])/\H r p c/\Below w.heap.size w c)
 (d7:∀r p(w f:M),f.heap=w.heap->H r p w->H r p f)(a:WR z O V N U T S L Q H e r p m w u y)
 (next:∀r p m w u y,WR z O V N U T S L Q H (e.setIfInBounds 16 J) r p m w u y->(iX TP a1 fin a6 b0 aW z b).G m w (rg ((baseD 56).at y (Xv D Z::k)) W)):
 (iX TP a1 fin a6 b0 aW z b).G m w (rg ((baseD 56).at y (Xv D (16::Z)::k)) W):=by
 have b8:=(a.eval (i:=7) (d:=25) (v:=V.tp) (by simp[wT]) c6);have b9:=(a.eval (i:=15) (d:=33) (v:=.string V.path) (by simp[wT]) c0)
 have d6:∀j,j=17\/j=18\/j=19->e.getD j Xf=J->False:=λj a7 hd=>by have:=a.ord j a7 hd;simp_all
 have t:∀b,z b->b<w.heap.size:=λb t=>by obtain⟨o,a,_⟩:=a.inv.cO b t;grind
 refine BT gS (by decide) (by decide) d0 (by rfl) (Ei (by decide)) a.inv a.rel (λq f=>∃r p,q=u.put (C 34) (.tuple #[.agg r,p])/\H r p f/\∃c,c.heap=w.heap/\Below c.heap.size c f) (λc R a0 d2 g=>?_) ?_ ?_
 .have a9:=a8 c (λb t=>by rw[R];exact a.keep b t) (by rw[R];exact a.size);obtain⟨q1,d9,e0⟩:=b8;obtain⟨e1,e2,e3⟩:=b9;generalize a4:(λq f=>∃r p,q=u.put (C 34) (.tuple #[.agg r,p])/\H r p f/\∃c,c.heap=w.heap/\Below c.heap.size c f)=b2
  have fin:∀r p x,H r p x->Below c.heap.size c x->b2 (u.put (C 34) (.tuple #[.agg r,p])) x:=λr p x Y l=>by subst a4;exact⟨r,p,A,Y,c,R,l⟩
  unfold Oper.wp
  have d1:(execOp u.eval ⟨C 34,.call {callee:=.value (.func 58),args:=#[.tmp 25,.tmp 33],argTypes:=#[94,9]},a0,d2,g,F⟩).run TP c=.ok (.enter 58 #[V.tp,.string V.path]) c:=by
   clear a9 fin a4 a8 next a
   go_simp
  rw[d1,aa3];refine a9.mono ?_;simp_all
 .rintro q f⟨_,_,_,_,c,g,l⟩ b a5;rw[<-g];exact l.block b (by simp_all)
 rintro d3 _ b5 f b1 d4 d8⟨n,h,rfl,Y,c,g,l⟩;refine next n h d3 f (u.put (C 34) (.tuple #[.agg n,h])) b5 ?_
 have c8:∀j,j≠16->(e.setIfInBounds 16 J).getD j Xf=e.getD j Xf:=λj a7=>by simp_all [YX]
 refine⟨b1,λb a5=>?_,?_,by simp[Act.put,a.len],a.defs,cm a.t1 (by omega),cm a.t2 (by omega),cm a.t3 (by omega),cm a.t4 (by omega),cm a.t5 (by omega),?_,?_,λ_=>Y,?_,λa2 c7=>?_,?_⟩
 .rw[l.block b (by simp_all),g,a.keep b a5]
 .have:=l.size;have:=a.size;grind
 .intro s X hd;by_cases a3:s.1=16
  .have:=iB (OC V n h) X (show(16,34,Xe.tuple #[.agg n,h])∈wT V n h by simp[wT]) a3;subst this;simp[Act.put,a.len]
  rw[c8 _ a3]at hd
  have c9:s.2.1≠34:=λb7=>by have:=iB (Ef V n h) X (show(16,34,Xe.tuple #[.agg n,h])∈wT V n h by simp[wT]) b7;simp_all
  refine cm ?_ c9;have:s∈wT V r p:=by
   simp only[wT,XV,Yd,YS]at X⊢
   grind
  exact a.tab s this hd
 .simp_all [AY]
 .simp_all
 .have:=a.TE;rw[l.block a2 (by rw[g];omega),g,a.Uj a2 c7]
 have:=l.size;have:=a.TE
 grind
theorem NK(a:an h m b Y)(c:wu b=J):wu Y=J:=by cases a<;>first|rfl|(cases c;done)
theorem IE{l:WD}{fin:bE->M->Prop}{a5:∀cl(w:M) b1,fin cl {w with tape:=b1}->fin cl w}{X:E}{cl:bE}{a0 b2 b3 o:E}{b5:Rt}
 (c7:bN D i F (.store a0 (.tmp b2) (.tmp b3)))(d0:∀q n,(Go.sizeOf a0).runT TP q n=(.ok R q,n))(hrel:ar aW m b5 u y)(d3:y.tmps[b2]?=C (pt l.gb o))(d5:u.tmps[b3]?=C v)(c6:v.cells.size=R)(b8:∀b∈v.cells,wu b=J)
 (a9:o+R<=l.gn)(own:∀k,k<R->l.own X (o+k))(b6:∀c∈cl,c.1+c.2.size<=o\/o+R<=c.1)
 (next:(iX TP l fin a5 X aW z (s,cl++[(o,v.cells)])).G m w (rg ((baseD 56).at y (Xv D Z::k)) W)):
 (iX TP l fin a5 X aW z (s+1,cl)).G m w (rg ((baseD 56).at y (Xv D (i::Z)::k)) W):=by
 obtain⟨⟨e4,f0,b1,c,b7,e7⟩,b9,a1,a2,a3⟩:=c7;simp only at a1 a2 a3;subst a3;obtain rfl:=a1;obtain rfl:=a2;obtain⟨g,d1,d2⟩:=hrel.tmps.get d5;have t:=dM d2;have a7:g.cells.size=R:=by rw[<-t.1];exact c6
 have c8:∀b∈g.cells.toList,wu b=J:=by
  intro b d4;obtain⟨j,a,rfl⟩:=YQ.1 (by simpa using d4:b∈g.cells);have a6:j<v.cells.size:=by rw[t.1];exact a
  exact NK (t.2 j _ _ (XP a6) (XP a)) (b8 _ (Xk.getElem_mem a6))
 have x:g.cells.toList.length=R:=by simpa using a7
 refine .stop ⟨A,o,v.cells,g.cells,rg ((baseD 56).at y (Xv D Z::k)) W,t,λk e9=>own k (by omega),λc c9=>by rw[a7];exact b6 c c9,A,λq c0=>?_,next⟩;obtain⟨e2,e5,q1,d6,a8⟩:=c0;obtain⟨b4,n,d7,b0,d8,d9,e0,f1⟩:=DO (P:=TP) (main:=Xf) (n:=baseD 56) (l:=k) (t:=W) (x:=Z) (b:=g.cells.toList) b9 A (by decide) A rfl (cB d3).1 (cB d1).1 A tA (by rw[x];exact d0) c8 d6 q1 (by rw[x,a8];exact a9);refine⟨b4,n,d7,⟨b0.1,b0.2,d8,d9,λe3 f2 e6 a4=>?_⟩,λb7 e8=>?_⟩
 .rw[q1]at a4;cases a4;refine⟨_,e0,yS _ _ _,λj a=>wD _ _ _ _ (by simpa using a),λj a=>?_⟩;rw[Ii _ _ _ _ (by rw[x,a8];exact a9) (by simpa using a)];simp
 simp_all
theorem WR.done(a:WR z O V N U T S L Q H e r p m w u y)(n:i=22\/i=25):WR z O V N U T S L Q H (e.setIfInBounds i J) r p m w u y:=by
 have c:∀j,j≠i->(e.setIfInBounds i J).getD j Xf=e.getD j Xf:=λj g=>by simp_all [YX]
 refine⟨a.inv,a.keep,a.size,a.len,a.defs,a.t1,a.t2,a.t3,a.t4,a.t5,λb f hd=>?_,?_,λl=>a.sn ?_,λj g hd=>?_,a.Uj,a.TE⟩
 .refine a.tab b f ?_;rw[<-c]
  .exact hd
  have:b.1∈(wT V r p).map (·.1):=YB.2 ⟨b,f,A⟩;have h:b.1∈([0,1,2,3,4,5,6,7,8,9,10,11,12,13,14,15,16,17,18,19,20,21,23,24]:Xg E):=this;simp only[XV,Yd,YS]at h;omega
 .rw[AY (by grind)];exact a.rel
 .grind
 rw[c 16 (by omega)];rw[c j (by omega)]at hd;exact a.ord j g hd
end
end
end Go.Sim
namespace Wt
variable{b:Tree}{c:Path}{a:Nd}{S:Xg Ev}{y:cN}
abbrev keys(y:cN):Xg Xj:=y.dE.map (·.1)
def TB(d:Xj)(b:Tree):Prop:=∀c a,find b c=C a->(0<=a.stat.ez/\a.stat.ez<=d)/\0<=a.stat.aE/\a.stat.aE<=d
theorem TB.more{d e:Xj}(f:TB d b)(m:d<=e):TB e b:=λc a g=>by obtain⟨⟨h,i⟩,k,l⟩:=f c a g;omega
theorem TB.put{d:Xj}(f:TB d b)(h:Ord b)(m:(0<=a.stat.ez/\a.stat.ez<=d)/\0<=a.stat.aE/\a.stat.aE<=d):TB d (put b c a):=λl i e=>by
 rw[cD h]at e;split at e
 .simp_all
 exact f l i e
theorem TB.drop{a:Xj}(d:TB a b)(e:Ord b)(l:0<=a)(c:Path):TB (a+1) (Wt.drop b c):=by
 have hd:∀{b:Tree},Ord b->TB (a+1) b->TB (a+1) (del b c):=λe d k i f=>by
  rw[vC e]at f;split at f
  .cases f
  exact d k i f
 unfold Wt.drop;split
 .exact hd e (d.more (by omega))
 rename_i g h;refine hd (fe e) ((d.more (by omega)).put e ?_);obtain⟨⟨m,n⟩,o,p⟩:=d _ _ h;show(0<=g.stat.ez+1/\g.stat.ez+1<=a+1)/\0<=g.stat.aE/\g.stat.aE<=a+1;omega
theorem Jh{d:Xj}{l:Tree}(e:TB d b)(f:WF b)(m:0<=d){k:Op}{ak aL:Xj}{u:B}(g:change b k ak aL=.yes l u S):TB (d+1) l:=by
 by_cases i:k.kind=3
 .unfold change at g;rw[XC i]at g;obtain⟨v,y,h,x,w,_,_,_,_,t,_,_,_,_,_,rfl,_,_⟩:=gR g;refine((e.more (by omega)).put f.ord ?_).put (fe f.ord) ?_
  .obtain⟨⟨n,o⟩,p,q⟩:=e _ _ t;show(0<=h.stat.ez+1/\h.stat.ez+1<=d+1)/\0<=h.stat.aE/\h.stat.aE<=d+1;omega
  show((0:Xj)<=0/\(0:Xj)<=d+1)/\(0:Xj)<=0/\(0:Xj)<=d+1;omega
 obtain⟨c,a,_,s,_,r⟩:=pj i g;rcases r with⟨_,_,_,rfl,_⟩|⟨_,rfl,_⟩|⟨_,_,rfl,_⟩
 .exact e.drop f.ord m c
 .refine(e.more (by omega)).put f.ord ?_;obtain⟨⟨n,o⟩,p,q⟩:=e _ _ s;show(0<=a.stat.ez/\a.stat.ez<=d+1)/\0<=a.stat.aE+1/\a.stat.aE+1<=d+1;omega
 exact e.more (by omega)
structure Ok(y:cN)(e:E):Prop where
 wf:WF y.tree
 xU:rK (keys y)
 key:∀d∈keys y,0<d/\d<y.next
 kR:1<=y.next/\y.next<=e+1
 yt:y.dE.length<=8
 aL:0<=y.aL/\y.aL<=512*e
 uf:Bi y
 ue:∀d f,∀g∈y.cd d f,g∈keys y
 LQ:TB (512*e) y.tree
theorem rr:∀{b c:Xg Xj},rK b->rK c->(∀a∈b,a∈c)->b.length<=c.length
 |[],c,_,_,_=>YA _
 |a::b,[],_,_,d=>absurd (d a (by simp)) (by simp)
 |a::b,s::c,i,m,d=>by
  obtain⟨k,l⟩:=YJ.1 i;obtain⟨n,o⟩:=YJ.1 m
  have:=rr l o λf e=>by
   have r:=k f e;rcases XV.1 (d f (Ym _ e))with p|g
   .exfalso;rcases XV.1 (d a (by simp))with q|h
    .omega
    have:=n a h;omega
   exact g
  simp_all
theorem Ok.UR{d:E}(a:Ok y d)(b:Xo)(c:B):(y.cd b c).length<=8:=by
 have:=rr (a.uf b c) a.xU (a.ue b c);have e:=a.yt
 grind
theorem Ok.more{f e:E}(d:Ok y f)(g:f<=e):Ok y e where
 wf:=d.wf
 xU:=d.xU
 key:=d.key
 kR:=⟨d.kR.1,by have:=d.kR.2;omega⟩
 yt:=d.yt
 aL:=⟨d.aL.1,by have:=d.aL.2;omega⟩
 uf:=d.uf
 ue:=d.ue
 LQ:=d.LQ.more (by omega)
theorem eh(y:cN)(id:Xj):keys (heard y id)=keys y:=by
 unfold keys heard;simp only[aai];refine c_ λa _=>?_
 grind
theorem Ok.heard{b:E}(a:Ok y b)(id:Xj):Ok (Wt.heard y id) b where
 wf:=a.wf
 xU:=by rw[eh];exact a.xU
 key:=by rw[eh];exact a.key
 kR:=a.kR
 yt:=by show(y.dE.map _).length<=8;rw[ZU];exact a.yt
 aL:=a.aL
 uf:=a.uf
 ue:=by rw[eh];exact a.ue
 LQ:=a.LQ
theorem AS(e:Xj):∀(S:Xg Ev)(y:cN),∃a,(tell e y S).1={y with cd:=a}/\∀b c,a b c=[]\/a b c=y.cd b c
 |[],y=>⟨y.cd,A,λ_ _=>Xi A⟩
 |f::S,y=>by
  obtain⟨a,h,g⟩:=AS e S (lu e y f).1;refine⟨a,?_,λb c=>?_⟩
  .simp_all [tell,lu]
  rcases g b c with d|d
  .exact Xh d
  rw[d];show(if _ then _ else _)=_\/(if _ then _ else _)=_
  grind
theorem Ok.told{c:E}(a:Ok y c)(b:Xj)(S:Xg Ev):Ok (tell b y S).1 c:=by
 have d:=wX b S y a.uf;obtain⟨l,h,i⟩:=AS b S y;rw[h]at d⊢
 refine⟨a.wf,a.xU,a.key,a.kR,a.yt,a.aL,d,λe f k m=>?_,a.LQ⟩;rcases i e f with g|g
 .simp_all
 refine a.ue e f k ?_;simp_all
theorem yB(b:Xj):∀a:Xg Xj,(dF b a).length<=a.length+1
 |[]=>by simp[dF]
 |c::a=>by
  unfold dF;split
  .simp
  split
  .simp
  have:=yB b a;simp only[Yl];omega
theorem Ox{a:E}(h:∀e f,(y.cd e f).length<=a)(d:Ev):(toldOf y d).length<=a+a:=by
 have k:∀(c b:Xg Xj),(b.foldr dF c).length<=b.length+c.length:=λc b=>by
  induction b with
  |nil=>simp
  |cons g b l=>have i:=yB g (b.foldr dF c);simp only[aaY,Yl];omega
 unfold toldOf
 grind
theorem DZ(a:Xj):∀(S:Xg Ev)(y:cN),(∀b c,(y.cd b c).length<=8)->(tell a y S).2.length<=16*S.length
 |[],y,_=>XS 0
 |d::S,y,e=>by
  have f:=Ox e d
  have g:=DZ a S (lu a y d).1 λb c=>by
   show(if _ then _ else _:Xg Xj).length<=8;split
   .exact YA _
   exact e b c
  grind [lu,tell]
theorem Ok.add{e:E}(a:Ok y e){id:Xj}(hid:known y id=J)(f:Xo)(g:B):Ok (dz y id f g) e:=by
 refine⟨a.wf,a.xU,a.key,a.kR,a.yt,a.aL,λc d=>?_,λc d k i=>?_,a.LQ⟩
 .show rK (if _ then _ else _);split
  .exact rn _ (a.uf _ _)
  exact a.uf _ _
 have b:k∈(if c=f/\d=g then dF id (y.cd c d)else y.cd c d):=i;split at b
 .rcases(mT _ _).1 b with h|b
  .rw[h];exact gW.1 hid
  exact a.ue _ _ _ b
 exact a.ue _ _ _ b
theorem Ok.eN{c:E}(d:Ok y c)(g:Xj)(a:ew)(f:Bb):Ok (Wt.eN y g a f).1 c:=by
 unfold Wt.eN;split
 .exact d
 rename_i h
 have e:known (Wt.heard y a.ak) a.ak=J:=by rw[gW];show a.ak∈keys (Wt.heard y a.ak);simp_all [eh,gW]
 have b:=d.heard a.ak;split
 .split
  .simp only;split
   .exact b.add e _ _
   exact b
  exact b
 simp only;split
 .exact b.add e _ _
 exact b
theorem Ok.write{f:E}(g:Ok y f)(h:Xj){r:ew}(l:r.op.kind≠2)(m:r.op.kind≠7):Ok (Wt.write y h r).1 (f+1)/\(Wt.write y h r).2.length<=33:=by
 have d:Ok {y with aL:=y.aL+1} (f+1):=by have:=g.more (ZN f);exact⟨this.wf,this.xU,this.key,this.kR,this.yt,by have:=g.aL;grind,this.uf,this.ue,this.LQ⟩
 unfold Wt.write;rw[Xx l];simp only;rw[Xx m];cases e:change y.tree r.op r.ak (y.aL+1)with
 |no o=>simp_all
 |yes b c S=>
  have i:Ok {y with aL:=y.aL+1,tree:=b} (f+1):=⟨ym g.wf e,d.xU,d.key,d.kR,d.yt,d.aL,d.uf,d.ue,(Jh g.LQ g.wf (by omega) e).more (by omega)⟩;have p:=DZ h S {y with aL:=y.aL+1,tree:=b} i.UR;have q:S.length<=2:=by
   by_cases k:r.op.kind=3
   .unfold change at e;rw[XC k]at e;obtain⟨_,_,_,_,_,_,_,_,_,_,_,_,_,_,_,_,_,rfl⟩:=gR e;simp
   obtain⟨_,_,_,_,_,n⟩:=pj k e;rcases n with⟨_,_,_,_,rfl⟩|⟨_,_,rfl⟩|⟨_,_,_,rfl⟩<;>simp[kq]
  simp only;split<;>exact⟨i.told h S,by grind⟩
theorem Ok.step{y:cN}{e:E}(d:Ok y e)(g:Xj){r:ew}(n:r.op.kind≠2)(o:r.op.kind≠7)(w:r.op.kind≠11):Ok (Wt.step y g r).1 (e+1)/\(Wt.step y g r).2.length<=33:=by
 have s:=d.more (ZN e);unfold Wt.step;split
 .simp_all
 .split
  .rename_i z;refine⟨?_,by simp⟩;have x:=d.key;refine⟨d.wf,?_,λf q=>?_,?_,?_,?_,d.uf,λf u l t=>?_,s.LQ⟩
   .show rK ((y.dE++[(y.next,y.now)]).map (·.1));rw[aaa];refine Y_.2 ⟨d.xU,by simp,λm p v i=>?_⟩;simp only[YG,Zl,YI]at i;subst i;exact(d.key m p).2
   .have k:f∈(y.dE++[(y.next,y.now)]).map (·.1):=q;rw[aaa,YC]at k;show 0<f/\f<y.next+1;rcases k with h|h
    .have:=d.key f h;omega
    simp only[YG,Zl,YI]at h;have:=d.kR;omega
   .have:=d.kR;show 1<=y.next+1/\y.next+1<=((e+1:E):Xj)+1;omega
   .show(y.dE++[(y.next,y.now)]).length<=8;rw[Yw,aa7];omega
   .have:=d.aL;show 0<=y.aL+1/\y.aL+1<=512*((e+1:E):Xj);omega
   show l∈(y.dE++[(y.next,y.now)]).map (·.1);rw[aaa];exact ZF _ (d.ue f u l t)
  simp_all
 .grind [task]
 .split
  .simp_all
  exact(d.heard r.ak).write g n o
 exact⟨(d.eN g r _).more (ZN e),by simp⟩
theorem xE(b:cN)(a:ew):handle b 0 [a]=step b 0 a:=by show((step b 0 a).1,(step b 0 a).2++[])=_;simp
end Wt
