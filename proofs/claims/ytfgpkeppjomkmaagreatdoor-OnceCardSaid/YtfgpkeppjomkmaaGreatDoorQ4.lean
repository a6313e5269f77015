/- Proved here: parts of the proof of the claimed theorem, no conditions; the last text states it -/
import Derived.Test.YtfgpkeppjomkmaaGreatDoorQ3
set_option linter.all false
set_option maxRecDepth 100000
set_option maxHeartbeats 16000000
open _root_ renaming rfl->A,Nat->E,List->Xg,Int->Xj,Array->Xk,Bool->Xo,Option->Xp,if_neg->Xx,ByteArray->XB,if_pos->XC
open Option renaming some->C,none->F
open Go renaming undef->I,World->M,Value->Xe,TypeId->Xq,Frame->Xr,Goroutine->Xt,Act->Xu,Addr->Xw,Program->Xy,Sem->Xz,Trace->XD,Event->XF,Code->XG,MapEntry->XH,FuncId->XI,Operand->XJ
open Bool renaming true->J,false->Xf
open Go.Lib renaming hid->Xl
open Go.MemOp renaming ofEvents->XE
open Go.Op renaming operands->XK
open Go.MemAct renaming ofEvent->XM
open Go.IntKind renaming i64->K
open Go.Value renaming int->Xd,slice->Xm,pointer->XA
open Or renaming inl->Xh,inr->Xi
open Go.Obj renaming cells->Xn
open Go.Ending renaming returned->Xs
open Go.Item renaming inRegion->Xv
namespace Go.Sim
open Go.Conc Go.Proofs Go.RowKit
open Go.ConcN (PermW PermW.app PermW.of fork_knows WgLive RelBy sumTo)
open Go.ConcR (KK wgBlock WgAt stA smA rd wr mk DC0)
variable{P:Xy}{c:XD}{q:M}{U:Loc->Own}{y:bR}{b:E}{j:E}{a:Xt}{W:Xk Xt}{S:Xk XF}{l:M}{k:Xe}{d:E}
section
variable[Inhabited aM]
section
variable{f:M}{h:Loc->Own}{m:bR}{e:XD}
theorem ui.at{d:PD}(a:ui d c q U b)(e:E):ui d c (q.at e) U b:=⟨a.KJ,a.ro,a.low,a.kn,a.KT⟩
theorem ui.chan{m:PD}{n p D z:E}{o:Xk Xe}{r H:Xo}(a:ui m c q U b)(T:∀h∈e,∀l,h.act.touch?=C l->False)(Q:∀k i d,q.heap[n]?≠C (Xn #[k] i d)):ui m (c++e) (q.setChan n p o r D z H) U b where
 KJ:=by
  intro y h l t s x v w;rcases XU t with⟨S,u⟩|⟨_,R⟩
  .exact a.KJ y h l u s x v w
  simp_all
 ro:=a.ro
 low:=λg f=>⟨(a.low g f).1,by
  obtain⟨L,O⟩:=cL (a.low g f).1;have:=(a.low g f).2
  simp_all [M.setChan]⟩
 kn:=by
  obtain⟨i,d,N⟩:=a.kn;refine⟨i,d,?_⟩
  grind [World.setChan]
 KT:=a.KT
theorem cw.at{t:aF}(i:cw P b a q c U y t)(g:E):cw P b a (q.at g) c U y t:=by
 cases t with
 |lv D=>exact i
 |wk T=>obtain⟨p,k,l,e⟩:=i;exact⟨p,k,l,e.at g⟩
 |pr u z p H=>obtain⟨k,l,⟨o,h,e⟩,r,m,f,n⟩:=i;exact⟨k,l,⟨o,h,⟨e.heap,e.count,e.room,e.own,e.msgs⟩⟩,r.at g,m,⟨f.1,f.2.1.at g,f.2.2⟩,n⟩
 |pb u z p H L S W=>obtain⟨k,l,v,⟨o,h,e,w⟩,r,m,f,n,s⟩:=i;exact⟨k,l,v,⟨o,h,⟨e.heap,e.count,e.room,e.own,e.msgs⟩,w⟩,r.at g,m,⟨f.1,f.2.1.at g,f.2.2⟩,n,s⟩
 |pq u D=>obtain⟨⟨o,h,e⟩,m,d,f,n,s,x⟩:=i;exact⟨⟨o,h,⟨e.heap,e.count,e.room,e.own,e.msgs⟩⟩,m,d,f,n,s,x.at g⟩
theorem bB.at{f:E->aF}(d:bB P W q c U y f)(e:E):bB P W (q.at e) c U y f:=⟨λb a L H=>(d.each b a L H).at e,d.one,d.above,λg D=>by
 obtain⟨h,r,s,t,u,v,w,x,z,i,k,l,m,n,o,p⟩:=d.wg g D
 exact⟨h,r.same A (λ_=>⟨A,A⟩),s,t,u,v,w,x,z,i,k,l,m,n,o,p⟩,d.ops⟩
theorem cw.Me{h:aF}{i:PD}(g:cw P b a q c U y h)(d:h.pd=C i):∃p f cl e,kD i q U y p f cl e:=by
 cases h with
 |lv o=>cases d
 |wk z=>cases d
 |pr k n m r=>cases d;obtain⟨_,_,⟨f,e,l⟩,_⟩:=g;grind
 |pb k n m r s x D=>cases d;obtain⟨_,_,_,⟨f,e,l,_⟩,_⟩:=g;grind
 |pq k o=>cases d;obtain⟨⟨f,e,l⟩,_⟩:=g;grind
abbrev cZ:=Xp (E×PD×E)
def eJ(e:cZ)(W:Xk Xt)(q:M)(c:E->aF):Prop:=
 match e with
 |none=>∀b,0<b->b<W.size->(c b).pd=F
 |some (d,a,f)=>0<d/\d<W.size/\(c d).pd=C a/\Lr q a.rc f
def cY(P:Xy)(b:cZ)(d:Xg Ms)(W:Xk Xt)(q:M)(c:XD)(U:Loc->Own)(y:bR):Prop:=
 ∃a,d=ua a W.size/\bB P W q c U y a/\eJ b W q a
theorem iI{n:cZ}{t:Xk Xt}{i:E->aF}{z:aF}(p:eJ n W q i)(R:t.size=W.size)(O:z.pd=(i b).pd)
 (Q:∀s o x,0<s->s<W.size->(i s).chan=C o->Lr q o x->Lr f o x):eJ n t f (λg=>if g=b then z else i g):=by
 cases n with
 |none=>
  intro g v r;rw[R]at r;by_cases w:g=b
  .subst w;simp only[Yc];rw[O];exact p g v r
  simp only[w,Yf];exact p g v r
 |some T=>
  obtain⟨d,D,g⟩:=T;obtain⟨u,H,L,N⟩:=p;refine⟨u,by omega,?_,Q d D.rc g u H (by rw[aF.cA,L];rfl) N⟩
  grind
theorem bB.main{p:E->aF}{r g₁:Xt}{R:Ren}{D:M}{new Y:Xg XF}(w:bB P W q c U y p)(G:cQ c q U)(N:aG P c q U 0 y)(a6:W[0]?=C r)
 (z:bD y.S y.β R y.w D q f new Y)(b4:∀u,y.ro u->D.heap[u]?=y.w.heap[u]?)(b3:∀v∈new,v.write=J->∀u,y.ro u->v.loc≠.obj u/\∀t,v.loc=.cell t->t.block≠u)(a9:Deaf c 0=0):
 bB P ((W.map (Go.Conc.woken P r g₁ f)).setIfInBounds 0 g₁) f (c++XE 0 r.frame.fn r.frame.place (kept Y).toArray) (Own.more U 0 q.heap.size f.heap.size) {y with β:=R,w:=D} p/\
  ∀O i Q,0<O->O<W.size->(p O).chan=C i->Lr q i Q->Lr f i Q:=by
 have X:=fy N z b4 b3 a9 r.frame.fn r.frame.place
 have H:∀g i,0<g->g<W.size->(p g).chan=C i->f.heap[i]?=q.heap[i]?:=by
  intro g i o s n;rw[aF.cA]at n;cases L:(p g).pd with
  |none=>rw[L]at n;cases n
  |some c0=>rw[L]at n;cases n;obtain⟨d0,c9,cl,c7,T⟩:=(w.each g _ o (XP s)).Me L;exact fR N z (XN.1 T.heap).1 (Xh T.own)
 obtain⟨b5,b6⟩:=fF (v:=p 0) w X (λc6 a8 b1 _=>fR N z a8 b1) ⟨A,A,A⟩ ⟨λt x=>⟨t,x⟩,λt x=>⟨t,x⟩⟩;refine⟨?_,λg i Q o s n⟨a0,a1,a2,a3,a4,a5⟩=>⟨a0,a1,a2,a3,a4,by rw[H g i o s n];exact a5⟩⟩
 have:=w.jS (gs':=(W.map (Go.Conc.woken P r g₁ f)).setIfInBounds 0 g₁) (s':={y with β:=R,w:=D}) (j:=0) G X ⟨A,z.le,A⟩ (by simp) (λg o s=>mQ g o λt x=>(w.each g t s x).woken r g₁ λi n=>H g i s (XN.1 x).1 n)
  (λg o=>jj z.lz _ _ _ _ _) (λg i o s _ n=>H g i o s n) ((XN.1 a6).1) (r:=p 0) (λa b0=>absurd b0 (by omega)) (λi n=>⟨i,n⟩) (λg o _ b7 b2=>by rw[tF _ _ _ _ b7 b2];exactλv=>o v.symm) b5 (λZ a7=>by simpa using b6 Z a7)
 have v:(λg=>if g=0 then p 0 else p g)=p:=by funext g;by_cases w:g=0<;>simp[w]
 simp_all
def aj(P:Xy)(t:cZ):uK P (Xg Ms) where
 lt:=dR Ms.lt
 wf:=dR.wf Ms.wf
 Ok:=cY P t
 awake:=λ⟨d,_,o,_⟩ b a r l=>(o.each b a r l).awake
 at_:=λz⟨d,D,i,g⟩=>⟨d,D,i.at z,by
  cases t with
  |none=>exact g
  |some a9=>exact g⟩
 step:=by rintro u W q c U y v b a sl⟨d,rfl,i,g⟩ G s p x r l L;obtain⟨a3,w,f,e,h,q1,T,n,X,Y,Z,a0,a1,a2,S⟩:=Dn sl i G s p x r l L;exact⟨_,w,f,e,h,q1,by rw[<-n];rw[n];exact lj (XN.1 l).1 T,X,⟨_,by rw[n],Y,iI g n a2 S⟩,Z,a0,a1⟩
 main:=by
  rintro u W q c U y v k b0 a8 f new a7⟨d,rfl,i,g⟩ G s p H x a6 a4 O N;obtain⟨Q,R⟩:=i.main (g₁:=k) G s p a4 O N H;refine⟨d,by simp,Q,?_⟩;have:=iI (t:=(W.map (Go.Conc.woken P v k f)).setIfInBounds 0 k) (b:=0) (z:=d 0) (f:=f) g (by simp) A R;have u:(λm=>if m=0 then d 0 else d m)=d:=by funext m;by_cases o:m=0<;>simp[o]
  simp_all
theorem qm{sl:Xp (E×E)}{n i:Xt}{shape r:CommShape}{H:Xo}{w:M}{g u y p:E}{o:Xk Xe}{x z:Xo}{D s:Xe}
 (R:W[b]?=C a)(L:stepG P (b==0) a l=.comm n #[rcase g D] H shape w S)(N:w.heap[g]?=C (.chan u o x y p z))(a1:0<o.size)
 (T:j≠b)(X:W[j]?=C (parked i #[scase g k s] r))(a0:partners (W.setIfInBounds b ph) g J=[(j,0)]):
 runT P (crowd W l sl) b=(.next (crowd ((W.setIfInBounds j (i.finishComm P #[scase g k s] r 0 I Xf)).setIfInBounds b (n.finishComm P #[rcase g D] shape 0 (o.getD 0 I) J)) (w.setChan g u ((o.extract 1 o.size).push k) x (y+1) (p+1) z) sl),
  XE b a.frame.fn a.frame.place S++#[{g:=b,fn:=n.frame.fn,pos:=n.frame.place,act:=.recv g p u},{g:=b,fn:=n.frame.fn,pos:=n.frame.place,act:=.recvDone g p},
   {g:=j,fn:=i.frame.fn,pos:=i.frame.place,act:=.send g y},{g:=j,fn:=i.frame.fn,pos:=i.frame.place,act:=.sendDone g y}]):=by
 rw[runT_crowd_comm R L];have Y:=stand_get (i:=b) T X;have O:=finishPartner_at P (W.setIfInBounds b ph) Y (cs:=#[scase g k s]) (sh:=r) A 0 I;have Q:(W.setIfInBounds b ph).getD j default=parked i #[scase g k s] r:=by simp_all
 have Z:offeredValue (W.setIfInBounds b ph) j 0=k:=by grind [offeredValue,parked,scase]
 simp[communicate,ways,rcase,N,a0,a1,choose,Sem.run,Question.forced,bind,Sem.bind,pure,M.setChan,crowd,O,Q,Z,set_stand2,finishComm_parked,scase,parked];rfl
def AtRecv(P:Xy)(c:E)(d:Xe)(b a:Xt):Prop:=
 b.status=.running/\a.status=.running/\∀q,stepG P J b q=.comm a #[rcase c d] J (.recv J) q #[]
def IS(P:Xy)(d:E)(b:PD)(e:E)(h:Xe)(a:Xt)(y:bR)(W:Xk Xt)(q:M)(c:XD):Prop:=
 ∃f U,cQ c q U/\aG P c q U 0 y/\Deaf c 0=0/\
  ((e<b.n/\∃g,W[0]?=C (Go.Conc.served a (.tuple #[g,.bool J]))/\an y.S y.β (b.τ e) g/\cY P (C (d,b,e+1)) f W q c U y)\/
   (e=b.n/\W[0]?=C (Go.Conc.served a (.tuple #[h,.bool Xf]))/\cY P F f W q c U y))
theorem bB.chan{L:Xk Xt}{w:E->aF}{u:PD}(G:cQ c q U)(r:bB P W q c U y w)(b0:jU c q f U h 0 e)(a2:0<d)(a3:d<W.size)(a9:(w d).pd=C u)(a4:L.size=W.size)
 (b3:∀g,g≠d->0<g->L[g]?=W[g]?)(hd:∀g,0<g->Deaf (c++e) g=Deaf c g){v:aF}(c7:∀a,L[d]?=C a->cw P d a f (c++e) h y v)(a5:v.pd=C u\/v.pd=F)(b9:∀H∈e,H.g=0\/H.g=d)(a8:∀t,v≠.wk t)
 (O:∀m,m<q.heap.size->(U (.obj m)=.sync\/U (.obj m)=.void)->(∀z x cl p n s,q.heap[m]?≠C (.chan z x cl p n s))->f.heap[m]?=q.heap[m]?):
 bB P L f (c++e) h y (λg=>if g=d then v else w g) where
 ops:=by
  intro g H a6;rw[a4];rcases XU a6 with⟨_,b4⟩|⟨_,c0⟩
  .exact r.ops g H b4
  grind
 wg:=by
  intro o S;have i:=r.wg o S
  have b2:f.heap[o.D.Wg]?=q.heap[o.D.Wg]?:=O _ i.pU (Xh (i.rJ _ (Xh A))) λz x cl p n s k=>by obtain⟨_,_,l⟩:=i.mode.live;have:q.heap[o.D.Wg]?=_:=l;rw[k]at this;cases this
  have b1:f.heap[o.D.gb]?=q.heap[o.D.gb]?:=O _ i.tX (Xi i.zQ) λz x cl p n s k=>by obtain⟨_,_,l,_⟩:=i.gb;rw[k]at l;cases l
  have a7:∀t,w d≠.wk t:=λt k=>by rw[k]at a9;cases a9
  rw[a4];refine i.keep b0 b2 (λQ=>Q.same b1) (λg=>?_) (λg t k=>?_) λg t k=>?_
  .by_cases D:g=d
   .subst D;simp only[Yc];generalize w g=b5 at a7;cases v<;>cases b5<;>first|exact⟨rfl,rfl,rfl⟩|(exact absurd rfl (a8 _))|(exact absurd rfl (a7 _))
   simp only[D,Yf,and_self]
  .by_cases D:g=d
   .subst D;simp only[Yc]at k;exact absurd k (a8 t)
   simp only[D,Yf]at k;exact⟨t,k⟩
  grind
 each:=by
  intro b a R Y;by_cases Z:b=d
  .simp_all
  simp only[Z,Yf];rw[b3 b Z R]at Y;refine(r.each b a R Y).frame G b0 (by omega) (hd b R) (iV.refl y) (λn a5=>?_) (λH c6 b7=>by grind) λo S=>?_
  rotate_left
  .have i:=r.wg o S;refine fw.same (O _ i.pU (Xh (i.rJ _ (Xh A))) λz x cl p n s k=>?_) (O _ i.tX (Xi i.zQ) λz x cl p n s k=>?_)
   .obtain⟨_,_,l⟩:=i.mode.live;have:q.heap[o.D.Wg]?=_:=l;rw[k]at this;cases this
   obtain⟨_,_,l,_⟩:=i.gb;simp_all
  exact absurd (r.one b d n u.rc R a2 ((XN.1 Y).1) a3 a5 (by simp_all [aF.cA])) Z
 one:=by
  intro p m n s i Q T X l N;rw[a4]at T X;have k:(w d).chan=C u.rc:=by simp_all [aF.cA]
  by_cases a0:p=d<;>by_cases a1:m=d
  .omega
  .simp only[a1,Yf]at N;exact absurd (r.one m d s u.rc Q a2 X a3 N k) a1
  .simp only[a0,Yf]at l;exact absurd (r.one p d n u.rc i a2 T a3 l k) a0
  simp only[a0,Yf]at l;simp only[a1,Yf]at N;exact r.one p m n s i Q T X l N
 above:=λg a6=>by rw[hd g (by omega)];exact r.above g (by omega)
theorem la{p v y z:E}{u:Xk Xe}{w D:Xo}(N:U (.obj p)=.sync)(r:∀g∈e,∀i,g.act.touch?=C i->False)(x:∀g∈e,∀s,g.act≠.mark (.release s)):jU c q (q.setChan p v u w y z D) U U b e where
 norel:=x
 jB:=Xh λg n i o _=>(r g n i o).elim
 size:=by simp[M.setChan]
 os:=A
 out:=A
 heap:=λt _=>by grind [World.setChan]
 old:=λ_ _ _ _=>rfl
 new:=λO t _ H L=>by grind [World.setChan]
 touch:=λg n i o _=>(r g n i o).elim
theorem nj{d m u t:E}{l:Xk Xe}{n v:Xo}(i:aG P c q U b y)(h:U (.obj d)=.sync)(s:∀g∈e,∀w,g.act.touch?=C w->False)(r:∀g∈e,∀a,g.act≠.mark (.release a)):aG P (c++e) (q.setChan d m l n u t v) U b y:=
 i.stay (la (b:=b) h s r) λa k p=>by
  have x:k≠d:=by intro o;subst o;rcases i.dv a _ p _ (Xh A)with f|⟨f,_⟩<;>(rw[h]at f;cases f)
  grind [World.setChan]
theorem pH{k:E->aF}{h:PD}{n:Xt}(b:bB P W q c U y k)(z:W[0]?=C n)(p:0<d)(r:d<W.size)(L:(k d).pd=C h)(H:∀a,W[d]?=C a->a.status≠.blocked):
 partners (W.setIfInBounds 0 ph) h.rc J=[]:=by
 refine partners_nil λf l g=>?_;rcases aaq W 0 f l g with⟨rfl,rfl⟩|⟨D,g⟩
 .rfl
 by_cases o:f=d
 .simp_all [ZI]
 refine ZI ?_ _ _;have e:=b.each f l (by omega) g;generalize s:k f=v at e;cases v with
 |lv u=>rcases e.1.status with b|b<;>rw[b]<;>simp
 |wk l=>obtain⟨m,_,_,e⟩:=e;rcases e.status with b|b<;>rw[b]<;>simp
 |pr i t m w=>rw[e.1];simp
 |pq i u=>rcases e.2.1.status with b|b<;>rw[b]<;>simp
 |pb i t m w x S T=>exact absurd (b.one f d i.rc h.rc (by omega) p (XN.1 g).1 r (by rw[s];rfl) (by simp_all [aF.cA])) o
theorem yN{d:PD}{c:Xk Xe}{e:E}(f:∀(b:E) a,c[b]?=C a->an y.S y.β (d.τ (e+b)) a):∀(b:E) a,(c.extract 1 c.size)[b]?=C a->an y.S y.β (d.τ (e+1+b)) a:=by grind [Array.getElem?_extract]
theorem Kr{a2:E->aF}{g:PD}{m:E}{b8:Xe}{v:Xt}(sl:Xp (E×E))(p:bB P W q c U y a2)(h6:eJ (C (d,g,m)) W q a2)(G:cQ c q U)(e4:aG P c q U 0 y)(d7:Deaf c 0=0)
 (a0:W[0]?=C v)(g5:AtRecv P g.rc b8 v a):
 ∃a3 f e,runT P (crowd W q sl) 0=(.next (crowd a3 f sl),e)/\(IS P d g m b8 a y a3 f (c++e)\/(a3=W.setIfInBounds 0 (parked a #[rcase g.rc b8] (.recv J))/\f=q/\e=#[]/\q.heap[g.rc]?=C (.chan 4 #[] Xf m m Xf))):=by
 obtain⟨N,T,a9,h4⟩:=h6;have f8:0<W.size:=(XN.1 a0).1;obtain⟨c0,b5⟩:∃c0,W[d]?=C c0:=⟨_,XP T⟩;have d0:=p.each d c0 N b5;obtain⟨e7,a5⟩:∃e7,a2 d=e7:=⟨_,A⟩;rw[a5]at d0 a9;have d1:=g5.2.2
 have e6:∀{O u cl h},kD g q U y O u cl h->u=m:=by intro O u cl h w;obtain⟨_,_,_,_,_,r⟩:=h4;rw[w.heap]at r;cases r;rfl
 have e8:∀n s,s≠0->(W.setIfInBounds 0 n)[s]?=W[s]?:=λn s x=>Ya (λY=>x Y.symm);have i6:∀{W:Xk Xt} n s,s≠0->(W.setIfInBounds 0 n)[s]?=W[s]?:=λn s x=>Ya (λY=>x Y.symm)
 have i1:∀(Q b1:MemAct)(a:Xt),(∀l∈(XE 0 v.frame.fn v.frame.place #[]++#[{g:=0,fn:=a.frame.fn,pos:=a.frame.place,act:=Q},{g:=0,fn:=a.frame.fn,pos:=a.frame.place,act:=b1}]:XD),l.g=0):=by simp[XE]
 have take:∀(O:E)(cl:Xo)(h:Xk Xe)(d2:aF),kD g q U y O m cl h->0<h.size->(∀a,W[d]?=C a->a.status≠.blocked)->m<g.n->d2.pd=C g->
  (∀(e:XD),(∀l∈e,l.g=0)->(∀l∈e,∀n,l.act.touch?=C n->False)->(∀l∈e,∀Q,l.act≠.mark (.release Q))->kD g (q.setChan g.rc 4 (h.extract 1 h.size) cl O (m+1) Xf) U y O (m+1) cl (h.extract 1 h.size)->cw P d c0 (q.setChan g.rc 4 (h.extract 1 h.size) cl O (m+1) Xf) (c++e) U y d2)->
  ∃a3 f e,runT P (crowd W q sl) 0=(.next (crowd a3 f sl),e)/\(IS P d g m b8 a y a3 f (c++e)\/(a3=W.setIfInBounds 0 (parked a #[rcase g.rc b8] (.recv J))/\f=q/\e=#[]/\q.heap[g.rc]?=C (.chan 4 #[] Xf m m Xf))):=by
  intro O cl h d2 w f9 c9 d9 e3 j7;have h3:g.rc<q.heap.size:=(XN.1 w.heap).1;have X:=crowd_recv_buf (P:=P) (sl:=sl) (i:=0) a0 (d1 q) w.heap f9 (pH p a0 N T (by grind) c9);have a8:=i1 (.recv g.rc m 4) (.recvDone g.rc m) a
  have a1:∀l∈(XE 0 v.frame.fn v.frame.place #[]++#[{g:=0,fn:=a.frame.fn,pos:=a.frame.place,act:=.recv g.rc m 4},{g:=0,fn:=a.frame.fn,pos:=a.frame.place,act:=.recvDone g.rc m}]:XD),∀n,l.act.touch?=C n->False:=by simp[XE,MemAct.touch?]
  have R:∀l∈(XE 0 v.frame.fn v.frame.place #[]++#[{g:=0,fn:=a.frame.fn,pos:=a.frame.place,act:=.recv g.rc m 4},{g:=0,fn:=a.frame.fn,pos:=a.frame.place,act:=.recvDone g.rc m}]:XD),∀Q,l.act≠.mark (.release Q):=by simp[XE]
  have z:=la (b:=0) (c:=c) (q:=q) (e:=(XE 0 v.frame.fn v.frame.place #[]++#[{g:=0,fn:=a.frame.fn,pos:=a.frame.place,act:=.recv g.rc m 4},{g:=0,fn:=a.frame.fn,pos:=a.frame.place,act:=.recvDone g.rc m}]:XD)) (v:=4) (u:=h.extract 1 h.size) (w:=cl) (y:=O) (z:=m+1) (D:=Xf) w.own a1 R;have a7:=w.count;have j8:=w.room
  have c8:kD g (q.setChan g.rc 4 (h.extract 1 h.size) cl O (m+1) Xf) U y O (m+1) cl (h.extract 1 h.size):=by
   refine⟨?_,by simp;omega,by simp;omega,w.own,yN w.msgs⟩
   grind [World.setChan]
  refine⟨_,_,_,X,Xh ⟨_,U,G.step z,nj e4 w.own a1 R,?_,Xh ⟨d9,h.getD 0 I,?_,?_,λb=>if b=d then d2 else a2 b,A,?_,N,by grind,by grind,⟨_,_,_,_,_,c8.heap⟩⟩⟩⟩
  .have b2:(XE 0 v.frame.fn v.frame.place #[]++#[{g:=0,fn:=a.frame.fn,pos:=a.frame.place,act:=.recv g.rc m 4},{g:=0,fn:=a.frame.fn,pos:=a.frame.place,act:=.recvDone g.rc m}]:XD)=[({g:=0,fn:=a.frame.fn,pos:=a.frame.place,act:=.recv g.rc m 4}:MemOp),{g:=0,fn:=a.frame.fn,pos:=a.frame.place,act:=.recvDone g.rc m}].toArray:=by rfl
   rw[b2,U_,d7];rfl
  .rw[XX f8];rfl
  .have r:h[0]?=C h[0]:=XP f9;rw[Yu,r];exact w.msgs 0 _ r
  exact p.chan G z N T (by grind) (by simp) (λs _ a4=>e8 _ s (by omega)) (λs a4=>ZR c (g':=0) (by omega) _ a8) (λZ L=>by
   grind) (Xh e3) (λl S=>Xh (a8 l S)) (λn r=>by rw[r]at e3;cases e3) (λb1 b4 e2 e1=>by
   simp only[M.setChan]
   rw[Ya (λY=>by subst Y;exact e1 _ _ _ _ _ _ w.heap)])
 cases e7 with
 |lv b7=>cases a9
 |wk n=>cases a9
 |pr f0 D d4 e9=>
  cases a9;obtain⟨f4,d5,⟨u,h,o⟩,c6,a6,H,c7⟩:=d0;obtain rfl:=e6 o;by_cases b4:0<h.size
  .have a7:=o.count;exact take _ _ h (.pr g D d4 e9) o b4 (λZ L=>by grind) (by omega) A λe e5 b6 R w=>⟨f4,d5,⟨_,_,w⟩,c6.other (i:=0) (by omega) (la o.own b6 R),by rw[ZR c (g':=0) (by omega) e e5];exact a6,⟨H.1,H.2.1.chan b6 (by rw[o.heap];simp),H.2.2⟩,c7⟩
  have d6:h=#[]:=P_ (by omega);subst d6
  have X:=crowd_waits (P:=P) (sl:=sl) (i:=0) a0 (d1 q) (λj0 f5=>by
   simp only[ZB,XV,Yd,YS]at f5;subst f5
   exact ways_recv_none o.heap (pH p a0 N T (by rw[a5];rfl) (λZ L=>by grind)))
  have a7:=o.count;simp at a7;exact⟨_,_,_,X,Xi ⟨A,A,by rfl,by rw[o.heap,<-a7]⟩⟩
 |pb f0 D d4 e9 t d3 i8=>
  cases a9;obtain⟨f4,d5,j1,⟨u,h,o,j2⟩,c6,a6,H,c7,b3⟩:=d0;obtain rfl:=e6 o;subst d5;have h3:g.rc<q.heap.size:=(XN.1 o.heap).1
  have h1:partners (W.setIfInBounds 0 ph) g.rc J=[(d,0)]:=by
   rw[partners_one (j:=d) (g:=parked t #[scase g.rc d3 i8] .send) (stand_get (by omega) b5),offersAt_parked_send,XC A]
   .rfl
   intro m n f7 r;rcases aaq W 0 m n r with⟨rfl,rfl⟩|⟨j4,r⟩
   .rfl
   refine ZI ?_ _ _;have x:=p.each m n (by omega) r;generalize h5:a2 m=i5 at x;cases i5 with
   |lv b7=>rcases x.1.status with p|p<;>rw[p]<;>simp
   |wk n=>obtain⟨f1,_,_,x⟩:=x;rcases x.status with p|p<;>rw[p]<;>simp
   |pr b0 i0 f1 i7=>rw[x.1];simp
   |pq b0 b7=>rcases x.2.1.status with p|p<;>rw[p]<;>simp
   |pb b0 i0 f1 i7 Z j9 k0=>exact absurd (p.one m d b0.rc g.rc (by omega) N (XN.1 r).1 T (by rw[h5];rfl) (by rw[a5];rfl)) f7
  have X:=qm (P:=P) (sl:=sl) (b:=0) (j:=d) a0 (d1 q) o.heap (by omega) (by omega) b5 h1;rw[aa1]at X;have a7:=o.count
  have b2:∀(n:E),(XE 0 v.frame.fn v.frame.place #[]++#[{g:=0,fn:=a.frame.fn,pos:=a.frame.place,act:=.recv g.rc u 4},{g:=0,fn:=a.frame.fn,pos:=a.frame.place,act:=.recvDone g.rc u},
   {g:=d,fn:=t.frame.fn,pos:=t.frame.place,act:=.send g.rc n},{g:=d,fn:=t.frame.fn,pos:=t.frame.place,act:=.sendDone g.rc n}]:XD)=
   [({g:=0,fn:=a.frame.fn,pos:=a.frame.place,act:=.recv g.rc u 4}:MemOp),{g:=0,fn:=a.frame.fn,pos:=a.frame.place,act:=.recvDone g.rc u},{g:=d,fn:=t.frame.fn,pos:=t.frame.place,act:=.send g.rc n},{g:=d,fn:=t.frame.fn,pos:=t.frame.place,act:=.sendDone g.rc n}].toArray:=by
   simp[XE]
  rw[b2]at X
  have a1:∀l∈[({g:=0,fn:=a.frame.fn,pos:=a.frame.place,act:=.recv g.rc u 4}:MemOp),{g:=0,fn:=a.frame.fn,pos:=a.frame.place,act:=.recvDone g.rc u},{g:=d,fn:=t.frame.fn,pos:=t.frame.place,act:=.send g.rc (g.n-(D+1))},{g:=d,fn:=t.frame.fn,pos:=t.frame.place,act:=.sendDone g.rc (g.n-(D+1))}].toArray,∀n,l.act.touch?=C n->False:=by simp[MemAct.touch?]
  have R:∀l∈[({g:=0,fn:=a.frame.fn,pos:=a.frame.place,act:=.recv g.rc u 4}:MemOp),{g:=0,fn:=a.frame.fn,pos:=a.frame.place,act:=.recvDone g.rc u},{g:=d,fn:=t.frame.fn,pos:=t.frame.place,act:=.send g.rc (g.n-(D+1))},{g:=d,fn:=t.frame.fn,pos:=t.frame.place,act:=.sendDone g.rc (g.n-(D+1))}].toArray,(∀Q,l.act≠.mark (.release Q))/\(l.g=0\/l.g=d):=by simp
  have g6:∀s,Deaf (c++[({g:=0,fn:=a.frame.fn,pos:=a.frame.place,act:=.recv g.rc u 4}:MemOp),{g:=0,fn:=a.frame.fn,pos:=a.frame.place,act:=.recvDone g.rc u},{g:=d,fn:=t.frame.fn,pos:=t.frame.place,act:=.send g.rc (g.n-(D+1))},{g:=d,fn:=t.frame.fn,pos:=t.frame.place,act:=.sendDone g.rc (g.n-(D+1))}].toArray) s=Deaf c s:=by intro s;rw[U_];rfl
  have z:=la (b:=0) (c:=c) (q:=q) (v:=4) (u:=(h.extract 1 h.size).push d3) (w:=Xf) (y:=g.n-(D+1)+1) (z:=u+1) (D:=Xf) o.own a1 (λl S=>(R l S).1)
  have c8:kD g (q.setChan g.rc 4 ((h.extract 1 h.size).push d3) Xf (g.n-(D+1)+1) (u+1) Xf) U y (g.n-D) (u+1) Xf ((h.extract 1 h.size).push d3):=by
   refine⟨?_,by simp;omega,by simp;omega,o.own,λh7 n r=>?_⟩
   .grind [World.setChan]
   rw[Ze]at r;split at r
   .grind
   exact yN o.msgs h7 n r
  refine⟨_,_,_,X,Xh ⟨_,U,G.step z,nj e4 o.own a1 (λl S=>(R l S).1),by grind,Xh ⟨by omega,h.getD 0 I,?_,?_,λb=>if b=d then .pr g D d4 e9 else a2 b,A,?_,N,by grind,by simp only[Yc];rfl,⟨_,_,_,_,_,c8.heap⟩⟩⟩⟩
  .rw[XX (by grind)];rfl
  .have r:h[0]?=C h[0]:=XP (by omega);rw[Yu,r];exact o.msgs 0 _ r
  refine p.chan G z N T (by rw[a5];rfl) (by simp) (λs f7 a4=>?_) (λs a4=>g6 s) (λZ L=>?_) (Xh A) (λl S=>(R l S).2) (λn r=>by cases r) (λb1 b4 e2 e1=>by
   simp only[M.setChan]
   rw[Ya (λY=>by subst Y;exact e1 _ _ _ _ _ _ o.heap)])
  .grind
  rw[i6 _ d (by omega),XX T]at L;cases L
  exact⟨A,by omega,⟨_,_,c8⟩,c6.stay z (λQ b1 g4=>by
   have j3:b1≠g.rc:=by intro Y;subst Y;rcases c6.dv Q _ g4 _ (Xh A)with p|⟨p,_⟩<;>(rw[o.own]at p;cases p)
   grind [World.setChan]),by grind,⟨H.1,H.2.1.chan a1 (by rw[o.heap];simp),H.2.2⟩,b3⟩
 |pq f0 b7=>
  cases a9;obtain⟨⟨u,h,o⟩,a6,g0,H,c7,b3⟩:=d0;obtain rfl:=e6 o
  have c9:∀Z,W[d]?=C Z->Z.status≠.blocked:=λZ L=>by rw[b5]at L;cases L;rcases a6.status with p|p<;>rw[p]<;>simp
  have a7:=o.count;by_cases b4:0<h.size
  .refine take _ _ h (.pq g b7) o b4 c9 (by omega) A λe e5 b6 R w=>?_;have z:=la (b:=0) (c:=c) (q:=q) (e:=e) (v:=4) (u:=h.extract 1 h.size) (w:=J) (y:=g.n) (z:=u+1) (D:=Xf) o.own b6 R;refine⟨⟨_,_,w⟩,by rw[ZR c (g':=0) (by omega) e e5];exact a6,g0,?_,?_,b3.1.frame G z (by omega),b3.2.chan b6 (by rw[o.heap];simp)⟩
   .rw[abd (i_ H)];exact H
   grind [heard_old,lt_of_act?]
  have d6:h=#[]:=P_ (by omega);subst d6;have X:=crowd_recv_closed (P:=P) (sl:=sl) (i:=0) a0 (d1 q) o.heap (pH p a0 N T (by rw[a5];rfl) c9);have b2:(XE 0 v.frame.fn v.frame.place #[]++#[{g:=0,fn:=a.frame.fn,pos:=a.frame.place,act:=.recvClosed g.rc}]:XD)=#[({g:=0,fn:=a.frame.fn,pos:=a.frame.place,act:=.recvClosed g.rc}:MemOp)]:=by rfl
  rw[b2]at X
  have a1:∀l∈(#[({g:=0,fn:=a.frame.fn,pos:=a.frame.place,act:=.recvClosed g.rc}:MemOp)]:XD),∀n,l.act.touch?=C n->False:=by simp[MemAct.touch?]
  have a8:∀l∈(#[({g:=0,fn:=a.frame.fn,pos:=a.frame.place,act:=.recvClosed g.rc}:MemOp)]:XD),l.g=0:=by simp
  have z:jU c q q U U 0 (#[({g:=0,fn:=a.frame.fn,pos:=a.frame.place,act:=.recvClosed g.rc}:MemOp)]:XD):=mK a1 (λl S Q=>by grind)
  have e0:(c++#[({g:=0,fn:=a.frame.fn,pos:=a.frame.place,act:=.recvClosed g.rc}:MemOp)])[c.size]?=C {g:=0,fn:=a.frame.fn,pos:=a.frame.place,act:=.recvClosed g.rc}:=by simp
  have h2:=i_ H
  have d9:Knows (c++#[({g:=0,fn:=a.frame.fn,pos:=a.frame.place,act:=.recvClosed g.rc}:MemOp)]) 0 g0:=by refine⟨c.size,_,e0,A,Xi (.single (Xi ⟨.closed (c:=g.rc) (by grind [act?_old]) (act?_of e0),(ZA h2).2 c7,0,fB e0,?_⟩))⟩;rw[deaf_old (XS _)];exact d7
  refine⟨_,_,_,X,Xh ⟨_,U,G.step z,e4.stay z (λ_ _ _=>rfl),?_,Xi ⟨by omega,?_,λb=>if b=d then .lv b7 else a2 b,A,?_,?_⟩⟩⟩
  .have g3:(#[({g:=0,fn:=a.frame.fn,pos:=a.frame.place,act:=.recvClosed g.rc}:MemOp)]:XD)=[({g:=0,fn:=a.frame.fn,pos:=a.frame.place,act:=.recvClosed g.rc}:MemOp)].toArray:=A;rw[g3,U_,d7];rfl
  .rw[XX f8];rfl
  .refine p.chan G z N T (by rw[a5];rfl) (by simp) (λs _ a4=>e8 _ s (by omega)) (λs a4=>ZR c (g':=0) (by omega) _ a8) (λZ L=>?_) (Xi A) (λl S=>Xh (a8 l S)) (λn r=>by cases r) (λ_ _ _ _=>rfl);rw[e8 _ d (by omega),b5]at L;cases L;refine⟨by rw[ZR c (g':=0) (by omega) _ a8];exact a6,λh8 l n x g7 r h0 e2=>?_⟩;rcases XU x with⟨g9,a4⟩|⟨_,j5⟩
   .exact Knows.of_before ((b3.1 h8 l n a4 g7 r h0 (e2.imp id (ZA g9).1)).app _) d9
   grind
  intro b g8 f6;simp at f6;by_cases d8:b=d
  .simp[d8];rfl
  simp only[d8,Yf];cases j6:(a2 b).pd with
  |none=>rfl
  |some b0=>exact absurd (p.one b d b0.rc g.rc g8 N f6 T (by grind [aF.cA]) (by rw[a5];rfl)) d8
def jg(q:M)(b a:E):Prop:=q.heap[b]?=C (.chan 4 #[] Xf a a Xf)
theorem Dr{x:E->aF}{g:PD}{k:E}{a0:Xe}{i:Xt}(sl:Xp (E×E))(p:bB P W q c U y x)(i1:eJ (C (d,g,k)) W q x)(N:jg q g.rc k)(G:cQ c q U)(c7:aG P c q U 0 y)(g4:Deaf c 0=0)
 (a6:W[0]?=C (parked a #[rcase g.rc a0] (.recv J)))(k8:a.status=.running)(b4:0<b)(a3:W[b]?=C i)(h7:i.status=.running):
 ∃D f e,runT P (crowd W q sl) b=(.next (crowd D f sl),e)/\(IS P d g k a0 a y D f (c++e)\/
  ∃h d2,dR Ms.lt (ua d2 D.size) (ua x W.size)/\bB P D f (c++e) h y d2/\eJ (C (d,g,k)) D f d2/\cQ (c++e) f h/\aG P (c++e) f h 0 y/\Deaf (c++e) 0=0/\
   ((jg f g.rc k/\D[0]?=C (parked a #[rcase g.rc a0] (.recv J)))\/D[0]?=C {parked a #[rcase g.rc a0] (.recv J)with status:=.running})):=by
 have b5:b<W.size:=(XN.1 a3).1;obtain⟨L,Q,c0,h8⟩:=i1;have X:(x d).chan=C g.rc:=by simp_all [aF.cA]
 by_cases hd:uY P i (x b)
 ·
  have e6:=p.each b i b4 a3;obtain⟨d1,Y⟩:∃d1,x b=d1:=⟨_,A⟩;rw[Y]at e6 hd;cases d1 with
  |lv Z=>exact hd.elim
  |wk s=>exact hd.elim
  |pq O Z=>exact hd.elim
  |pb O R d4 f0 k5 d3 a0=>exact hd.elim
  |pr O R d4 f0=>
   have g8:b=d:=p.one b d O.rc g.rc b4 L b5 Q (by rw[Y];rfl) X;subst g8;rw[Y]at c0;cases c0;obtain⟨_,k9,⟨l6,f6,v⟩,c8,e2,a5,l1⟩:=e6;have o:=v.heap;rw[N]at o;simp only[Yh,Obj.chan.injEq]at o;obtain⟨_,i4,_,l2,i5,_⟩:=o;subst i4;subst i5;have e5:g.rc<q.heap.size:=(XN.1 N).1;have e3:(b==0)=Xf:=by simp;omega
   have g2:=v.count;cases R with
   |zero=>
    obtain⟨_,h3,d7,g5,c9,Z,l0⟩:=hd;have c6:=c9 q _ _ _ _ _ N;have b1:XE b i.frame.fn i.frame.place #[⟨.obj g.rc,Xf,J⟩,⟨.obj g.rc,J,J⟩]=#[{g:=b,fn:=i.frame.fn,pos:=i.frame.place,act:=.access ⟨.obj g.rc,Xf,J⟩},{g:=b,fn:=i.frame.fn,pos:=i.frame.place,act:=.close g.rc}]:=by simp[XE,XM]
    have H:jU c q (q.setChan g.rc 4 #[] J k k Xf) U U b (XE b i.frame.fn i.frame.place #[⟨.obj g.rc,Xf,J⟩,⟨.obj g.rc,J,J⟩]):=by
     refine⟨by simp[M.setChan],A,λS d8=>?_,λ_ _ _ _=>rfl,λl4 S _ a7 a8=>by grind [World.setChan],λt u s o b6=>?_,dU (by simp),Xh λt u s o b6=>?_,A⟩
     rotate_right
     .obtain⟨z,a2,rfl⟩:=Go.Conc.mem_ofEvents u;simp only[ZB,XV,Yd,YS]at a2;rcases a2 with rfl|rfl
      .simp[XM,MemAct.touch?]at o;subst o;exact v.own
      simp_all [XM,MemAct.touch?]
     .by_cases d9:S=g.rc
      .subst d9;exact Xi (Xh (Xh v.own))
      grind [World.setChan]
     rw[b1]at u;simp only[ZB,XV,Yd,YS]at u;rcases u with rfl|rfl
     .simp[MemAct.touch?]at o;subst o;exact⟨A,g.rc,Xh A,by simp[M.setChan];exact e5,Xi ⟨e5,Xi (Xi ⟨v.own,Xh A⟩)⟩⟩
     simp_all [MemAct.touch?]
    have f7:∀l,l≠b->Deaf (c++XE b i.frame.fn i.frame.place #[⟨.obj g.rc,Xf,J⟩,⟨.obj g.rc,J,J⟩]) l=Deaf c l:=λl r=>ZR c (g':=b) (λz=>r z.symm) _ (λt u=>by grind);have lone:∀l w,0<l->l<W.size->l≠b->(x l).chan=C w->False:=λl w a7 a8 b2 b3=>b2 (p.one l b w g.rc a7 L a8 Q b3 X)
    have i3:∀l,l≠b->0<l->∀s,W[l]?=C s->Go.Conc.woken P i d7 (q.setChan g.rc 4 #[] J k k Xf) s=s:=λl r T s o=>(p.each l s T o).woken i d7 λw e0=>(lone l w T (XN.1 o).1 r e0).elim
    have g7:(q.setChan g.rc 4 #[] J k k Xf).heap[g.rc]?=C (.chan 4 #[] J k k Xf):=by simp_all [M.setChan]
    refine⟨_,_,_,A_ (P:=P) (sl:=sl) (i:=b) a3 (by rw[e3];exact c6),Xi ⟨U,λj=>if j=b then .pq g Z else x j,?_,?_,⟨L,by simp_all,by simp only[Yc];rfl,⟨_,_,_,_,_,g7⟩⟩,G.step H,c7.other (by omega) H,by grind,.inr ?_⟩⟩
    .simp only[Yr,ZG];exact lj b5 (by rw[Y];exact .left _ _ (by simp))
    .obtain⟨i6,l3⟩:=fF (v:=.pq g Z) p H (λS d8 a9 b7=>by
    simp only[M.setChan]
    rw[Ya (λz=>by subst z;exact b7 _ _ _ _ _ _ N)]) (by rw[Y];exact⟨A,A,A⟩) ⟨λs o=>(by cases o),λs o=>by simp_all⟩
     refine p.jS G H (iV.refl y) (by simp) (λl r T=>mQ l r (i3 l r T)) f7 (λl w a7 a8 b2 b3=>(lone l w a7 a8 b2 b3).elim) b5 (λd6 _ a4=>?_) (λw e0=>⟨g.rc,X⟩) (λk r _ t u=>by grind) i6 (λd4 k6=>by simp_all);rw[XX (by simp_all)]at a4;cases a4
     have e4:(c++#[({g:=b,fn:=i.frame.fn,pos:=i.frame.place,act:=.access ⟨.obj g.rc,Xf,J⟩}:MemOp),{g:=b,fn:=i.frame.fn,pos:=i.frame.place,act:=.close g.rc}])[c.size+1]?=C {g:=b,fn:=i.frame.fn,pos:=i.frame.place,act:=.close g.rc}:=by simp
     have k7:Deaf (c++XE b i.frame.fn i.frame.place #[⟨.obj g.rc,Xf,J⟩,⟨.obj g.rc,J,J⟩]) b=0:=by rw[ZM,e2];rfl
     refine⟨⟨k,#[],?_⟩,by simp_all,c.size+1,?_,?_,?_⟩
     .refine⟨?_,by simp at g2⊢;omega,by simp,v.own,by simp⟩;simp_all
     .simp_all [XD.act?]
     .rw[b1];refine⟨b,fB e4,?_⟩
      have f9:(c++#[({g:=b,fn:=i.frame.fn,pos:=i.frame.place,act:=.access ⟨.obj g.rc,Xf,J⟩}:MemOp),{g:=b,fn:=i.frame.fn,pos:=i.frame.place,act:=.close g.rc}])[c.size]?=C {g:=b,fn:=i.frame.fn,pos:=i.frame.place,act:=.access ⟨.obj g.rc,Xf,J⟩}:=by simp
      rw[deaf_succ f9,deaf_old (XS _)];exact e2
     refine⟨?_,a5.2.1.own G H λt u s o b6 a9=>?_⟩
     rotate_left
     .obtain⟨z,a2,rfl⟩:=Go.Conc.mem_ofEvents u;simp only[ZB,XV,Yd,YS]at a2;rcases a2 with rfl|rfl
      .simp[XM,MemAct.touch?]at o;subst o;exact absurd v.own a9
      simp_all [XM,MemAct.touch?]
     intro i7 t s r g6 o b6 a9;rw[b1]at r⊢
     have h2:=aag r;simp at h2;by_cases h0:i7=c.size+1
     .exact Xh h0
     exact Xi (hb_po (by omega) r e4 g6)
    rw[Ya (by omega),Yk,a6];simp only[Zo,Yh];unfold Go.Conc.woken;rw[XC (by rw[h3,g5];rfl)]
    grind [again_recv_closed]
   |succ R=>
    obtain⟨_,d3,m0,c9,i2,h5,h4⟩:=hd;obtain⟨f1,g0⟩:=h4.tree;have c6:=c9 q c8.rel;have e7:an y.S y.β (g.τ (g.n-(R+1))) d3:=an.to a5.1.1 h5 i2
    have h6:partners (W.setIfInBounds b ph) g.rc Xf=[(0,0)]:=by
     rw[partners_one (j:=0) (g:=parked a #[rcase g.rc a0] (.recv J)) (stand_get (by omega) a6),offersAt_parked_recv,XC A]
     .rfl
     intro l s h1 o;rcases aaq W b l s o with⟨rfl,rfl⟩|⟨g9,o⟩
     .rfl
     refine ZI ?_ _ _;have r:=p.each l s (by omega) o;generalize h9:x l=k0 at r;cases k0 with
     |lv Z=>rcases r.1.status with p|p<;>rw[p]<;>simp
     |wk s=>obtain⟨d5,_,_,r⟩:=r;rcases r.status with p|p<;>rw[p]<;>simp
     |pr O i9 d5 k1=>rw[r.1];simp
     |pq O Z=>rcases r.2.1.status with p|p<;>rw[p]<;>simp
     |pb O i9 d5 k1 d6 l8 l9=>exact absurd (p.one l b O.rc g.rc (by omega) L (XN.1 o).1 Q (by rw[h9];rfl) X) g9
    have b0:=crowd_send_meets (P:=P) (sl:=sl) (i:=b) (j:=0) a3 (by rw[e3];exact c6) v.heap (by omega) a6 h6;rw[aa1,finishComm_recv]at b0
    have f8:(XE b i.frame.fn i.frame.place #[]++#[{g:=b,fn:=i.frame.fn,pos:=i.frame.place,act:=.send g.rc k},{g:=0,fn:=a.frame.fn,pos:=a.frame.place,act:=.recv g.rc k 4},
     {g:=b,fn:=i.frame.fn,pos:=i.frame.place,act:=.sendDone g.rc k},{g:=0,fn:=a.frame.fn,pos:=a.frame.place,act:=.recvDone g.rc k}]:XD)=
     [({g:=b,fn:=i.frame.fn,pos:=i.frame.place,act:=.send g.rc k}:MemOp),{g:=0,fn:=a.frame.fn,pos:=a.frame.place,act:=.recv g.rc k 4},{g:=b,fn:=i.frame.fn,pos:=i.frame.place,act:=.sendDone g.rc k},{g:=0,fn:=a.frame.fn,pos:=a.frame.place,act:=.recvDone g.rc k}].toArray:=by rfl
    have i0:g.n-(R+1)=k:=by omega
    rw[i0]at b0 e7;rw[f8]at b0
    have b9:∀t∈[({g:=b,fn:=i.frame.fn,pos:=i.frame.place,act:=.send g.rc k}:MemOp),{g:=0,fn:=a.frame.fn,pos:=a.frame.place,act:=.recv g.rc k 4},{g:=b,fn:=i.frame.fn,pos:=i.frame.place,act:=.sendDone g.rc k},{g:=0,fn:=a.frame.fn,pos:=a.frame.place,act:=.recvDone g.rc k}].toArray,∀s,t.act.touch?=C s->False:=by simp[MemAct.touch?]
    have b8:∀t∈[({g:=b,fn:=i.frame.fn,pos:=i.frame.place,act:=.send g.rc k}:MemOp),{g:=0,fn:=a.frame.fn,pos:=a.frame.place,act:=.recv g.rc k 4},{g:=b,fn:=i.frame.fn,pos:=i.frame.place,act:=.sendDone g.rc k},{g:=0,fn:=a.frame.fn,pos:=a.frame.place,act:=.recvDone g.rc k}].toArray,(∀a1,t.act≠.mark (.release a1))/\(t.g=0\/t.g=b):=by simp
    have g3:∀l,Deaf (c++[({g:=b,fn:=i.frame.fn,pos:=i.frame.place,act:=.send g.rc k}:MemOp),{g:=0,fn:=a.frame.fn,pos:=a.frame.place,act:=.recv g.rc k 4},{g:=b,fn:=i.frame.fn,pos:=i.frame.place,act:=.sendDone g.rc k},{g:=0,fn:=a.frame.fn,pos:=a.frame.place,act:=.recvDone g.rc k}].toArray) l=Deaf c l:=by intro l;rw[U_];rfl
    have H:=la (b:=0) (c:=c) (q:=q) (v:=4) (u:=#[]) (w:=Xf) (y:=k+1) (z:=k+1) (D:=Xf) v.own b9 (λt u=>(b8 t u).1)
    have e1:kD g (q.setChan g.rc 4 #[] Xf (k+1) (k+1) Xf) U y (g.n-R) (k+1) Xf #[]:=by
     refine⟨?_,by simp;omega,by simp,v.own,by simp⟩
     grind [World.setChan]
    refine⟨_,_,_,b0,Xh ⟨_,U,G.step H,nj c7 v.own b9 (λt u=>(b8 t u).1),by grind,Xh ⟨by omega,d3,?_,e7,λj=>if j=b then .pr g R f1 f0 else x j,A,?_,L,by grind,by simp only[Yc];rfl,⟨_,_,_,_,_,e1.heap⟩⟩⟩⟩
    .rw[Ya (by omega),XX (by omega)];rfl
    .refine p.chan G H L Q (by rw[Y];rfl) (by simp) (λl h1 T=>?_) (λl T=>g3 l) (λd6 a4=>?_) (Xh A) (λt u=>(b8 t u).2) (λs o=>by cases o) (λS d8 a9 b7=>by
    simp only[M.setChan]
    rw[Ya (λz=>by subst z;exact b7 _ _ _ _ _ _ N)])
     .grind
     rw[XX (by grind)]at a4;cases a4
     exact⟨A,by omega,⟨_,_,e1⟩,c8.stay H (λa1 S g1=>by
      have d9:S≠g.rc:=by intro z;subst z;rcases c8.dv a1 _ g1 _ (Xh A)with p|⟨p,_⟩<;>(rw[v.own]at p;cases p)
      grind [World.setChan]),by grind,⟨a5.1,a5.2.1.chan b9 (by rw[N];simp),a5.2.2⟩,g0⟩
 obtain⟨e9,D,f,e,h,q1,l5,j4,⟨a1,f2,e8⟩,j5,j6,j7,j8,j9,d0,_⟩:=quiet_step sl p G c7 a6 b4 a3 h7 hd;rw[woken_recv_open a1 f2 (by rw[(d0 d g.rc 0 L Q X).1];exact N)]at e8;refine⟨D,f,e,q1,Xi ⟨h,_,?_,j5,iI ⟨L,Q,c0,h8⟩ j4 j9 (λk w j0 f3 f4 f5=>(d0 k w j0 f3 f4 f5).2),j6,j7,j8.trans g4,Xh ⟨?_,e8⟩⟩⟩
 .simp_all [lj]
 unfold jg;rw[(d0 d g.rc 0 L Q X).1];exact N
end
variable{b:Xt}{d:Xg Ms}{a:XD}{c:E}
section
theorem AtRecv.again{c:E}{d:Xe}{e:Xk CommCase}{f:CommShape}(a:AtRecv P c d b b):AtRecv P c d {parked b e f with status:=.running} b:=
 ⟨A,a.1,λq=>by rw[stepG_tries];have:=a.2.2 q;rw[<-a.1];exact this⟩
theorem ng{b:cZ}(c:E)(e:cY P b d W q a U y):cY P b d W (q.at c) a U y:=(aj P b).at_ c e
theorem JR{e:PD}{i:E}{o:Xe}(S:AtRecv P e.rc o b b):∀(d:Xg Ms),
 (∀(W:Xk Xt)(q:M)(sl:Xp (E×E))(a:XD)(U:Loc->Own)(y:bR)(t:Xt),cY P (C (c,e,i)) d W q a U y->cQ a q U->aG P a q U 0 y->W[0]?=C t->Deaf a 0=0->AtRecv P e.rc o t b->
   bV P W q sl a λk v _ Q=>IS P c e i o b y k v Q)/\
 (∀(W:Xk Xt)(q:M)(sl:Xp (E×E))(a:XD)(U:Loc->Own)(y:bR),cY P (C (c,e,i)) d W q a U y->cQ a q U->aG P a q U 0 y->W[0]?=C (parked b #[rcase e.rc o] (.recv J))->Deaf a 0=0->jg q e.rc i->
   bV P W q sl a λk v _ Q=>IS P c e i o b y k v Q):=by
 intro d
 induction (dR.wf Ms.wf).apply d with
 |intro d _ a6=>
  have b4:∀(W:Xk Xt)(q:M)(sl:Xp (E×E))(a:XD)(U:Loc->Own)(y:bR),cY P (C (c,e,i)) d W q a U y->cQ a q U->aG P a q U 0 y->W[0]?=C (parked b #[rcase e.rc o] (.recv J))->Deaf a 0=0->jg q e.rc i->
   bV P W q sl a λk v _ Q=>IS P c e i o b y k v Q:=by
   intro W q sl a U y r G O m H L;have a4:∀u∈W,Go.Conc.awake u:=by
    intro u a5;obtain⟨g,h,rfl⟩:=YQ.1 a5;rcases Ye g with rfl|s
    .have:W[0]=parked b #[rcase e.rc o] (.recv J):=by simpa[XP h]using m
     rw[this];exactλa Z=>by cases Z
    exact(aj P (C (c,e,i))).awake r g _ s (XP h)
   have d6:∃(g:E)(b:Xt),W[g]?=C b/\b.status=.running:=by
    obtain⟨a1,_,l,d4,b6,N,e6⟩:=r;have X:=l.each c _ d4 (XP b6);refine⟨c,_,XP b6,?_⟩;obtain⟨a7,d5⟩:∃a7,a1 c=a7:=⟨_,A⟩;rw[d5]at X N;cases a7 with
    |lv d8=>cases N
    |wk u=>cases N
    |pr a8 d7 b9 e3=>exact X.1
    |pb a8 d7 b9 e3 e5 f1 o=>cases N;obtain⟨_,_,_,⟨e2,c0,z,c9⟩,_⟩:=X;have:=z.heap;rw[L]at this;cases this;simp at c9
    |pq a8 d8=>cases N;obtain⟨⟨e2,c0,z⟩,_⟩:=X;have:=z.heap;rw[L]at this;cases this
   obtain⟨g,c7,f,p,h,T,Y⟩:=h_ (P:=P) (w:=q) (sl:=sl) a4 d6;have s:0<g:=by
    rcases Ye g with rfl|c8
    .rw[m]at h;cases h;cases T
    exact c8
   obtain⟨a1,rfl,l,a0⟩:=ng f r;obtain⟨k,w,b8,x,n⟩:=Dr p l a0 (show jg (q.at f) e.rc i from L) (G.at f) (O.at f) H m S.1 s h T;refine bV.head (Y.trans x) ?_;rcases n with n|⟨R,b7,b5,a9,b0,b1,b2,b3,a2⟩
   .exact .now n
   rcases a2 with⟨a2,a3⟩|a3
   .exact(a6 _ b5).2 k w p _ R y ⟨b7,A,a9,b0⟩ b1 b2 a3 b3 a2
   exact(a6 _ b5).1 k w p _ R y _ ⟨b7,A,a9,b0⟩ b1 b2 a3 b3 S.again
  refine⟨?_,b4⟩;intro W q sl a U y t r G O m H D;have a4:∀u∈W,Go.Conc.awake u:=by
   intro u a5;obtain⟨g,h,rfl⟩:=YQ.1 a5;rcases Ye g with rfl|s
   .have:W[0]=t:=by simpa[XP h]using m
    rw[this];exactλa Z=>by rw[D.1]at Z;cases Z
   exact(aj P (C (c,e,i))).awake r g _ s (XP h)
  obtain⟨g,c7,f,p,h,T,Y⟩:=h_ (P:=P) (w:=q) (sl:=sl) a4 ⟨0,t,m,D.1⟩;rcases Ye g with rfl|s
  .obtain⟨a1,rfl,l,a0⟩:=ng f r;obtain⟨k,w,b8,x,n⟩:=Kr p l a0 (G.at f) (O.at f) H m D;refine bV.head (Y.trans x) ?_;rcases n with n|⟨rfl,rfl,rfl,L⟩
   .exact .now n
   rw[aar];refine b4 _ (q.at f) p a U y ⟨a1,by simp,?_,?_⟩ (G.at f) (O.at f) (by rw[XX (XN.1 m).1]) H ?_
   .exact⟨λg b h S=>l.each g b h (by rwa [Ya (by omega)]at S),by simpa using l.one,by simpa using l.above,by simpa using l.wg,by simpa using l.ops⟩
   .obtain⟨q1,d9,e0,e1⟩:=a0;exact⟨q1,by simpa using d9,e0,e1⟩
   exact L
  obtain⟨c6,k,w,b8,R,x,n,z,d0,d1,d2,d3⟩:=(aj P (C (c,e,i))).step p (ng f r) (G.at f) (O.at f) m D.1 s h T;refine bV.head (Y.trans x) ?_;exact(a6 c6 n).1 k w p _ R y t d0 d1 d2 z (d3.trans H) D
end
end
variable{h:Set}{f:E->Prop}{m:Ren}{w:M}{D:Xk Oper}{o:Oper}{a:Xu}{l:Xu}{v:Xe}{b:Xr}{k:Xg Item}{cs:Xg Xr}{c:E}{rest:Xg E}
structure Goal(P:Xy)(h:Set)(main:Xo)(f:E->Prop) where
 G:Ren->M->Xt->Prop
 ON:∀{m:Ren}{w:M}{g:Xt},g.status=.running->xm P h main f (λm w g=>g.status=.running/\G m w g) m w g->G m w g
 tape:∀{m:Ren}{w:M}{t:E->Question->E}{g:Xt},G m {w with tape:=t} g->G m w g
structure Inv(P:Xy)(h:Set)(f:E->Prop)(m:Ren)(w:M):Prop where
 base:Base P m
 cO:my h f w
 iQ:kF h f w
section
variable{main:Xo}
theorem Inv.keep{g:Ren}{e:M}(d:Inv P h f m w)(i:Base P g)(c:∀a,f a->e.heap[a]?=w.heap[a]?):Inv P h f g e:=⟨i,d.cO.keep c,d.iQ.keep c⟩
theorem ga{c f:Xk Xe}(d:aw h m c f):yielded D c=yielded D f:=by
 funext j
 unfold yielded;cases q:(D[j]?).bind (·.dst)with
 |none=>rfl
 |some g=>
  dsimp only[Option.bind_some];cases e:c[g]? with
  |none=>rw[d.none e]
  |some r=>
   obtain⟨p,i,n⟩:=d.get e;rw[i];cases n with
   |bS l=>cases p<;>first|exact l.elim|rfl
   |_=>rfl
theorem lF(n:Base P m){d e:Xk Xe}(l:aw h m d e)(f g:Xg Deferred):lB P h m (Act.eval ⟨d,f⟩) (Act.eval ⟨e,g⟩):=by
 intro q c;cases q with
 |tmp p=>exact l.getD p aY
 |const v=>exact ir 8 v c
 |global r=>simp only[du,Yg,YV]at c;exact .ptr ⟨n.at c.1 (aaS c.2),A,A⟩
 |func i=>exact .func (.func i c) A rfl (by simp) (by simp)
theorem yl(G:Good P h){e:XI}{g r:Xk Xe}{c:Ending->M->Prop}(S:Tp (λw=>Calls P e g w c) w)(W:∀w,¬c .outgrown w)(X:∀i w,c i w->∃v,i=Xs v)
 (T:h.fn e=J)(R:Base P m)(O:aV h m w q)(Q:aw h m g r):
 ∃d v n f p,Base P d/\aV h d f p/\m.le d/\an h d v n/\Tp (c (Xs v)) f/\kT h w f:=by
 have U:=oy S W X
 have Y:cK P h Xf m [Frame.enter P e g .normal] [Frame.enter P e r .normal]:=⟨.cons (bH.enter G T Q .normal (Xh A)) .nil,λa7 s=>by simp only[E_,Yh]at s;subst s;exact⟨A,A⟩⟩
 obtain⟨d,a3,a4,f,p,x,y,l,z,D,H,L⟩:=Cj G U R O Y
 obtain⟨fn,v,n,a8,a1,u,new,a6,_,_,Z,t,rfl,a5,N,_⟩:=nO (u:=λv w=>c (Xs v) w) G l y z (H.mono λw a0=>by
  obtain⟨i,_,x,_,l⟩:=a0
  grind)
 exact⟨_,v,n,a1,u,l,t.rel,D,Z,N,L.trans t.later⟩
theorem Aq(G:Good P h)(Y:Base P m){W X:XJ->Xe}(a5:lB P h m W X)(a1:jd P h.fn h.bi h.bZ o.op=J){y:Result Next->Prop}(a4:∀H w,¬y (.halt H w))
 (H:Tp (λw=>y ((execOp W o).run P w)) w)(S:aV h m w q):
 ∃z i u g t new x,(execOp X o).runT P q #[]=(.ok u t,x.toArray)/\Bd h z i u/\bD h m z w g q t new x/\Tp (λw=>y (.ok i w)) g:=by
 obtain⟨b,O,a8,L⟩:=H.low;obtain⟨R,N,⟨hd,b0⟩,a0⟩:=sound G.ux (vy G Y S.SD a5 o a1) w q #[] #[] S
 have U:∀(n:Result Next)(p:Xk XF)(g:M),N=(n,p)->(∃i,n=.ok i g)\/(∃L,n=.halt L g)->∀s:E->Question->E,(∀c r,b<=c->c<g.drawn->s c r=if c<w.drawn then O c r else R c r)->
  y (iR s (n,p)).1:=by
  intro n p g a3 a2 s T;have a9:dr N=g.drawn:=by rw[a3];rcases a2 with⟨i,rfl⟩|⟨i,rfl⟩<;>rfl
  grind [Sem.runT_fst]
 obtain⟨n,p⟩:=N;cases n with
 |halt L g=>exact(a4 _ _ (U _ p g A (Xi ⟨_,A⟩) (λc r=>if c<w.drawn then O c r else R c r) λ_ _ _ _=>rfl)).elim
 |ok i g=>obtain⟨z,u,t,new,x,Q,a7,Z,a6⟩:=a0;rw[E']at Q;exact⟨z,i,u,g,t,new,x,Q,Z,a6,b,_,λs T=>U _ p g A (Xh ⟨_,A⟩) s T⟩
def eP(c:Xu->M->Prop):Exit->Xu->M->Prop
 |.normal,a,w=>c a w
 |_,_,_=>False
theorem fQ{c:Xu->M->Prop}:¬LetsOut (eP c):=λ⟨_,_,d⟩=>d
structure Rt where
 d0:Xg Deferred
 kn:Xg (E×Xe)
def Rt.free(e:Rt)(c:Xp Tmp):Xo:=e.kn.all λd=>c !=C d.1
structure ar(h:Set)(m:Ren)(g:Rt)(a l:Xu):Prop where
 tmps:aw h m a.tmps l.tmps
 defers:∃i,l.defers=i++g.d0/\aZ (rP h m) a.defers i
 kn:∀n∈g.kn,l.tmps[n.1]?=C n.2
theorem ar.mono{β₁:Ren}{i:Rt}(g:ar h m i a l)(n:m.le β₁):ar h β₁ i a l:=
 ⟨g.tmps.mono n,by obtain⟨p,r,hd⟩:=g.defers;exact⟨p,r,hd.mono λ_ _ s=>s.mono n⟩,g.kn⟩
theorem ar.put{p:Rt}(n:ar h m p a l)(i:Xp Tmp)(z:p.free i=J){t:Xe}(y:an h m v t):ar h m p (a.put i v) (l.put i t):=by
 cases i with
 |none=>exact n
 |some r=>
  refine⟨n.tmps.set r y,n.defers,λs x=>?_⟩;have u:r≠s.1:=by grind [Rt.free]
  simp only[Act.put];rw[Ya u];exact n.kn s x
theorem ar.less{d0 d1:Rt}(i:ar h m d1 a l)(hd:d1.d0=d0.d0)(n:∀g∈d0.kn,g∈d1.kn):ar h m d0 a l:=
 ⟨i.tmps,by rw[<-hd];exact i.defers,λg p=>i.kn g (n g p)⟩
theorem ar.more{d0:Rt}(g:ar h m d0 a l)(n:l.tmps[j]?=C v):ar h m ⟨d0.d0,(j,v)::d0.kn⟩ a l:=
 ⟨g.tmps,g.defers,λp i=>by
   rcases XV.1 i with rfl|i
   .exact n
   exact g.kn p i⟩
section frame
variable{e:Xg Deferred}{d:Xk Xe}
theorem jv(g:D[c]?=C o)(h:Region.wanted o (yielded D d)=J):
 stepG P main (rg (b.at ⟨d,e⟩ (Xv D (c::rest)::k)) cs) q=stepG.apply P J (b.at ⟨d,e⟩ (Xv D (c::rest)::k)) cs F (execOp (Act.eval ⟨d,e⟩) o) q:=by
 have f:=Xr.eval_at' b ⟨d,e⟩ (Xv D (c::rest)::k);rw[bu A];simp_all [stepG.exec,stepG.oper,Xr.oper?,Frame.at]
theorem stepG_value(G:Good P h)(r:h.fr b.fn=J)(s:b.kind≠.early){z:Ren}{new n:Xg XF}(t:aZ (ma h z) new n)(x:D[c]?=C o)(y:Region.wanted o (yielded D d)=J){p:M}
 (g:(execOp (Act.eval ⟨d,e⟩) o).runT P q #[]=(.ok (.value v) p,n.toArray)\/((execOp (Act.eval ⟨d,e⟩) o).runT P q #[]=(.ok .skip p,n.toArray)/\v=I)):
 stepG P main (rg (b.at ⟨d,e⟩ (Xv D (c::rest)::k)) cs) q=.go (rg ((b.at ⟨d,e⟩ (Xv D (c::rest)::k)).finish v) cs) p (kept n).toArray:=by
 obtain⟨H,u,i⟩:=fM (P:=P) (b.at ⟨d,e⟩ (Xv D (c::rest)::k)) cs (execOp (Act.eval ⟨d,e⟩) o) q;rw[jv x y,u];rcases g with g|⟨g,rfl⟩
 .rw[g]at i⊢
  rw[i s trivial];simp only[eQ,stepG.apply,Xz.runT,Yc,YW,aX,aN,rg,GStep.after];rw[seen_eq G (show h.fr (b.at ⟨d,e⟩ (Xv D (c::rest)::k)).fn=J from r) t];simp
 rw[g]at i⊢
 rw[i s trivial];simp only[eQ,stepG.apply,Xz.runT,Yc,YW,aX,aN,rg,GStep.after];rw[seen_eq G (show h.fr (b.at ⟨d,e⟩ (Xv D (c::rest)::k)).fn=J from r) t];simp
theorem stepG_enter(G:Good P h)(y:h.fr b.fn=J)(r:b.kind≠.early){u:Ren}{new f:Xg XF}(z:aZ (ma h u) new f)(s:D[c]?=C o)(t:Region.wanted o (yielded D d)=J){l:XI}{i:Xk Xe}{g:M}
 (p:(execOp (Act.eval ⟨d,e⟩) o).runT P q #[]=(.ok (.enter l i) g,f.toArray)):
 stepG P main (rg (b.at ⟨d,e⟩ (Xv D (c::rest)::k)) cs) q=.go (rg (Frame.enter P l i .normal) (b.at ⟨d,e⟩ (Xv D (c::rest)::k)::cs)) g (kept f).toArray:=by
 obtain⟨x,n,m⟩:=fM (P:=P) (b.at ⟨d,e⟩ (Xv D (c::rest)::k)) cs (execOp (Act.eval ⟨d,e⟩) o) q;rw[jv s t,n];rw[p]at m⊢
 rw[m r trivial];simp only[eQ,stepG.apply,Xz.runT,Yc,YW,aX,aN,rg,GStep.after,Frame.at]
 grind [seen_eq]
theorem stepG_defer(G:Good P h)(H:h.fr b.fn=J)(t:b.kind≠.early){y:Ren}{new g:Xg XF}(L:aZ (ma h y) new g)(u:D[c]?=C o)(x:Region.wanted o (yielded D d)=J){n:Deferred}{i:M}
 (s:(execOp (Act.eval ⟨d,e⟩) o).runT P q #[]=(.ok (.defer n) i,g.toArray)):
 stepG P main (rg (b.at ⟨d,e⟩ (Xv D (c::rest)::k)) cs) q=.go (rg ((b.at ⟨d,n::e⟩ (Xv D (c::rest)::k)).finish I) cs) i (kept g).toArray:=by
 obtain⟨z,r,p⟩:=fM (P:=P) (b.at ⟨d,e⟩ (Xv D (c::rest)::k)) cs (execOp (Act.eval ⟨d,e⟩) o) q;rw[jv u x,r];rw[s]at p⊢
 rw[p t trivial];simp only[eQ,stepG.apply,Xz.runT,Yc,YW,aX,aN,rg,GStep.after]
 grind [seen_eq,Frame.at]
theorem He(O:Good P h)(a0:Goal P h main f){W:Rt}(a3:h.fr b.fn=J)(a4:b.kind≠.early)(Y:D[c]?=C o)(e9:Region.wanted o (yielded D a.tmps)=J)(e8:jd P h.fn h.bi h.bZ o.op=J)(S:W.free o.dst=J)
 (s:Inv P h f m w)(b1:ar h m W a l){T:Xu->M->Prop}{a1:Xu->M->Prop}(r:Tp (λw=>o.wp P a w T (eP a1)) w)
 (X:∀i U a2 n x,Base P i->aV h i n x->m.le i->ar h i W U a2->Tp (T U) n->gO h f w n)
 (next:∀i U a2 n,Inv P h f i n->m.le i->(∀p u,i p u->m p u\/w.heap.size<=p)->w.heap.size<=n.heap.size->(∀p,f p->n.heap[p]?=w.heap[p]?)->ar h i W U a2->Tp (T U) n->
   a0.G i n (rg (b.at a2 (Xv D rest::k)) cs)):
 a0.G m w (rg (b.at l (Xv D (c::rest)::k)) cs):=by
 obtain⟨d,e⟩:=l;have a7:Region.wanted o (yielded D d)=J:=by rw[<-ga b1.tmps];exact e9
 have a5:(D[c]?).bind (·.dst)=o.dst:=by rw[Y];rfl
 refine a0.ON A (.step A (λ_ i n e4=>xm P h main f (λm w c8=>c8.status=.running/\a0.G m w c8) i n e4) (λq d0=>?_) (λ_ _ _ _ r=>r));obtain⟨i,g7,g8,n,x,new,a8,y,e7,g,z⟩:=Aq O s.base (lF s.base b1.tmps a.defers e) e8 (y:=o.upon P a T (eP a1)) (by intro r w e6;cases r<;>exact e6) r d0;have H:=s.base.jS d0 g;have N:=b1.mono g.le;cases e7 with
 |@value v f8 a6=>have L:=N.put o.dst S a6;obtain⟨t,R⟩:=iE s.cO s.iQ g (X i _ _ n x H g.rel g.le L z);refine⟨_,i,n,x,new,a8,stepG_value O a3 a4 g.lz Y a7 (Xh y),g,t,R,A,.stop ⟨A,?_⟩⟩;rw[YK,a5];exact next i _ _ n (s.keep H t) g.le (λp u Q=>(g.fresh p u Q).imp id (·.1)) g.size t L z
 |skip=>have L:=N.put o.dst S aY;obtain⟨t,R⟩:=iE s.cO s.iQ g (X i _ _ n x H g.rel g.le L z);refine⟨_,i,n,x,new,a8,stepG_value O a3 a4 g.lz Y a7 (Xi ⟨y,A⟩),g,t,R,A,.stop ⟨A,?_⟩⟩;rw[YK,a5];exact next i _ _ n (s.keep H t) g.le (λp u Q=>(g.fresh p u Q).imp id (·.1)) g.size t L z
 |@defer e0 c6 hd=>
  have e5:ar h i W {a with defers:=e0::a.defers} ⟨d,c6::e⟩:=by obtain⟨e1,c7,e2⟩:=N.defers;dsimp only at c7;exact⟨N.tmps,⟨c6::e1,by rw[c7];rfl,.cons hd e2⟩,N.kn⟩
  have L:=e5.put o.dst S aY;obtain⟨t,R⟩:=iE s.cO s.iQ g (X i _ _ n x H g.rel g.le L z);refine⟨_,i,n,x,new,a8,stepG_defer O a3 a4 g.lz Y a7 y,g,t,R,A,.stop ⟨A,?_⟩⟩;rw[YK,a5];exact next i _ _ n (s.keep H t) g.le (λp u Q=>(g.fresh p u Q).imp id (·.1)) g.size t L z
 |@enter e3 d1 d8 g3 a6=>
  let b0:Ending->M->Prop:=λ
   |Xs v,b8=>T (a.put o.dst v) b8
   |.panicked d9,b8=>eP a1 (.panic d9) a b8
   |.outgrown,_=>LetsOut (eP a1)
  have c9:Tp (λw=>Calls P e3 d8 w b0) n:=z;have d2:∀w,¬b0 .outgrown w:=λw r=>fQ r;have d3:∀y w,b0 y w->∃v,y=Xs v:=by
   intro y w r;cases y with
   |returned v=>simp
   |panicked g4=>exact r.elim
   |outgrown=>simp_all
  obtain⟨g2,v,f8,f9,d6,q1,f0,d4,f1,f2,f3⟩:=yl O c9 d2 d3 d1 H g.rel a6;obtain⟨g0,f4,f5⟩:=X g2 _ _ f9 d6 q1 f0 (Ren.le_trans g.le d4) ((N.mono d4).put o.dst S f1) f2;obtain⟨t,R⟩:=iE s.cO s.iQ g ⟨g0,f3.trans f4,f5⟩;have a9:=s.keep H t;refine⟨_,i,n,x,new,a8,stepG_enter O a3 a4 g.lz Y a7 y,g,t,R,A,?_⟩;refine(Kx O c9 d2 d3 d1 H a6 a9.cO a9.iQ (λc0 f6 f7 b9 d7 b3 b4 Z b5 b6=>?_)).bind λc0 b9 g6 b2=>?_
  .obtain⟨g1,b7,d5⟩:=X c0 _ _ b9 d7 b3 b4 (Ren.le_trans g.le Z) ((N.mono Z).put o.dst S b5) b6;exact⟨g1,b7,λp b2=>by simp_all⟩
  obtain⟨f6,f7,rfl,b3,b4,Z,b5,b6,b7,d5⟩:=b2;refine .stop ⟨A,?_⟩;rw[YK,a5];refine next c0 _ _ b9 (a9.keep b4 b7) (Ren.le_trans g.le Z) (λp u Q=>?_) (XZ g.size b6) (λp b2=>by simp_all) ((N.mono Z).put o.dst S b3) d5
  rcases b5 p u Q with r|r
  .exact(g.fresh p u r).imp id (·.1)
  exact Xi (XZ g.size r)
 |round=>exact(z.one).elim λ_ r=>r.elim
 |recover=>exact(z.one).elim λ_ r=>r.elim
end frame
end
variable{c:M}{H:E}{v:Oper}{d:Xu}{e:Xu}{s:Xr}{r:Xg Item}{u:Xg Xr}{z:Xt}{N:Exit->Xu->M->Prop}
structure cV(f:E->Prop)(m:Ren)(c:M)(β₁:Ren)(w₁:M):Prop where
 le:m.le β₁
 fresh:∀a b,β₁ a b->m a b\/c.heap.size<=a
 size:c.heap.size<=w₁.heap.size
 keep:∀a,f a->w₁.heap[a]?=c.heap[a]?
section
variable{main:Xo}{β₁ y:Ren}{w₁ x:M}
theorem cV.refl(m:Ren)(c:M):cV f m c m c:=⟨Ren.le_refl _,λ_ _ a=>Xh a,XS _,λ_ _=>rfl⟩
theorem cV.trans(a:cV f m c β₁ w₁)(g:cV f β₁ w₁ y x):cV f m c y x:=
 ⟨Ren.le_trans a.le g.le,λb l o=>by
   rcases g.fresh b l o with i|i
   .exact a.fresh b l i
   exact Xi (XZ a.size i),XZ a.size g.size,λb k=>by rw[g.keep b k,a.keep b k]⟩
theorem cV.tape(a:cV f m c β₁ w₁)(t:E->Question->E):cV f m c β₁ {w₁ with tape:=t}:=⟨a.le,a.fresh,a.size,a.keep⟩
theorem Inv.tape(a:Inv P h f m c)(t:E->Question->E):Inv P h f m {c with tape:=t}:=⟨a.base,a.cO,a.iQ⟩
theorem Inv.grow(a:Inv P h f m c)(b:Base P β₁)(z:cV f m c β₁ w₁):Inv P h f β₁ w₁:=a.keep b z.keep
def oE(P:Xy)(h:Set)(p:Rt)(D:Xk Oper):Xo:=D.toList.all λv=>jd P h.fn h.bi h.bZ v.op&&p.free v.dst
theorem jF{p:Rt}(a:oE P h p D=J)(b:D[H]?=C v):jd P h.fn h.bi h.bZ v.op=J/\p.free v.dst=J:=by grind [oE]
theorem NL(G:Good P h){p:Rt}{n o:Xu->M->Prop}(u:Base P m)(O:aV h m c q)(Q:ar h m p d e)(a7:jd P h.fn h.bi h.bZ v.op=J)(s:p.free v.dst=J)(b:Tp (λc=>v.wp P d c n (eP o)) c):
 ∃β₁ D U w₁ k,Base P β₁/\aV h β₁ w₁ k/\m.le β₁/\ar h β₁ p D U/\Tp (n D) w₁/\kT h c w₁:=by
 obtain⟨b3,L⟩:=e;obtain⟨β₁,b8,b9,w₁,k,new,c0,l,a5,a,f⟩:=Aq G u (lF u Q.tmps d.defers L) a7 (y:=v.upon P d n (eP o)) (by intro b c a4;cases b<;>exact a4) b O;have r:=u.jS O a;have g:=Q.mono a.le;cases a5 with
 |@value i b4 w=>exact⟨β₁,_,_,w₁,k,r,a.rel,a.le,g.put v.dst s w,f,a.later⟩
 |skip=>exact⟨β₁,_,_,w₁,k,r,a.rel,a.le,g.put v.dst s aY,f,a.later⟩
 |@defer X H hd=>
  have a2:ar h β₁ p {d with defers:=X::d.defers} ⟨b3,H::L⟩:=by obtain⟨Y,N,Z⟩:=g.defers;dsimp only at N;exact⟨g.tmps,⟨H::Y,by rw[N];rfl,.cons hd Z⟩,g.kn⟩
  exact⟨β₁,_,_,w₁,k,r,a.rel,a.le,a2.put v.dst s aY,f,a.later⟩
 |@enter a0 a3 T b5 w=>
  let t:Ending->M->Prop:=λ
   |Xs i,z=>n (d.put v.dst i) z
   |.panicked W,z=>eP o (.panic W) d z
   |.outgrown,_=>LetsOut (eP o)
  have a1:Tp (λc=>Calls P a0 T c t) w₁:=f;have a6:∀c,¬t .outgrown c:=λc b=>fQ b;have a8:∀l c,t l c->∃i,l=Xs i:=by
   intro l c b;cases l with
   |returned i=>simp
   |panicked b6=>exact b.elim
   |outgrown=>simp_all
  obtain⟨y,i,b4,x,S,q1,a9,R,b0,b1,b2⟩:=yl G a1 a6 a8 a3 r a.rel w;exact⟨y,_,_,x,S,q1,a9,Ren.le_trans a.le R,(g.mono R).put v.dst s b0,b1,a.later.trans b2⟩
 |round=>exact(f.one).elim λ_ b=>b.elim
 |recover=>exact(f.one).elim λ_ b=>b.elim
theorem uy(G:Good P h){p:Rt}(b:oE P h p D=J){o:Xu->M->Prop}:∀(z:Xg E){m:Ren}{c q:M}{d e:Xu},Base P m->aV h m c q->ar h m p d e->Tp (λc=>wpOps P D (eP o) z d c) c->
 ∃β₁ n s w₁ r,Base P β₁/\aV h β₁ w₁ r/\m.le β₁/\ar h β₁ p n s/\Tp (o n) w₁/\kT h c w₁
 |[],m,c,q,d,e,g,f,k,a=>⟨m,d,e,c,q,g,f,Ren.le_refl _,k,a,.refl _⟩
 |H::rest,m,c,q,d,e,g,f,k,a=>by
  cases i:D[H]? with
  |none=>simp only[wpOps,i]at a;exact uy G b rest g f k a
  |some v=>
   simp only[wpOps,i]at a;by_cases l:Region.wanted v (yielded D d.tmps)=J
   .simp only[l,Yc]at a;obtain⟨β₁,n,s,w₁,r,q1,L,N,O,Q,R⟩:=NL G g f k (jF b i).1 (jF b i).2 (a.mono λc l=>l.resolve_right λZ=>fQ Z.2);obtain⟨y,u,w,x,t,S,T,U,W,X,Y⟩:=uy G b rest q1 L O Q;exact⟨y,u,w,x,t,S,T,Ren.le_trans N U,W,X,R.trans Y⟩
   simp only[l]at a;exact uy G b rest g f (k.put v.dst (jF b i).2 aY) a
section frame
variable{p:Rt}
theorem stepG_unwanted(a:((D[H]?).map (Region.wanted · (yielded D d.tmps))).getD Xf=Xf):
 stepG P main (rg (s.at d (Xv D (H::rest)::r)) u) q=.go (rg (s.at (d.put ((D[H]?).bind (·.dst)) I) (Xv D rest::r)) u) q:=by
 rw[<-YK,bu A];simp_all [Frame.at,stepG.exec,rg]
theorem iT:stepG P main (rg (s.at d (Xv D []::r)) u) q=.go (rg (s.at d r) u) q:=by rfl
theorem Goal.pure(n:Goal P h main f){g₁:Xt}(a:z.status=.running)(b:g₁.status=.running)(g:∀q,stepG P main z q=.go g₁ q)(i:n.G m c g₁):n.G m c z:=
 n.ON a (.pure a b g (.stop ⟨b,i⟩))
def rL(n:Goal P h main f)(s:Xr)(u:Xg Xr)(r:Xg Item)(m:Ren)(e:Xu)(c:M):Exit->Prop
 |.normal=>n.G m c (rg (s.at e r) u)
 |.exit id=>∃a,exitTo id r=C a/\n.G m c (rg (s.at e a) u)
 |.ret=>∀b,n.G m c (rg {s.at e b with mode:=.returning} u)
 |_=>False
theorem rL.push{n:Goal P h main f}{g:Item}{b:Exit}(w:g.plain=J)(o:b≠.normal)(a:rL n s u r m e c b):rL n s u (g::r) m e c b:=by
 cases b with
 |normal=>simp_all
 |exit id=>obtain⟨k,t,i⟩:=a;exact⟨k,by cases g<;>simp_all [exitTo,Item.plain],i⟩
 |ret=>exact a
 |goto L=>exact a
 |panic l=>exact a
 |outgrown=>exact a
def mB(P:Xy)(h:Set)(main:Xo)(f:E->Prop)(n:Goal P h main f)(s:Xr)(p:Rt)(u:Xg Xr)(r:Xg Item)(N:Exit->Xu->M->Prop)(m:Ren)(c:M):Prop:=
 ∀d β₁ a b w₁,Inv P h f β₁ w₁->cV f m c β₁ w₁->ar h β₁ p a b->N d a w₁->rL n s u r β₁ b w₁ d
def CW(n:Goal P h main f)(s:Xr)(p:Rt)(u:Xg Xr)(a:XG)(N:Exit->Xu->M->Prop)(d:Xu)(c:M):Prop:=
 ∀(m:Ren)(r:Xg Item)(e:Xu),Inv P h f m c->ar h m p d e->mB P h main f n s p u r N m c->n.G m c (rg (s.at e (.code a::r)) u)
variable{n:Goal P h main f}
theorem mB.grow(i:mB P h main f n s p u r N m c)(z:cV f m c β₁ w₁):mB P h main f n s p u r N β₁ w₁:=
 λe y b d x a g k l=>i e y b d x a (z.trans g) k l
theorem eL(b:N .normal d c):CW n s p u .skip N d c:=λm r e a g f=>n.pure A rfl (λq=>by rfl) (f .normal m d e c a (.refl _ _) g b)
theorem qo{id:E}(b:N (.exit id) d c):CW n s p u (.exit id) N d c:=λm r e a i f=>by obtain⟨k,h,g⟩:=f (.exit id) m d e c a (.refl _ _) i b;exact n.pure A rfl (λq=>by rw[bu A];simp[stepG.exec,Frame.at,rg,h]) g
theorem mJ(b:N .ret d c):CW n s p u .ret N d c:=λm r e a g f=>n.pure A rfl (λq=>by rfl) (f .ret m d e c a (.refl _ _) g b (.code .ret::r))
theorem aQ{o l:XG}(x:CW n s p u o (Exit.then (CW n s p u l N) N) d c):CW n s p u (.seq o l) N d c:=λm r e t y g=>by
 refine n.pure A rfl (λq=>by rfl) (x m (.code l::r) e t y λw β₁ k b w₁ a f h i=>?_);cases w with
 |normal=>exact i β₁ r b a h (g.grow f)
 |exit id=>exact rL.push A (by simp) (g (.exit id) β₁ k b w₁ a f h i)
 |ret=>exact g .ret β₁ k b w₁ a f h i
 |goto z=>exact g (.goto z) β₁ k b w₁ a f h i
 |panic v=>exact g (.panic v) β₁ k b w₁ a f h i
 |outgrown=>exact g .outgrown β₁ k b w₁ a f h i
theorem cH{a:XJ}{i k:XG}{g:Xo}(O:du P h.fn a=J)(L:d.eval a=.bool g)(t:CW n s p u (if g then i else k) N d c):CW n s p u (.cond a i k) N d c:=λm r e l o w=>by
 have Q:e.eval a=.bool g:=by have b:=lF l.base o.tmps d.defers e.defers a O;rw[L]at b;generalize e.eval a=S at b;cases b;rfl
 refine n.pure A rfl (λq=>?_) (t m r e l o w);have R:=Xr.eval_at s e (.code (.cond a i k)::r) a;rw[bu A];simp_all [stepG.exec,Frame.at,rg]
theorem iu{id:E}{l:XG}(w:CW n s p u l (Exit.inBlock id N) d c):CW n s p u (.block id l) N d c:=λm r e t y i=>by
 refine n.pure A rfl (λq=>by rfl) (w m (.inBlock id::r) e t y λv β₁ f g w₁ b h k a=>?_);cases v with
 |normal=>exact n.pure A rfl (λq=>by rfl) (i .normal β₁ f g w₁ b h k a)
 |exit o=>
  by_cases hid:o=id
  .simp only[Exit.inBlock,hid,Yc]at a;exact⟨r,by grind [exitTo],i .normal β₁ f g w₁ b h k a⟩
  simp only[Exit.inBlock,hid,Yf]at a;obtain⟨z,H,x⟩:=i (.exit o) β₁ f g w₁ b h k a;have:(id==o)=Xf:=by grind
  exact⟨z,by simp_all [exitTo],x⟩
 |ret=>exact i .ret β₁ f g w₁ b h k a
 |goto D=>exact i (.goto D) β₁ f g w₁ b h k a
 |panic l=>exact i (.panic l) β₁ f g w₁ b h k a
 |outgrown=>exact i .outgrown β₁ f g w₁ b h k a
theorem um{g:XG}(w:Xu->M->Prop)(O:Xu->M->E)(Z:w d c)
 (round:∀d c,w d c->CW n s p u g (Exit.then (λe S=>w e S/\O e S<O d c) N) d c):CW n s p u (.loop g) N d c:=λm r e Q R a=>by
 have a1:∀L(d:Xu)(c:M)(m:Ren)(e:Xu),O d c=L->w d c->Inv P h f m c->ar h m p d e->mB P h main f n s p u r N m c->n.G m c (rg (s.at e (.code g::.inLoop g::r)) u):=by
  intro L
  induction L using E.strongRecOn with
  |_ L a0=>
   intro d c m e Y U Q R a;refine round d c U m (.inLoop g::r) e Q R λT β₁ b k w₁ i l o t=>?_;cases T with
   |normal=>obtain⟨W,X⟩:=t;exact n.pure A rfl (λq=>by rfl) (a0 (O b w₁) (Y▸X) b w₁ β₁ k A W i o (a.grow l))
   |exit id=>exact rL.push A (by simp) (a (.exit id) β₁ b k w₁ i l o t)
   |ret=>exact a .ret β₁ b k w₁ i l o t
   |goto a2=>exact a (.goto a2) β₁ b k w₁ i l o t
   |panic g=>exact a (.panic g) β₁ b k w₁ i l o t
   |outgrown=>exact a .outgrown β₁ b k w₁ i l o t
 exact n.pure A rfl (λq=>by rfl) (a1 _ d c m e A Z Q R a)
end frame
end
variable{h:E}{c:Xt}{a:Xg Ms}{b:XD}{s:E}
section
variable[Inhabited aM]
abbrev dB:=Xk Xt->M->Xp (E×E)->XD->Prop
section
variable{f:cZ}{z:dB}
theorem rT(d:dG (aj P f) h a W q b U y c)(m:c.status=.running):∀g∈W,Go.Conc.awake g:=by
 intro g l;obtain⟨e,i,rfl⟩:=YQ.1 l;rcases Ye e with rfl|k
 .have:W[0]=c:=by have:=d.me;simp_all
  exactλb n=>by simp_all
 exact(aj P f).awake d.ok e _ k (XP i)
theorem dG.at'(d:dG (aj P f) h a W q b U y c)(e:E):dG (aj P f) h a W (q.at e) b U y c:=
 ⟨(aj P f).at_ e d.ok,d.bF.at e,d.bg.at e,d.me,d.hears⟩
theorem sE(l:M->Prop)(v:∀q e,(∀d,y.tag=C d->WgLive d.D.ty d.D.Wg e)->l q->l e)(n:c.status=.running)
 (a2:∀a W q sl b U,dG (aj P f) h a W q b U y c->l q->∃m e k,runT P (crowd W q sl) 0=(.next (crowd m e sl),k)/\bV P m e sl (b++k) z):
 ∀(a:Xg Ms) W q sl b U,dG (aj P f) h a W q b U y c->l q->bV P W q sl b z:=by
 intro a
 induction (dR.wf Ms.wf).apply a with
 |intro a _ a4=>
  intro W q sl b U g a0;obtain⟨a3,a5,D,o,Y,X,a1⟩:=h_ (P:=P) (w:=q) (sl:=sl) (rT g n) ⟨0,c,g.me,n⟩;have i:=g.at' D
  have live:∀{a W q b U},dG (aj P f) h a W q b U y c->∀d,y.tag=C d->WgLive d.D.ty d.D.Wg q:=λH d S=>by obtain⟨a6,_,T,_⟩:=H.ok;exact(T.wg d S).mode.live
  have x:=v _ _ (live i) a0;rcases Ye a3 with rfl|Z
  .obtain⟨m,e,k,t,u⟩:=a2 a W (q.at D) o b U i x
   grind [bV.head]
  obtain⟨r,s,e,k,p,t,u,L,N,O,Q,R⟩:=(aj P f).step o i.ok i.bF i.bg g.me n Z Y X;refine bV.head (a1.trans t) ?_;have w:dG (aj P f) h r s e (b++k) p y c:=⟨N,O,Q,L,R.trans g.hears⟩;exact a4 r u s e o _ p w (v _ _ (live w) x)
theorem Ap{m:M}{u:XD}{H:Loc->Own}{t:bR}{a4:Xt}(a8:dG (aj P f) h a W q b U y c)(d3:jU b q m U H 0 u)(d2:∀X∈u,X.g=0)(d0:t.S=y.S)(d4:y.β.le t.β)
 (d1:∀R Z a0 a1 a2 a3 b9,q.heap[R]?=C (.chan Z a0 a1 a2 a3 b9)->U (.obj R)=.sync->m.heap[R]?=q.heap[R]?)
 (b4:∀i,y.tag=C i->fw i.D 0 q m/\∃l,t.tag=C l/\l.D=i.D/\l.fin=i.fin)(e6:∀o,bB P W q b U y o->∀l,t.tag=C l->dS l o W.size m H):
 cY P f a ((W.map (Go.Conc.woken P c a4 m)).setIfInBounds 0 a4) m (b++u) H t:=by
 obtain⟨o,rfl,x,b8⟩:=a8.ok;have e4:=(XN.1 a8.me).1
 have b2:∀g k,0<g->g<W.size->(o g).chan=C k->m.heap[k]?=q.heap[k]?:=by
  intro g k Q a9 p;rw[aF.cA]at p;cases b7:(o g).pd with
  |none=>simp_all
  |some Y=>rw[b7]at p;cases p;obtain⟨f3,z,cl,v,d⟩:=(x.each g _ Q (XP a9)).Me b7;exact d1 _ _ _ _ _ _ _ d.heap d.own
 have b3:∀g,g≠0->Deaf (b++u) g=Deaf b g:=λg Q=>ZR b (g':=0) (λa=>Q a.symm) u d2
 have frame:∀e w,0<e->W[e]?=C w->cw P e w m (b++u) H t (o e):=by
  intro e w n r
  have D:cw P e w m (b++u) H {t with tag:=y.tag} (o e):=
   (x.each e w n r).frame a8.bF d3 (by omega) (b3 e (by omega)) ⟨d0,d4,A⟩ (λk p=>b2 e k n ((XN.1 r).1) p) (λX e5 a=>by simp_all) (λi b5=>(b4 i b5).1)
  generalize o e=d7 at D;cases d7 with
  |lv d5=>exact D
  |wk b1=>obtain⟨i,L,S,d⟩:=D;obtain⟨_,l,c6,d9,e0⟩:=b4 i L;exact⟨l,c6,by simp_all,by simp_all⟩
  |pr Y s i d8=>obtain⟨L,S,⟨z,v,d⟩,a5,N,a6,a7⟩:=D;exact⟨L,S,⟨z,v,⟨d.heap,d.count,d.room,d.own,d.msgs⟩⟩,a5,N,a6,a7⟩
  |pb Y s i d8 e2 f4 f5=>obtain⟨L,S,c7,⟨z,v,d,c8⟩,a5,N,a6,a7,c9⟩:=D;exact⟨L,S,c7,⟨z,v,⟨d.heap,d.count,d.room,d.own,d.msgs⟩,c8⟩,a5,N,a6,a7,c9⟩
  |pq Y d5=>obtain⟨⟨z,v,d⟩,N⟩:=D;exact⟨⟨z,v,⟨d.heap,d.count,d.room,d.own,d.msgs⟩⟩,N⟩
 refine⟨o,by simp,⟨λe w n r=>?_,?_,λj T=>?_,λl b5=>?_,λg X Q=>?_⟩,?_⟩
 .rw[Ya (by omega),Yk]at r;cases b0:W[e]? with
  |none=>simp_all
  |some b1=>rw[b0]at r;simp only[Zo,Yh]at r;rw[(x.each e b1 n b0).woken c a4 λk p=>b2 e k n (XN.1 b0).1 p]at r;simp_all
 .intro e j k c0 n T O b6;simp only[Yr,ZG]at O b6;exact x.one e j k c0 n T O b6
 .simp only[Yr,ZG]at T;rw[b3 j (by omega)];exact x.above j T
 .simp_all
 .simp only[Yr,ZG];rcases XU Q with⟨_,a9⟩|⟨_,e3⟩
  .exact x.ops g X a9
  simp_all
 cases f with
 |none=>intro e n O;simp only[Yr,ZG]at O;exact b8 e n O
 |some b1=>
  obtain⟨q1,f1,d6,Z,a0,a1,a2,a3,f2⟩:=b8;refine⟨q1,by simp_all,d6,Z,a0,a1,a2,a3,?_⟩
  grind [aF.cA]
theorem iS{d:M}{sl:Xp (E×E)}{e:Xt}(i:W[0]?=C c)(g:stepG P J c q=.go e d S):
 runT P (crowd W q sl) 0=(.next (crowd ((W.map (Go.Conc.woken P c e d)).setIfInBounds 0 e) d sl),XE 0 c.frame.fn c.frame.place S):=
 A_ (P:=P) (sl:=sl) (i:=0) i g
theorem vj{i:Xt}(d:dG (aj P f) h a W q b U y c):dG (aj P f) h a ((W.map (Go.Conc.woken P c i q)).setIfInBounds 0 i) q (b++XE 0 c.frame.fn c.frame.place #[]) U y i:=by
 have n:XE 0 c.frame.fn c.frame.place #[]=#[]:=by rfl
 rw[n];have l:jU b q q U U 0 #[]:=mK (λm e=>by simp at e) (λm e=>by simp at e);refine⟨Ap d l (λm e=>by simp at e) A (Ren.le_refl _) (λ_ _ _ _ _ _ _ _ _=>rfl) (λg k=>⟨fw.same A rfl,g,k,A,A⟩) (λp o g k=>o.wg g k),d.bF.step l,d.bg.stay l (λ_ _ _=>rfl),?_,?_⟩
 .rw[XX (by simpa using(XN.1 d.me).1)]
 exact d.hears
theorem cF{e:dm}{Stop:Xt->M->Prop}(a9:y.tag=C e)(b4:∀c q,Stop c q->c.status=.running)
 (b8:∀t r l v o Q p,dG (aj P f) h r l v Q p y t->(∀d,Go.SimW.RL e.D.ty e.D.Wg v d->Stop t d)->bV P l v o Q z):
 ∀(k:E×Xg Ms)(c:Xt) W q sl b U,dG (aj P f) h k.2 W q b U y c->(∀d,Go.SimW.RL e.D.ty e.D.Wg q d->Go.Conc.Goes P J (Go.SimW.RL e.D.ty e.D.Wg) DC0 Stop k.1 c d)->bV P W q sl b z:=by
 have wf:=OK.wf E.lt_wfRel.wf (dR.wf Ms.wf);intro k
 induction wf.apply k with
 |intro k _ O=>
  obtain⟨s,a⟩:=k;intro c W q sl b U i u;by_cases L:∀d,Go.SimW.RL e.D.ty e.D.Wg q d->Stop c d
  .grind
  have live:∀{a W q b U c},dG (aj P f) h a W q b U y c->WgLive e.D.ty e.D.Wg q:=λg=>by obtain⟨b9,_,b0,_⟩:=g.ok;exact(b0.wg e a9).mode.live
  have w:c.status=.running:=by
   have g:=u q (Go.SimW.RL.refl q);cases s with
   |zero=>exact b4 c q (g q (Go.SimW.RL.refl q))
   |succ s=>
    rcases g with g|⟨g,_⟩
    .simp_all
    exact g
  obtain⟨b6,a1,x,o,H,b1,N⟩:=h_ (P:=P) (w:=q) (sl:=sl) (rT i w) ⟨0,c,i.me,w⟩;have m:=i.at' x;rcases Ye b6 with rfl|b3
  .obtain rfl:a1=c:=by have:=i.me;simp_all
   have b2:=u (q.at x) (λ_=>live m);cases s with
   |zero=>exact absurd (λd n=>u q (Go.SimW.RL.refl q) d n) L
   |succ s=>
    rcases b2 with g|⟨_,g⟩
    .exact absurd (λd n=>g d λ_=>n (live i)) L
    obtain⟨t,c6,S,Z,⟨rfl,rfl⟩,a0⟩:=aaG (g (q.at x) (Go.SimW.RL.refl _));exact bV.head (N.trans (iS H Z)) (O (s,a) (.left (Zx s)) t _ _ o _ U (vj m) (λd n=>a0.rely (λT X Y=>Go.SimW.RL.trans T X Y) n))
  obtain⟨r,l,d,b7,p,a2,a3,a4,a5,a6,a7,a8⟩:=(aj P f).step o m.ok m.bF m.bg i.me w b3 H b1;refine bV.head (N.trans a2) ?_;have D:dG (aj P f) h r l d (b++b7) p y c:=⟨a5,a6,a7,a4,a8.trans i.hears⟩;exact O (s,r) (.right a3) c l d o _ p D λR b5=>u R λ_=>b5 (live D)
def BJ(c:E)(a:XF):Prop:=((XM a).touch?=F\/(∃b wr,a=⟨.cell b,wr,J⟩/\b.block=c)\/∃b,(a=Go.ConcR.mk (.read b)\/a=Go.ConcR.mk (.write b))/\b.block=c)/\∀d,a.loc≠.mark (.release d)
theorem LW{d n:dm}{e:M}{O:Xt}{a9:E}(p:dG (aj P f) h a W q b U y c)(b0:y.tag=C d)(c6:n.D=d.D)(f2:n.fin=d.fin)(d3:n.lo=d.lo)(d0:n.hi=d.hi)
 (x:e=q\/∃v w,e=q.setCell ⟨d.D.Wg,v,F⟩ w)(X:∀a∈S,BJ d.D.Wg a)(b5:∀o,bB P W q b U y o->dY n o W.size e (sumTo W.size λZ=>(o Z).cnt))(hd:deafBehind h S=a9)(d8:∀o,bB P W q b U y o->(sumTo W.size λZ=>(o Z).cnt)<=n.vb):
 dG (aj P f) a9 a ((W.map (Go.Conc.woken P c O e)).setIfInBounds 0 O) e (b++XE 0 c.frame.fn c.frame.place S) U {y with tag:=C n} O:=by
 obtain⟨o,_,b2,_⟩:=p.ok;have g:=b2.wg d b0;have d2:WgLive d.D.ty d.D.Wg e:=by have:=(b5 o b2).live;simp_all
 have H:∀i,i≠d.D.Wg->e.heap[i]?=q.heap[i]?:=by
  intro i T;rcases x with rfl|⟨v,w,rfl⟩
  .rfl
  simp_all [Go.RowKit.Below.heap_setCell]
 have b6:e.heap.size=q.heap.size:=by
  rcases x with rfl|⟨v,w,rfl⟩
  .rfl
  simp
 have d5:e.os=q.os:=by rcases x with rfl|⟨v,w,rfl⟩<;>rfl
 have d6:e.output=q.output:=by rcases x with rfl|⟨v,w,rfl⟩<;>rfl
 have u:jU b q e U U 0 (XE 0 c.frame.fn c.frame.place S):=by
  refine⟨by omega,d5,λi T=>?_,λ_ _ _ _=>rfl,λf4 i _ k r=>by omega,λd9 Y e0 m d4=>?_,dU λa t L=>(X a t).2 L,Xh λd9 Y e0 m d4=>?_,d6⟩
  rotate_right
  .obtain⟨a,t,rfl⟩:=Go.Conc.mem_ofEvents Y;rcases(X a t).1 with k|⟨l,wr,rfl,k⟩|⟨l,k,r⟩
   .simp_all
   .simp[XM,MemAct.touch?]at m;subst m;exact g.rJ _ (Xi ⟨l,A,k⟩)
   rcases k with rfl|rfl<;>
   .simp[Go.ConcR.mk,XM,MemAct.touch?]at m;subst m;exact g.rJ _ (Xi ⟨l,A,r⟩)
  .by_cases c8:i=d.D.Wg
   .subst c8;exact Xi (Xh (Xh (g.rJ _ (Xh A))))
   grind
  obtain⟨a,t,rfl⟩:=Go.Conc.mem_ofEvents Y;rcases(X a t).1 with k|⟨l,wr,rfl,k⟩|⟨l,k,r⟩
  .simp_all
  .simp[XM,MemAct.touch?]at m;subst m;exact⟨A,d.D.Wg,Xi ⟨l,A,k⟩,by rw[b6];exact g.pU,Xi ⟨g.pU,Xi (Xi ⟨g.rJ _ (Xi ⟨l,A,k⟩),Xh A⟩)⟩⟩
  rcases k with rfl|rfl<;>
  .simp[Go.ConcR.mk,XM,MemAct.touch?]at m;subst m;exact⟨A,d.D.Wg,Xi ⟨l,A,r⟩,by rw[b6];exact g.pU,Xi ⟨g.pU,Xi (Xi ⟨g.rJ _ (Xi ⟨l,A,r⟩),Xi ⟨A,A⟩⟩)⟩⟩
 have f3:fw d.D 0 q e:=⟨λ_=>d2,λc0 f5 f1 c9=>⟨c0,(H _ g.ne).trans c9,A,λ_ _ _ _=>rfl⟩⟩
 have d7:aG P (b++XE 0 c.frame.fn c.frame.place S) e U 0 {y with tag:=C n}:=by
  have:=p.bg.stay u λL i c7=>H i λa=>by subst a;rcases p.bg.dv L _ c7 _ (Xh A)with Q|⟨Q,_⟩<;>(rw[g.rJ _ (.inl A)]at Q;cases Q)
  exact⟨this.base,this.rel,this.cO,this.dv,this.dV,this.low⟩
 refine⟨Ap p u (tF _ _ _ _) A (Ren.le_refl _) (λi e1 e2 e3 e4 e5 e6 T _=>H i λa=>?_) (λb8 b1=>?_) (λb7 R b8 b1=>?_),p.bF.step u,d7,?_,?_⟩
 .subst a;obtain⟨_,_,d1⟩:=g.mode.live;have:q.heap[d.D.Wg]?=_:=d1;rw[T]at this;cases this
 .simp_all
 .cases b1;have D:=R.wg d b0;have b4:=D.gv.step u D.KV;have b3:=D.gh.step u;obtain⟨b9,e9,a3,a4,a5,a6,f0,a7,a8,a0,e7,e8,a1,a2,_,N⟩:=D;rw[<-c6]at a3 a4 a5 a6 a7 a8 a0 N b4 b3;rw[<-d3,<-d0]at a1 a2 N;exact⟨b9,b5 b7 R,a3,a4,a5,a6.same (H _ (by grind)),b4,a7,a8,a0,(by omega),d8 b7 R,a1,a2,b3,N⟩
 .rw[XX (by simpa using(XN.1 p.me).1)]
 rw[ZM,p.hears];exact hd
theorem qu{c:E}:∀a∈#[Go.ConcR.mk .disable],BJ c a:=by intro a b;simp[Go.ConcR.mk]at b;subst b;exact⟨Xh A,λe d=>by cases d⟩
theorem te{c:E}:∀a∈#[Go.ConcR.mk .enable],BJ c a:=by intro a b;simp[Go.ConcR.mk]at b;subst b;exact⟨Xh A,λe d=>by cases d⟩
theorem Hg{b:E}:∀a∈#[Go.ConcR.rd (stA b),Go.ConcR.wr (stA b)],BJ b a:=by intro a c;simp[Go.ConcR.rd,Go.ConcR.wr]at c;rcases c with rfl|rfl<;>exact⟨Xi (Xh ⟨_,_,A,A⟩),λe d=>by cases d⟩
theorem uo{b:E}:∀a∈#[Go.ConcR.rd (stA b)],BJ b a:=by intro a c;simp[Go.ConcR.rd]at c;subst c;exact⟨Xi (Xh ⟨_,_,A,A⟩),λe d=>by cases d⟩
theorem Jo{b:E}:∀a∈#[Go.ConcR.mk (.read (smA b))],BJ b a:=by intro a c;simp at c;subst c;exact⟨Xi (Xi ⟨_,Xh A,A⟩),λe d=>by cases d⟩
theorem EX{b:E}:∀a∈#[Go.ConcR.mk (.write (smA b))],BJ b a:=by intro a c;simp at c;subst c;exact⟨Xi (Xi ⟨_,Xi A,A⟩),λe d=>by cases d⟩
theorem ik{e:dm}(r:y.tag=C e){Stop:Xt->M->Prop}(a1:∀c q,Stop c q->c.status=.running){sl:Xp (E×E)}(k:dG (aj P f) h a W q b U y c)
 (t:∀d,Go.SimW.RL e.D.ty e.D.Wg q d->Stop c d)
 (Z:∀a W q sl b U,dG (aj P f) h a W q b U y c->Stop c q->∃m d S g l,stepG P J c q=.go m d S/\g.D=e.D/\g.fin=e.fin/\g.lo=e.lo/\g.hi=e.hi/\(d=q\/∃a3 a4,d=q.setCell ⟨e.D.Wg,a3,F⟩ a4)/\(∀a∈S,BJ e.D.Wg a)/\
   (∀i,bB P W q b U y i->dY g i W.size d (sumTo W.size λo=>(i o).cnt))/\deafBehind h S=l/\(∀i,bB P W q b U y i->(sumTo W.size λo=>(i o).cnt)<=g.vb)/\
   ∀p u,dG (aj P f) l a p d u U {y with tag:=C g} m->bV P p d sl u z):bV P W q sl b z:=by
 refine sE (λv=>∀d,Go.SimW.RL e.D.ty e.D.Wg v d->Stop c d) (λq d a0 n w a2=>n w λ_=>a2 (a0 e r)) (a1 c q (t q (Go.SimW.RL.refl q))) ?_ a W q sl b U k t;intro a W q sl b U k n;obtain⟨m,d,S,g,l,x,H,L,N,O,Q,R,T,X,Y,D⟩:=Z a W q sl b U k (n q (Go.SimW.RL.refl q));exact⟨_,_,_,iS k.me x,D _ _ (LW k r H L N O Q R T X Y)⟩
theorem bU{d:dm}{a:Xg Ms}{W:Xk Xt}{b:XD}{U:Loc->Own}{Stop:Xt->M->Prop}(l:Go.Conc.Goes P J (Go.SimW.RL d.D.ty d.D.Wg) DC0 Stop s c q):
 ∀e,Go.SimW.RL d.D.ty d.D.Wg q e->Go.Conc.Goes P J (Go.SimW.RL d.D.ty d.D.Wg) DC0 Stop s c e:=λe m=>l.rely (λg i k=>Go.SimW.RL.trans g i k) m
theorem No{d:dm}{u:Xt}(g:y.tag=C d)(d4:d.wt=0)(e0:d.pend=0)(b9:u.status=.running)(c0:∀q,WgLive d.D.ty d.D.Wg q->Go.Conc.Goes P J (Go.SimW.RL d.D.ty d.D.Wg) DC0 (Go.SimW.VY P d.D.ty d.D.Wg u) s c q)
 (d7:∀a W q sl b U,dG (aj P f) 0 a W q b U {y with tag:=C {d with pend:=1}} u->bV P W q sl b z){sl:Xp (E×E)}(m:dG (aj P f) 0 a W q b U y c):bV P W q sl b z:=by
 have live:∀{h a W q b U y c}{d:dm},dG (aj P f) h a W q b U y c->y.tag=C d->WgLive d.D.ty d.D.Wg q:=λe g=>by obtain⟨p,_,b6,_⟩:=e.ok;exact(b6.wg _ g).mode.live
 refine cF g (λc q e=>e.1) (λx N Q t R T L r n=>?_) (s,a) c W q sl b U m (bU (W:=W) (b:=b) (U:=U) (a:=a) (c0 q (live m g)));refine ik g (λc q e=>e.1) r n λa W q sl b U m o=>?_;obtain⟨_,a6,c7,d2,c6⟩:=o;refine⟨a6,q,_,d,1,c7,A,A,A,A,Xh A,qu,λp e=>(e.wg d g).mode,A,λp e=>(e.wg d g).bound,λv w a8=>?_⟩;have b4:({y with tag:=C d}:bR)=y:=by rw[<-g]
 rw[b4]at a8;refine cF g (λc q e=>e.1) (λx N Q t R T L r n=>?_) (d2,a) a6 v q sl w U a8 (bU (W:=W) (b:=b) (U:=U) (a:=a) c6);refine ik g (λc q e=>e.1) r n λa W q sl b U m o=>?_;obtain⟨_,o⟩:=o;obtain⟨b1,_,b7,_⟩:=m.ok;have X:=b7.wg d g;have d8:=X.zF;have d6:=X.yt;obtain⟨V,b5⟩:∃V,V=sumTo W.size λa3=>(b1 a3).cnt:=by simp
 have b0:=X.mode;rw[<-b5]at b0
 have a2:WgAt d.D.ty d.D.Wg q ((V:Xj)*KK) 0/\∀j,0<j->j<W.size->(b1 j).iK=0:=by
  cases b0 with
  |opn i d3 k l=>simp_all
  |reg i b2 k l=>omega
  |last d1 i k l h a b3=>omega
  |fin i k l=>omega
  |By i k l=>omega
 obtain⟨a7,c8,d0,d9⟩:=o V (by omega) a2.1;refine⟨a7,_,_,{d with pend:=1},1,c8,A,A,A,A,Xi ⟨0,_,A⟩,Hg,λp e=>?_,A,λp e=>(e.wg d g).bound,λv w b8=>?_⟩
 .have a9:=(e.wg d g).mode;generalize d5:(sumTo W.size λa3=>(p a3).cnt)=a5 at a9;cases a9 with
  |opn i d3 k l=>
   have:a5=V:=by have:=(WgAt.unique (by simpa using l) a2.1).1;simp only[KK]at this;omega
   subst this;refine .opn i (XS _) k ?_;show WgAt _ _ _ (((a5+1:E):Xj)*KK) 0;exact a2.1.setSt _
  |reg i b2 k l=>omega
  |last d1 i k l h a b3=>omega
  |fin i k l=>omega
  |By i k l=>omega
 have tail:∀(O:Xt)(H:E) a W q sl b U,dG (aj P f) 1 a W q b U {y with tag:=C {d with pend:=1}} O->Go.Conc.Goes P J (Go.SimW.RL d.D.ty d.D.Wg) DC0 (Go.SimW.Vi P d.D.ty d.D.Wg u) H O q->bV P W q sl b z:=by
  intro O H a W q sl b U m Z;refine cF (e:={d with pend:=1}) A (λc q e=>e.1) (λx N Q t R T L r n=>?_) (H,a) O W q sl b U m (bU (d:={d with pend:=1}) (W:=W) (b:=b) (U:=U) (a:=a) Z);refine ik (e:={d with pend:=1}) A (λc q e=>e.1) r n λa W q sl b U m o=>?_;obtain⟨_,D,a1,a4,a0⟩:=o;refine⟨D,q,_,{d with pend:=1},0,a1,A,A,A,A,Xh A,te,λp e=>(e.wg _ A).mode,A,λp e=>(e.wg _ A).bound,λv w Y=>?_⟩;refine cF (e:={d with pend:=1}) A (λc q e=>by rw[show c=u from e];exact b9) (λx N Q t R T L r n=>?_) (a4,a) D v q sl w U Y (bU (d:={d with pend:=1}) (W:=W) (b:=b) (U:=U) (a:=a) a0);have:x=u:=n t (Go.SimW.RL.refl t)
  grind
 by_cases c9:V=0
 .obtain⟨H,Z⟩:=d0 c9;refine cF (e:={d with pend:=1}) A (λc q e=>e.1) (λx N Q t R T L r n=>?_) (H,a) a7 v _ sl w U b8 (bU (d:={d with pend:=1}) (W:=W) (b:=b) (U:=U) (a:=a) Z);refine ik (e:={d with pend:=1}) A (λc q e=>e.1) r n λa W q sl b U m o=>?_;obtain⟨_,D,a1,a4,a0⟩:=o;exact⟨D,q,_,{d with pend:=1},1,a1,A,A,A,A,Xh A,Jo,λp e=>(e.wg _ A).mode,A,λp e=>(e.wg _ A).bound,λv w Y=>tail D a4 _ _ _ _ _ _ Y a0⟩
 grind
end
variable{i:E}{z:dB}{b:Xg Ms}{a:XD}
section
variable{f:cZ}
theorem qN{a:dm}{f:E->aF}{g:E}(k:dY a f h q g)(n:a.wt=0)(o:a.pend=0):WgAt a.D.ty a.D.Wg q ((g:Xj)*KK) 0/\∀j,0<j->j<h->(f j).iK=0:=by
 cases k with
 |opn c r d e=>simp_all
 |reg c l d e=>omega
 |last p c d e i b m=>omega
 |fin c d e=>omega
 |By c d e=>omega
theorem LH{e:dm}{a:E->aF}(p:dS e a h q U)(r:sumTo h (λf=>(a f).cnt)=0)(n:∀j,0<j->j<h->(a j).iK=0):∀j c,0<j->j<h->a j=.wk c->∃g d cl b,c=.quit g d cl b:=by
 intro j c l m o
 have i:(a j).cnt=0:=by grind [Go.ConcN.le_sumTo]
 have k:=n j l m;rw[o]at i k;cases c with
 |work s cl e b=>grind [aF.cnt,nD.cnt]
 |done f s d cl b=>grind [aF.cnt,aF.iK,nD.cnt,nD.iK]
 |quit g d cl b=>simp
structure Legacy(P:Xy)(e:dm)(a:XD)(q:M)(U:Loc->Own)(g:E)(cl:bE)(d:bR):Prop where
 bg:aG P a q U g d
 own:uI e.D g cl
 Mg:di e.D d.S d.β cl q
 fin:e.fin g cl d.w
structure rQ(P:Xy)(f:cZ)(d:dm)(b:Xg Ms)(W:Xk Xt)(q:M)(a:XD)(U:Loc->Own)(y:bR):Prop where
 ok:cY P f b W q a U y
 left:∀e,d.lo<=e->e<d.hi->e<W.size/\Told a U e/\∃cl p,Legacy P d a q U e cl p
 rJ:∀g,az g d.D.Wg->U g=.sync
 zQ:U (.obj d.D.gb)=.void
 own:∀e,d.lo<=e->e<d.hi->∀k m,d.D.own e k->U (.cell ⟨d.D.gb,k,m⟩)=.iM e
 gb:tU d.D q
 pos:0<d.lo
 gh:IP d.D q U
 KU:∀g,az g d.D.gb->g=.obj d.D.gb\/U g=.iM 0\/∃e k m,d.lo<=e/\e<d.hi/\g=.cell ⟨d.D.gb,k,m⟩/\d.D.own e k/\U g=.iM e
 SL:∀l n o,f=C (l,n,o)->0<l/\¬(d.lo<=l/\l<d.hi)
theorem zv{u:dm}{sl:Xp (E×E)}{a0:Xt}(b5:y.tag=C u)(w:dG (aj P f) 0 b W q a U y c)(g7:stepG P J c q=.go a0 q #[Go.ConcR.mk (.acquire (stA u.D.Wg))])
 (g5:∀x,bB P W q a U y x->∀j k,0<j->j<W.size->x j=.wk k->∃D e cl Y,k=.quit D e cl Y):
 ∃b1 g c8,runT P (crowd W q sl) 0=(.next (crowd b1 q sl),g)/\dG (aj P f) 0 c8 b1 q (a++g) U {y with tag:=F} a0/\rQ P f u c8 b1 q (a++g) U {y with tag:=F}:=by
 obtain⟨x,rfl,H,b7⟩:=w.ok;have p:=H.wg u b5;have e0:=g5 x H;obtain⟨g,e2⟩:∃g,g=XE 0 c.frame.fn c.frame.place #[Go.ConcR.mk (.acquire (stA u.D.Wg))]:=⟨_,A⟩;have i2:g=#[({g:=0,fn:=c.frame.fn,pos:=c.frame.place,act:=.mark (.acquire (stA u.D.Wg))}:MemOp)]:=by simp_all [XE,Go.ConcR.mk,XM]
 have g4:∀v∈g,∀k,v.act.touch?=C k->False:=by grind [MemAct.touch?]
 have d6:∀v∈g,∀f2,v.act≠.mark (.release f2):=by grind
 have g1:∀v∈g,v.g=0:=by grind
 have a8:jU a q q U U 0 g:=mK g4 d6;have d2:∀l,l≠0->Deaf (a++g) l=Deaf a l:=λl R=>ZR a (g':=0) (λb=>R b.symm) g g1
 have g6:(a++g).act? a.size=C (.mark (.acquire (stA u.D.Wg))):=by
  have:(a++g)[a.size]?=C {g:=0,fn:=c.frame.fn,pos:=c.frame.place,act:=.mark (.acquire (stA u.D.Wg))}:=by grind
  rw[act?_of this]
 have d9:(a++g).g? a.size=C 0:=by
  have:(a++g)[a.size]?=C {g:=0,fn:=c.frame.fn,pos:=c.frame.place,act:=.mark (.acquire (stA u.D.Wg))}:=by grind
  rw[fB this]
 have told:∀d e,RelBy (stA u.D.Wg) a d e->0<d->Told (a++g) U d:=by
  intro d e a4 r l v k R d3 t d5 b6;rcases XU R with⟨g3,a3⟩|⟨_,g2⟩
  .have b0:e<a.size:=i_ a4.act;have d0:HappensBefore (a++g) e a.size:=.single (Xi ⟨.marked b0 (Xi (by rw[abd b0];exact a4.act)) g6 (λl _ _=>(w.bF.norel _).app (λv d8=>d6 v d8 _) l),(ZA b0).2 a4.heard,⟨0,d9,by rw[deaf_old (XS _)];exact w.hears⟩⟩);have i0:l<=e:=E.le_of_not_lt λS=>
    a4.after l S (by simp[XD.g?,a3,d3]) ⟨k,by rw[<-YM a3]at t;exact t,d5,Xi (b6.elim (w.bF.jB l k (by rw[YM a3];exact t) d5) (ZA g3).1)⟩
   have g0:(a++g).g? e=C d:=by rw[g?_old b0];exact a4.g
   obtain⟨c6,e3,e4⟩:=YE.1 d9;rcases H_ l e with d1|d1
   .exact⟨a.size,c6,e3,e4,Xi (.trans (.single (Xh ⟨d1,d,(by simp[XD.g?,R,d3]),g0⟩)) d0)⟩
   obtain rfl:l=e:=by omega
   exact⟨a.size,c6,e3,e4,Xi d0⟩
  simp_all
 have i1:0<W.size:=(XN.1 w.me).1
 let O:aF->aF:=λe=>match e with
  |.wk (.quit D _ _ _)=>.lv D
  |.wk _=>.lv 0
  |e=>e
 have upd:∀e,O e=(match e with
  |.wk (.quit D _ _ _)=>.lv D
  |.wk _=>.lv 0
  |e=>e):=λ_=>rfl
 have h3:∀e,(O e).pd=e.pd:=by intro e;rw[upd];cases e with
  |wk k=>cases k<;>rfl
  |_=>rfl
 have h2:∀e,(O e).chan=e.chan:=by simp_all [aF.cA]
 have i7:∀e k,O e≠.wk k:=by grind
 have h5:∀l L,0<l->l<W.size->(x l).chan=C L->q.heap[L]?=q.heap[L]?:=λ_ _ _ _ _=>rfl
 have h6:∀d Q,0<d->W[d]?=C Q->cw P d Q q (a++g) U {y with tag:=F} (O (x d)):=by
  intro d Q r N;have S:=(XN.1 N).1;have T:=H.each d Q r N;have a6:cw P d Q q (a++g) U y (x d):=T.frame w.bF a8 (by omega) (d2 d (by omega)) (iV.refl y) (λL h9=>rfl) (λv d8 b=>by simp_all) (λ_ _=>fw.same A rfl);obtain⟨c0,e1⟩:∃c0,x d=c0:=⟨_,A⟩;rw[e1]at a6 T⊢
  cases c0 with
  |lv D=>exact a6
  |wk k=>obtain⟨D,e,cl,Y,rfl⟩:=e0 d k r S e1;obtain⟨f1,n,o,m⟩:=T;rw[b5]at n;cases n;obtain⟨b8,e5,e6,e7,g8⟩:=m;exact⟨by grind,told d e b8 r⟩
  |pr a7 s u Y=>obtain⟨n,o,⟨a5,Z,m⟩,b2,a1,b3,b4⟩:=a6;exact⟨n,o,⟨a5,Z,⟨m.heap,m.count,m.room,m.own,m.msgs⟩⟩,b2,a1,b3,b4⟩
  |pb a7 s u Y h8 i8 c6=>obtain⟨n,o,f6,⟨a5,Z,m,f7⟩,b2,a1,b3,b4,f8⟩:=a6;exact⟨n,o,f6,⟨a5,Z,⟨m.heap,m.count,m.room,m.own,m.msgs⟩,f7⟩,b2,a1,b3,b4,f8⟩
  |pq a7 D=>obtain⟨⟨a5,Z,m⟩,a1⟩:=a6;exact⟨⟨a5,Z,⟨m.heap,m.count,m.room,m.own,m.msgs⟩⟩,a1⟩
 have d7:cY P f (ua (λd=>O (x d)) W.size) ((W.map (Go.Conc.woken P c a0 q)).setIfInBounds 0 a0) q (a++g) U {y with tag:=F}:=by
  refine⟨λd=>O (x d),by simp,⟨λd Q r N=>?_,?_,λj a9=>?_,λh4 f9=>(by cases f9),λl v R=>?_⟩,?_⟩
  .rw[Ya (by omega),Yk]at N;cases t:W[d]? with
   |none=>simp_all
   |some k=>rw[t]at N;simp only[Zo,Yh]at N;rw[(H.each d k r t).woken c a0 λL _=>rfl]at N;simp_all
  .intro d j L f3 r a9 a2 d4 n o;simp only[Yr,ZG]at a2 d4;rw[h2]at n o;exact H.one d j L f3 r a9 a2 d4 n o
  .simp only[Yr,ZG]at a9;rw[d2 j (by omega)];exact H.above j a9
  .simp only[Yr,ZG];rcases XU R with⟨_,a3⟩|⟨_,g2⟩
   .exact H.ops l v a3
   simp_all
  cases f with
  |none=>intro d r a2;simp only[Yr,ZG]at a2;rw[h3];exact b7 d r a2
  |some k=>obtain⟨e8,a7,l⟩:=k;obtain⟨q1,h0,b9,f0⟩:=b7;exact⟨q1,by simp_all,by simp_all,f0⟩
 have X:=w.bg.stay a8 λ_ _ _=>rfl;refine⟨_,g,_,by rw[e2];exact iS w.me g7,⟨d7,w.bF.step a8,⟨X.base,X.rel,X.cO,X.dv,X.dV,X.low⟩,?_,?_⟩,⟨d7,λd n o=>?_,p.rJ,p.zQ,λd n o g9 h1 b6=>?_,p.gb,p.tT.1,p.gh,p.KU,?_⟩⟩
 .simp_all
 .rw[e2,ZM,w.hears];rfl
 .have r:0<d:=XY p.tT.1 n;have S:d<W.size:=E.lt_of_lt_of_eq o p.tT.2.2.1;obtain⟨k,t⟩:=p.tT.2.2.2 d n o;obtain⟨D,e,cl,Y,rfl⟩:=e0 d k r S t;have T:=H.each d _ r (XP S);rw[t]at T;obtain⟨f1,c9,f4,f5⟩:=T;rw[b5]at c9;cases c9;obtain⟨b8,e5,e6,e7,g8⟩:=f5;exact⟨by simp_all,told d e b8 r,cl,Y,⟨e5.other (i:=0) (by omega) a8,f4,e6,e7⟩⟩
 .obtain⟨k,t⟩:=p.tT.2.2.2 d n o;exact p.own d k (XY p.tT.1 n) (E.lt_of_lt_of_eq o p.tT.2.2.1) t g9 h1 b6
 rintro e8 a7 l rfl;obtain⟨q1,h0,b9,f0⟩:=b7;refine⟨q1,λ⟨n,o⟩=>?_⟩;obtain⟨k,t⟩:=p.tT.2.2.2 e8 n o;rw[t]at b9;cases b9
theorem JQ{Stop:Xt->M->Prop}(L:∀c q,Stop c q->c.status=.running)
 (v:∀k r n m D o p,dG (aj P f) i r n m o p y k->(∀d,Stop k d)->bV P n m D o z):
 ∀(s:E)(c:Xt)(b:Xg Ms) W q sl a U,dG (aj P f) i b W q a U y c->Go.SimW.GT P J Stop s c->bV P W q sl a z:=by
 intro s
 induction s with
 |zero=>intro c b W q sl a U e l;exact v c b W q sl a U e λd=>l d d trivial
 |succ s x=>
  intro c b W q sl a U e l;by_cases N:∀d,Stop c d
  .grind
  have w:c.status=.running:=by
   rcases l q with g|⟨g,_⟩
   .simp_all
   exact g
  refine sE (λ_=>True) (λ_ _ _ _=>trivial) w ?_ b W q sl a U e trivial;intro b W q sl a U e _;rcases l q with g|⟨_,g⟩
  .simp_all
  obtain⟨k,O,H,t,⟨rfl,rfl⟩,u⟩:=aaG (g q trivial);exact⟨_,_,_,iS e.me t,(x k b _ _ sl _ U (vj e) λd=>u.rely (λ_ _ _ _ _=>trivial) trivial)⟩
theorem Np{d:dm}{d7:Xt}(N:y.tag=C d)(b1:d.wt=1)(j8:d.pend=0)(b2:∀q,WgLive d.D.ty d.D.Wg q->Go.SimW.Vm P d.D.ty d.D.Wg d7 c q)
 (g7:∀b9 d4 b W q sl a U,dG (aj P f) i b W q a U {y with tag:=C {d with wt:=2}} b9->Go.Conc.Goes P J (Go.SimW.RL d.D.ty d.D.Wg) DC0 (Go.SimW.Wl P d.D.ty d.D.Wg d7) d4 b9 q->bV P W q sl a z):
 ∀(b:Xg Ms),
  (∀W q sl a U,dG (aj P f) i b W q a U y {c with status:=.blocked}->(∃e,WgAt d.D.ty d.D.Wg q e 0)->bV P W q sl a z)/\(∀W q sl a U,dG (aj P f) i b W q a U y c->bV P W q sl a z):=by
 intro b
 induction (dR.wf Ms.wf).apply b with
 |intro b _ d3=>
  have live:∀{b W q a U c},dG (aj P f) i b W q a U y c->WgLive d.D.ty d.D.Wg q:=λo=>by obtain⟨v,_,Y,_⟩:=o.ok;exact(Y.wg d N).mode.live
  have j7:∀{b W q a U},dG (aj P f) i b W q a U y c->c.offers=F:=λo=>(b2 _ (live o)).2.1
  have d8:∀W q sl a U,dG (aj P f) i b W q a U y {c with status:=.blocked}->(∃e,WgAt d.D.ty d.D.Wg q e 0)->bV P W q sl a z:=by
   intro W q sl a U n b4;have c7:c.offers=F:=(b2 _ (live n)).2.1;have a1:c.status=.running:=(b2 _ (live n)).1
   have g4:∀d0,({c with status:=.blocked}:Xt).again d0=c:=by intro d0;obtain⟨i8,i9,j0,j1,j2⟩:=c;simp only at c7 a1;subst c7 a1;rfl
   obtain⟨v,g8,Y,h2⟩:=n.ok;have X:=Y.wg d N;have g2:∀r∈W,Go.Conc.awake r:=by
    intro r Q;obtain⟨k,O,rfl⟩:=YQ.1 Q;rcases Ye k with rfl|Z
    .have:W[0]={c with status:=.blocked}:=by have:=n.me;simp_all
     rw[this];exactλa h0=>by cases h0
    exact(aj P f).awake n.ok k _ Z (XP O)
   have g9:∃(k:E)(c:Xt),W[k]?=C c/\c.status=.running:=by
    have f1:∀j r,0<j->j<W.size->v j=.wk r->(r.cnt=1\/r.iK=1)->∃(k:E)(c:Xt),W[k]?=C c/\c.status=.running:=by
     intro j r c6 e1 Q j4;have e6:=Y.each j _ c6 (XP e1);rw[Q]at e6;obtain⟨i2,i6,i7,d6⟩:=e6;refine⟨j,_,XP e1,?_⟩;cases r with
     |work s cl i3 a8=>exact d6.1
     |done m s H cl a8=>exact Go.SimW.qC d6.2.2.2.2.2.2
     |quit c8 H cl a8=>grind [nD.cnt,nD.iK]
    have b3:=X.mode;generalize g1:(sumTo W.size λm=>(v m).cnt)=V at b3;cases b3 with
    |opn e d5 l g=>omega
    |fin e l g=>obtain⟨r,Q⟩:=b4;have:=(g.unique Q).2;omega
    |By e l g=>omega
    |last k e l g i b b0=>
     have D:(v k).iK=1:=b;cases a0:v k with
     |wk r=>exact f1 k r l g a0 (Xi (by rw[a0]at D;exact D))
     |lv c8=>rw[a0]at D;cases D
     |pr a9 s d a8=>rw[a0]at D;cases D
     |pb a9 s d a8 c h8 i0=>rw[a0]at D;cases D
     |pq a9 c8=>rw[a0]at D;cases D
    |reg e b7 l g=>
     have:∃j,j<W.size/\1<=(v j).cnt:=by
      refine Classical.byContradiction λj6=>?_
      have k0:(sumTo W.size λm=>(v m).cnt)<=0*W.size:=Go.ConcN.sumTo_le (f:=λm=>(v m).cnt) (c:=0) λj c6=>by simp_all
      omega
     obtain⟨j,c6,b1⟩:=this;have g6:0<j:=by
      rcases Ye j with rfl|o
      .have:=X.zero;omega
      exact o
     cases e5:v j with
     |wk r=>
      refine f1 j r g6 c6 e5 (Xh ?_);rw[e5]at b1;have S:1<=r.cnt:=b1;cases r<;>simp only[nD.cnt]at S⊢
      .grind
      omega
     |lv c8=>simp_all [aF.cnt]
     |pr a9 s d a8=>simp_all [aF.cnt]
     |pb a9 s d a8 c h8 i0=>simp_all [aF.cnt]
     |pq a9 c8=>simp_all [aF.cnt]
   obtain⟨k,d1,h,w,O,c0,b5⟩:=h_ (P:=P) (w:=q) (sl:=sl) g2 g9;have Z:0<k:=by
    rcases Ye k with rfl|o
    .have:=n.me;grind
    exact o
   have u:=n.at' h;obtain⟨a7,j9,d9,e7⟩:=u.ok
   have fin:∀{H p t L x},runT P (crowd W (q.at h) w) k=(.next (crowd p t w),L)->Ms.lt (aF.ms H) (a7 k).ms->p.size=W.size->(p[0]?=C {c with status:=.blocked}\/p[0]?=C c)->bB P p t (a++L) x y (λm=>if m=k then H else a7 m)->cQ (a++L) t x->aG P (a++L) t x 0 y->Deaf (a++L) 0=Deaf a 0->
    eJ f p t (λm=>if m=k then H else a7 m)->((∃e,WgAt d.D.ty d.D.Wg (q.at h) e 0)->(∃l,WgAt d.D.ty d.D.Wg t l 1)->p[0]?=C c)->bV P W q sl a z:=by
    intro H p t L x q1 c9 a2 R T a3 a4 a5 a6 b6;refine bV.head (b5.trans q1) ?_
    have e3:dR Ms.lt (ua (λm=>if m=k then H else a7 m) p.size) b:=by grind [lj]
    have e2:=(T.wg d N).mode;generalize (sumTo p.size λj=>(if j=k then H else a7 j:aF).cnt)=V at e2;rcases R with R|R
    .refine(d3 _ e3).1 p t w _ x ⟨⟨_,A,T,a6⟩,a3,a4,R,a5.trans n.hears⟩ ?_;cases e2 with
     |opn e d5 l g=>omega
     |reg e b7 l g=>grind
     |last k e l g i b b0=>grind
     |By e l g=>omega
     |fin e l g=>
      have:=b6 b4 ⟨_,g⟩
      grind
    exact(d3 _ e3).2 p t w _ x ⟨⟨_,A,T,a6⟩,a3,a4,R,a5.trans n.hears⟩
   by_cases hd:uY P d1 (a7 k)
   .obtain⟨H,p,t,L,x,q1,c9,a2,R,T,a3,a4,a5,a6,b6,e9⟩:=yp w d9 u.bF u.bg n.me (Xi c7) Z O c0 hd;refine fin q1 c9 a2 ?_ T a3 a4 a5 (iI e7 a2 a6 b6) λQ e8=>?_
    .grind [Go.Conc.woken]
    obtain⟨e,X⟩:=Q;obtain⟨l,g3⟩:=e8;have:=((X.of_block (e9 d N)).unique g3).2;omega
   obtain⟨H,p,t,L,x,q1,c9,a2,⟨e,b7,R⟩,T,a3,a4,a5,a6,b6,e9⟩:=quiet_step w d9 u.bF u.bg n.me Z O c0 hd;refine fin q1 c9 a2 ?_ T a3 a4 a5 (iI e7 a2 a6 λm g h f3 b8 f4=>(b6 m g h f3 b8 f4).2) λQ e8=>?_
   .rw[R];unfold Go.Conc.woken;split
    .right;rw[g4]
    left;rfl
   grind
  refine⟨d8,?_⟩;intro W q sl a U n;have a1:=(λo=>(b2 _ (live o)).1) n;obtain⟨k,d1,h,w,O,c0,b5⟩:=h_ (P:=P) (w:=q) (sl:=sl) (rT n a1) ⟨0,c,n.me,a1⟩;have u:=n.at' h;rcases Ye k with rfl|Z
  .obtain rfl:d1=c:=by have:=n.me;simp_all
   obtain⟨_,c7,h3,h1⟩:=b2 (q.at h) (live u);obtain⟨v,g8,Y,h2⟩:=u.ok;have X:=Y.wg d N;have b3:=X.mode;have j5:0<W.size:=(XN.1 n.me).1
   have block:(∃e,WgAt d.D.ty d.D.Wg (q.at h) e 0)->bV P W q sl a z:=by intro b4;have d2:=h3 b4;exact bV.head (b5.trans (iS O d2)) (d8 _ _ w _ U (vj u) b4)
   generalize g1:(sumTo W.size λm=>(v m).cnt)=V at b3;cases b3 with
   |opn e d5 l g=>omega
   |reg e b7 l g=>grind
   |last k e l g i b b0=>grind
   |By e l g=>omega
   |fin e l g=>
    obtain⟨b9,d2,d4,g5⟩:=h1 g;refine bV.head (b5.trans (iS O d2)) ?_;refine g7 b9 d4 _ _ _ w _ U (LW u N (n:={d with wt:=2}) A rfl rfl rfl (Xi ⟨1,_,A⟩) (λb e0=>?_) (λf0 S=>?_) (a9:=i) ?_ (λf0 S=>(S.wg d N).bound)) g5
    .simp[semEvents]at e0;rcases e0 with rfl|rfl|rfl|rfl
     .exact⟨Xh A,λe o=>by cases o⟩
     .exact⟨Xi (Xh ⟨_,_,A,A⟩),λe o=>by cases o⟩
     .exact⟨Xi (Xh ⟨_,_,A,A⟩),λe o=>by cases o⟩
     exact⟨Xh A,λe o=>by cases o⟩
    .have e4:=(S.wg d N).mode;generalize j3:(sumTo W.size λm=>(f0 m).cnt)=i4 at e4;cases e4 with
     |opn e d5 l g=>omega
     |reg e b7 l c2=>have:=(g.unique c2).2;omega
     |last k e l c2 i b b0=>have:=(g.unique b0).2;omega
     |By f2 b8 c2=>omega
     |fin f2 b8 c2=>exact .By A b8 (g.setSm 0)
    rfl
  obtain⟨f5,p,t,L,x,b1,S,f6,f7,f8,f9,g0⟩:=(aj P f).step w u.ok u.bF u.bg n.me a1 Z O c0;exact bV.head (b5.trans b1) ((d3 f5 S).2 p t w _ x ⟨f7,f8,f9,f6,g0.trans n.hears⟩)
theorem JU{d:dm}{Q:Xt}{a3:Xt->M->Prop}(Y:y.tag=C d)(a1:d.wt=0)(a8:d.pend=0)(g4:Q.status=.running)(e4:∀c a2,a3 c a2->c.status=.running)
 (d6:∀q,WgLive d.D.ty d.D.Wg q->Go.Conc.Goes P J (Go.SimW.RL d.D.ty d.D.Wg) DC0 (Go.SimW.Wj P d.D.ty d.D.Wg a3) s c q)(f6:∀c a2,a3 c a2->∃s,Go.SimW.GL P J d.D.ty d.D.Wg (Go.SimW.Wk P d.D.ty d.D.Wg Q a3) s c)
 (h0:∀b W q a U e3,dG (aj P f) 0 b W q a U {y with tag:=F} e3->rQ P f d b W q a U {y with tag:=F}->∃d0 e0,dG (aj P f) 0 b W q a d0 e0 e3/\∀b W q sl a U,dG (aj P f) 0 b W q a U e0 Q->bV P W q sl a z)
 {sl:Xp (E×E)}(m:dG (aj P f) 0 b W q a U y c):bV P W q sl a z:=by
 have live:∀{i b W q a U y c}{d:dm},dG (aj P f) i b W q a U y c->y.tag=C d->WgLive d.D.ty d.D.Wg q:=λe Y=>by obtain⟨k,_,e6,_⟩:=e.ok;exact(e6.wg _ Y).mode.live
 have f1:∀(g:E)(b3:bR){i b W q a U c},b3.tag=C {d with wt:=2,vb:=g}->dG (aj P f) i b W q a U b3 c->WgAt d.D.ty d.D.Wg q 0 0/\∀k,bB P W q a U b3 k->(sumTo W.size λx=>(k x).cnt)=0/\∀j,0<j->j<W.size->(k j).iK=0:=by
  intro g b3 i b W q a U c f5 m
  have k6:∀k,bB P W q a U b3 k->(sumTo W.size λx=>(k x).cnt)=0/\(∀j,0<j->j<W.size->(k j).iK=0)/\WgAt d.D.ty d.D.Wg q 0 0:=by
   intro k e;have Z:=(e.wg _ f5).mode;generalize (sumTo W.size λx=>(k x).cnt)=V at Z;cases Z with
   |opn R k7 a0 a4=>cases R
   |reg R j8 a0 a4=>cases R
   |last f0 R a0 a4 i b k0=>cases R
   |fin R a0 a4=>cases R
   |By R a0 a4=>exact⟨A,a0,a4⟩
  obtain⟨k,_,e6,_⟩:=m.ok
  grind
 have tail:∀(g:E)(S:Xt)(b0:E) b W q sl a U,dG (aj P f) 1 b W q a U {y with tag:=C {d with wt:=2,vb:=g}} S->Go.Conc.Goes P J (Go.SimW.RL d.D.ty d.D.Wg) DC0 (Go.SimW.Vn P d.D.ty d.D.Wg Q) b0 S q->bV P W q sl a z:=by
  intro g S b0 b W q sl a U m g6;refine cF (e:={d with wt:=2,vb:=g}) A (λc q e=>e.1) (λN u w n D L t p o=>?_) (b0,b) S W q sl a U m (bU (d:={d with wt:=2,vb:=g}) (W:=W) (b:=a) (U:=U) (a:=b) g6);refine ik (e:={d with wt:=2,vb:=g}) A (λc q e=>e.1) p o λb W q sl a U m r=>?_;obtain⟨_,e1,h7,b1,a6⟩:=r;refine⟨e1,q,_,{d with wt:=2,vb:=g},0,h7,A,A,A,A,Xh A,te,λk e=>(e.wg _ A).mode,A,λk e=>(e.wg _ A).bound,λv H g2=>?_⟩;refine cF (e:={d with wt:=2,vb:=g}) A (λc q e=>e.1) (λN u w n D L t p o=>?_) (b1,b) e1 v q sl H U g2 (bU (d:={d with wt:=2,vb:=g}) (W:=W) (b:=a) (U:=U) (a:=b) a6);refine sE (λf2=>∀d1,Go.SimW.RL d.D.ty d.D.Wg f2 d1->Go.SimW.Wm P d.D.Wg Q N d1) (λq d1 h1 d8 f4 i1=>d8 f4 λ_=>i1 (h1 {d with wt:=2,vb:=g} A)) (o n (Go.SimW.RL.refl n)).1 ?_ u w n D L t p o;intro b W q sl a U m d8;obtain⟨_,X,a9,b2,a7⟩:=d8 q (Go.SimW.RL.refl q);obtain⟨_,c7⟩:=f1 g _ A m;obtain⟨b9,c8,d2,i7,i8,T⟩:=zv (u:={d with wt:=2,vb:=g}) (sl:=sl) A m a9 λk e=>LH (e.wg _ A) (c7 k e).1 (c7 k e).2;refine⟨b9,q,c8,i7,?_⟩
  have i9:rQ P f d d2 b9 q (a++c8) U {y with tag:=F}:=⟨T.ok,λf0 R a0=>by
   obtain⟨j5,j6,cl,j4,c9⟩:=T.left f0 R a0
   exact⟨j5,j6,cl,j4,⟨c9.bg,c9.own,c9.Mg,c9.fin⟩⟩,T.rJ,T.zQ,T.own,T.gb,T.pos,T.gh,T.KU,T.SL⟩
  obtain⟨d0,e0,j0,k8⟩:=h0 d2 b9 q (a++c8) U X i8 i9;refine JQ (Stop:=Go.SimW.Vj Q) (λc q e=>by rw[show c=Q from e];exact g4) (λb8 j9 k1 f3 k9 l0 j7 k3 h5=>?_) b2 X d2 b9 q sl (a++c8) d0 j0 a7;have:b8=Q:=h5 f3
  grind
 have j3:∀(h g:E),g<=h->∀(S:Xt) b W q sl a U,dG (aj P f) 1 b W q a U {y with tag:=C {d with vb:=g}} S->a3 S q->bV P W q sl a z:=by
  intro h
  induction h using E.strongRecOn with
  |_ h i2=>
   intro g k5 S b W q sl a U m g1;obtain⟨b0,AZ⟩:=f6 S q g1;refine cF (e:={d with vb:=g}) A (λc q e=>e.1) (λN u w n D L t p o=>?_) (b0,b) S W q sl a U m (bU (d:={d with vb:=g}) (W:=W) (b:=a) (U:=U) (a:=b) (AZ q (live (d:={d with vb:=g}) m A)));refine ik (e:={d with vb:=g}) A (λc q e=>e.1) p o λb W q sl a U m r=>?_;obtain⟨_,r⟩:=r;obtain⟨j1,_,f9,_⟩:=m.ok;have c0:=f9.wg _ A;obtain⟨V,f7⟩:∃V,V=sumTo W.size λx=>(j1 x).cnt:=⟨_,A⟩;have d7:=qN c0.mode a1 a8;have h2:=c0.zF;have k4:=c0.yt;have d3:=c0.bound;rw[<-f7]at d7 h2 d3;have d3:V<=g:=d3
   have b4:∀k,bB P W q a U {y with tag:=C {d with vb:=g}} k->(sumTo W.size λx=>(k x).cnt)=V/\∀j,0<j->j<W.size->(k j).iK=0:=by intro k e;have Z:=qN (e.wg _ A).mode a1 a8;refine⟨?_,Z.2⟩;have:=(Z.1.unique d7.1).1;simp only[KK]at this;omega
   obtain⟨b7,e8,c7,h4⟩:=r V (by omega) d7.1;by_cases d9:V=0
   .obtain⟨b1,a6⟩:=c7 d9;refine⟨b7,q,_,{d with wt:=2,vb:=g},1,e8,A,A,A,A,Xh A,uo,λk e=>?_,A,λk e=>(e.wg _ A).bound,λv H a5=>tail g b7 b1 _ _ _ _ _ _ a5 a6⟩;rw[(b4 k e).1,d9];refine .By A (b4 k e).2 ?_;simp_all
   obtain⟨b1,a6⟩:=h4 d9;refine⟨b7,q,_,{d with vb:=V},1,e8,A,A,A,A,Xh A,uo,λk e=>?_,A,λk e=>ZZ (b4 k e).1,λv H a5=>?_⟩
   .rw[(b4 k e).1];exact .opn a1 (by simp_all) (b4 k e).2 (by simp_all)
   refine cF (e:={d with vb:=V}) A (λc q e=>e.1) (λN u w n D L t p o=>?_) (b1,b) b7 v q sl H U a5 (bU (d:={d with vb:=V}) (W:=W) (b:=a) (U:=U) (a:=b) a6);refine ik (e:={d with vb:=V}) A (λc q e=>e.1) p o λb W q sl a U m r=>?_;obtain⟨_,r⟩:=r;obtain⟨j2,_,g0,_⟩:=m.ok;have e5:=g0.wg _ A;obtain⟨O,f8⟩:∃O,O=sumTo W.size λx=>(j2 x).cnt:=⟨_,A⟩;have c6:=qN e5.mode a1 a8;have d4:=e5.bound;rw[<-f8]at c6 d4;have d4:O<=V:=d4
   have b5:∀k,bB P W q a U {y with tag:=C {d with vb:=V}} k->(sumTo W.size λx=>(k x).cnt)=O/\∀j,0<j->j<W.size->(k j).iK=0:=by
    intro k e;have Z:=qN (e.wg _ A).mode a1 a8;refine⟨?_,Z.2⟩;have:=(Z.1.unique c6.1).1
    grind [KK]
   obtain⟨g9,h3⟩:=r O (by omega) c6.1;by_cases e9:O=V
   .obtain⟨X,a9,b2,a7⟩:=g9 e9;refine⟨X,_,_,{d with wt:=1,vb:=V},1,a9,A,A,A,A,Xi ⟨0,_,A⟩,Hg,λk e=>?_,A,λk e=>(e.wg _ A).bound,λv H d5=>?_⟩
    .rw[(b5 k e).1];exact .reg A (by omega) (b5 k e).2 (c6.1.setSt _)
    refine cF (e:={d with wt:=1,vb:=V}) A (λc q e=>e.1) (λN u w n D L t p o=>?_) (b2,b) X v _ sl H U d5 (bU (d:={d with wt:=1,vb:=V}) (W:=W) (b:=a) (U:=U) (a:=b) a7);refine ik (e:={d with wt:=1,vb:=V}) A (λc q e=>e.1) p o λb W q sl a U m r=>?_;obtain⟨_,b8,h8,i5,g7⟩:=r;refine⟨b8,q,_,{d with wt:=1,vb:=V},1,h8,A,A,A,A,Xh A,EX,λk e=>(e.wg _ A).mode,A,λk e=>(e.wg _ A).bound,λv H e7=>?_⟩;refine cF (e:={d with wt:=1,vb:=V}) (Stop:=λc _=>∀a2,WgLive d.D.ty d.D.Wg a2->Go.SimW.Vm P d.D.ty d.D.Wg Q c a2) A (λc q e=>((e _ (live (d:={d with wt:=1,vb:=V}) e7 A)).1)) (λN u w n D L t p o=>?_) (i5,b) b8 v q sl H U e7 (bU (d:={d with wt:=1,vb:=V}) (W:=W) (b:=a) (U:=U) (a:=b) g7);refine(Np (d:={d with wt:=1,vb:=V}) (y:={y with tag:=C {d with wt:=1,vb:=V}}) (d7:=Q) A rfl a8 (o n (Go.SimW.RL.refl n)) (λb6 i3 b W q sl a U m d6=>?_) u).2 w n D L t p;refine cF (e:={d with wt:=2,vb:=V}) A (λc q e=>e.1) (λN u w n D L t p o=>?_) (i3,b) b6 W q sl a U m (bU (d:={d with wt:=2,vb:=V}) (W:=W) (b:=a) (U:=U) (a:=b) d6);refine ik (e:={d with wt:=2,vb:=V}) A (λc q e=>e.1) p o λb W q sl a U m r=>?_;obtain⟨i0,_⟩:=f1 V _ A m;obtain⟨_,r⟩:=r;obtain⟨e2,h9,i6,g8⟩:=r i0;exact⟨e2,q,_,{d with wt:=2,vb:=V},1,h9,A,A,A,A,Xh A,uo,λk e=>(e.wg _ A).mode,A,λk e=>(e.wg _ A).bound,λv H g3=>tail V e2 i6 _ _ _ _ _ _ g3 g8⟩
   obtain⟨X,a9,b2,a7⟩:=h3 e9;refine⟨X,q,_,{d with vb:=O},1,a9,A,A,A,A,Xh A,uo,λk e=>?_,A,λk e=>ZZ (b5 k e).1,λv H d5=>?_⟩
   .rw[(b5 k e).1];exact .opn a1 (by simp_all) (b5 k e).2 (by simp_all)
   exact cF (e:={d with vb:=O}) A (λc q e=>e4 c q e) (λN u w n D L t p o=>(i2 O (by omega) O (XS _) N u w n D L t p (o n (Go.SimW.RL.refl n)))) (b2,b) X v q sl H U d5 (bU (d:={d with vb:=O}) (W:=W) (b:=a) (U:=U) (a:=b) a7)
 have k2:({y with tag:=C {d with vb:=d.vb}}:bR)=y:=by rw[show({d with vb:=d.vb}:dm)=d from A,<-Y]
 refine cF Y (λc q e=>e.1) (λN u w n D L t p o=>?_) (s,b) c W q sl a U m (bU (W:=W) (b:=a) (U:=U) (a:=b) (d6 q (live m Y)));refine ik Y (λc q e=>e.1) p o λb W q sl a U m r=>?_;obtain⟨_,b6,h6,i4,g5⟩:=r;exact⟨b6,q,_,d,1,h6,A,A,A,A,Xh A,qu,λk e=>(e.wg d Y).mode,A,λk e=>(e.wg d Y).bound,λv H a5=>(cF (e:=d) A (λc q e=>e4 c q e) (λN u w n D L t p o=>(j3 d.vb d.vb (XS _) N u w n D L t p (o n (Go.SimW.RL.refl n)))) (i4,b) b6 v q sl H U a5 (bU (W:=W) (b:=a) (U:=U) (a:=b) g5))⟩
end
variable{m:E}{k:Xt}{b:XD}{e:E}{n:E}
section
variable{l:cZ}{f:bR}{c:XD}{a:Loc->Own}
structure oY(c:XD):Prop where
 touch:∀d∈c,∀o,d.act.touch?=C o->False
 norel:∀d∈c,∀i,d.act≠.mark (.release i)
 still:∀b g,Deaf (b++c) g=Deaf b g
theorem oY.nil:oY #[]:=⟨by simp,by simp,λb a=>by simp⟩
def iU(U a:Loc->Own):Prop:=∀b,b.isMemory=J->a b=U b\/U b=.iM 0
theorem iU.keep(c:iU U a){b:Loc}(d:b.isMemory=J)(e:U b≠.iM 0):a b=U b:=(c b d).resolve_right e
theorem iU.sync(e:iU U a){c:Loc}(f:c.isMemory=J)(g:a c≠.sync):U c≠.sync:=λd=>by
 rcases e c f with b|b
 .exact g (b.trans d)
 rw[d]at b;cases b
theorem Told.jA(p:Told b U e)(r:iU U a)(D:oY c):Told (b++c) a e:=by
 intro H i o t s g d x;rcases XU t with⟨w,u⟩|⟨_,v⟩
 .exact(p H i o u s g d (x.imp (r.sync d) (ZA w).1)).app c
 exact(D.touch i v o g).elim
theorem kI.jA(p:kI b U e h)(r:iU U a)(D:oY c):kI (b++c) a e h:=by
 intro H i o t s g d x;rcases XU t with⟨w,u⟩|⟨_,v⟩
 .exact(p H i o u s g d (x.imp (r.sync d) (ZA w).1)).app c
 exact(D.touch i v o g).elim
theorem aG.jA{D:bR}(g:aG P b q U e D)(w:e≠0)(u:iU U a)(O:oY c):aG P (b++c) q a e D where
 low:=g.low
 base:=g.base
 rel:=g.rel
 cO:=g.cO
 dv:=by
  intro r i s p o;have t:=bQ o;rcases g.dv r i s p o with d|⟨d,v⟩
  .rw[u.keep t (by rw[d];simp[w])];exact Xh d
  rw[u.keep t (by rw[d];simp)];exact Xi ⟨d,v⟩
 dV:=by
  intro r i s p o x;have t:=bQ o;have H:U p=.ro:=by
   rcases g.dv r i s p o with d|⟨d,v⟩
   .rw[u.keep t (by rw[d];simp[w]),d]at x;cases x
   exact d
  exact(g.dV r i s p o H).app λQ N i L _ _=>(O.touch Q N i L).elim
theorem ui.jA{s:PD}(d:ui s b q U e)(x:e≠0)(i:iU U a)(O:oY c):ui s (b++c) q a e where
 KJ:=by
  intro Q u v D w t p N;rcases XU D with⟨_,H⟩|⟨_,L⟩
  .rcases d.KJ Q u v H w t p (i.sync p N)with g|g
   .rw[i.keep p (by rw[g];simp[x])];exact Xh g
   exact Xi g
  exact(O.touch u L v t).elim
 ro:=λr o=>by rw[i.keep (d.low r o).1 (by rw[d.ro r o];simp)];exact d.ro r o
 low:=d.low
 kn:=d.kn
 KT:=d.KT
def Holds(e:aF)(y f:bR):Prop:=∀a,e.pd=C a->(∀d,fj a.sh (a.τ d))/\∀b c,a.sh b->y.β b c->f.β b c
theorem kD.jA{g:PD}{s r:E}{cl:Xo}{p:Xk Xe}(d:kD g q U y s r cl p)(t:iU U a)(u:∀x,fj g.sh (g.τ x))(v:∀i o,g.sh i->y.β i o->f.β i o):kD g q a f s r cl p where
 heap:=d.heap
 count:=d.count
 room:=d.room
 own:=by rw[t.keep A (by rw[d.own];simp)];exact d.own
 msgs:=λe D w=>an.to v (u _) (d.msgs e D w)
theorem cw.jA{p:aF}(D:cw P e k q b U y p)(w:e≠0)(o:iU U a)(d:oY c)(b6:∀a3∈c,a3.g≠e)(a1:Holds p y f)(b4:∀t,y.tag=C t->∃N,f.tag=C N/\N.D=t.D/\N.fin=t.fin):cw P e k q (b++c) a f p:=by
 cases p with
 |lv a6=>exact⟨by rw[d.still];exact D.1,D.2.jA o d⟩
 |wk c7=>
  obtain⟨t,u,r,g⟩:=D;obtain⟨N,a8,a4,a9⟩:=b4 t u;refine⟨N,a8,by rw[a4];exact r,?_⟩;rw[a4,a9]
  have a7:∀p,RelBy (stA t.D.Wg) b e p->RelBy (stA t.D.Wg) (b++c) e p:=λp c0=>c0.app λc6 a5 b5=>by
   obtain⟨a3,b7,b8⟩:=YE.1 b5;rcases XU b7 with⟨c9,_⟩|⟨_,b9⟩
   .omega
   exact absurd b8 (b6 a3 b9)
  cases c7 with
  |work a2 cl t Z=>obtain⟨u,r,g,v,s⟩:=g;exact⟨u,by rw[d.still];exact r,g.jA w o d,v,s⟩
  |done c6 a2 p cl Z=>obtain⟨b0,u,r,g,v,s,i⟩:=g;exact⟨b0,by rw[d.still];exact u,λa5=>a7 p (r a5),g.jA w o d,v,s,i⟩
  |quit a6 p cl Z=>obtain⟨r,g,v,s,i⟩:=g;exact⟨a7 p r,g.jA w o d,v,s,by rw[d.still];exact i⟩
 |pr L a2 t Z=>obtain⟨u,r,⟨Y,R,g⟩,v,s,⟨i,S,T⟩,W⟩:=D;obtain⟨H,x⟩:=a1 L A;exact⟨u,r,⟨Y,R,g.jA o H x⟩,v.jA w o d,by rw[d.still];exact s,⟨⟨λO Q X a0=>x O Q X (i.1 O Q X a0),i.2⟩,S.jA w o d,T⟩,W⟩
 |pb L a2 t Z c8 d4 d5=>obtain⟨u,r,b2,⟨Y,R,g,b3⟩,v,s,⟨i,S,T⟩,W,b1⟩:=D;obtain⟨H,x⟩:=a1 L A;exact⟨u,r,b2,⟨Y,R,g.jA o H x,b3⟩,v.jA w o d,by rw[d.still];exact s,⟨⟨λO Q X a0=>x O Q X (i.1 O Q X a0),i.2⟩,S.jA w o d,T⟩,an.to x (H _) W,b1⟩
 |pq L a6=>
  obtain⟨⟨Y,R,g⟩,s,h,i,S,T,W⟩:=D;obtain⟨H,x⟩:=a1 L A;refine⟨⟨Y,R,g.jA o H x⟩,by rw[d.still];exact s,h,?_,?_,T.jA o d,W.jA w o d⟩
  .rw[abd (i_ i)];exact i
  exact(ZA (i_ i)).2 S
theorem cQ.jA(G:cQ b q U)(Q:iU U a)(w:oY c)(a1:∀i,i.isMemory=J->a i≠U i->(∃j,a i=.iM j/\j=n)\/a i=.ro\/a i=.void\/(a i=.sync/\∀g p,touchAt b g=C p->p.loc≠i))(a4:∀g,Knows b 0 g->Knows (b++c) n g):cQ (b++c) q a where
 jP:=⟨λi W O Y=>by
  have T:=G.jP.ro i W O Y
  rw[Q.keep (bQ O) (by rw[T];intro a2;cases a2)];exact T,G.jP.heap,G.jP.size,G.jP.os,G.jP.out⟩
 clean:=λa9=>tD (p:=0) (G.clean a9) (λH S p s _=>(w.touch H S p s).elim) (λ_ _ _ H S W Y _=>(w.touch H S W Y).elim)
 mine:=by
  intro i j r O;intro g d v R;obtain⟨p,s,t⟩:=ZL v;rcases XU s with⟨_,x⟩|⟨_,D⟩
  .have L:touchAt b g=C d:=by rw[YM x];exact t
   by_cases u:a i=U i
   .exact(G.mine i j r (u▸O) g d L R).app c
   have X:=(Q i r).resolve_left u;rcases a1 i r u with⟨a8,o,a3⟩|o|o|⟨o,_⟩<;>rw[O]at o<;>cases o
   subst a3;exact a4 g (G.mine i 0 r X g d L R)
  exact(w.touch p D d t).elim
 row:=by
  intro i r O g d v R a7;obtain⟨p,s,t⟩:=ZL v;rcases XU s with⟨_,x⟩|⟨_,D⟩
  .have L:touchAt b g=C d:=by rw[YM x];exact t
   by_cases u:a i=U i
   .exact(G.row i r (u▸O) g d L R a7).app c
   exact(G.mine i 0 r ((Q i r).resolve_left u) g d L R).app c
  exact(w.touch p D d t).elim
 low:=by
  intro g d v;obtain⟨p,s,t⟩:=ZL v;rcases XU s with⟨_,x⟩|⟨_,D⟩
  .exact G.low g d (by rw[YM x];exact t)
  exact(w.touch p D d t).elim
 OO:=by
  intro g d v r N;obtain⟨p,s,t⟩:=ZL v;rcases XU s with⟨a0,x⟩|⟨_,D⟩
  .have L:touchAt b g=C d:=by rw[YM x];exact t
   have gk:(b++c).g? g=b.g? g:=by simp only[XD.g?,getElem?_append_old a0]
   rw[gk];by_cases u:a d.loc=U d.loc
   .exact G.OO g d L r (u▸N)
   rcases a1 d.loc r u with⟨a8,o,_⟩|o|o|⟨_,o⟩
   .rw[N]at o;cases o
   .rw[N]at o;cases o
   .rw[N]at o;cases o
   exact absurd A (o g d L)
  exact(w.touch p D d t).elim
 norel:=λd=>(G.norel d).app λH S=>w.norel H S d
 PQ:=by
  intro g H p j a5 s r N;rcases XU a5 with⟨_,Z⟩|⟨_,a6⟩
  .by_cases u:a p.loc=U p.loc
   .exact(G.PQ g H p j Z s r (u▸N)).imp id λT=>T.app c
   have X:=(Q _ r).resolve_left u;right;rcases G.PQ g H p 0 Z s r X with o|o
   .have:=(abj Z).app c;rw[o]at this;exact this
   exact o.app c
  exact(w.touch H a6 p s).elim
 jB:=by
  intro g d v r N;obtain⟨p,s,t⟩:=ZL v;rcases XU s with⟨a0,x⟩|⟨_,D⟩
  .exact(ZA a0).2 (G.jB g d (by rw[YM x];exact t) r (Q.sync r N))
  exact(w.touch p D d t).elim
def QX(U a:Loc->Own):Prop:=∀b,b.isMemory=J->a b=U b\/(a b=.iM 0/\U b≠.sync/\¬Rz b)
theorem cQ.take(G:cQ b q U)(l:QX U a)(v:∀c,c.isMemory=J->a c≠U c->Perm b 0 c):cQ b q a where
 jP:=⟨λc r f u=>by
  rcases l c (bQ f)with o|⟨_,_,o⟩
  .rw[o];exact G.jP.ro c r f u
  exact absurd ⟨r,f,u⟩ o,G.jP.heap,G.jP.size,G.jP.os,G.jP.out⟩
 clean:=G.clean
 mine:=by
  intro c j d f;by_cases e:a c=U c
  .exact G.mine c j d (e▸f)
  have g:=((l c d).resolve_left e).1;rw[f]at g;cases g;exact v c d e
 row:=by
  intro c d f;by_cases e:a c=U c
  .exact G.row c d (e▸f)
  have g:=((l c d).resolve_left e).1;rw[f]at g;cases g
 low:=G.low
 OO:=by
  intro i k p d h;by_cases e:a k.loc=U k.loc
  .exact G.OO i k p d (e▸h)
  have g:=((l _ d).resolve_left e).1;rw[h]at g;cases g
 norel:=G.norel
 PQ:=by
  intro i z m j w x d h;by_cases e:a m.loc=U m.loc
  .exact G.PQ i z m j w x d (e▸h)
  right;exact v m.loc d e i m (by rw[YM w];exact x) A
 jB:=by
  intro i k p d h;refine G.jB i k p d λs=>?_;rcases l _ d with t|⟨t,y⟩
  .exact h (t.trans s)
  exact y.1 s
end
variable{d:Xg Ms}{l:M}
section
variable{h m:cZ}{f:bR}{k i:Xt}{b:Loc->Own}
theorem vT{sl:Xp (E×E)}(R:dG (aj P h) 0 d W q a U y c)(d8:stepG P J c q=.spawn k i q #[])(b2:iU U b){a1:aF}
 (d4:∀H,H.isMemory=J->b H≠U H->(∃j,b H=.iM j/\j=W.size)\/b H=.ro\/b H=.void\/(b H=.sync/\∀g o,touchAt a g=C o->o.loc≠H))
 (d7:∀r,oY r->aG P (a++r) q b 0 f)
 (d6:∀r,oY r->(∀g,Knows a 0 g->Knows (a++r) W.size g)->Deaf (a++r) W.size=0->(∀(g:E) e o,(a++r)[g]?=C e->e.g=W.size->e.act.touch?=C o->False)->cw P W.size i q (a++r) b f a1)
 (c9:∀a3,y.tag=C a3->∃u,f.tag=C u/\u.D=a3.D/\u.fin=a3.fin)(d2:∀p,bB P W q a U y p->eJ h W q p->∀n,0<n->n<W.size->Holds (p n) y f)
 (e1:∀p,bB P W q a U y p->∀u,f.tag=C u->dS u (λg=>if g=W.size then a1 else p g) (W.size+1) q b)
 (b6:a1.chan=F\/h=F)(e0:∀p,bB P W q a U y p->eJ h W q p->eJ m ((W.setIfInBounds 0 k).push i) q (λg=>if g=W.size then a1 else p g)):
 ∃b0 r c0,runT P (crowd W q sl) 0=(.next (crowd b0 q sl),r)/\dG (aj P m) 0 c0 b0 q (a++r) b f k:=by
 obtain⟨p,rfl,t,a0⟩:=R.ok;have b1:=R.me;have e5:=(XN.1 b1).1;have b7:=runT_crowd_spawn (P:=P) (sl:=sl) (i:=0) b1 d8;obtain⟨o,z⟩:∃o:MemOp,o={g:=0,fn:=c.frame.fn,pos:=c.frame.place,act:=.go W.size}:=by simp
 obtain⟨s,D⟩:∃s:MemOp,s={g:=W.size,fn:=i.frame.fn,pos:=c.frame.place,act:=.start}:=by simp
 have c7:((XE 0 c.frame.fn c.frame.place #[]).push {g:=0,fn:=c.frame.fn,pos:=c.frame.place,act:=.go W.size} |>.push {g:=W.size,fn:=i.frame.fn,pos:=c.frame.place,act:=.start})=#[o,s]:=by rw[z,D];simp[XE]
 rw[c7]at b7;have Z:∀e∈#[o,s],e=o\/e=s:=by intro e O;simpa using O
 have x:oY #[o,s]:=by
  refine⟨λe O a2 Q=>?_,λe O e2=>?_,λa g=>?_⟩
  .rcases Z e O with rfl|rfl
   .rw[z]at Q;simp[MemAct.touch?]at Q
   rw[D]at Q;simp[MemAct.touch?]at Q
  .rcases Z e O with rfl|rfl
   .rw[z];simp
   rw[D];simp
  have c6:(#[o,s]:XD)=[o,s].toArray:=A;rw[c6,U_];simp[deafStep,z,D]
 have b3:=t.above _ (XS _);have b4:∀g,Knows a 0 g->Knows (a++#[o,s]) W.size g:=λg T=>fork_knows (k:=W.size) ⟨by rw[z],by rw[z]⟩ ⟨by rw[D],by rw[D]⟩ R.hears b3 T;have d1:∀n,0<n->n<W.size->∀e∈#[o,s],e.g≠n:=by
  intro n L d3 e O d;rcases Z e O with rfl|rfl
  .rw[z]at d;simp only at d;omega
  rw[D]at d;simp only at d;omega
 have d9:((W.setIfInBounds 0 k).push i).size=W.size+1:=by simp
 have d5:∀(g:E) e a2,(a++#[o,s])[g]?=C e->e.g=W.size->e.act.touch?=C a2->False:=by
  intro g e a2 T e3 Q;rcases XU T with⟨_,a7⟩|⟨_,a8⟩
  .have:=t.ops g e a7;omega
  exact x.touch e a8 a2 Q
 refine⟨_,_,_,b7,⟨⟨_,A,⟨λn c8 L S=>?_,λn j b8 b9 L a6 d3 e4 v w=>?_,λj a6=>?_,λu d0=>?_,λg e T=>?_⟩,e0 p t a0⟩,R.bF.jA b2 x d4 b4,d7 _ x,?_,by rw[x.still];exact R.hears⟩⟩
 .by_cases a5:n=W.size
  .subst a5;simp only[Yc];rw[Ze,XC (by simp)]at S;cases S;exact d6 _ x b4 (by rw[x.still];exact b3) d5
  simp only[a5,Yf];rw[Ze,Xx (by simpa using a5),Ya (by omega)]at S;have b5:=(XN.1 S).1;exact(t.each n c8 L S).jA (by omega) b2 x (d1 n L b5) (d2 p t a0 n L b5) c9
 .by_cases X:n=W.size<;>by_cases Y:j=W.size
  .exact X.trans Y.symm
  .simp only[X,Yc]at v;simp only[Y,Yf]at w;rcases b6 with N|N
   .rw[N]at v;cases v
   subst N;have:=a0 j a6 (by omega);rw[aF.cA,this]at w;cases w
  .simp only[Y,Yc]at w;simp only[X,Yf]at v;rcases b6 with N|N
   .rw[N]at w;cases w
   subst N;have:=a0 n L (by omega);rw[aF.cA,this]at v;cases v
  simp only[X,Yf]at v;simp only[Y,Yf]at w;exact t.one n j b8 b9 L a6 (by omega) (by omega) v w
 .rw[x.still];exact t.above j (by omega)
 .rw[d9];exact e1 p t u d0
 .rcases XU T with⟨_,a7⟩|⟨_,a8⟩
  .have:=t.ops g e a7;omega
  rcases Z e a8 with rfl|rfl
  .rw[z];simp
  rw[D];simp
 grind
theorem JS(r:dG (aj P h) 0 d W q a U y c)(b8:QX U b)(d3:∀g,g.isMemory=J->b g≠U g->Perm a 0 g)(e7:∀g,U g=.iM 0->b g=.iM 0)
 (e9:∀e,0<e->e<W.size->∀g,g.isMemory=J->U g=.iM e->b g≠U g->∀k,bB P W q a U y k->eJ h W q k->(k e).pd=F)
 (e8:∀k,bB P W q a U y k->eJ h W q k->∀e i,0<e->e<W.size->(k e).pd=C i->∀g,i.mine g->b g=U g)
 (d5:aG P a q b 0 f)(e4:y.tag=F)(e5:f.tag=F)(b3:∀k,bB P W q a U y k->eJ h W q k->∀e,0<e->e<W.size->Holds (k e) y f):dG (aj P h) 0 d W q a b f c:=by
 obtain⟨k,rfl,v,c0⟩:=r.ok
 have a9:∀g,g.isMemory=J->(b g=.sync↔U g=.sync):=by
  intro g t;rcases b8 g t with w|⟨w,T,_⟩
  .rw[w]
  simp_all
 have c7:∀e i,0<e->e<W.size->(k e).pd=C i->∀g,g.isMemory=J->(U g=.iM e\/i.mine g)->b g=U g:=by grind
 have bg:∀e i z,0<e->e<W.size->(k e).pd=C i->uN i z->aG P a q U e z->aG P a q b e z:=by
  intro e i z p s l d4 R;have d8:∀n m,z.β n m->∀g,az g m->b g=U g:=by
   intro n m N g o;rcases R.dv n m N g o with w|⟨w,T⟩
   .grind [bQ]
   exact c7 e i p s l g (bQ o) (Xi (d4 n m N T g o))
  exact⟨R.base,R.rel,R.cO,λn m N g o=>by rw[d8 n m N g o];exact R.dv n m N g o,λn m N g o X=>R.dV n m N g o (by grind),R.low⟩
 have KJ:∀e i,0<e->e<W.size->(k e).pd=C i->ui i a q U e->ui i a q b e:=by
  intro e i p s l Y;refine⟨λa6 a7 D a5 a4 S t X=>?_,λg o=>?_,Y.low,Y.kn,Y.KT⟩
  .have:=Y.KJ a6 a7 D a5 a4 S t (λd=>X ((a9 _ t).2 d))
   grind
  rw[c7 e i p s l g (Y.low g o).1 (.inr o)];exact Y.ro g o
 have c8:∀{i b5 x cl u e},Holds (k e) y f->(k e).pd=C i->kD i q U y b5 x cl u->kD i q b f b5 x cl u:=by intro i b5 x cl u e b3 l r;obtain⟨d6,d7⟩:=b3 i l;exact⟨r.heap,r.count,r.room,(a9 _ A).2 r.own,λe D S=>an.to d7 (d6 _) (r.msgs e D S)⟩
 refine⟨⟨k,A,⟨λe c9 p b9=>?_,v.one,v.above,λe2 e6=>(by simp_all),v.ops⟩,c0⟩,r.bF.take b8 d3,d5,r.me,r.hears⟩;have s:=(XN.1 b9).1;have Q:=v.each e c9 p b9;have O:=b3 k v c0 e p s;have c6:=bg e;have b6:=KJ e;have b0:=@c8;obtain⟨b4,a8⟩:∃b4,k e=b4:=by simp
 rw[a8]at Q⊢
 cases b4 with
 |lv e1=>exact⟨Q.1,λa6 a7 D a5 a4 S t X=>Q.2 a6 a7 D a5 a4 S t (X.imp (λv d=>v ((a9 _ t).2 d)) id)⟩
 |wk D=>obtain⟨b7,w,_⟩:=Q;simp_all
 |pr i d9 b7 z=>
  have l:(k e).pd=C i:=by rw[a8];rfl
  obtain⟨w,T,⟨x,u,Z⟩,b1,a0,⟨H,a1,L⟩,a2⟩:=Q;exact⟨w,T,⟨x,u,b0 O l Z⟩,c6 i z p s l L b1,a0,⟨⟨λn m a3 b2=>(O i l).2 n m a3 (H.1 n m a3 b2),H.2⟩,b6 i p s l a1,L⟩,a2⟩
 |pb i d9 b7 z e3 f4 f5=>
  have l:(k e).pd=C i:=by rw[a8];rfl
  obtain⟨w,T,d1,⟨x,u,Z,d2⟩,b1,a0,⟨H,a1,L⟩,a2,d0⟩:=Q;exact⟨w,T,d1,⟨x,u,b0 O l Z,d2⟩,c6 i z p s l L b1,a0,⟨⟨λn m a3 b2=>(O i l).2 n m a3 (H.1 n m a3 b2),H.2⟩,b6 i p s l a1,L⟩,an.to (O i l).2 ((O i l).1 _) a2,d0⟩
 |pq i e1=>
  have l:(k e).pd=C i:=by rw[a8];rfl
  obtain⟨⟨x,u,Z⟩,a0,e0,H,a1,L,a2⟩:=Q;exact⟨⟨x,u,b0 O l Z⟩,a0,e0,H,a1,λa6 a7 D a5 a4 S t X=>L a6 a7 D a5 a4 S t (X.imp (λv d=>v ((a9 _ t).2 d)) id),b6 i p s l a2⟩
open Classical in
noncomputable def dj(U:Loc->Own):Loc->Own:=λa=>if U a=.sync\/Rz a then U a else .iM 0
theorem yf(p:dG (aj P F) 0 d W q a U y c)(N:y.tag=F):∀(f:E) b e,a[f]?=C b->b.act.touch?=C e->e.loc.isMemory=J->U e.loc≠.sync->Knows a 0 f:=by
 intro f b e n u r s;obtain⟨z,_,m,t⟩:=p.ok;have o:=m.ops f b n;rcases Ye b.g with h|h
 .grind [knows_own]
 have i:=m.each b.g _ h (XP o);have g:=t b.g h o;generalize z b.g=x at i g;cases x with
 |lv w=>exact i.2 f b e n A u r (Xh s)
 |wk e=>obtain⟨l,L,_⟩:=i;simp_all
 |pr k v l D=>cases g
 |pb k v l D H T X=>cases g
 |pq k w=>cases g
theorem Ct(g:dG (aj P F) 0 d W q a U y c)(O:y.tag=F)(a9:f.tag=F)(Y:aG P a q (dj U) 0 f):dG (aj P F) 0 d W q a (dj U) f c:=by
 have b2:=yf g O;obtain⟨H,rfl,e,x⟩:=g.ok
 have N:cQ a q (dj U):=by
  refine g.bF.take (λZ p=>?_) (λZ p b3 D a6 Q b1=>?_)
  .unfold dj
   grind
  obtain⟨s,z,b4⟩:=ZL Q;simp_all [dj]
 refine⟨⟨H,A,⟨λr L w v=>?_,e.one,e.above,λa5 b0=>(by simp_all),e.ops⟩,x⟩,N,Y,g.me,g.hears⟩;have S:=(XN.1 v).1;have o:=e.each r L w v;have n:=x r w S;generalize H r=a3 at o n⊢
 cases a3 with
 |lv a2=>exact⟨o.1,λD a1 s T R z p X=>o.2 D a1 s T R z p (X.imp (λe d=>e (by simp_all [dj])) id)⟩
 |wk s=>obtain⟨u,a8,_⟩:=o;simp_all
 |pr t a0 u a4=>cases n
 |pb t a0 u a4 a7 b9 c0=>cases n
 |pq t a2=>cases n
theorem wN{t:bR}(k:aG P a q U 0 t){f:Ren}{o:E->Prop}{i:Set}{y:Xp dm}(m:Base P f)(v:aV i f l q)(w:my i o l)(x:∀b c,f b c->∀d,az d c->U d≠.sync)(G:cQ a q U)(s:∀b c,f b c->t.β b c)(u:∀b,Im b->o b):aG P a q (dj U) 0 ⟨i,f,l,o,y⟩ where
 base:=m
 low:=⟨k.low.1,λb c e m=>k.low.2 b c (s b c e) m⟩
 rel:=v
 cO:=w
 dv:=λb c e d h=>by
  unfold dj;by_cases g:U d=.sync\/Rz d
  .rw[XC g];obtain⟨z,r,p⟩:=g.resolve_left (x b c e d h);have:=de r h;subst this;exact Xi ⟨G.jP.ro d _ r p,u b (k.low.2 b _ (s b _ e) p)⟩
  simp_all
 dV:=λb c e d h n=>by
  unfold dj at n;by_cases g:U d=.sync\/Rz d
  .rw[XC g]at n;exact G.row d (bQ h) n
  simp_all
end
variable{f:Xt}{c:Xg Ms}{h:M}
def sY(a:cZ)(U:Loc->Own)(b:Loc):Prop:=
 Rz b\/match a with
 |none=>False
 |some (d,c,_)=>U b=.iM d\/c.mine b
open Classical in
noncomputable def ij(a:cZ)(U:Loc->Own):Loc->Own:=λb=>if U b=.sync\/sY a U b then U b else .iM 0
section
variable{a:cZ}{d:bR}
theorem Nc(Q:dG (aj P a) 0 c W q b U y f)(a3:y.tag=F):∀(i:E) d g,b[i]?=C d->d.act.touch?=C g->g.loc.isMemory=J->U g.loc≠.sync->¬sY a U g.loc->Knows b 0 i:=by
 intro i d g o z t v u;obtain⟨H,_,m,x⟩:=Q.ok;have p:=m.ops i d o;rcases Ye d.g with k|k
 .grind [knows_own]
 have h:=m.each d.g _ k (XP p)
 have l:∀e,(H d.g).pd=C e->ui e b q U d.g->False:=by
  intro e w T;cases a with
  |none=>have:=x d.g k p;simp_all
  |some L=>
   obtain⟨D,N,a4⟩:=L;obtain⟨q1,Z,a0,a9⟩:=x;have R:=m.one d.g D e.rc N.rc k q1 p Z (by grind [aF.cA]) (by grind [aF.cA]);rw[R,a0]at w;cases w;rcases T.KJ i d g o A z t v with n|n
   .exact u (Xi (Xh (by simp_all)))
   exact u (Xi (Xi n))
 obtain⟨r,S⟩:∃r,H d.g=r:=by simp
 rw[S]at h l;cases r with
 |lv Y=>exact h.2 i d g o A z t (Xh v)
 |wk g=>obtain⟨s,n,_⟩:=h;simp_all
 |pr e X s a1=>exact(l e A h.2.2.2.2.2.1.2.1).elim
 |pb e X s a1 a2 b0 L=>exact(l e A h.2.2.2.2.2.2.1.2.1).elim
 |pq e Y=>obtain⟨_,_,D,_,_,_,O⟩:=h;exact(l e A O).elim
theorem Ah(z:dG (aj P a) 0 c W q b U y f)(v:y.tag=F)(w:d.tag=F)(H:aG P b q (ij a U) 0 d)
 (D:∀h,bB P W q b U y h->eJ a W q h->∀g,0<g->g<W.size->Holds (h g) y d):dG (aj P a) 0 c W q b (ij a U) d f:=by
 have ne:∀e,ij a U e≠U e->ij a U e=.iM 0/\U e≠.sync/\¬sY a U e:=by
  intro e r;unfold ij at r⊢
  simp_all
 have one:∀h,bB P W q b U y h->eJ a W q h->∀g k,0<g->g<W.size->(h g).pd=C k->∃s,a=C (g,k,s):=by
  intro h i n g k l m o;cases a with
  |none=>have:=n g l m;simp_all
  |some Q=>obtain⟨L,u,Z⟩:=Q;obtain⟨q1,N,O,a0⟩:=n;have T:=i.one g L k.rc u.rc l q1 m N (by rw[aF.cA,o];rfl) (by rw[aF.cA,O];rfl);simp_all
 refine JS z (λe t=>?_) (λe t r s R x S=>?_) (λe p=>?_) (λg l m e t p r h i n=>?_) (λh i n g k l m o e p=>?_) H v w D
 .by_cases i:ij a U e=U e
  .exact Xh i
  exact Xi ⟨(ne e i).1,(ne e i).2.1,λc=>(ne e i).2.2 (Xh c)⟩
 .obtain⟨a1,X,Y⟩:=ZL x
  grind [Nc]
 .grind
 .cases o:(h g).pd with
  |none=>rfl
  |some k=>exfalso;obtain⟨s,rfl⟩:=one h i n g k l m o;exact(ne e r).2.2 (Xi (Xh p))
 obtain⟨s,rfl⟩:=one h i n g k l m o;unfold ij;rw[XC (.inr (.inr (.inr p)))]
theorem wO{v:bR}(s:aG P b q U 0 v){l:Ren}{r:E->Prop}{m:Set}{O:Xp dm}(w:Base P l)(H:aV m l h q)(L:my m r h)
 (N:∀i e,l i e->∀g,az g e->(U g≠.sync/\¬sY a U g)\/(U g=.ro/\r i/\∃n,v.β n e))(x:∀i e,l i e->e<dA.heap.size->Im i):aG P b q (ij a U) 0 ⟨m,l,h,r,O⟩ where
 base:=w
 low:=⟨s.low.1,x⟩
 rel:=H
 cO:=L
 dv:=λi e u g p=>by
  unfold ij
  grind
 dV:=λi e u g p z=>by
  unfold ij at z;by_cases D:U g=.sync\/sY a U g
  .rcases N i e u g p with⟨o,t⟩|⟨o,t,n,k⟩
   .rcases D with k|k
    .exact absurd k o
    exact absurd k t
   exact s.dV n e k g p o
  simp_all
end
variable{x:Xt}{r:XD}{z:E}{u:Xg Ms}{h:Set}{f:E->Prop}{m:Ren}{c:M}{p:Xr}{Q:Xg Item}{l:Xg Xr}{L:Oper}{s:Xu}{n:Xu}
section
variable{d:cZ}{H:bR}
theorem cw.bg{t:aF}(a:cw P z x q r U y t)(R:H.S=y.S)(v:H.β=y.β)(a0:H.tag=y.tag):cw P z x q r U H t:=by
 have l:∀{b D d cl c},kD b q U y D d cl c->kD b q U H D d cl c:=λa=>⟨a.heap,a.count,a.room,a.own,λz L W=>by rw[R,v];exact a.msgs z L W⟩;have w:∀{b i},kH b i y->kH b i H:=λa=>⟨λs p S T=>by rw[v];exact a.1 s p S T,a.2⟩;cases t with
 |lv Y=>exact a
 |wk L=>obtain⟨k,h,e⟩:=a;exact⟨k,by simp_all,e⟩
 |pr b X k i=>obtain⟨h,e,⟨d,c,f⟩,m,g,⟨n,o⟩,u⟩:=a;exact⟨h,e,⟨d,c,l f⟩,m,g,⟨w n,o⟩,u⟩
 |pb b X k i Z a5 a6=>obtain⟨h,e,O,⟨d,c,f,Q⟩,m,g,⟨n,o⟩,u,N⟩:=a;exact⟨h,e,O,⟨d,c,l f,Q⟩,m,g,⟨w n,o⟩,by simp_all,N⟩
 |pq b Y=>obtain⟨⟨d,c,f⟩,g⟩:=a;exact⟨⟨d,c,l f⟩,g⟩
theorem cY.bg(e:cY P d u W q r U y)(h:H.S=y.S)(m:H.β=y.β)(b:H.tag=y.tag):cY P d u W q r U H:=by obtain⟨n,f,a,g⟩:=e;exact⟨n,f,⟨λz x l k=>(a.each z x l k).bg h m b,a.one,a.above,λc i=>a.wg c (by rw[<-b];exact i),a.ops⟩,g⟩
def sW(P:Xy)(d:cZ)(b:Xp dm)(a:dB)(h:Set)(f:E->Prop)(m:Ren)(c:M)(x:Xt):Prop:=
 ∀u W q sl r U,dG (aj P d) 0 u W q r U ⟨h,m,c,f,b⟩ x->bV P W q sl r a
def goalAt(P:Xy)(d:cZ)(b:Xp dm)(e:dB)(h:Set)(f:E->Prop):Goal P h J f where
 G:=sW P d b e h f
 ON:=by intro m c x z D u W q sl r U a;obtain⟨i,y⟩:=D.tree;refine(yL i u W q sl r U ⟨h,m,c,f,b⟩ x a y z).bind λn k L N H=>?_;obtain⟨l,g,⟨O,Y,X,R,S⟩,Q,p,⟨_,s⟩,t,v,w⟩:=H;subst t v w;exact s l n k L N g p
 tape:=by intro m c T x o u W q sl r U a;refine o u W q sl r U ⟨a.ok.bg A rfl rfl,a.bF,?_,a.me,a.hears⟩;have:=a.bg;exact⟨this.base,⟨this.rel.inj,this.rel.obj,this.rel.os⟩,this.cO,this.dv,this.dV,this.low⟩
end
section
variable{d:Goal P h J f}
def Co(d:Goal P h J f)(o:XI)(n:Xk Xe)(c:M)(k:Xe->M->Prop):Prop:=
 ∀(m:Ren)(e:Xk Xe)(v:Xr)(l:Xg Xr),Inv P h f m c->aw h m n e->
  (∀b g i a,Inv P h f b a->cV f m c b a->an h b g i->k g a->d.G b a (rg (v.finish i) l))->d.G m c (rg (Frame.enter P o e .normal) (v::l))
section frame
variable{O:Xg Item}{v:Xr}
theorem qj(a3:Good P h)(a7:h.fr p.fn=J)(b7:p.kind=.normal){fn:Func}(X:P.funcs[p.fn]?=C fn)(k:Inv P h f m c){a4:Rt}(e2:a4.d0=[])(a8:ar h m a4 s n)(hd:s.defers=[]){R:Xe->M->Prop}(d0:Tp (λc=>∃a,(results fn s.tmps).run P c=.ok a c/\R a c) c)
 (next:∀a g i,Inv P h f m i->cV f m c m i->an h m a g->R a i->d.G m i (rg (v.finish g) l)):d.G m c (rg {p.at n O with mode:=.returning} (v::l)):=by
 have b8:n.defers=[]:=by obtain⟨e0,o,a5⟩:=a8.defers;rw[hd]at a5;cases a5;simp_all
 refine d.ON A (.step A (λ_ a9 i a6=>a6.status=.running/\d.G a9 i a6) (λq b6=>?_) (λ_ _ _ _ T=>.stop T))
 let b2:Xr:={fn:=p.fn,tmps:=s.tmps,todo:=[],defers:=[],mode:=.returning,kind:=.normal}
 let b3:Xr:={fn:=p.fn,tmps:=n.tmps,todo:=[],defers:=[],mode:=.returning,kind:=.normal}
 have c0:bH P h Xf m b2 b3:=⟨A,a7,a8.tmps,.nil,.nil,.returning,A,Xh A,.none⟩;obtain⟨e1,a,g,a9,a2,S,new,Z,t,o,d3,a1,rfl,c6,b5,_⟩:=nO a3 (u:=R) k.base c0 b6 (d0.mono λc⟨a,t,b4⟩=>⟨a,b4,A,A,A,fn,X,t⟩);rw[X]at t;cases t
 have d5:stepG P J (rg {p.at n O with mode:=.returning} (v::l)) q=.go (rg (v.finish g) l) S (kept Z).toArray:=by
  obtain⟨b,e⟩:∃b,b=({p.at n O with mode:=.returning}:Xr):=by simp
  have c8:b.mode=.returning:=by rw[e]
  have b9:b.defers=[]:=by rw[e];exact b8
  have c7:b.kind=.normal:=by rw[e];exact b7
  have d2:b.tmps=n.tmps:=by rw[e];rfl
  have c9:b.fn=p.fn:=by rw[e];rfl
  have o:(results fn n.tmps).runT P q #[]=(.ok g S,Z.toArray):=o;rw[<-e,ia (by simp_all)];simp only[unwind,c8,b9,c9,X,d2,o,doReturn,c7,GStep.after];rw[seen_eq a3 (show h.fr p.fn=J from a7) a1.lz];simp[rg]
 obtain⟨Y,d4⟩:=iE k.cO k.iQ a1 ⟨a2,.refl _,λd8 _=>by rw[c6]⟩;obtain⟨a0,d1⟩:=b5.one;refine⟨_,_,a2,S,new,Z,d5,a1,Y,d4,A,A,d.tape (t:=a0) ?_⟩;have b0:Inv P h f _ {a2 with tape:=a0}:=(k.keep k.base Y).tape a0;exact next a g _ b0 ⟨Ren.le_refl _,λd8 e3 T=>Xh T,by simp_all,Y⟩ d3 d1
theorem Bt{g:XI}{a:Xk XJ}{R:Xk Xq}{fn:Func}{S:XG}(a2:p.kind≠.early)(N:D[z]?=C L)(a8:Region.wanted L (yielded D s.tmps)=J)(a5:L.op=.call {callee:=.value (.func g),args:=a,argTypes:=R})
 (a0:P.funcs[g]?=C fn)(a3:(fn.name== "runtime.NumGoroutine")=Xf)(X:fn.body=C S)(b4:a.toList.all (du P h.fn)=J)(u:Inv P h f m c){k:Rt}(Z:k.free L.dst=J)(o:ar h m k s n)
 {v:Xe->M->Prop}(Y:Co d g (a.map s.eval) c v)
 (next:∀e w i b,Inv P h f e b->cV f m c e b->ar h e k (s.put L.dst i) w->v i b->d.G e b (rg (p.at w (Xv D rest::Q)) l)):d.G m c (rg (p.at n (Xv D (z::rest)::Q)) l):=by
 have a9:Region.wanted L (yielded D n.tmps)=J:=by rw[<-ga o.tmps];exact a8
 have a4:(D[z]?).bind (·.dst)=L.dst:=by rw[N];rfl
 have a6:∀q,stepG P J (rg (p.at n (Xv D (z::rest)::Q)) l) q=.go (rg (Frame.enter P g (a.map n.eval) .normal) (p.at n (Xv D (z::rest)::Q)::l)) q:=by
  intro q
  have:=goes_call (P:=P) (main:=J) (w:=q) (cs:=l) (k:=Q) (rest:=rest) (K:=λx c y=>x=rg (Frame.enter P g (a.map n.eval) .normal) (p.at n (Xv D (z::rest)::Q)::l)/\c=q/\y=#[]) N a9 a2 a5 a0 a3 X ⟨by simp_all [G,rg,Frame.enter,Frame.at,base],A,A⟩
  obtain⟨x,c,y,T,rfl,rfl,rfl⟩:=aaG this;exact T
 have W:aw h m (a.map s.eval) (a.map n.eval):=by
  refine⟨by simp,λj b6 b7 r t=>?_⟩;rw[Yk]at r t;cases a1:a[j]? with
  |none=>simp_all
  |some b0=>
   rw[a1]at r t;cases r;cases t;refine lF u.base o.tmps s.defers n.defers b0 ?_
   grind
 refine d.pure A rfl a6 (Y m _ _ _ u W λe i b5 b O H a7 U=>?_);rw[YK,a4];exact next e _ i b O H ((o.mono H.le).put L.dst Z a7) U
theorem GZ(R:Good P h){a:XI}{g:Xk Xe}{fn:Func}{k:XG}(a8:h.fr a=J)(a7:P.funcs[a]?=C fn)(b5:fn.body=C k){b:Xe->M->Prop}
 (a3:∀v l,CW d (base a) ⟨[],[]⟩ (v::l) k N ⟨g++Array.replicate (fn.ntmps-g.size) I,[]⟩ c)
 (a4:∀u s c,N u s c->(u=.normal\/u=.ret)/\s.defers=[]/\∀r,∃e,(results fn s.tmps).run P {c with tape:=r}=.ok e {c with tape:=r}/\b e {c with tape:=r}):Co d a g c b:=by
 intro m i v l S o next
 have a0:Frame.enter P a i .normal=(base a).at ⟨i++Array.replicate (fn.ntmps-i.size) I,[]⟩ [.code k]:=by simp_all [Frame.enter,Frame.at,base]
 rw[a0];refine a3 v l m [] _ S ⟨by rw[<-o.1];exact o.append (aw.replicate _ aY),⟨[],A,.nil⟩,by simp⟩ λu w Y Z t T a1 b0 b2=>?_;obtain⟨a6,hd,a9⟩:=a4 u Y t b2
 have fin:∀O,d.G w t (rg {(base a).at Z O with mode:=.returning} (v::l)):=λO=>qj R a8 A a7 T A b0 hd (R:=b) (Tp.all λr=>a9 r) λe b3 b4 X a2 b1 a5=>next w e b3 b4 X (a1.trans a2) b1 a5
 rcases a6 with rfl|rfl
 .exact d.pure A rfl (λq=>by rfl) (fin [])
 exact fin
end frame
end
variable{d:Xr}{e:Xu}{p:E}{n:Oper}
section
variable{main:Xo}{g:Goal P h main f}
variable{k:Rt}
def CO(g:Goal P h main f)(d:Xr)(k:Rt)(l:Xg Xr)(D:Xk Oper)(i:Xg E)(N:Exit->Xu->M->Prop)(e:Xu)(c:M):Prop:=
 ∀(m:Ren)(b:Xg Item)(a:Xu),Inv P h f m c->ar h m k e a->mB P h main f g d k l b N m c->g.G m c (rg (d.at a (Xv D i::b)) l)
theorem dC(f:N .normal e c):CO g d k l D [] N e c:=λm o b a i h=>g.pure A rfl (λn=>iT) (h .normal m e b c a (.refl _ _) i f)
theorem Ha{h:Xg E}(b:∃f,CO g d k l D h N e {c with tape:=f}):CO g d k l D h N e c:=λm v o i t s=>by obtain⟨f,b⟩:=b;exact g.tape (b m v o (i.tape f) t λr y p q x n a u w=>s r y p q x n ⟨a.le,a.fresh,a.size,a.keep⟩ u w)
theorem nF(s:Good P h)(u:h.fr d.fn=J)(v:d.kind≠.early)(i:oE P h k D=J){H:Xu->M->Prop}{more:Xg E}:∀(a1:Xg E){e:Xu}{c:M},Tp (λc=>wpOps P D (eP H) a1 e c) c->
 (∀q o,Tp (H q) o->gO h f c o)->(∀q o,Tp (H q) o->CO g d k l D more N q o)->CO g d k l D (a1++more) N e c
 |[],e,c,b,t,next=>next e c b
 |p::rest,e,c,b,t,next=>by
  intro m Q a5 z w O;rw[Yp];cases a:D[p]? with
  |none=>simp only[wpOps,a]at b;refine g.pure A rfl (λa4=>stepG_unwanted (by rw[a];rfl)) ?_;rw[a];exact nF s u v i rest b t next m Q a5 z w O
  |some n=>
   simp only[wpOps,a]at b;by_cases r:Region.wanted n (yielded D e.tmps)=J
   .simp only[r,Yc]at b;refine He s g u v a r (jF i a).1 (jF i a).2 z w (b.mono λc r=>r.resolve_right λy=>fQ y.2) (λa3 q Z o a9 q1 R a2 S x=>?_) λa3 q Z o q1 R a2 S x a6 a7=>?_
    .obtain⟨b6,L,b1,X,b0,b2,b3,b4,b5,T,a8⟩:=uy s i rest q1 R S x;obtain⟨Y,U,W⟩:=t L X T;exact⟨Y,a8.trans U,W⟩
    refine nF s u v i rest a7 (λL X T=>?_) next a3 Q Z q1 a6 (O.grow ⟨R,a2,S,x⟩)
    obtain⟨Y,U,W⟩:=t L X T;exact⟨Y,U,λy a0=>by rw[W y a0,x y a0]⟩
   simp only[r]at b;refine g.pure A rfl (λa4=>stepG_unwanted ?_) ?_
   .rw[a];simp only[Zo,Zz];rw[<-ga w.tmps];simpa using r
   rw[a];exact nF s u v i rest b t next m Q _ z (w.put n.dst (jF i a).2 aY) O
theorem Mh(u:Good P h)(v:h.fr d.fn=J)(w:d.kind≠.early)(y:oE P h k D=J){r:Xu->M->Prop}{t more:Xg E}(i:∀q,wpOps P D (eP r) t e {c with tape:=q})
 (x:∀b a,r b a->∀o,f o->a.heap[o]?=c.heap[o]?)(next:∀b a,r b a->CO g d k l D more N b a):CO g d k l D (t++more) N e c:=
 nF u v w y t (.all i) (λb a i=>⟨a,.refl _,by
  obtain⟨q,s⟩:=i.one
  exactλo z=>x _ _ s o z⟩) λb a i=>Ha (by
  obtain⟨q,s⟩:=i.one
  exact⟨q,next _ _ s⟩)
theorem Po{g:Goal P h J f}{more:Xg E}{o:XI}{i:Xk XJ}{t:Xk Xq}{fn:Func}{v:XG}(O:d.kind≠.early)(H:k.free n.dst=J)(R:D[p]?=C n)(X:Region.wanted n (yielded D e.tmps)=J)(S:n.op=.call {callee:=.value (.func o),args:=i,argTypes:=t})
 (L:P.funcs[o]?=C fn)(Q:(fn.name== "runtime.NumGoroutine")=Xf)(x:fn.body=C v)(T:i.toList.all (du P h.fn)=J){q:Xe->M->Prop}(z:Co g o (i.map e.eval) c q)
 (next:∀a b,q a b->CO g d k l D more N (e.put n.dst a) b):CO g d k l D (p::more) N e c:=λm Y a1 r U y=>
 Bt O R X S L Q x T r H U z λa0 u a b s w W Z=>next a b Z a0 Y u s W (y.grow w)
theorem yo{id:E}(f:CO g d k l D (Xg.range D.size) N e c):CW g d k l (.region id D Xf) N e c:=λm n b a i h=>g.pure A rfl (λo=>by rw[bu A];simp[stepG.exec,Frame.at,rg]) (f m n b a i h)
theorem vp{id:E}(n:∀v,CO g d k l D (Region.schedule (P.follows .mixedOrders) D v) N e c):CW g d k l (.region id D J) N e c:=λm o i q u t=>by
 refine g.ON A (.step A (λ_ x w s=>xm P h main f (λm c p=>p.status=.running/\g.G m c p) x w s) (λa b=>?_) (λ_ _ _ _ n=>n))
 have r:stepG P main (rg (d.at i (.code (.region id D J)::o)) l) a=.go (rg (d.at i (.inRegion D (Region.schedule (P.follows .mixedOrders) D (a.tape a.drawn (.order d.fn id)))::o)) l) {a with drawn:=a.drawn+1}:=by rw[bu A];simp[stepG.exec,Frame.at,rg,choose,Sem.run];rfl
 refine⟨_,m,c,_,[],[],r,?_,λ_ _=>rfl,by simp,A,.stop ⟨A,n _ m o i q u t⟩⟩;exact{bD.refl b with rel:=⟨b.inj,b.obj,b.os⟩}
theorem ot(s:Good P h)(t:h.fr d.fn=J)(u:d.kind≠.early)(x:oE P h k D=J)(w:P.follows .mixedOrders=J){id:E}{i:Xu->M->Prop}
 (o:∀q,wpAny P .any D (eP i) D.size (Array.replicate D.size Xf) e {c with tape:=q})(v:∀b a,i b a->∀r,f r->a.heap[r]?=c.heap[r]?)(next:∀b a,i b a->N .normal b a):CW g d k l (.region id D J) N e c:=
 vp λq=>by rw[<-YT (Region.schedule _ _ _)];refine Mh (more:=[]) s t u x (r:=i) (λy=>?_) v λb a o=>dC (next b a o);simp only[Region.schedule,w,Xo.true_or,Yc];exact wpAny_sound D.size q _ e _ (o y)
theorem vq(o:Good P h)(p:h.fr d.fn=J)(q:d.kind≠.early)(s:oE P h k D=J){id:E}{i:Xu->M->Prop}
 (m:∀t,wpOps P D (eP i) (Xg.range D.size) e {c with tape:=t})(r:∀b a,i b a->∀n,f n->a.heap[n]?=c.heap[n]?)(next:∀b a,i b a->N .normal b a):CW g d k l (.region id D Xf) N e c:=
 yo (by
  rw[<-YT (Xg.range D.size)]
  exact Mh (more:=[]) o p q s (r:=i) m r λb a m=>dC (next b a m))
end
variable{z:dB}{r:M}{c:E}{b:Xg Ms}
section
variable{v:Type}{s:uK P v}{l:XD}{o:M}{u:Loc->Own}{f:E}{n:Obj}
theorem kW(L:k.status=.running)(a2:∀b W q sl a U,dG s p b W q a U y k->∃i o l,runT P (crowd W q sl) 0=(.next (crowd i o sl),l)/\bV P i o sl (a++l) z):
 ∀(b:v) W q sl a U,dG s p b W q a U y k->bV P W q sl a z:=by
 intro b
 induction s.wf.apply b with
 |intro b _ a4=>
  intro W q sl a U d;have Z:∀N∈W,Go.Conc.awake N:=by
   intro N a3;obtain⟨c,t,rfl⟩:=YQ.1 a3;rcases Ye c with rfl|w
   .have:W[0]=k:=by have:=d.me;simp_all
    exactλa a6=>by simp_all
   exact s.awake d.ok c _ w (XP t)
  obtain⟨c,a5,e,x,t,a0,a1⟩:=h_ (P:=P) (w:=q) (sl:=sl) Z ⟨0,k,d.me,L⟩;have g:dG s p b W (q.at e) a U y k:=⟨s.at_ e d.ok,d.bF.at e,d.bg.at e,d.me,d.hears⟩;rcases Ye c with rfl|w
  .obtain⟨i,o,l,D,H⟩:=a2 b W (q.at e) x a U g
   grind [bV.head]
  obtain⟨O,Q,o,l,u,D,H,R,S,T,X,Y⟩:=s.step x g.ok g.bF g.bg d.me L w t a0;exact bV.head (a1.trans D) (a4 O H Q o x _ u ⟨S,T,X,R,Y.trans d.hears⟩)
structure Hid(f:E)(n:Obj)(q:M)(a:XD)(U:Loc->Own)(y:bR):Prop where
 heap:q.heap[f]?=C n
 free:∀g,¬y.β g f
 none:∀(i:E) e,touchAt a i=C e->¬az e.loc f
 own:∀d,az d f->U d=.iM 0
theorem Hid.at(b:Hid f n q a U y)(c:E):Hid f n (q.at c) a U y:=⟨b.heap,b.free,b.none,b.own⟩
theorem Hid.lt(b:Hid f n q a U y):f<q.heap.size:=(XN.1 b.heap).1
theorem Oz{p:Ren}{D:M}{new i:Xg XF}(n:bD h m p r D q o new i)(x:f<q.heap.size)(y:∀a,¬m a f):
 o.heap[f]?=q.heap[f]?/\(∀a,¬p a f)/\∀b∈i,¬az b.loc f:=by
 have l:∀a,p a f->False:=λa d=>by
  rcases n.fresh a f d with t|⟨_,t⟩
  .exact y a t
  omega
 have k:∀b∈i,¬az b.loc f:=by
  intro b g e;obtain⟨s,L,hrel⟩:=iz n.lz g;have c:=hrel.1;rcases e with e|⟨O,e,z⟩
  .rw[e]at c;cases d:s.loc<;>rw[d]at c<;>simp only[dX]at c;exact l _ c
  rw[e]at c;subst z;cases d:s.loc<;>rw[d]at c<;>simp only[dX]at c;exact l _ c.1
 refine⟨?_,l,k⟩;rcases n.same f x λb g _=>⟨λd=>k b g (Xh d),λa u v=>k b g (Xi ⟨a,u,v⟩)⟩with w|⟨⟨H,N,_⟩,_⟩
 .exact w
 simp_all
theorem Hv{w:E->aF}{r:Xt}{N:E}(sl:Xp (E×E))(i:bB P W q a U y w)(G:cQ a q U)(Z:aG P a q U 0 y)(a7:W[0]?=C r)(b3:r.status=.running)(Q:0<c)(t:W[c]?=C k)(Y:k.status=.running)(L:w c=.lv N):
 ∃g h l,runT P (crowd W q sl) c=(.next (crowd h q sl),l)/\N=g+1/\h.size=W.size/\h[0]?=C r/\bB P h q (a++l) U y (λd=>if d=c then .lv g else w d)/\cQ (a++l) q U/\aG P (a++l) q U 0 y/\Deaf (a++l) 0=Deaf a 0/\∀e∈l,e.act.touch?=F:=by
 have v:=i.each c k Q t;rw[L]at v;obtain⟨g,O,p,rfl,q1,a2,b5⟩:=lU v.1 Y;have X:=λb s=>touch_mute (q1 b s)
 have m:jU a q q U U c (XE c k.frame.fn k.frame.place p):=nI X λb s a4 b2=>by grind [qR]
 obtain⟨a1,b4⟩:=fF (v:=.lv g) i m (λ_ _ _ _=>rfl) (by rw[L];exact⟨A,A,A⟩) ⟨λo f=>(by cases f),λo f=>by simp_all⟩;have T:=(XN.1 t).1;have R:(c==0)=Xf:=by simp;omega
 have z:∀d,d≠c->Deaf (a++XE c k.frame.fn k.frame.place p) d=Deaf a d:=λd n=>ZR a (g':=c) (λb=>n b.symm) _ (tF _ _ _ _);have a0:∀e∈XE c k.frame.fn k.frame.place p,e.act.touch?=F:=by intro e u;obtain⟨b,s,rfl⟩:=Go.Conc.mem_ofEvents u;simp_all
 refine⟨g,_,_,A_ (P:=P) (sl:=sl) (i:=c) t (by rw[R];exact a2 q),A,by simp,?_,?_,G.step m,Z.other (by omega) m,z 0 (by omega),a0⟩
 .simp_all [woken_run]
 refine i.jS G m (iV.refl y) (by simp) (λd n S=>mQ d n λo f=>(i.each d o S f).woken k O λx D=>rfl) z (λd x a8 a9 _ b0=>rfl) T (λa6 _ H=>?_) (λx D=>by cases D)
  (λd n _ e u=>by grind [tF]) a1 (λa3 b1=>by simp_all)
 rw[XX (by simp_all)]at H;cases H;exact⟨by simp_all [ZM],v.2.mine G λe u o f=>by simp_all⟩
theorem vL(d:Hid f n q a U y)(w:∀i∈l,∀b,i.act.touch?=C b->¬az b.loc f)(r:o.heap[f]?=q.heap[f]?){k:bR}(t:∀m,¬k.β m f)(p:∀h,az h f->u h=.iM 0):Hid f n o (a++l) u k where
 heap:=by rw[r];exact d.heap
 free:=t
 none:=by
  intro g b c;unfold touchAt XD.act? at c;cases e:(a++l)[g]? with
  |none=>simp_all
  |some i=>
   rw[e]at c;rcases XU e with⟨_,s⟩|⟨_,v⟩
   .exact d.none g b (by rw[YM s];exact c)
   grind
 own:=p
def cW(P:Xy)(f:E)(n:Obj):uK P (Xg Ms) where
 lt:=dR Ms.lt
 wf:=dR.wf Ms.wf
 Ok:=λb W q a U y=>cY P F b W q a U y/\y.tag=F/\Hid f n q a U y
 awake:=λ⟨⟨L,_,v,_⟩,_⟩ c k h g=>(v.each c k h g).awake
 at_:=λp⟨m,r,s⟩=>⟨(aj P F).at_ p m,r,s.at p⟩
 step:=by
  rintro b W q a U y a2 c k sl⟨⟨L,rfl,r,s⟩,w,d⟩ G z i x h g a7;have R:=(XN.1 g).1;obtain⟨H,T⟩:∃H,L c=.lv H:=by
   have u:=r.each c k h g;have t:=s c h R;generalize L c=b9 at u t;cases b9 with
   |lv H=>simp
   |wk a0=>obtain⟨c0,m,_⟩:=u;simp_all
   |pr=>cases t
   |pb=>cases t
   |pq=>cases t
  obtain⟨d8,a3,l,D,rfl,Z,b1,b2,b3,b4,b5,d2⟩:=Hv sl r G z i x h g a7 T;refine⟨_,a3,q,l,U,D,?_,b1,⟨⟨_,by rw[Z],b2,?_⟩,w,vL d (λb8 S a0 X=>by simp_all) A d.free d.own⟩,b3,b4,b5⟩
  .exact lj R (by rw[T];exact .right _ (.left _ _ (Zx _)))
  intro Y a6 d1;by_cases Q:Y=c
  .subst Q;simp only[Yc];rfl
  simp only[Q,Yf];exact s Y a6 (by omega)
 main:=by
  rintro b W q a U y a2 c9 e0 d9 o new b7⟨m,w,d⟩ G z i a4 x a8 N a9 u;obtain⟨D,b0,Z⟩:=Oz N d.lt d.free;refine⟨(aj P F).main m G z i a4 x a8 N a9 u,w,vL d (λb8 S a0 X=>?_) D b0 λb6 e=>?_⟩
  .obtain⟨b,d0,rfl⟩:=Go.Conc.mem_ofEvents S;have a5:b∈b7:=by
    simp_all [kept]
   rcases wY X with⟨O,c7,c8⟩|⟨d4,O⟩
   .simp_all
   obtain⟨a1,i,hrel⟩:=iz N.lz a5;have e:=hrel.1;rw[O]at e;cases v:a1.loc<;>rw[v]at e<;>simp only[dX]at e
   grind [wZ]
  rw[qP e d.lt];exact d.own b6 e
theorem MR{g:Xt}(sl:Xp (E×E))(N:dG (cW P f n) p b W q a U y k)(R:k.status=.running)(m:0<c)(h:W[c]?=C g)(Q:g.status=.running):
 ∃r d l,runT P (crowd W q sl) c=(.next (crowd d q sl),l)/\dR Ms.lt r b/\dG (cW P f n) p r d q (a++l) U y k:=by
 obtain⟨⟨⟨D,rfl,s,t⟩,L,i⟩,G,S,H,hd⟩:=N;have v:=(XN.1 h).1;obtain⟨o,w⟩:∃o,D c=.lv o:=by
  have x:=s.each c g m h;have e:=t c m v;generalize D c=a3 at x e;cases a3 with
  |lv o=>simp
  |wk a4=>obtain⟨a5,a6,_⟩:=x;simp_all
  |pr=>cases e
  |pb=>cases e
  |pq=>cases e
 obtain⟨b6,d,l,T,rfl,X,Y,Z,a0,a1,a2,b0⟩:=Hv sl s G S H R m h Q w;refine⟨_,d,l,T,?_,⟨⟨_,by rw[X],Z,?_⟩,L,vL i (λb2 a8 a4 a9=>by simp_all) A i.free i.own⟩,a0,a1,Y,a2.trans hd⟩
 .exact lj v (by rw[w];exact .right _ (.left _ _ (Zx _)))
 intro z O a7;by_cases u:z=c
 .subst u;simp only[Yc];rfl
 simp only[u,Yf];exact t z O (by omega)
theorem JE(d:dG (cW P f n) p b W q a U y k)(l:k.status=.running):∀e∈W,Go.Conc.awake e:=by
 intro e i;obtain⟨c,g,rfl⟩:=YQ.1 i;rcases Ye c with rfl|h
 .have:W[0]=k:=by have:=d.me;simp_all
  exactλa m=>by simp_all
 exact(cW P f n).awake d.ok c _ h (XP g)
theorem vP{g:M->Prop}(v:∀(q:M) d,g q->g (q.at d))(i:k.status=.running)(L:∀b W q sl a U,dG (cW P f n) p b W q a U y k->g q->∃h o l,runT P (crowd W q sl) 0=(.next (crowd h o sl),l)/\bV P h o sl (a++l) z):
 ∀(b:Xg Ms) W q sl a U,dG (cW P f n) p b W q a U y k->g q->bV P W q sl a z:=by
 intro b
 induction (dR.wf Ms.wf).apply b with
 |intro b _ T=>
  intro W q sl a U e D;obtain⟨c,O,d,s,x,w,S⟩:=h_ (P:=P) (w:=q) (sl:=sl) (JE e i) ⟨0,k,e.me,i⟩;have m:dG (cW P f n) p b W (q.at d) a U y k:=⟨(cW P f n).at_ d e.ok,e.bF.at d,e.bg.at d,e.me,e.hears⟩;rcases Ye c with rfl|H
  .obtain⟨h,o,l,t,u⟩:=L b W (q.at d) s a U m (v q d D)
   grind [bV.head]
  obtain⟨N,Q,l,t,u,R⟩:=MR s m i H x w
  grind [bV.head]
def Rw(P:Xy)(f:E)(n:Obj)(z:dB)(h:Set)(c:E->Prop)(m:Ren)(r:M)(k:Xt):Prop:=
 ∀b W q sl a U,dG (cW P f n) 0 b W q a U ⟨h,m,r,c,F⟩ k->bV P W q sl a z
def PE(P:Xy)(f:E)(n:Obj)(z:dB)(h:Set)(d:E->Prop):Goal P h J d where
 G:=Rw P f n z h d
 ON:=by intro m r k y D b W q sl a U c;obtain⟨l,x⟩:=D.tree;refine(yL l b W q sl a U ⟨h,m,r,d,F⟩ k c x y).bind λs o L N H=>?_;obtain⟨p,u,⟨O,Y,X,R,S⟩,Q,v,⟨_,w⟩,e,g,i⟩:=H;simp only at e g i;subst e g i;exact w p s o L N u v
 tape:=by intro m r T k t b W q sl a U c;refine t b W q sl a U ⟨⟨c.ok.1.bg A rfl rfl,A,⟨c.ok.2.2.heap,c.ok.2.2.free,c.ok.2.2.none,c.ok.2.2.own⟩⟩,c.bF,?_,c.me,c.hears⟩;have:=c.bg;exact⟨this.base,⟨this.rel.inj,this.rel.obj,this.rel.os⟩,this.cO,this.dv,this.dV,this.low⟩
end
variable{v:Xe}{X:E->Prop}{a:M}{b:Xt}
inductive aR(e:E->Prop):Xe->Prop
 |bS:aR e (.tuple #[])
 |bool (o:Xo):aR e (.bool o)
 |int (r:IntKind) (c:Xj):aR e (.int r c)
 |string (s:XB):aR e (.string s)
 |cG:aR e (XA F)
 |ptr {i:Xw} (k:e i.block):aR e (XA (C i))
 |aO (c g:E):aR e (Xm F c g)
 |slice {i:Xw} (k:e i.block) (c g:E):aR e (Xm (C i) c g)
 |iface (t:Xq) {v:Xe} (k:aR e v):aR e (.iface t v)
 |nilIface:aR e .nilIface
 |agg {g:Xk Xe} (k:∀(p:E) n,g[p]?=C n->aR e n):aR e (.agg g)
 |map {l:E} (k:e l):aR e (.map (C l))
 |ft:aR e (.map F)
 |ed:aR e (.chan F)
 |nilFunc:aR e .nilFunc
theorem an.Ts{t:Set}{s:Ren}{o:E->Prop}(g:∀e f,o e->m e f->s e f){l:Xe}(x:aR o v)(a:an h m v l):an t s v l:=by
 induction x generalizing l with
 |bS=>
  cases a with
  |bS a=>exact .bS a
  |tuple p q=>exact .tuple p λi n r d _=>by simp at d
 |bool f=>cases a;exact .bool _
 |int D c=>cases a;exact .int _ _
 |string H=>cases a;exact .string _
 |cG=>cases a;exact .cG
 |ptr b=>cases a with|ptr a=>exact .ptr ⟨g _ _ b a.1,a.2⟩
 |aO c u=>cases a;exact .aO _ _
 |slice b c u=>cases a with|slice a=>exact .slice ⟨g _ _ b a.1,a.2⟩ _ _
 |iface z _ k=>cases a with|iface _ a=>exact .iface z (k a)
 |nilIface=>cases a;exact .nilIface
 |agg p k=>cases a with|agg w q=>exact .agg w λi n r d y=>k i n d (q i n r d y)
 |map b=>cases a with|map a=>exact .map (g _ _ b a)
 |ft=>cases a;exact .ft
 |ed=>cases a;exact .ed
 |nilFunc=>cases a;exact .nilFunc
def Obj.whole:Obj->Obj
 |.cells a c _=>.cells a c (0,a.size)
 |b=>b
open Classical in
noncomputable def jR(X:E->Prop)(a:M):M:={a with heap:=a.heap.mapIdx λc b=>if X c then Obj.whole b else b}
theorem qy(X:E->Prop)(a:M):(jR X a).heap.size=a.heap.size:=by simp[jR]
theorem iN{b:E}(c:X b):(jR X a).heap[b]?=(a.heap[b]?).map Obj.whole:=by simp_all [jR]
theorem uq{b:E}(c:¬X b):(jR X a).heap[b]?=a.heap[b]?:=by simp[jR,M_,c]
def Closed(X:E->Prop)(a:M):Prop:=∀c,X c->∃b g d,a.heap[c]?=C (Xn b g d)/\0<b.size/\d.2<=b.size/\(∀(f:E) e,b[f]?=C e->aR X e)/\¬aT b
theorem vG{b d:E×E}(a:kS b d)(f:0<c)(e:b.2<=c):kS (0,c) d:=by
 rcases a with a|⟨_,_,a⟩
 .exact Xh a
 exact Xi ⟨by omega,YA _,XZ a e⟩
section
variable{Sp:Set}
theorem aV.jR(c:aV h m a q)(l:Closed X a):aV h m (Sim.jR X a) q where
 inj:=c.inj
 os:=c.os
 obj:=by
  intro b g n;obtain⟨y,r,d,i,k⟩:=c.obj b g n;by_cases e:X b
  .obtain⟨u,f,w,q1,s,t,_⟩:=l b e;rw[d]at q1;cases q1;refine⟨_,r,by rw[iN e,d];rfl,i,?_⟩;cases k with
   |cells f p o=>exact .cells f p (vG o s t)
  simp_all [uq]
theorem aV.part(i:aV h m a q)(L:Closed X a):aV Sp (λe g=>X e/\m e g) (Sim.jR X a) q where
 inj:=λe u g w D H=>i.inj e u g w D.2 H.2
 os:=i.os
 obj:=by
  rintro e g⟨o,k⟩;obtain⟨a1,R,l,x,y⟩:=i.obj e g k;obtain⟨Y,s,Z,q1,S,T,U,_⟩:=L e o;rw[l]at q1;cases q1;refine⟨_,R,by rw[iN o,l];rfl,x,?_⟩;cases y with
  |cells s n O=>exact .cells s ⟨n.1,λr t W p Q=>an.Ts (λe g N k=>⟨N,k⟩) (U r t p) (n.2 r t W p Q)⟩ (vG O S T)
theorem ru(e:Closed X a):my h X (Sim.jR X a):=λd c=>by obtain⟨b,i,k,q1,f,l,_,g⟩:=e d c;exact⟨.cells b i (0,b.size),by rw[iN c,q1];rfl,A,f,g⟩
theorem we(e:Closed X a):kF h X (Sim.jR X a):=Xi λd c g k b=>by obtain⟨f,n,i,q1,l,m,_⟩:=e d c;rw[iN c,q1]at b;cases b
theorem kX(d:Base P m)(g:∀b,(0<b\/b=P.globals.size)->b<=P.globals.size->X b):Base P (λa c=>X a/\m a c):=
 ⟨λb e f=>⟨g b e f,d.1 b e f⟩,λa c h=>d.2 a c h.2⟩
def dy(X:E->Prop)(m:Ren)(c:Loc):Prop:=∃a b,X a/\m a b/\az c b
end
section
variable{d:Obj}
theorem Nq{k:E->Xt}(w:b.status=.running)(Q:∀l,(k l).status=.running)(R:∀q,stepG P J b q=.go (k q.heap.size) {q with heap:=q.heap.push d})(next:∀l,Rw P l d z h f m a (k l)):sW P F F z h f m a b:=by
 intro p r q sl x o e;refine kW (s:=aj P F) w (λp r q sl x o e=>?_) p r q sl x o e;refine⟨_,_,_,iS (P:=P) e.me (R q),?_⟩;have lt:∀i g,m i g->g<q.heap.size:=λi g y=>e.bg.rel.right y
 have n:bD h m m a a q {q with heap:=q.heap.push d} [] []:=by
  refine{bD.refl e.bg.rel with rel:=⟨e.bg.rel.inj,λi g s=>?_,e.bg.rel.os⟩,uP:=by simp,same:=λg t _=>?_}
  .obtain⟨a2,a3,Y,Z,a0⟩:=e.bg.rel.obj i g s
   grind
  grind
 have u:=fy e.bg n (λ_ _=>rfl) (by simp) e.hears b.frame.fn b.frame.place;have O:=(XN.1 e.me).1;have D:=(aj P F).main (g₁:=k q.heap.size) e.ok e.bF e.bg e.me e.hears w (Q _) n (λ_ _=>rfl) (by simp);have H:=e.bF.step u;have L:=e.bg.own n (λ_ _=>rfl) u;refine next q.heap.size _ _ _ _ _ _ ⟨⟨D,A,?_,λi s=>?_,λT U S t=>?_,λa1 N=>?_⟩,H,L,by simp[O],e.hears⟩
 .simp
 .grind
 .have:=e.bF.low T U S;rw[bn t]at this;omega
 rw[qO N (XS _) (by simp)]
def GK(P:Xy)(g:E)(d:Obj)(i:M->Prop)(z:dB)(h:Set)(f:E->Prop)(m:Ren)(a:M)(b:Xt):Prop:=
 ∀l c q sl e k,dG (cW P g d) 0 l c q e k ⟨h,m,a,f,F⟩ b->i q->bV P c q sl e z
theorem JF{k:E}{u:M->Prop}(H:b.status=.running)(O:∀q,aV h m a q->∃n t p l new s,stepG P J b q=.go n l (kept s).toArray/\bD h m t a p q l new s/\(∀g,f g->p.heap[g]?=a.heap[g]?)/\
 (∀i∈new,i.write=J->∀g,f g->i.loc≠.obj g/\∀N,i.loc=.cell N->N.block≠g)/\n.status=.running/\u l/\GK P k d u z h f t p n):Rw P k d z h f m a b:=by
 intro i x q sl L w e;refine kW (s:=cW P k d) H (λi x q sl L w e=>?_) i x q sl L w e;obtain⟨n,t,p,l,new,s,Q,o,r,y,R,S,T⟩:=O q e.bg.rel;have D:=fy e.bg o r y e.hears b.frame.fn b.frame.place;have U:=(XN.1 e.me).1;exact⟨_,_,_,iS (P:=P) e.me Q,T _ _ _ _ _ _ ⟨(cW P k d).main e.ok e.bF e.bg e.me e.hears H R o r y,e.bF.step D,e.bg.own o r D,by simp[U],by rw[jj o.lz];exact e.hears⟩ S⟩
theorem nK{k:E}{g:M->Prop}{i:Xt}(y:∀(q:M) c,g q->g (q.at c))(t:b.status=.running)(H:i.status=.running)(w:∀q,stepG P J b q=.go i q)(next:GK P k d g z h f m a i):GK P k d g z h f m a b:=by
 intro p r q sl u o e n;refine vP y t (λp r q sl u o e n=>?_) p r q sl u o e n;have l:=bD.refl e.bg.rel;have s:=fy e.bg l (λ_ _=>rfl) (by simp) e.hears b.frame.fn b.frame.place;have D:=(XN.1 e.me).1;have x:stepG P J b q=.go i q (kept []).toArray:=by rw[w q];rfl
 exact⟨_,_,_,iS (P:=P) e.me x,next _ _ _ _ _ _ ⟨(cW P k d).main e.ok e.bF e.bg e.me e.hears t H l (λ_ _=>rfl) (by simp),e.bF.step s,e.bg.own l (λ_ _=>rfl) s,by simp[D],by exact e.hears⟩ n⟩
def zl(B a:E)(q:M):Prop:=∃c b,q.heap[B]?=C (Xn #[.chan (C a)] c b)
theorem JG{r B a6:E}{a5:E->Xe}{W:E->Prop}{Sp:Set}{b0 a7:Xt}(f5:b.status=.running)(g0:∀q,stepG P J b q=.spawn b0 a7 q #[])(e2:a7.status=.running)
 (R:Closed X a)(d7:∀b,(0<b\/b=P.globals.size)->b<=P.globals.size->X b)(f9:∀g,W g->X g)(d4:m a6 B)(e0:X a6)(i4:∀g,f g->X g)(f6:∀g,Im g->f g)
 (f8:jx P Sp X (IQ ⟨r,c,a5,W,dy X m,B⟩) (iW P ⟨r,c,a5,W,dy X m,B⟩ Sp X c) (λg i=>X g/\m g i) (jR X a) a7)
 (next:∀g8,sW P (C (g8,⟨r,c,a5,W,dy X m,B⟩,0)) F z h X m (jR X a) b0):GK P r (.chan 4 #[] Xf 0 0 Xf) (zl B r) z h f m a b:=by
 classical
 intro a8 y q sl L u b3 b4;refine vP (λ_ _ p=>p) f5 (λa8 y q sl L u b3 b4=>?_) a8 y q sl L u b3 b4;obtain⟨⟨d3,_,S⟩,a0,o,c6,e3⟩:=b3;have c0:dG (aj P F) 0 a8 y q L u ⟨h,m,a,f,F⟩ b:=⟨d3,a0,o,c6,e3⟩
 have f0:∀g i,m g i->∀e,az e i->Rz e->f g:=λg i k e l⟨O,D,a1⟩=>by
  have w:=a0.jP.ro e O D a1;rcases o.dv g i k e l with p|⟨_,p⟩
  .simp_all
  exact p
 have e1:=Ct (f:=⟨h,m,a,f,F⟩) c0 A rfl (wN o o.base o.rel o.cO (λg i k e l a2=>by rcases o.dv g i k e l with p|⟨p,_⟩<;>(simp_all)) a0 (λ_ _ p=>p) f6)
 have c7:∀{e:Loc}{i:E},az e i->e.isMemory=J:=λp=>bQ p
 have f2:∀{e:Loc}{g i:E},m g i->az e i->¬az e r:=by
  intro e g i k w n;have:i=r:=by
   rcases w with rfl|⟨t,rfl,rfl⟩
   .rcases n with n|⟨Y,n,_⟩
    .simp_all
    cases n
   rcases n with n|⟨Y,n,b1⟩
   .cases n
   simp_all
  subst this;exact S.free g k
 let x:Loc->Own:=λe=>if az e r then .sync else if dy X m e then .ro else dj u e
 have h5:∀e,az e r->dj u e=.iM 0:=λe l=>by unfold dj;split<;>first|exact S.own e l|rfl
 have h6:∀g i,m g i->∀e,az e i->dj u e=.iM 0\/(dj u e=.ro/\f g):=λg i k e l=>by
  have:u e≠.sync:=λa2=>by rcases o.dv g i k e l with p|⟨p,_⟩<;>(simp_all)
  unfold dj;split
  .rename_i p;have e9:=p.resolve_left this;obtain⟨O,D,a1⟩:=e9;exact Xi ⟨a0.jP.ro e O D a1,f0 g i k e l ⟨O,D,a1⟩⟩
  simp
 have c8:∀e,az e r->x e=.sync:=by grind
 have c9:∀e,dy X m e->x e=.ro:=λe⟨g,i,s,k,l⟩=>by grind
 have g7:∀e,¬az e r->¬dy X m e->x e=dj u e:=λe w n=>by grind
 have d5:iU (dj u) x:=by
  intro e f1
  grind [dy]
 have d0:∀e,dy X m e->Perm L 0 e:=λe⟨g,i,s,k,l⟩ U Y g3 g4=>by obtain⟨H,T,f4⟩:=ZL g3;refine yf c0 A U H Y T f4 (g4▸c7 l) λa2=>?_;rcases o.dv g i k e l with p|⟨p,_⟩<;>(simp_all)
 let Z:PD:=⟨r,c,a5,W,dy X m,B⟩
 have i1:∀a4,kD Z q x a4 0 0 Xf #[]:=λa4=>⟨S.heap,A,by simp,c8 _ (Xh A),λa3 t s=>by simp at s⟩;obtain⟨b7,b2⟩:=f8.tree
 have h0:∃Q N a9,runT P (crowd y q sl) 0=(.next (crowd Q q sl),N)/\dG (aj P (C (y.size,Z,0))) 0 a9 Q q (L++N) x ⟨h,m,jR X a,X,F⟩ b0:=by
  refine vT (h:=F) (m:=C (y.size,Z,0)) (sl:=sl) (f:=⟨h,m,jR X a,X,F⟩) (b:=x) e1 (g0 q) d5 (a1:=.pr Z c b7 ⟨Sp,λg i=>X g/\m g i,jR X a,X,F⟩)
   (λe f1 i3=>by
     by_cases w:az e r
     .exact Xi (Xi (Xi ⟨c8 e w,λU t s a2=>S.none U t s (a2▸w)⟩))
     grind)
   (λN b5=>{
     base:=o.base
     low:=o.low
     rel:=o.rel.jR R
     cO:=ru R
     dv:=λg i k e l=>by
      by_cases s:X g
      .grind
      left;rw[g7 e (f2 k l) (λ⟨d2,O,b6,d8,D⟩=>?_)]
      .grind
      have:i=O:=by
       rcases l with rfl|⟨t,rfl,rfl⟩
       .rcases D with n|⟨Y,n,_⟩
        .simp_all
        cases n
       rcases D with n|⟨Y,n,b1⟩
       .cases n
       simp_all
      subst this;exact s ((o.rel.inj g d2 i i k d8).2 A▸b6)
     dV:=λg i k e l f3=>by
      have f7:dy X m e:=by grind [dy]
      exact(PermW.of (d0 e f7)).app λH T t s _ _=>(b5.touch H T t s).elim})
   (λN b5 e7 e4 g1=>?_)
   (λb7 b2=>by cases b2) (λd1 w n a3 e5 e6 h1 b8=>by rw[n a3 e5 e6]at b8;cases b8) (λd1 _ h4 d6=>by cases d6) (Xi A) (λd1 w n=>?_)
  .refine⟨e2,XS _,⟨0,#[],by grind⟩,?_,e4,⟨⟨λg i b9 k=>k.2,λg b9=>?_⟩,?_,λg i k _ e l=>⟨g,i,k.1,k.2,l⟩⟩,b2⟩
   .exact{
     base:=kX o.base d7
     low:=⟨o.low.1,λg i k d9=>o.low.2 g i k.2 d9⟩
     rel:=o.rel.part R
     cO:=ru R
     dv:=λg i k e l=>Xi ⟨c9 e ⟨g,i,k.1,k.2,l⟩,k.1⟩
     dV:=λg i k e l f3 a3 t s g2 i5=>by
      obtain⟨H,T,b6⟩:=ZL s;rcases XU T with⟨_,i2⟩|⟨_,e8⟩
      .exact e7 _ (d0 e ⟨g,i,k.1,k.2,l⟩ a3 t (by simp_all [YM]) g2)
      exact(b5.touch H e8 t b6).elim}
   .obtain⟨h7,L,h8,q1,_⟩:=R g (f9 g b9)
    grind [qy]
   exact⟨λU H t w n b1 h9 i0=>(g1 U H t w n b1).elim,c9,λe⟨g,i,s,k,l⟩=>⟨c7 l,(bn l).2 (o.rel.right k)⟩,b4,λe l=>⟨a6,B,e0,d4,l⟩⟩
  refine⟨(XN.1 c6).1,by simp,by simp[aF.pd],?_⟩;exact⟨_,_,_,_,_,S.heap⟩
 obtain⟨Q,N,a9,g5,g6⟩:=h0;exact⟨Q,q,N,g5,next y.size a9 Q q sl (L++N) x g6⟩
end
variable{b:M}{a:Xt}{e:E}{k:M}
section
variable{n:Xp dm}{d:E}{c:PD}{l:Xe}
theorem Jw(R:a.status=.running)(w:∀k,aV h m b k->IQ c k->∃r H t u new y,stepG P J a k=.go r u (kept y).toArray/\bD h m H b t k u new y/\(∀o,f o->t.heap[o]?=b.heap[o]?)/\
 (∀p∈new,p.write=J->∀o,f o->p.loc≠.obj o/\∀D,p.loc=.cell D->D.block≠o)/\r.status=.running/\sW P (C (e,c,d)) n z h f H t r):sW P (C (e,c,d)) n z h f m b a:=by
 intro p v k sl S N g;refine kW (s:=aj P (C (e,c,d))) R (λp v k sl S N g=>?_) p v k sl S N g;have Y:IQ c k:=by
  obtain⟨a3,_,X,x,q,i,_⟩:=g.ok;have s:=X.each e _ x (XP q);generalize a3 e=a2 at i s;cases a2 with
  |lv a1=>cases i
  |wk D=>cases i
  |pr L a0 T a4=>cases i;exact s.2.2.2.2.2.1.2.1.kn
  |pb L a0 T a4 a6 b1 l=>cases i;exact s.2.2.2.2.2.2.1.2.1.kn
  |pq L a1=>cases i;obtain⟨_,_,_,_,_,_,w⟩:=s;exact w.kn
 obtain⟨r,H,t,u,new,y,x,q,i,O,U,W⟩:=w k g.bg.rel Y;have Q:=fy g.bg q i O g.hears a.frame.fn a.frame.place;have Z:0<v.size:=(XN.1 g.me).1;exact⟨_,_,_,iS (P:=P) g.me x,W _ _ _ _ _ _ ⟨(aj P (C (e,c,d))).main g.ok g.bF g.bg g.me g.hears R U q i O,g.bF.step Q,g.bg.own q i Q,by simp[Z],by rw[jj q.lz];exact g.hears⟩⟩
theorem BV(y:AtRecv P c.rc l a a)(S:d<c.n->∀o,an h m (c.τ d) o->sW P (C (e,c,d+1)) F z h f m b (Go.Conc.served a (.tuple #[o,.bool J])))
 (R:d=c.n->sW P F F z h f m b (Go.Conc.served a (.tuple #[l,.bool Xf]))):sW P (C (e,c,d)) F z h f m b a:=by
 intro O Q N sl W L g;refine((JR y O).1 Q N sl W L ⟨h,m,b,f,F⟩ a g.ok g.bF g.bg g.me g.hears y).bind λu s D H T=>?_;obtain⟨t,r,v,w,x,⟨q1,o,p,q,U⟩|⟨q1,p,q⟩⟩:=T
 .exact S q1 o q t u s D H r ⟨U,v,w,p,x⟩
 exact R q1 t u s D H r ⟨q,v,w,p,x⟩
theorem Py{r:Ren}{t:E->Prop}(u:∀g q,r g q->m g q)(D:Base P m->Base P r)(N:∀p,aV h m b p->aV h r k p)(Q:my h t k)(O:∀g,Im g->t g)(next:sW P F F z h t r k a):sW P F F z h f m b a:=by
 intro w x p sl S v o;refine next w x p sl S (dj v) (Ct o A rfl (wN o.bg (D o.bg.base) (N p o.bg.rel) Q (λg q y R L H=>?_) o.bF u O))
 rcases o.bg.dv g q (u g q y) R L with s|⟨s,_⟩<;>(rw[H]at s;cases s)
end
section
variable{i:M->Prop}{Stop:Ren->M->Xt->Prop}
def yw(P:Xy)(h:Set)(f:E->Prop)(i:M->Prop)(Stop:Ren->M->Xt->Prop)(v:∀m(b:M) g a,Stop m {b with tape:=g} a->Stop m b a):Goal P h Xf f where
 G:=jx P h f i Stop
 ON:=λk d=>(jx.SM d).bind λ_ _ _ d=>d.2
 tape:=by
  intro m b g a d;generalize l:({b with tape:=g}:M)=H at d;cases d with
  |stop d=>subst l;exact .stop (v _ _ _ _ d)
  |step k y d w=>subst l;refine .step k y (λn e hF=>?_) w;obtain⟨p,D,z,o,new,x,q,c,r,s,t,u⟩:=d n ⟨e.inj,e.obj,e.os⟩ hF;exact⟨p,D,z,o,new,x,q,⟨c.le,c.rel,c.lz,c.size,c.uP,c.os,c.out,c.tape,c.same,c.wr,c.fresh,c.iG,c.oe,c.qn,c.iq,c.qU,c.jR⟩,r,s,t,u⟩
theorem wM(r:a.status=.running)(n:∀g,aV h m b g->i g->∃d k e o new p,stepG P Xf a g=.go d o (kept p).toArray/\bD h m k b e g o new p/\(∀c,f c->e.heap[c]?=b.heap[c]?)/\
 (∀l∈new,l.write=J->∀c,f c->l.loc≠.obj c/\∀q,l.loc=.cell q->q.block≠c)/\d.status=.running/\jx P h f i Stop k e d):jx P h f i Stop m b a:=
 .step r (λ_ k e d=>jx P h f i Stop k e d) n λ_ _ _ _ n=>n
end
variable{d:Xe}{b:Xk Xe}{a:M}
open Classical in
noncomputable def jk(X:E->Prop)(d:Xe):Xe:=if aR X d then d else .tuple #[]
theorem cT(a:aR X d):jk X d=d:=XC a
theorem px(a:¬aR X d):jk X d=.tuple #[]:=Xx a
theorem an.SG{m:Ren}{e:Xe}(a:an h m d e)(c:bO d):bO e:=by
 cases a<;>first|exact c|trivial|(cases c;done)|skip
 rename_i fn k l n b g f _ _ _ _;cases f with
 |func i a=>trivial
 |yield a=>trivial
theorem an.jk{Sp:Set}{m:Ren}{i:Xe}(g:an h m d i)(n:aR X d\/bO d):an Sp (λe f=>X e/\m e f) (Sim.jk X d) i:=by
 by_cases c:aR X d
 .rw[cT c];exact an.Ts (λe f k l=>⟨k,l⟩) c g
 rw[px c];exact .bS (g.SG (n.resolve_left c))
theorem aw.jk{Sp:Set}{m:Ren}{g:Xk Xe}(i:aw h m b g)(p:∀(c:E) e,b[c]?=C e->aR X e\/bO e):aw Sp (λf o=>X f/\m f o) (b.map (Sim.jk X)) g:=by refine⟨by simpa using i.1,λc e s k r=>?_⟩;rw[Yk]at k;obtain⟨n,l,rfl⟩:=YE.1 k;exact(i.2 c n s l r).jk (p c n l)
noncomputable def Obj.part(X:E->Prop):Obj->Obj
 |.cells b e _=>.cells (b.map (jk X)) e (0,b.size)
 |c=>c
open Classical in
noncomputable def cP(X:E->Prop)(a:M):M:={a with heap:=a.heap.mapIdx λe c=>if X e then Obj.part X c else c}
theorem dh(X:E->Prop)(a:M):(cP X a).heap.size=a.heap.size:=by simp[cP]
theorem nz{b:E}(c:X b):(cP X a).heap[b]?=(a.heap[b]?).map (Obj.part X):=by simp only[cP,M_,c,Yc]
theorem dW{c:E}(f:X c){d:Xq}{e:E×E}(g:a.heap[c]?=C (Xn b d e)):(cP X a).heap[c]?=C (Xn (b.map (jk X)) d (0,b.size)):=by rw[nz f,g];rfl
def jw(X:E->Prop)(a:M):Prop:=∀c,X c->
 (∃b k g,a.heap[c]?=C (Xn b k g)/\0<b.size/\g.2<=b.size/\(∀(h:E) d,b[h]?=C d->aR X d\/bO d)/\¬aT b)\/
 ∃f i,a.heap[c]?=C (.map f i)/\∀e∈f.toList,aR X e.key/\aR X e.val
section
variable{Sp:Set}{m:Ren}
theorem Cs{d e:XH->XH->Prop}{c g:Xg XH}(h:aZ d c g)(f:∀a b,a∈c->d a b->e a b):aZ e c g:=by
 induction h with
 |nil=>exact .nil
 |cons i _ l=>exact .cons (f _ _ (YZ ..) i) (l λa b k=>f a b (Ym _ k))
theorem aV.cP(k:aV h m a q)(H:jw X a):aV Sp (λc e=>X c/\m c e) (Sim.cP X a) q where
 inj:=λc x e y z D=>k.inj c x e y z.2 D.2
 os:=k.os
 obj:=by
  rintro c e⟨n,f⟩;obtain⟨Y,v,g,r,s⟩:=k.obj c e f;rcases H c n with⟨b,w,U,q1,i,Q,R,_⟩|⟨T,u,q1,i⟩
  .rw[g]at q1;cases q1;refine⟨_,v,dW n g,r,?_⟩;cases s with
   |cells w O L=>exact .cells w (O.jk R) (vG L i Q)
  rw[g]at q1;cases q1;refine⟨_,v,by rw[nz n,g];rfl,r,?_⟩;cases s with
  |map u N=>exact .map u (Cs N λp S t o=>⟨an.Ts (λc e l f=>⟨l,f⟩) (i p t).1 o.1,an.Ts (λc e l f=>⟨l,f⟩) (i p t).2 o.2.1,o.2.2⟩)
theorem JJ(e:¬aT b):¬aT (b.map (jk X)):=by
 rintro⟨g,h,c⟩;rw[Yk]at c;obtain⟨i,f,a⟩:=YE.1 c;refine e ⟨g,h,?_⟩;rw[f];by_cases d:aR X i
 .rw[cT d]at a;rw[a]
 rw[px d]at a;cases a
theorem jJ(g:jw X a):my h X (Sim.cP X a):=λe c=>by
 rcases g e c with⟨b,p,n,q1,k,o,_,l⟩|⟨f,i,q1,_⟩
 .exact⟨_,dW c q1,by simp,by simpa using k,JJ l⟩
 exact⟨.map f i,by rw[nz c,q1];rfl,trivial⟩
theorem yD(o:Base P m)(i:jw X a)(p:∀d,(0<d\/d=P.globals.size)->d<=P.globals.size->X d)(q:h.bZ=Xf\/∀c,X c->∀g k,a.heap[c]?≠C (.map g k)):Inv P h X (λc l=>X c/\m c l) (Sim.cP X a):=
 ⟨kX o p,jJ i,q.imp id λn c e g k f=>by
   rcases i c e with⟨b,u,s,q1,_⟩|⟨r,t,q1,_⟩
   .rw[dW e q1]at f;cases f
   exact n c e _ _ q1⟩
end
noncomputable def Act.jk(X:E->Prop)(c:Xu):Xu:=⟨c.tmps.map (Sim.jk X),c.defers⟩
theorem ar.jk{Sp:Set}{m:Ren}{i:Rt}{c g:Xu}(e:ar h m i c g)(hd:c.defers=[])(o:∀(p:E) f,c.tmps[p]?=C f->aR X f\/bO f):ar Sp (λc l=>X c/\m c l) i (Act.jk X c) g:=
 ⟨e.tmps.jk o,by
   obtain⟨r,n,k⟩:=e.defers;rw[hd]at k;cases k
   exact⟨[],n,by show aZ _ c.defers [];rw[hd];exact .nil⟩,e.kn⟩
structure TG(a e:M):Prop where
 size:e.heap.size=a.heap.size
 os:e.os=a.os
 heap:∀c:E,e.heap[c]?=a.heap[c]?\/∃b f g i,aT b/\a.heap[c]?=C (Obj.cells b f g)/\e.heap[c]?=C (Obj.cells b f i)
theorem Ey{m:Ren}{i:M}(k:aV h m a i)(r:q.os=i.os)(s:∀c e f,m c e->i.heap[e]?=C f->Bf f q e)(u:E->Prop):
 ∃g:M,TG a g/\g.tape=a.tape/\aV h m g q/\∀c,u c->g.heap[c]?=a.heap[c]?:=by
 refine⟨a,⟨A,A,λ_=>Xh A⟩,A,⟨k.inj,λc e l=>?_,k.os.trans r.symm⟩,λ_ _=>rfl⟩;obtain⟨f,n,o,p,t⟩:=k.obj c e l;exact⟨f,n,o,s c e n l p,t⟩
def Ren.plus(m:Ren)(e:E)(d:Xg E):Ren:=λa b=>m a b\/∃c,a=e+c/\d[c]?=C b
theorem Ren.Hs(m:Ren)(b:E)(a:Xg E):m.le (Ren.plus m b a):=λ_ _ c=>Xh c
theorem Ki{m:Ren}(p:aV h m a q){l:Xg E}(L:l.Nodup)(w:∀d∈l,∀n,¬m n d){Os:Xg Obj}(O:Os.length=l.length)
 (N:∀(e:E) d,l[e]?=C d->∃i k,Os[e]?=C i/\q.heap[d]?=C k/\gP h (Ren.plus m a.heap.size l) i k):
 aV h (Ren.plus m a.heap.size l) {a with heap:=a.heap++Os.toArray} q where
 inj:=by
  rintro n u d v(c|⟨e,rfl,c⟩)(g|⟨s,rfl,g⟩)
  .exact p.inj n u d v c g
  .refine⟨λf=>?_,λf=>?_⟩
   .obtain⟨i,k,b,_⟩:=p.obj n d c;have:=(XN.1 b).1;omega
   subst f;exact absurd c (w _ (Yj g) _)
  .refine⟨λf=>?_,λf=>?_⟩
   .obtain⟨i,k,b,_⟩:=p.obj u v g;have:=(XN.1 b).1;omega
   subst f;exact absurd g (w _ (Yj c) _)
  refine⟨λf=>?_,λf=>?_⟩
  .have:e=s:=by omega
   subst this;rw[c]at g;cases g;rfl
  subst f;have D:=(YH.1 c);have H:=(YH.1 g);obtain⟨y,b⟩:=D;obtain⟨z,o⟩:=H;have x:=x_.1 L;have:e=s:=by
   rcases E.lt_trichotomy e s with r|r|r
   .exact absurd (b.trans o.symm) (x e s y z r)
   .exact r
   exact absurd (o.trans b.symm) (x s e z y r)
  omega
 os:=p.os
 obj:=by
  rintro n d(c|⟨e,rfl,c⟩)
  .obtain⟨i,k,b,o,t⟩:=p.obj n d c;exact⟨i,k,by rw[aam (XN.1 b).1];exact b,o,t.mono (Ren.Hs m _ l)⟩
  obtain⟨i,k,b,o,t⟩:=N e d c;exact⟨i,k,by rw[r_ (by omega)];simpa using b,o,t⟩
theorem Kh{Os:Xg Obj}{b:E}{c:Obj}(d:Os[b]?=C c):(a.heap++Os.toArray)[a.heap.size+b]?=C c:=by rw[r_ (by omega)];simpa using d
variable{b:Xt}{c:XD}{e:Xg Ms}{o:E->Prop}
section
variable{a:cZ}{l:bR}{d:Loc->Own}
theorem Ag(H:dG (aj P a) 0 e W q c U y b)(T:iU U d)
 (b0:∀s,s.isMemory=J->d s≠U s->d s=.ro\/d s=.void\/(d s=.sync/\∀p N,touchAt c p=C N->N.loc≠s))
 (b2:aG P c q d 0 l)(X:y.tag=F)(a7:∀r,bB P W q c U y r->eJ a W q r->∀g,0<g->g<W.size->Holds (r g) y l)
 (b3:∀r,bB P W q c U y r->r 0=.lv 0->∀x,l.tag=C x->dS x r W.size q d):∃a5,dG (aj P a) 0 a5 W q c d l b:=by
 obtain⟨r,rfl,D,a1⟩:=H.ok
 let v:E->aF:=λp=>if p=0 then .lv 0 else r p
 have w:∀p,0<p->v p=r p:=λp Z=>Xx (by omega);have u:bB P W q c U y v:=⟨λg O n L=>by rw[w g n];exact D.each g O n L,λg j a3 a4 n Y Q a8 R S=>by rw[w g n]at R;rw[w j Y]at S;exact D.one g j a3 a4 n Y Q a8 R S,D.above,λa2 t=>(by rw[X]at t;cases t),D.ops⟩;have a0:eJ a W q v:=by
  cases a with
  |none=>intro g n Q;rw[w g n];exact a1 g n Q
  |some N=>obtain⟨b4,b8,p⟩:=N;obtain⟨q1,b5,b6,b7⟩:=a1;exact⟨q1,b5,by rw[w b4 q1];exact b6,b7⟩
 have b9:c++(#[]:XD)=c:=by simp
 have G:=H.bF.jA T oY.nil (n:=0) (λs a9 a6=>Xi (b0 s a9 a6)) (λp Z=>by exact Z);refine⟨_,⟨v,A,⟨λg O n L=>?_,u.one,u.above,λx t=>b3 v u A x t,u.ops⟩,a0⟩,G,b2,H.me,H.hears⟩;have:=(u.each g O n L).jA (by omega) T oY.nil (λc0 b1=>by simp at b1) (a7 v u a0 g n (XN.1 L).1) (λa2 t=>by rw[X]at t;cases t);simp_all
theorem rI{a:E->E}(d:∀b,b<i->a b=0):sumTo i a=0:=by
 have:=Go.ConcN.sumTo_le (f:=a) (c:=0) (j:=i) λg f=>by simp_all
 omega
def kg(a:cZ)(o:E->Prop):Prop:=∀f b c,a=C (f,b,c)->(∀c,fj b.sh (b.τ c))/\∀d,b.sh d->o d
theorem holds_of{e:Xg Ms}(L:kg a o)(R:∀r u,o r->y.β r u->l.β r u):∀n,bB P W q c U y n->eJ a W q n->∀g,0<g->g<W.size->Holds (n g) y l:=by
 intro n N x g v w D p;cases a with
 |none=>rw[x g v w]at p;cases p
 |some Q=>
  obtain⟨s,H,S⟩:=Q;obtain⟨q1,O,t,Y⟩:=x;have:g=s:=by
   have c1:(n g).chan=C D.rc:=by rw[aF.cA,p];rfl
   have c2:(n s).chan=C H.rc:=by rw[aF.cA,t];rfl
   exact N.one g s _ _ v q1 w O c1 c2
  subst this;rw[p]at t;cases t;obtain⟨T,X⟩:=L _ _ _ A;simp_all
theorem Hy(r:dG (aj P a) 0 e W q c U y b):∀h k n,a=C (h,k,n)->∀d,k.mine d->U d=.ro:=by
 rintro h k n rfl d l;obtain⟨x,_,p,s⟩:=r.ok;obtain⟨q1,v,f,Q⟩:=s;have i:=p.each h _ q1 (XP v);generalize x h=w at i f;cases w with
 |lv u=>cases f
 |wk S=>cases f
 |pr m t o z=>cases f;obtain⟨_,_,_,_,_,⟨_,g,_⟩,_⟩:=i;exact g.ro d l
 |pb m t o z D R T=>cases f;obtain⟨_,_,_,_,_,_,⟨_,g,_⟩,_⟩:=i;exact g.ro d l
 |pq m u=>cases f;obtain⟨_,_,h,_,_,_,g⟩:=i;exact g.ro d l
end
section
variable{a:cZ}
def RA(m:Ren):Prop:=∀a b,m a b->b<dA.heap.size->Im a
def Fe(m:Ren)(b:E)(c:M)(a:E)(f:Obj):Prop:=(∃d,m d a)/\a≠b/\c.heap[a]?=C f
theorem JB{a2:E->Xt}{N:E->Prop}{a8 a1 b7:E}{yA O k1:Xq}{g6 d2:E×E}{cl:Xk Xe}{own:E->E->E->Prop}{fin:E->Fin}
 (f3:b.status=.running)(j2:∀g0,(a2 g0).status=.running)(j4:∀q,stepG P J b q=.go (a2 q.heap.size) {q with heap:=q.heap.push (Go.ConcR.wgBlock O 0 0)})
 (e8:jw N k)(l4:∀p,N p->∀g5 d9,k.heap[p]?≠C (.map g5 d9))(i1:∀b,(0<b\/b=P.globals.size)->b<=P.globals.size->N b)(f5:∀p,f p->N p)
 (g8:k.heap[a8]?=C (Xn #[Xm (C ⟨a1,0,F⟩) i i] k1 g6))(h0:∃T,m a8 T)(l3:¬f a8)(AZ:k.heap[a1]?=C (Xn cl yA d2))(i0:d2.1=d2.2)(i3:cl.size=b7)(f0:¬N a1)(g9:a8≠a1)
 (h7:∀a0 w j c8,own a0 w c8->own a0 j c8->w=j)(h3:kg a f)
 (next:∀(a7:M) T v a0,aV h m k a7->m a8 T->m a1 v->0<a0->(∀p n,m p n->∀g,az g n->¬f p->¬sY a (λ_=>.ro) g)->Base P m->RA m->
   sW P a (C ⟨⟨O,a7.heap.size,T,Xm (C ⟨v,0,F⟩) i i,v,yA,b7,own a0,Fe m v a7,C a7⟩,0,0,0,a0,a0,fin a0⟩) z h N (λp n=>N p/\m p n) (cP N k) (a2 a7.heap.size)):
 sW P a F z h f m k b:=by
 classical
 intro e W q sl c U s;refine kW (s:=aj P a) f3 (λe W q sl c U s=>?_) e W q sl c U s;refine⟨_,_,_,iS (P:=P) s.me (j4 q),?_⟩;obtain⟨f9,l7⟩:∃f9,f9=Go.ConcR.wgBlock O 0 0:=⟨_,A⟩;have lt:∀p n,m p n->n<q.heap.size:=λp n u=>s.bg.rel.right u
 have f4:aV h m k {q with heap:=q.heap.push (Go.ConcR.wgBlock O 0 0)}:=⟨s.bg.rel.inj,λp n r=>by
  obtain⟨c6,e1,g3,e6,g4⟩:=s.bg.rel.obj p n r
  exact⟨c6,e1,g3,by rw[J' (lt p n r)];rw[XP (lt p n r)]at e6;exact e6,g4⟩,s.bg.rel.os⟩
 have b9:∀n,n<q.heap.size->(q.heap.push (Go.ConcR.wgBlock O 0 0))[n]?=q.heap[n]?:=λn a4=>by rw[J' a4,XP a4]
 have e4:bD h m m k k q {q with heap:=q.heap.push (Go.ConcR.wgBlock O 0 0)} [] []:=by refine{bD.refl s.bg.rel with rel:=f4,uP:=by simp,same:=λn a4 _=>Xh (b9 n a4)}
 have b5:=fy s.bg e4 (λ_ _=>rfl) (by simp) s.hears b.frame.fn b.frame.place;have i8:0<W.size:=(XN.1 s.me).1;have i6:XE 0 b.frame.fn b.frame.place (kept []).toArray=XE 0 b.frame.fn b.frame.place #[]:=by simp[kept]
 have D:=(aj P a).main (g₁:=a2 q.heap.size) s.ok s.bF s.bg s.me s.hears f3 (j2 _) e4 (λ_ _=>rfl) (by simp);have H:=s.bF.step b5;have a3:=s.bg.own e4 (λ_ _=>rfl) b5;have e5:XE 0 b.frame.fn b.frame.place #[]=#[]:=by simp[XE]
 rw[i6,e5,aar]at D H a3;rw[e5,aar];have l5:=Hy s;obtain⟨R,d3⟩:∃R,R=Own.more U 0 q.heap.size (q.heap.push (Go.ConcR.wgBlock O 0 0)).size:=⟨_,A⟩;simp only at D H a3;rw[<-d3]at D H a3;obtain⟨x,d7⟩:∃x,x=((W.map (Go.Conc.woken P b (a2 q.heap.size) {q with heap:=q.heap.push (Go.ConcR.wgBlock O 0 0)})).setIfInBounds 0 (a2 q.heap.size)):=⟨_,A⟩;have d5:dG (aj P a) 0 e x {q with heap:=q.heap.push (Go.ConcR.wgBlock O 0 0)} c R ⟨h,m,k,f,F⟩ (a2 q.heap.size):=⟨by rw[d7];exact D,H,a3,by rw[d7];simp[i8],s.hears⟩;rw[<-d7];obtain⟨T,KW⟩:=h0
 have i7:∃v k0 a5,m a1 v/\q.heap[T]?=C (Xn #[Xm (C ⟨v,0,F⟩) i i] k0 a5):=by
  obtain⟨c6,e1,q1,S,X⟩:=s.bg.rel.obj _ _ KW;rw[g8]at q1;cases q1;cases X with
  |cells m2 c0 _=>
   rename_i c2 _ k9;have b1:=c0.1;simp at b1;have Q:=c0.2 0 (Xm (C ⟨a1,0,F⟩) i i) c2[0] (by simp) (XP (by omega));cases Y:c2[0]with
   |slice m0 g b3=>
    rw[Y]at Q;cases Q with
    |slice d4=>
     rename_i g1;obtain⟨j6,j7,j8⟩:=d4;obtain⟨v,l9,m1⟩:=g1;subst j7 j8
     have d6:c2=#[Xm (C ⟨v,0,F⟩) i i]:=by
      apply aaj (by simp[b1]);intro w a9 b8;obtain rfl:w=0:=by omega
      simp[Y]
     rw[d6]at S;exact⟨v,_,_,j6,S⟩
   |_=>rw[Y]at Q;cases Q
 obtain⟨v,k2,g7,xn,h1⟩:=i7
 have i2:∃b3 a5,q.heap[v]?=C (Xn b3 yA a5)/\a5.1=a5.2/\b3.size=b7:=by
  obtain⟨c6,e1,q1,S,X⟩:=s.bg.rel.obj _ _ xn;rw[AZ]at q1;cases q1;cases X with
  |cells c c0 b4=>
   refine⟨_,_,S,?_,by rw[<-c0.1];exact i3⟩;rcases b4 with b4|⟨b4,_⟩
   .exact b4
   exact absurd i0 b4
 have j0:T≠v:=λa6=>g9 ((s.bg.rel.inj _ _ _ _ KW xn).2 a6);have h2:=lt _ _ xn;have c9:∀{g:Loc}{p n:E},m p n->az g n->R g=U g:=λr t=>by rw[d3];exact qP t (lt _ _ r)
 have d0:=s.bg.dv;have k3:∀g,az g q.heap.size->R g=.iM 0:=λg t=>by rw[d3];exact qO t (XS _) (by simp)
 have e0:∀{g:Loc}{p n:E},m p n->az g n->¬az g q.heap.size:=λr D H=>by have:=de D H;have:=lt _ _ r;omega
 let b6:Loc->Prop:=λg=>∃p n,m p n/\az g n/\n≠v/\R g=.iM 0
 let d:Loc->Own:=λg=>if az g q.heap.size then .sync else if g=.obj v then .void else if b6 g then .ro else R g
 have f8:∀g,az g q.heap.size->d g=.sync:=λg t=>XC t
 have f7:d (.obj v)=.void:=by show(if _ then _ else if _ then _ else _)=_;rw[Xx (e0 xn (.inl A)),XC A]
 have c7:∀p n g,m p n->az g n->n≠v->d g=.ro:=λp n g r t b0=>by
  show(if _ then _ else if _ then _ else if _ then _ else _)=_;rw[Xx (e0 r t),Xx (λu=>b0 (de t (by rw[u];exact .inl A)))];by_cases b1:b6 g
  .rw[XC b1]
  rw[Xx b1];have Y:R g≠.iM 0:=λu=>b1 ⟨p,n,r,t,b0,u⟩;rcases d0 p n r g t with u|⟨u,_⟩
  .rw[c9 r t]at Y;exact absurd u Y
  rw[c9 r t];exact u
 have e2:∀g,¬az g q.heap.size->g≠.obj v->¬b6 g->d g=R g:=λg D H a3=>by show(if _ then _ else if _ then _ else if _ then _ else _)=_;rw[Xx D,Xx H,Xx a3]
 have e9:∀g,az g v->R g=.iM 0:=λg t=>by
  rw[c9 xn t];rcases d0 a1 v xn g t with u|⟨_,u⟩
  .exact u
  exact absurd (f5 _ u) f0
 have h4:iU R d:=by
  intro g i9;by_cases q1:az g q.heap.size
  .exact Xi (k3 g q1)
  by_cases S:g=.obj v
  .subst S;exact Xi (e9 _ (Xh A))
  by_cases X:b6 g
  .obtain⟨_,_,_,_,_,u⟩:=X;exact Xi u
  exact Xh (e2 g q1 S X)
 obtain⟨b2,e7⟩:∃b2:dm,b2=⟨⟨O,q.heap.size,T,Xm (C ⟨v,0,F⟩) i i,v,yA,b7,own x.size,Fe m v q,C q⟩,0,0,0,x.size,x.size,fin x.size⟩:=⟨_,A⟩;have f1:0<x.size:=(XN.1 d5.me).1
 have j3:aG P c {q with heap:=q.heap.push (Go.ConcR.wgBlock O 0 0)} d 0 ⟨h,λp n=>N p/\m p n,cP N k,N,C b2⟩:={
  base:=kX s.bg.base i1
  low:=⟨XZ s.bg.low.1 (by simp),λp n r a4=>s.bg.low.2 p n r.2 a4⟩
  rel:=f4.cP e8
  cO:=jJ e8
  dv:=λp n r g t=>Xi ⟨c7 p n g r.2 t λa6=>f0 (by have Q:=r.1;rw[(s.bg.rel.inj _ _ _ _ r.2 xn).2 a6]at Q;exact Q),r.1⟩
  dV:=λp n r g t l6=>by
   rcases d0 p n r.2 g t with u|⟨u,_⟩
   .exact PermW.of (d5.bF.mine g 0 (bQ t) (by rw[c9 r.2 t];exact u))
   exact s.bg.dV p n r.2 g t u}
 have j5:∀Z,bB P x {q with heap:=q.heap.push (Go.ConcR.wgBlock O 0 0)} c R ⟨h,m,k,f,F⟩ Z->Z 0=.lv 0->∀d1,C b2=C d1->dS d1 Z x.size {q with heap:=q.heap.push (Go.ConcR.wgBlock O 0 0)} d:=by
  intro Z h6 Y d1 h5;cases h5
  have Ia:∀w L,0<w->w<x.size->Z w≠.wk L:=λw L a9 b8 a6=>by have:=h6.each w _ a9 (XP b8);rw[a6]at this;obtain⟨k5,u,_⟩:=this;cases u
  have h9:∀w,w<x.size->(Z w).cnt=0:=λw a9=>by
   rcases Ye w with rfl|u
   .rw[Y];rfl
   have:=λL=>Ia w L u a9;generalize Z w=e3 at this;cases e3 with
   |wk L=>exact absurd A (this L)
   |_=>rfl
  have f6:(sumTo x.size λw=>(Z w).cnt)=0:=rI h9;subst e7
  exact{
   zero:=by rw[Y];rfl
   mode:=by
    rw[f6];refine .opn A (YA _) (λj i4 i5=>?_) ?_
    .have:=λL=>Ia j L i4 i5;generalize Z j=e3 at this;cases e3 with
     |wk L=>exact absurd A (this L)
     |_=>rfl
    show(q.heap.push (Go.ConcR.wgBlock O 0 0))[q.heap.size]?=_;simp
   rJ:=f8
   zQ:=f7
   own:=λw L a9 b8 Q=>absurd Q (Ia w L a9 b8)
   gb:=by obtain⟨b3,a5,q1,S,X⟩:=i2;exact⟨b3,a5,(b9 v h2).trans q1,S,X⟩
   gv:=⟨k2,g7,(b9 T (lt _ _ KW)).trans h1⟩
   KV:=c7 a8 T _ KW (Xh A) j0
   ne:=by show v≠q.heap.size;omega
   apart:=λw j c8 D H=>h7 _ w j c8 D H
   yt:=by show x.size<x.size+1000000;omega
   bound:=by rw[f6];exact YA _
   tT:=⟨f1,XS _,A,λw D H=>by
    have D:x.size<=w:=D;have H:w<x.size:=H
    omega⟩
   Ia:=λw L D H Q=>absurd Q (Ia w L D H)
   gh:=by refine⟨λa7 u=>by cases u;rfl,?_⟩;rintro n c6⟨⟨p,r⟩,H,a3⟩;exact⟨λg t=>c7 p n g r t H,(b9 n (lt _ _ r)).trans a3⟩
   KU:=λg t=>by
    by_cases f2:g=.obj v
    .subst f2;exact Xh A
    refine Xi (Xh ?_);show d g=_;rw[e2 g (e0 xn t) f2 λ⟨p,n,r,d8,b0,_⟩=>b0 (de d8 t)]
    exact e9 g t}
 obtain⟨k8,d6⟩:=Ag (l:=⟨h,λp n=>N p/\m p n,cP N k,N,C b2⟩) d5 h4 (λg i9 b0=>by
  by_cases q1:az g q.heap.size
  .refine Xi (Xi ⟨f8 g q1,λd9 L Q a6=>?_⟩);have:=s.bF.low d9 L Q;rw[a6,bn q1]at this;exact absurd this (E.lt_irrefl _)
  by_cases S:g=.obj v
  .subst S;exact Xi (Xh f7)
  by_cases X:b6 g
  .obtain⟨p,n,r,t,a4,_⟩:=X;exact Xh (c7 p n g r t a4)
  exact absurd (e2 g q1 S X) b0)
  j3 A (holds_of (e:=e) h3 λp n d4 r=>⟨f5 p d4,r⟩) j5
 subst e7;refine next q T v x.size s.bg.rel KW xn f1 (λp n r g t j1 b5=>?_) s.bg.base s.bg.low.2 _ _ _ _ _ _ d6
 rcases b5 with⟨g2,d8,h8⟩|b5
 .have D:=s.bF.jP.ro g g2 d8 h8;rcases d0 p n r g t with u|⟨_,u⟩
  .rw[D]at u;cases u
  exact j1 u
 grind
end
variable{b:Xk Xe}{k:Xe}{Y:Xe}{a:E}{o:Xe}{s:E}{D:Xg Ms}{z:XD}{g:E}
structure LR where
 d:XB
 st:Xg Xj
 names:Xg XB
 ev:Xe
def gr(c:Xg XB)(s:E)(sl:Xe)(r:M):Prop:=
 (sl=Xm F 0 0/\c=[])\/
 ∃e d b g u,sl=Xm (C ⟨e,0,F⟩) c.length d/\s<=e/\r.heap[e]?=C (Xn b g u)/\u.1=u.2/\c.length<=d/\d<=b.size/\
  ∀(a:E) f,c[a]?=C f->b[a]?=C (.string f)
def cf(a:LR)(s:E)(b:Xk Xe)(r:M):Prop:=a.st.length=7/\∃sl,b.toList=.string a.d::(a.st.map (.int K ·)++[sl])/\gr a.names s sl r
def TQ(a Y:Xe):Prop:=∀h m,an h m a Y
def Bg(c b:Xk Xe):Prop:=c.size=b.size/\∀(a:E) k Y,c[a]?=C k->b[a]?=C Y->TQ k Y
theorem pf{d:Xe->Xe->Prop}(t:∀(a:E) Y,b[a]?=C Y->∃c,d c Y):∃l:Xk Xe,l.size=b.size/\∀(a:E) k Y,l[a]?=C k->b[a]?=C Y->d k Y:=by
 have v:∀a:E,∃c:Xe,∀Y,b[a]?=C Y->d c Y:=λa=>by
  cases w:b[a]? with
  |none=>exact⟨I,λ_ D=>by cases D⟩
  |some Y=>obtain⟨c,a0⟩:=t a Y w;exact⟨c,λ_ D=>by cases D;exact a0⟩
 obtain⟨n,x⟩:=Classical.axiomOfChoice v;refine⟨((Xg.range b.size).map n).toArray,by simp,λa k Y e i=>?_⟩;have Z:a<b.size:=(XN.1 i).1;simp[Z]at e;subst e;exact x a Y i
theorem VU(d:an h m k Y):∃q,TQ q Y:=by
 induction d with
 |bS d=>exact⟨_,λ_ _=>.bS d⟩
 |bool s=>exact⟨_,λ_ _=>.bool s⟩
 |int v g=>exact⟨_,λ_ _=>.int v g⟩
 |string x=>exact⟨_,λ_ _=>.string x⟩
 |cG=>exact⟨_,λ_ _=>.cG⟩
 |ptr d=>exact⟨_,λ_ _=>.bS trivial⟩
 |aO g b=>exact⟨_,λ_ _=>.aO g b⟩
 |slice d g b=>exact⟨_,λ_ _=>.bS trivial⟩
 |ft=>exact⟨_,λ_ _=>.ft⟩
 |map d=>exact⟨_,λ_ _=>.bS trivial⟩
 |ed=>exact⟨_,λ_ _=>.ed⟩
 |chan d=>exact⟨_,λ_ _=>.bS trivial⟩
 |func t=>cases t with
  |func=>exact⟨_,λ_ _=>.bS trivial⟩
  |yield=>exact⟨_,λ_ _=>.bS trivial⟩
 |nilFunc=>exact⟨_,λ_ _=>.nilFunc⟩
 |iface z d e=>obtain⟨q,u⟩:=e;exact⟨_,λh m=>.iface z (u h m)⟩
 |nilIface=>exact⟨_,λ_ _=>.nilIface⟩
 |@agg b f n w e=>
  obtain⟨y,i,l⟩:=pf (b:=f) (d:=TQ) λa Y c=>by
   have o:a<b.size:=by rw[n];exact(XN.1 c).1
   exact e a _ Y (XP o) c
  exact⟨_,λh m=>.agg i λa k Y p c=>l a k Y p c h m⟩
 |@tuple b f n w e=>
  obtain⟨y,i,l⟩:=pf (b:=f) (d:=TQ) λa Y c=>by
   have o:a<b.size:=by rw[n];exact(XN.1 c).1
   exact e a _ Y (XP o) c
  exact⟨_,λh m=>.tuple i λa k Y p c=>l a k Y p c h m⟩
theorem Ov{c:Xk Xe}(e:aw h m b c):∃d,Bg d c:=by
 obtain⟨d,g,i⟩:=pf (b:=c) (d:=TQ) λa Y f=>by
  have k:a<b.size:=by rw[e.1];exact(XN.1 f).1
  exact VU (e.2 a _ Y (XP k) f)
 exact⟨d,g,i⟩
theorem Bg.string{c d:Xk Xe}(b:Bg c d){g:XB}(e:d[a]?=C (.string g)):c[a]?=C (.string g):=by
 have f:a<c.size:=by rw[b.1];exact(XN.1 e).1
 have:=b.2 a _ _ (XP f) e;rw[XP f];generalize c[a]=l at this;have h:=this {fn:=λ_=>Xf,code:=λ_=>Xf,bi:=λ_ _=>Xf,fr:=λ_=>Xf,bZ:=Xf} (λ_ _=>False);cases h with
 |bS b=>exact b.elim
 |string=>rfl
inductive Plain:Xe->Prop
 |string (d:XB):Plain (.string d)
 |int (c:IntKind) (g:Xj):Plain (.int c g)
 |slice (g b:E):Plain (Xm F g b)
 |nil:Plain .nilIface
 |iface (z:Xq) (c:IntKind) (g:Xj):Plain (.iface z (.int c g))
theorem Plain.eq{b:Xe}(c:Plain o)(a:an h m o b):b=o:=by
 cases c with
 |iface=>cases a with|iface _ a=>cases a;rfl
 |_=>cases a;rfl
theorem Plain.refl(h:Set)(m:Ren)(a:Plain o):an h m o o:=by
 cases a with
 |string d=>exact .string _
 |int c g=>exact .int _ _
 |slice g b=>exact .aO _ _
 |nil=>exact .nilIface
 |iface z c g=>exact .iface z (.int _ _)
def QU(p:E->LR)(g L s:E)(yA:Xq)(r:M):Prop:=∃b u,r.heap[L]?=C (Obj.cells b yA u)/\b.size=g*10/\u.1=u.2/\
 ∀a,a<g->∃c,cf (p a) s c r/\(∀j,j<9->b[a*10+j]?=c[j]?)/\b[a*10+9]?=C (p a).ev
theorem NG(c:Xg E):∃b:Xg E,b.Nodup/\∀k,k∈b↔k∈c:=by
 induction c with
 |nil=>exact⟨[],.nil,λk=>Iff.rfl⟩
 |cons d c h=>
  obtain⟨b,f,e⟩:=h;by_cases g:d∈c
  .refine⟨b,f,λk=>?_⟩;rw[e];refine⟨λa=>Ym _ a,λa=>?_⟩;rcases XV.1 a with rfl|a
   .exact g
   exact a
  exact⟨d::b,Xg.nodup_cons.2 ⟨λa=>g ((e d).1 a),f⟩,λk=>by simp[e]⟩
theorem cf.size{n:LR}{c:Xk Xe}(d:cf n s c r):c.size=9:=by obtain⟨e,sl,i,_⟩:=d;have:=YU List.length i;simp[e]at this;exact this
theorem cf.at{a:LR}{c:Xk Xe}(g:cf a s c r):∃sl,gr a.names s sl r/\c[8]?=C sl/\∀j,j<8->∃o,c[j]?=C o/\Plain o/\(Value.string a.d::a.st.map (.int K ·))[j]?=C o:=by
 obtain⟨d,sl,h,i⟩:=g;have f:∀j:E,c[j]?=(Value.string a.d::(a.st.map (.int K ·)++[sl]))[j]?:=λj=>by rw[<-h];simp
 refine⟨sl,i,?_,λj m=>?_⟩
 .rw[f];simp[d]
 have k:(Value.string a.d::(a.st.map (.int K ·)++[sl]))[j]?=(Value.string a.d::a.st.map (.int K ·))[j]?:=by rw[<-Yp,Zw (by simp[d];omega)]
 have e:j<(Value.string a.d::a.st.map (.int K ·)).length:=by simp[d];omega
 refine⟨_,(f j).trans (k.trans (Yy e)),?_,Yy e⟩;have b:=aaH e;rcases XV.1 b with b|b
 .rw[b];exact .string _
 obtain⟨n,_,l⟩:=YB.1 b;rw[<-l];exact .int _ _
theorem cf.mk'{a:LR}(c:a.st.length=7){sl:Xe}(b:gr a.names s sl r):cf a s (Value.string a.d::(a.st.map (.int K ·)++[sl])).toArray r:=⟨c,sl,by simp,b⟩
section
variable{N:cZ}{O:E->Prop}{R:Ren}{Q T:M}{X:Xt}{y:dm}{p:E->LR}{L S H:E}{yA:Xq}{u:E×E}{cl:Xk Xe}
theorem JN(S:rQ P N y D W q z U ⟨h,R,Q,O,F⟩)(d1:y.D.gn=g*10)
 (c9:∀c,c<g->∃a,y.lo<=a/\a<y.hi/\∀cl r,y.fin a cl r->∃a1,(c*10,a1)∈cl/\(c*10+9,#[(p c).ev])∈cl/\cf (p c) H a1 r)(c7:∀c,c<g->Plain (p c).ev)(f0:P.globals.size<=H):
 ∃b t,q.heap[y.D.gb]?=C (Xn b y.D.yA t)/\t.1=t.2/\b.size=g*10/\∀c,c<g->(p c).st.length=7/\(∀j,j<8->b[c*10+j]?=(Value.string (p c).d::(p c).st.map (.int K ·))[j]?)/\b[c*10+9]?=C (p c).ev/\
  ∃sl,b[c*10+8]?=C sl/\((sl=Xm F 0 0/\(p c).names=[])\/
   ∃e n s b4 u,sl=Xm (C ⟨e,0,F⟩) (p c).names.length n/\q.heap[e]?=C (Xn s b4 u)/\u.1=u.2/\(p c).names.length<=n/\n<=s.size/\
    (∃e7,Bg e7 s)/\(∀(a:E) v,(p c).names[a]?=C v->s[a]?=C (.string v))/\P.globals.size<=e/\∀x,az x e->∃a,0<a/\y.lo<=a/\a<y.hi/\U x=.iM a):=by
 obtain⟨b,t,q1,d9,e0⟩:=S.gb;refine⟨b,t,q1,d9,e0.trans d1,λc a8=>?_⟩;obtain⟨a,T,a7,c8⟩:=c9 c a8;obtain⟨_,_,cl,a0,l⟩:=S.left a T a7;obtain⟨a1,b2,d8,b0⟩:=c8 cl a0.w l.fin;obtain⟨sl,d6,c0,d2⟩:=b0.at
 have put:∀(Y:E) a2,(Y,a2)∈cl->∀(j:E) o,a2[j]?=C o->∃k,b[Y+j]?=C k/\an a0.S a0.β o k:=by intro Y a2 d5 j o m;obtain⟨c2,f9,e9,k,f,i,b8⟩:=l.Mg _ d5 j o m;rw[q1]at f;cases f;exact⟨k,i,b8⟩
 refine⟨b0.1,λj d3=>?_,?_,?_⟩
 .obtain⟨o,e4,e5,e6⟩:=d2 j d3;obtain⟨k,f,i⟩:=put _ _ b2 j o e4;rw[f,e5.eq i,e6]
 .obtain⟨k,f,i⟩:=put _ _ d8 0 (p c).ev (by simp);rw[show c*10+9=c*10+9+0 from A,f,(c7 c a8).eq i]
 obtain⟨k,f,i⟩:=put _ _ b2 8 sl c0;refine⟨k,f,?_⟩;rcases d6 with⟨rfl,d⟩|⟨e,n,s,b4,e8,rfl,f6,b3,Z,e1,e2,e3⟩
 .exact Xh ⟨(Plain.slice 0 0).eq i,d⟩
 right;cases i with
 |slice c6=>
  rename_i b5;obtain⟨L,f3,f7⟩:=b5;obtain⟨w,a3,a4⟩:=c6;simp only at w a3 a4;subst a3 a4;obtain⟨f4,f5,a5,b6,b7⟩:=l.bg.rel.obj e L w;rw[b3]at a5;cases a5;cases b7 with
  |cells f8 m d0=>
   rename_i c2 b9;refine⟨L,n,c2,_,b9,A,b6,?_,e1,by rw[<-m.1];exact e2,Ov m,λa v d7=>?_,?_,λx d4=>⟨a,XY S.pos T,T,a7,?_⟩⟩
   .rcases d0 with d|⟨d,_⟩
    .exact d
    exact absurd Z d
   .have a6:=e3 a v d7;have a9:a<c2.size:=by rw[<-m.1];exact(XN.1 a6).1
    have:=m.2 a _ _ a6 (XP a9);rw[XP a9,(Plain.string v).eq this]
   .have:=(l.bg.base.2 e L w).2;omega
   rcases l.bg.dv e L w x d4 with d|⟨_,d⟩
   .exact d
   exfalso;obtain⟨f2,b1,X⟩:=l.bg.cO e d;rw[b3]at b1;cases b1;obtain⟨X,f1⟩:=X;rw[X]at Z;simp at Z;omega
end
variable{c:M}{b:Xg Ms}{r:XD}{d:E}
section
variable{l:cZ}{o:E->Prop}{v:Ren}{u s:M}{y:Xt}{g:dm}{a:E->LR}{p k x:E}{yA:Xq}{i:E×E}{cl:Xk Xe}
theorem FI(c:Xg E)(b:E->Xp E):∃a:Xg E,a.Nodup/\∀d,d∈a↔∃e∈c,b e=C d:=by
 obtain⟨a,f,g⟩:=NG (c.filterMap b)
 grind
theorem PG(b8:dG (aj P l) 0 b W q r U ⟨h,v,u,o,F⟩ y)(b4:rQ P l g b W q r U ⟨h,v,u,o,F⟩)
 (f5:cV o (λn e=>o n/\m n e) (cP o c) v u)(o6:jw o c)(g2:∀n,f n->o n)(d1:Inv P h f m c)
 (l3:g.D.gh=Fe m k s)(l1:g.D.g0=C s)(i3:g.D.gb=k)(l5:g.D.yA=yA)(l4:g.D.gn=d*10)
 (e3:aV h m c s)(xn:m p k)(AZ:c.heap[p]?=C (Xn cl yA i))(l0:i.1=i.2)(i4:¬o p)(k4:kg l f)
 (i6:∀n e,m n e->∀N,az N e->¬f n->¬sY l (λ_=>.ro) N)
 (k8:∀t,t<d->∃w,g.lo<=w/\w<g.hi/\∀cl c,g.fin w cl c->∃j1,(t*10,j1)∈cl/\(t*10+9,#[(a t).ev])∈cl/\cf (a t) x j1 c)(f4:∀t,t<d->Plain (a t).ev)(k5:P.globals.size<=x):
 ∃j6 g7 a6,dG (aj P l) 0 b W q r j6 ⟨h,g7,a6,f,F⟩ y/\Inv P h f g7 a6/\cV f m c g7 a6/\
  (∀n,n<c.heap.size->n≠p->a6.heap[n]?=c.heap[n]?\/∃b0 r Z g9,aT b0/\c.heap[n]?=C (Obj.cells b0 r Z)/\a6.heap[n]?=C (Obj.cells b0 r g9))/\QU a d p c.heap.size yA a6:=by
 obtain⟨b0,o5,q1,n3,n4,g5⟩:=JN b4 l4 k8 f4 k5;rw[i3,l5]at q1;have f6:=λn e a4 T O b9=>b4.gh.2 e a4 (by rw[l3];exact⟨⟨n,T⟩,O,b9⟩)
 have f7:∀n e,m n e->∃a4,s.heap[e]?=C a4:=λn e T=>by obtain⟨a4,p5,_,f2,_⟩:=e3.obj n e T;simp_all
 obtain⟨j0,p1⟩:=f7 _ _ xn;obtain⟨d8,k7⟩:∃d8:M,d8={q with heap:=q.heap.setIfInBounds k j0}:=by simp
 have h6:∀w:E,d8.heap[w]?=if w=k then C j0 else q.heap[w]?:=λw=>by grind
 have h7:d8.os=q.os:=by rw[k7]
 have p0:∀{n e:E},o n->m n e->e≠k:=λa8 T d2=>i4 ((e3.inj _ _ _ _ T xn).2 d2▸a8)
 obtain⟨a6,g8,_,m4,o8⟩:=Ey e3 (h7.trans (b4.gh.1 s l1)) (q:=d8) (λn e a4 T b9=>by
  by_cases O:e=k
  .show _=_
   grind
  show _=_
  rw[h6,Xx O];exact(f6 n e a4 T O b9).2) f
 have m0:∀t,∃e6:Xp E,t<d->(e6=F->b0[t*10+8]?=C (Xm F 0 0)/\(a t).names=[])/\∀R,e6=C R->∃b1 Q S i,b0[t*10+8]?=C (Xm (C ⟨R,0,F⟩) (a t).names.length b1)/\q.heap[R]?=C (Obj.cells Q S i)/\i.1=i.2/\(a t).names.length<=b1/\b1<=Q.size/\
  (∃a1,Bg a1 Q)/\(∀(w:E) e7,(a t).names[w]?=C e7->Q[w]?=C (.string e7))/\P.globals.size<=R/\∀N,az N R->∃w,0<w/\g.lo<=w/\w<g.hi/\U N=.iM w:=by
  intro t;by_cases Y:t<d
  .obtain⟨_,_,_,sl,c9,z⟩:=g5 t Y;rcases z with⟨rfl,z⟩|⟨R,b1,Q,S,Z,rfl,z⟩
   .exact⟨F,λ_=>⟨λ_=>⟨c9,z⟩,λR b=>(by cases b)⟩⟩
   exact⟨C R,λ_=>⟨λb=>(by cases b),λn2 b=>(by grind)⟩⟩
  exact⟨F,λz=>absurd z Y⟩
 obtain⟨g4,f9⟩:=Classical.axiomOfChoice m0;obtain⟨a0,k3,h2⟩:=FI (Xg.range d) g4
 have d0:∀e∈a0,∃Q S i,q.heap[e]?=C (Obj.cells Q S i)/\(∃a1,Bg a1 Q)/\P.globals.size<=e/\∀N,az N e->∃w,0<w/\g.lo<=w/\w<g.hi/\U N=.iM w:=by intro e O;obtain⟨t,Y,d2⟩:=(h2 e).1 O;obtain⟨b1,Q,S,Z,_,d7,_,_,_,n5,_,n6,n7⟩:=(f9 t (abe.1 Y)).2 e d2;exact⟨Q,S,Z,d7,n5,n6,n7⟩
 have h1:∀e∈a0,e≠k:=λe O d2=>by
  obtain⟨_,_,_,_,_,_,z⟩:=d0 e O;obtain⟨w,_,_,_,z⟩:=z (.obj e) (Xh A);have:=b4.zQ
  grind
 have k2:∀e∈a0,∀n,¬m n e:=λe O n T=>by
  obtain⟨a4,b9⟩:=f7 n e T;have L:=(f6 n e a4 T (h1 e O) b9).1 (.obj e) (Xh A);obtain⟨_,_,_,_,_,_,z⟩:=d0 e O;obtain⟨w,_,_,_,z⟩:=z (.obj e) (Xh A)
  grind
 have p3:=g8.size
 obtain⟨Os,k6,h5⟩:∃Os:Xg Obj,Os.length=a0.length/\∀(t:E) e,a0[t]?=C e->∃Q S Z a1,q.heap[e]?=C (Obj.cells Q S Z)/\Bg a1 Q/\Os[t]?=C (Obj.cells a1 S Z):=by
  have c0:∀e:E,∃e6:Obj,e∈a0->∃Q S Z a1,q.heap[e]?=C (Obj.cells Q S Z)/\Bg a1 Q/\e6=Obj.cells a1 S Z:=λe=>by
   by_cases O:e∈a0
   .obtain⟨Q,S,Z,z,⟨a1,a9⟩,_⟩:=d0 e O;exact⟨_,λ_=>⟨Q,S,Z,a1,z,a9,A⟩⟩
   exact⟨.stringIter .empty 0,λz=>absurd z O⟩
  obtain⟨j8,k9⟩:=Classical.axiomOfChoice c0;refine⟨a0.map j8,by simp,λt e O=>?_⟩;obtain⟨Q,S,Z,a1,z,a9,b⟩:=k9 e (Yj O);exact⟨Q,S,Z,a1,z,a9,by grind⟩
 have g1:=Ki m4 k3 k2 k6 (λt e O=>by
  obtain⟨Q,S,Z,a1,z,a9,b⟩:=h5 t e O
  exact⟨_,_,b,by rw[h6,Xx (h1 e (Yj O))];exact z,.cells S ⟨a9.1,λw b6 j2 c0 i8=>a9.2 w b6 j2 c0 i8 _ _⟩ (kS.refl _)⟩)
 obtain⟨a2,h4⟩:∃a2,a2=a6.heap.size:=by simp
 rw[<-h4]at g1
 have e1:∀H:E,∃a5:Xe,H<d*10->∃X,b0[H]?=C X/\an h (Ren.plus m a2 a0) a5 X/\(Plain X->a5=X)/\∀R N b7,X=Xm (C ⟨R,0,F⟩) N b7->∃t,a0[t]?=C R/\a5=Xm (C ⟨a2+t,0,F⟩) N b7:=by
  intro H;by_cases D:H<d*10
  .have Y:H/10<d:=by omega
   have g0:H/10*10+H%10=H:=by omega
   have plain:∀X,b0[H]?=C X->Plain X->∃a5:Xe,H<d*10->∃X,b0[H]?=C X/\an h (Ren.plus m a2 a0) a5 X/\(Plain X->a5=X)/\∀R N b7,X=Xm (C ⟨R,0,F⟩) N b7->∃t,a0[t]?=C R/\a5=Xm (C ⟨a2+t,0,F⟩) N b7:=by intro X L c8;refine⟨X,λ_=>⟨X,L,c8.refl _ _,λ_=>rfl,λR N b7 b=>?_⟩⟩;subst b;cases c8
   obtain⟨c6,d6,d7,_⟩:=g5 _ Y;by_cases c9:H%10<8
   .have e0:H%10<(Value.string (a (H/10)).d::(a (H/10)).st.map (.int K ·)).length:=by simp[c6];omega
    have:=d6 _ c9;rw[g0,Yy e0]at this;refine plain _ this ?_;have a3:=aaH e0;rcases XV.1 a3 with a3|a3
    .rw[a3];exact .string _
    obtain⟨j3,_,a9⟩:=YB.1 a3;rw[<-a9];exact .int _ _
   by_cases k1:H%10=9
   .rw[<-k1,g0]at d7;exact plain _ d7 (f4 _ Y)
   have k0:H%10=8:=by omega
   obtain⟨e8,e9⟩:=f9 _ Y;rw[<-k0,g0]at e8 e9;cases d3:g4 (H/10)with
   |none=>exact plain _ (e8 d3).1 (.slice _ _)
   |some R=>
    obtain⟨b1,Q,S,Z,e2,_⟩:=e9 R d3;have a3:=(h2 R).2 ⟨_,abe.2 Y,d3⟩;obtain⟨t,l7⟩:=k_.1 a3;have b2:bC (Ren.plus m a2 a0) ⟨a2+t,0,F⟩ ⟨R,0,F⟩:=⟨Xi ⟨t,A,l7⟩,A,A⟩;refine⟨Xm (C ⟨a2+t,0,F⟩) (a (H/10)).names.length b1,λ_=>⟨_,e2,.slice b2 _ _,λz=>(by cases z),λn2 N b7 b=>?_⟩⟩;cases b
    grind
  exact⟨.nilIface,λz=>absurd z D⟩
 obtain⟨a5,e1⟩:=Classical.axiomOfChoice e1;obtain⟨b3,i0⟩:∃b3:Xk Xe,b3=Xk.ofFn (n:=d*10) λH=>a5 H.1:=by simp
 have i2:b3.size=d*10:=by rw[i0];simp
 have i1:∀H:E,H<d*10->b3[H]?=C (a5 H):=λH D=>by rw[i0];simp[D]
 obtain⟨c7,i7⟩:∃c7:M,c7={a6 with heap:=a6.heap++Os.toArray}:=by simp
 rw[<-i7]at g1;have o7:=(XN.1 AZ).1;have p4:c7.heap.size=a2+Os.length:=by grind
 obtain⟨b5,m9⟩:∃b5:M,b5={c7 with heap:=c7.heap.setIfInBounds p (.cells b3 yA i)}:=by simp
 have g3:∀w:E,b5.heap[w]?=if w=p then C (Xn b3 yA i)else c7.heap[w]?:=λw=>by grind [getElem?_set]
 have m5:aV h (Ren.plus m a2 a0) b5 q:=by
  refine g1.put (Xh xn) (.cells yA ⟨i2.trans n4.symm,λw b6 j2 c0 i8=>?_⟩ (Xh n3)) g3 (λw=>?_) (by rw[m9]) h7.symm
  .have e4:w<d*10:=by have:=(XN.1 c0).1;omega
   rw[i1 w e4]at c0;cases c0
   grind
  by_cases e4:w=k
  .rw[XC e4,e4,q1]
  grind
 have p2:∀n,f n->n≠p:=λn a8 d2=>i4 (d2▸g2 n a8);have NJ:∀n:E,n<c.heap.size->c7.heap[n]?=a6.heap[n]?:=λn a8=>by grind
 have i5:∀n,f n->b5.heap[n]?=c.heap[n]?:=λn a8=>by
  obtain⟨a4,d6,_⟩:=d1.cO n a8
  grind
 have h8:Base P (Ren.plus m a2 a0):=by
  refine⟨λj9 L c8=>Xh (d1.base.1 j9 L c8),?_⟩;rintro n e(z|⟨t,rfl,Y⟩)
  .exact d1.base.2 n e z
  obtain⟨_,_,_,_,_,z,_⟩:=d0 e (Yj Y);have L:=d1.base.types;obtain⟨a4,_,c8,_⟩:=e3.obj _ _ L;have:=(XN.1 c8).1;omega
 have h3:=d1.keep h8 i5
 have l2:cV f m c (Ren.plus m a2 a0) b5:=⟨Ren.Hs _ _ _,λb6 j3 z=>by
  rcases z with z|⟨t,rfl,_⟩
  .exact Xh z
  omega,by grind,i5⟩
 have o9:=Hy b8
 have m7:=wO (a:=l) b8.bg (r:=f) (m:=h) (O:=F) h8 m5 h3.cO (by
  rintro n e(T|⟨t,rfl,Y⟩) N e5
  .by_cases O:e=k
   .left;subst O;have L:U N=.void\/U N=.iM 0\/∃w,g.lo<=w/\w<g.hi/\U N=.iM w:=by
     rcases b4.KU N (by rw[i3];exact e5)with z|z|⟨w,_,_,d4,d5,_,_,z⟩
     .left;rw[z];exact b4.zQ
     .exact Xi (Xh z)
     grind
    have m3:U N≠.ro:=by rcases L with L|L|⟨w,_,_,L⟩<;>rw[L]<;>simp
    refine⟨by rcases L with L|L|⟨w,_,_,L⟩<;>rw[L]<;>simp,λD=>?_⟩;rcases D with⟨f1,f8,f3⟩|D
    .exact m3 (b8.bF.jP.ro N f1 f8 f3)
    cases l with
    |none=>exact D
    |some b6=>
     obtain⟨H,f0,t⟩:=b6;obtain⟨n1,i9⟩:=b4.SL H f0 t A;rcases D with D|D
     .rcases L with L|L|⟨w,d4,d5,L⟩
      .rw[L]at D;cases D
      .rw[L]at D;cases D;omega
      rw[L]at D;cases D;exact i9 ⟨d4,d5⟩
     grind
   obtain⟨a4,b9⟩:=f7 n e T;have L:=(f6 n e a4 T O b9).1 N e5;by_cases b2:f n
   .exact Xi ⟨L,b2,n,f5.le _ _ ⟨g2 n b2,T⟩⟩
   left;refine⟨by rw[L];simp,λD=>?_⟩;refine i6 n e T N e5 b2 ?_;rcases D with D|D
   .exact Xh D
   cases l with
   |none=>exact D.elim
   |some b6=>
    rcases D with D|D
    .grind
    exact Xi (Xi D)
  .left;obtain⟨_,_,_,_,_,_,z⟩:=d0 e (Yj Y);obtain⟨w,n0,d4,d5,z⟩:=z N e5;refine⟨by rw[z];simp,λD=>?_⟩;rcases D with⟨f1,f8,f3⟩|D
   .have:=b8.bF.jP.ro N f1 f8 f3
    grind
   cases l with
   |none=>exact D
   |some b6=>
    obtain⟨H,f0,t⟩:=b6;obtain⟨n1,i9⟩:=b4.SL H f0 t A;rcases D with D|D
    .grind
    grind) (by
  rintro n e(T|⟨t,rfl,Y⟩) O
  .have b2:=Classical.byContradiction λb2=>i6 n e T (.obj e) (Xh A) b2 (Xh ⟨e,Xh A,O⟩);exact b8.bg.low.2 n e (f5.le _ _ ⟨g2 n b2,T⟩) O
  obtain⟨_,_,_,_,_,_,z⟩:=d0 e (Yj Y);obtain⟨w,n0,d4,d5,z⟩:=z (.obj e) (Xh A);have:=b8.bF.jP.ro (.obj e) e (Xh A) O
  grind)
 refine⟨_,_,b5,Ah b8 A rfl m7 (holds_of (e:=b) k4 λn e a8 T=>?_),h3,l2,λn a8 m1=>?_,b3,i,by grind,i2,l0,λt Y=>?_⟩
 ·
  rcases f5.fresh n e T with z|z
  .exact Xh z.2
  rw[dh]at z;obtain⟨a4,d6,_⟩:=d1.cO n a8
  grind
 .rw[g3,Xx m1,NJ n a8];exact g8.heap n
 obtain⟨c6,d6,d7,_⟩:=g5 t Y;have h9:∀j,j<10->b3[t*10+j]?=C (a5 (t*10+j)):=λj l6=>i1 _ (by omega);obtain⟨e8,e9⟩:=f9 t Y
 have l9:∃sl,a5 (t*10+8)=sl/\gr (a t).names c.heap.size sl b5:=by
  obtain⟨X,a7,f2,d9,j7⟩:=e1 (t*10+8) (by omega);cases d3:g4 t with
  |none=>obtain⟨e2,g6⟩:=e8 d3;rw[e2]at a7;cases a7;exact⟨_,d9 (.slice _ _),Xh ⟨A,g6⟩⟩
  |some R=>obtain⟨b1,Q,S,Z,e2,g6,n8,n9,o0,p7,o1,_⟩:=e9 R d3;rw[e2]at a7;cases a7;obtain⟨w,d4,d5⟩:=j7 R _ _ A;obtain⟨o4,p9,g9,a1,j4,j5,o2⟩:=h5 w R d4;rw[g6]at j4;cases j4;refine⟨_,d5,Xi ⟨a2+w,b1,a1,S,Z,A,by omega,?_,n8,n9,by rw[j5.1];exact o0,λw e7 m6=>j5.string (o1 w e7 m6)⟩⟩;rw[g3,Xx (by omega),i7,h4];exact Kh o2
 obtain⟨sl,m8,m2⟩:=l9;refine⟨_,cf.mk' c6 m2,λj l6=>?_,?_⟩
 .rw[h9 j (by omega)];have l8:(Value.string (a t).d::((a t).st.map (.int K ·)++[sl])).toArray[j]?=(Value.string (a t).d::((a t).st.map (.int K ·)++[sl]))[j]?:=by simp
  rw[l8];by_cases c9:j<8
  .rw[<-Yp,Zw (by simp[c6];omega),<-d6 j c9];obtain⟨X,a7,f2,d9,_⟩:=e1 (t*10+j) (by omega);rw[a7];have e0:j<(Value.string (a t).d::(a t).st.map (.int K ·)).length:=by simp[c6];omega
   have h0:=d6 j c9;rw[a7,Yy e0]at h0;cases h0
   congr 1
   apply d9;have a3:=aaH e0;rcases XV.1 a3 with a3|a3
   .rw[a3];exact .string _
   obtain⟨j3,_,a9⟩:=YB.1 a3;rw[<-a9];exact .int _ _
  obtain rfl:j=8:=by omega
  rw[m8,<-Yp,YP (by simp[c6])];simp[c6]
 rw[h9 9 (by omega)];obtain⟨X,a7,f2,d9,_⟩:=e1 (t*10+9) (by omega);rw[d7]at a7;cases a7;rw[d9 (f4 t Y)]
end
variable{z:dB}{a:M}{i:Xt}{p:Xe}
section
variable{l:cZ}{e:Set}{d b:E->Prop}{r:Ren}{q n:M}{x t:Xt}{c:dm}{k u o:E}
def KZ(b:E->Prop)(c:E):E->Prop:=λa=>b a\/a=c
def nt(b:E->Prop)(m:Ren)(e d:E):Ren:=λa c=>(b a/\m a c)\/(a=e/\c=d)
noncomputable def dJ(b:E->Prop)(a:M)(p:Xe)(c:Xq):M:={cP b a with heap:=(cP b a).heap.push (.cells #[p] c (0,1))}
def zp(d:E->Prop)(a:M):Prop:=∀b,d b->∀c f e,a.heap[b]?=C (Obj.cells c f e)->¬aT c
theorem xj{e:Xq}{c:E}(d:c<a.heap.size):(dJ b a p e).heap[c]?=(cP b a).heap[c]?:=by
 have:c<(cP b a).heap.size:=by rw[dh];exact d
 show((cP b a).heap.push _)[c]?=_
 grind
theorem AX{c:Xq}:(dJ b a p c).heap[a.heap.size]?=C (Xn #[p] c (0,1)):=by
 show((cP b a).heap.push _)[a.heap.size]?=_
 grind [dh]
theorem JA{a7:E}{T:E}{b3:Xq}{f2:E×E}(l4:i.status=.running)(l6:∀U,stepG P J i U=.spawn x t U #[])(k2:t.status=.running)
 (b1:aV h m a n)(b4:Base P m)(e1:jw d a)(f5:jw b a)(g3:∀i,(0<i\/i=P.globals.size)->i<=P.globals.size->d i/\b i)(q5:zp (λg=>b g/\¬d g) a)
 (d0:cV d (λg v=>d g/\m g v) (cP d a) r q)(k8:c.D.gh=Fe m k n)(k6:c.D.g0=C n)(e2:c.D.gb=k)(xn:m u k)(l0:¬d u)(k9:¬b u)(g8:∀g,f g->d g)(j2:kg l f)
 (i9:q.heap[o]?=C (Xn #[Xd K a7] b3 f2))(p6:f2.1=f2.2)(f4:r o T)(j0:¬d o)(l7:c.wt=0)(q6:c.pend=1)(q8:c.vb=c.hi-c.lo)(k5:c.hi+1<c.lo+1000000)
 (l3:RA m)
 (l5:jx P e (KZ b a.heap.size) (tW c.D) (kV P c.D (c.fin c.hi) c.hi e (KZ b a.heap.size) s []) (nt b m a.heap.size T) (dJ b a (Xd K a7) b3) t)
 (next:sW P l (C {c with pend:=0,vb:=c.vb+1,hi:=c.hi+1}) z h d (λg v=>d g/\m g v) (cP d a) x):sW P l (C c) z h d r q i:=by
 classical
 intro a0 Q U sl c0 a8 a1;refine kW (s:=aj P l) l4 (λa0 Q U sl c0 a8 a1=>?_) a0 Q U sl c0 a8 a1;have hrel:=a1.bg.rel;simp only at hrel;have n7:=a1.bg.dv;simp only at n7;obtain⟨_,_,j7,_⟩:=a1.ok;have b7:=j7.wg c A;have p8:c.hi=Q.size:=b7.tT.2.2.1
 have e3:∀g v,m g v->v≠k->(∀w,az w v->a8 w=.ro)/\∃W,n.heap[v]?=C W/\Bf W U v:=λg v N d6=>by obtain⟨W,b2,_,b0,_⟩:=b1.obj g v N;obtain⟨q1,d3⟩:=b7.gh.2 v b2 (by rw[k8];exact⟨⟨g,N⟩,d6,b0⟩);simp_all
 have g7:U.os=n.os:=b7.gh.1 n k6;have d7:∀{g v:E},b g->m g v->v≠k:=λL N a2=>k9 ((b1.inj _ _ _ _ N xn).2 a2▸L);have g5:∀{g v:E},d g->m g v->v≠k:=λL N a2=>l0 ((b1.inj _ _ _ _ N xn).2 a2▸L)
 have e0:∀w,az w T->a8 w=.iM 0:=λw O=>by grind
 have h7:∀{g v:E},m g v->v≠k->v≠T:=λN d6 a2=>by have H:=(e3 _ _ N d6).1 (.obj T) (a2▸Xh A);rw[e0 _ (.inl A)]at H;cases H
 have e7:T≠k:=λa2=>by have H:=e0 (.obj T) (Xh A);have R:=b7.zQ;simp_all
 have p2:a.heap.size<=o:=by
  rcases d0.fresh _ _ f4 with D|D
  .exact absurd D.1 j0
  simp_all [dh]
 have p7:P.globals.size<a.heap.size:=by
  obtain⟨W,_,R,_⟩:=b1.obj _ _ b4.types
  grind
 have p3:P.globals.size<=T:=by have:=(a1.bg.base.2 o T f4).2;omega
 let d5:Loc->Prop:=λw=>∃X Y,w=.cell ⟨k,X,Y⟩/\c.D.own Q.size X
 let a4:Loc->Own:=λw=>if az w T then .ro else if d5 w then .iM Q.size else a8 w
 have m4:∀w,az w T->a4 w=.ro:=λw O=>XC O
 have m5:∀w,d5 w->a4 w=.iM Q.size:=λw O=>by
  show(if _ then _ else if _ then _ else _)=_
  rw[Xx (λD=>by
   obtain⟨X,Y,rfl,_⟩:=O
   exact e7 (de D (.inr ⟨_,A,A⟩))),XC O]
 have e8:∀w,¬az w T->¬d5 w->a4 w=a8 w:=λw H R=>by grind
 have m6:∀w,d5 w->a8 w=.iM 0:=by
  rintro w⟨X,Y,rfl,a5⟩;rcases b7.KU (.cell ⟨k,X,Y⟩) (by rw[e2];exact Xi ⟨_,A,A⟩)with D|D|⟨y,h8,i2,m0,m1,D,i8,_⟩
  .cases D
  .exact D
  cases D;have:=b7.apart _ _ _ i8 a5;omega
 have h9:∀g v,m g v->v≠k->∀w,az w v->a4 w=.ro:=λg v N d6 w O=>by grind
 have j3:iU a8 a4:=by
  intro w c6
  grind
 have j5:∀w,az w c.D.Wg->a4 w=a8 w:=λw O=>e8 w (λD=>by
  have H:=e0 w D
  rw[b7.rJ w O]at H;cases H) (λe4=>by
  have H:=m6 w e4
  rw[b7.rJ w O]at H;cases H)
 obtain⟨Tr,p4⟩:=l5.tree;have m3:∀g,d g->q.heap[g]?=(cP d a).heap[g]?:=d0.keep
 have n1:aV h (λg v=>d g/\m g v) (cP d a) U:={
  inj:=λg d4 v f0 H R=>b1.inj g d4 v f0 H.2 R.2
  os:=by obtain⟨Z,b0⟩:a.os=n.os/\U.os=n.os:=⟨b1.os,g7⟩;show a.os=U.os;rw[Z,b0]
  obj:=by
   rintro g v⟨S,N⟩;obtain⟨W,b2,Z,b0,c8⟩:=hrel.obj g v (d0.le _ _ ⟨S,N⟩);rw[m3 g S]at Z;refine⟨W,b2,Z,b0,?_⟩
   have b5:∀g v,d g->r g v->d g/\m g v:=λg v L j6=>⟨L,by
    rcases d0.fresh g v j6 with D|D
    .exact D.2
    rw[dh]at D
    rcases e1 g L with⟨_,_,_,g0,_⟩|⟨_,_,g0,_⟩<;>(simp_all)⟩
   rcases e1 g S with⟨a9,r9,o8,q1,d3,m7,i0,_⟩|⟨o5,d2,q1,d3⟩
   .rw[dW S q1]at Z;cases Z;cases c8 with
    |cells n8 d9 c9=>
     refine .cells _ ⟨d9.1,λy a3 i4 h2 e6=>?_⟩ c9;have h4:=h2;rw[Yk]at h4;obtain⟨i5,q9,l9⟩:=YE.1 h4;refine an.Ts b5 ?_ (d9.2 y a3 i4 h2 e6);rw[<-l9];by_cases a5:aR d i5
     .simp_all [cT]
     rw[px a5];exact .bS
   rw[nz S,q1]at Z;cases Z;cases c8 with
   |map d2 O=>exact .map d2 (Cs O λa0 g1 a2 e9=>⟨an.Ts b5 (d3 a0 a2).1 e9.1,an.Ts b5 (d3 a0 a2).2 e9.2.1,e9.2.2⟩)}
 have n5:∀a6,oY a6->aG P (c0++a6) U a4 0 ⟨h,λg v=>d g/\m g v,cP d a,d,C {c with pend:=0,vb:=c.vb+1,hi:=c.hi+1}⟩:=λa6 d8=>{
  base:=kX b4 λi H R=>(g3 i H R).1
  low:=⟨a1.bg.low.1,λg v N b4=>a1.bg.low.2 g v (d0.le _ _ N) b4⟩
  rel:=n1
  cO:=jJ e1
  dv:=λg v N w O=>Xi ⟨h9 g v N.2 (g5 N.1 N.2) w O,N.1⟩
  dV:=λg v N w O a5=>(a1.bF.row w (bQ O) ((e3 g v N.2 (g5 N.1 N.2)).1 w O)).app λf8 f7 a3 S _ _=>(d8.touch f8 f7 a3 S).elim}
 have f3:∃f1,U.heap[T]?=C (Xn #[Xd K a7] b3 f1)/\f1.1=f1.2:=by
  obtain⟨W,b2,Z,b0,c8⟩:=hrel.obj _ _ f4;rw[i9]at Z;cases Z;cases c8 with
  |cells n8 d9 c9=>
   rename_i c2 o6;have g9:=d9.1;simp at g9;have S:=d9.2 0 (Xd K a7) c2[0] (by simp) (XP (by omega));have k0:c2=#[Xd K a7]:=by
    apply aaj (by simp[g9]);intro y b8 f6;obtain rfl:y=0:=by omega
    simp only[(Plain.int K a7).eq S];rfl
   rw[k0]at b0;refine⟨_,b0,?_⟩;rcases c9 with c9|⟨c9,_⟩
   .exact c9
   omega
 obtain⟨o7,f3,k4⟩:=f3
 have n4:∀g v W,b g->m g v->(cP b a).heap[g]?=C W->∃b2,U.heap[v]?=C b2/\gP e (λg v=>b g/\m g v) W b2:=λg v W L N j8=>by obtain⟨r5,r6,i1,m8,m9⟩:=(b1.cP (Sp:=e) f5).obj g v ⟨L,N⟩;rw[j8]at i1;cases i1;obtain⟨_,b2,H,R⟩:=e3 g v N (d7 L N);rw[m8]at H;cases H;exact⟨_,R,m9⟩
 have n2:aV e (nt b m a.heap.size T) (dJ b a (Xd K a7) b3) U:=by
  have d1:=b1.cP (Sp:=e) f5
  have lt:∀{g v:E},b g/\m g v->g<a.heap.size:=λD=>by
   obtain⟨_,_,Z,_⟩:=b1.obj _ _ D.2
   grind
  refine⟨?_,?_,?_⟩
  .rintro g d4 v f0(H|⟨rfl,rfl⟩)(R|⟨rfl,rfl⟩)
   .exact d1.inj g d4 v f0 H R
   .have:=lt H;exact⟨λa0=>by omega,λa0=>absurd a0 (h7 H.2 (d7 H.1 H.2))⟩
   .have:=lt R;exact⟨λa0=>by omega,λa0=>absurd a0.symm (h7 R.2 (d7 R.1 R.2))⟩
   simp
  .rintro g v(H|⟨rfl,rfl⟩)
   .obtain⟨W,_,Z,_⟩:=d1.obj g v H;obtain⟨b2,b0,c8⟩:=n4 g v W H.1 H.2 Z;exact⟨W,b2,by grind [xj],b0,c8.mono λa3 i5 D=>Xh D⟩
   exact⟨_,_,AX,f3,.cells _ ⟨A,λy a3 i4 S e5=>by
    rw[S]at e5;cases e5;have:y=0:=by grind
    subst this;simp at S
    rw[<-S];exact .int _ _⟩ (Xh k4)⟩
  show a.os=U.os;rw[b1.os,g7]
 have n3:my e (KZ b a.heap.size) (dJ b a (Xd K a7) b3):=by
  rintro g(L|rfl)
  .obtain⟨W,H,R⟩:=jJ (h:=e) f5 g L
   grind [dh,xj]
  exact⟨_,AX,A,by simp,by rintro⟨d2,c7,b5⟩;grind⟩
 have n6:∀a6,oY a6->(∀d2,Knows c0 0 d2->Knows (c0++a6) Q.size d2)->aG P (c0++a6) U a4 Q.size ⟨e,nt b m a.heap.size T,dJ b a (Xd K a7) b3,KZ b a.heap.size,F⟩:=λa6 d8 b5=>{
  base:=⟨λi H R=>Xh ⟨(g3 i H R).2,b4.1 i H R⟩,by
   rintro g v(D|⟨rfl,rfl⟩)
   .exact b4.2 g v D.2
   omega⟩
  low:=⟨a1.bg.low.1,by
   rintro g v(D|⟨rfl,rfl⟩) b4
   .exact l3 g v D.2 b4
   have:=a1.bF.jP.ro (.obj _) _ (Xh A) b4
   rw[e0 _ (.inl A)]at this;cases this⟩
  rel:=n2
  cO:=n3
  dv:=by
   rintro g v(D|⟨rfl,rfl⟩) w O
   .exact Xi ⟨h9 g v D.2 (d7 D.1 D.2) w O,Xh D.1⟩
   exact Xi ⟨m4 w O,Xi A⟩
  dV:=by
   rintro g v N w O a5 y a3 S h3 l8;obtain⟨f8,f7,e5⟩:=ZL S;rcases XU f7 with⟨_,q2⟩|⟨_,l2⟩
   .have e6:touchAt c0 y=C a3:=by simp_all [YM]
    rcases N with D|⟨rfl,rfl⟩
    .exact b5 _ (a1.bF.row w (bQ O) ((e3 g v D.2 (d7 D.1 D.2)).1 w O) y a3 e6 h3 l8)
    exact b5 _ (a1.bF.mine w 0 (bQ O) (e0 w O) y a3 e6 h3)
   exact(d8.touch f8 l2 a3 e5).elim}
 have Y:=vT (h:=l) (m:=l) (sl:=sl) (f:=⟨h,λg v=>d g/\m g v,cP d a,d,C {c with pend:=0,vb:=c.vb+1,hi:=c.hi+1}⟩) (b:=a4) a1 (l6 U) j3
  (a1:=.wk (.work s [] Tr ⟨e,nt b m a.heap.size T,dJ b a (Xd K a7) b3,KZ b a.heap.size,F⟩))
  (λw c6 d6=>by grind)
  n5
  (λa6 d8 b5 k3 q7=>⟨_,A,λf9 d1=>(by cases d1),k2,k3,n6 a6 d8 b5,λf9 d1=>(by cases d1),by simp_all⟩)
  (λo2 p5=>by simp_all)
  (holds_of (e:=a0) j2 λg v L N=>⟨g8 g L,by
    rcases d0.fresh g v N with D|D
    .exact D.2
    rw[dh]at D
    rcases e1 g (g8 g L)with⟨_,_,_,g0,_⟩|⟨_,_,g0,_⟩<;>(simp_all)⟩)
  (λb6 g4 o1 j4=>?_) (Xh A) (λb6 g4 h1=>?_)
 .obtain⟨g2,a6,g1,h5,h6⟩:=Y;exact⟨g2,U,a6,h5,next g1 g2 U sl (c0++a6) a4 h6⟩
 .cases j4;have L:=g4.wg c A;have q3:0<Q.size:=(XN.1 a1.me).1;have old:∀y,y≠Q.size->(if y=Q.size then aF.wk (.work s [] Tr ⟨e,nt b m a.heap.size T,dJ b a (Xd K a7) b3,KZ b a.heap.size,F⟩)else b6 y)=b6 y:=λy b8=>Xx b8
  have h0:(sumTo (Q.size+1) λy=>(if y=Q.size then aF.wk (.work s [] Tr ⟨e,nt b m a.heap.size T,dJ b a (Xd K a7) b3,KZ b a.heap.size,F⟩)else b6 y).cnt)=(sumTo Q.size λy=>(b6 y).cnt)+1:=by
   have Z:∀c7,c7<=Q.size->(sumTo c7 λy=>(if y=Q.size then aF.wk (.work s [] Tr ⟨e,nt b m a.heap.size T,dJ b a (Xd K a7) b3,KZ b a.heap.size,F⟩)else b6 y).cnt)=sumTo c7 λy=>(b6 y).cnt:=by
    intro c7 q4
    induction c7 with
    |zero=>rfl
    |succ c7 m2=>simp only[sumTo];rw[m2 (by omega),Xx (by omega)]
   simp only[sumTo];rw[Z _ (XS _)];rfl
  have k1:∀y X Y,0<y->y<Q.size->c.D.own y X->a4 (.cell ⟨c.D.gb,X,Y⟩)=a8 (.cell ⟨c.D.gb,X,Y⟩):=λy X Y b8 f6 a5=>e8 _ (λD=>e7 (by rw[<-e2];exact de D (Xi ⟨_,A,A⟩))) λ⟨h8,i2,a2,g6⟩=>by cases a2;have:=L.apart _ _ _ a5 g6;omega
  have k7:a4 (.obj c.D.gb)=.void:=by rw[e8 _ (λD=>e7 (by rw[<-e2];exact de D (.inl A))) λ⟨h8,i2,a2,g6⟩=>by cases a2];exact L.zQ
  refine{
   zero:=by simp only[Xx (show¬(0=Q.size)by omega)];exact L.zero
   mode:= ?_
   rJ:=λw O=>by rw[j5 w O];exact L.rJ w O
   zQ:=k7
   own:=λy a3 H R S X Y a5=>?_
   gb:=L.gb
   gv:=L.gv
   KV:= ?_
   ne:=L.ne
   apart:=L.apart
   yt:=k5
   bound:=by rw[h0];exact E.succ_le_succ L.bound
   tT:=⟨L.tT.1,E.le_succ_of_le L.tT.2.1,by simp_all,λy H R=>?_⟩
   Ia:=λy a3 H R S=>?_
   gh:=⟨L.gh.1,λv W j9=>?_⟩
   KU:=λw O=>?_}
  .rw[h0];refine .opn l7 (YA _) (λj p9 q0=>?_) ?_
   .by_cases l1:j=Q.size
    .simp only[XC l1];rfl
    have c6:=L.mode;generalize (sumTo Q.size λy=>(b6 y).cnt)=V at c6;cases c6 with
    |opn g f9 v a9=>grind
    |reg g d4 v a9=>omega
    |last y g v a9 i6 a0 i7=>omega
    |fin g v a9=>omega
    |By g v a9=>omega
   have c6:=L.mode;generalize (sumTo Q.size λy=>(b6 y).cnt)=V at c6⊢
   cases c6 with
   |opn g f9 v a9=>simp_all
   |reg g d4 v a9=>omega
   |last y g v a9 i6 a0 i7=>omega
   |fin g v a9=>omega
   |By g v a9=>omega
  .by_cases b9:y=Q.size
   .grind
   rw[old y b9]at S;rw[k1 y X Y H (by omega) a5];exact L.own y a3 H (by omega) S X Y a5
  .have H:=L.KV
   grind
  .have R:y<c.hi+1:=R;by_cases b9:y=Q.size
   .simp_all
   rw[old y b9];exact L.tT.2.2.2 y H (by omega)
  .by_cases b9:y=Q.size
   .refine⟨by have:=L.tT.2.1;simp_all,by simp_all⟩
   rw[old y b9]at S;obtain⟨h5,h6⟩:=L.Ia y a3 H (by omega) S;simp_all
  .obtain⟨q1,d3⟩:=L.gh.2 v W j9
   grind
  have j1:¬az w T:=λD=>e7 ((de D O).trans e2);by_cases e4:d5 w
  .refine Xi (Xi ⟨Q.size,?_⟩);obtain⟨X,Y,a2,a5⟩:=e4;exact⟨X,Y,by have:=L.tT.2.1;simp_all,by simp_all,by simp_all,a5,m5 w ⟨X,Y,a2,a5⟩⟩
  rw[e8 w j1 e4];rcases L.KU w O with D|D|⟨y,X,Y,m0,m1,r0,r1,r2⟩
  .exact Xh D
  .exact Xi (Xh D)
  grind
 cases l with
 |none=>
  intro y b8 f6;simp only[aa2,Yr]at f6;by_cases b9:y=Q.size
  .simp only[XC b9];rfl
  simp only[Xx b9];exact h1 y b8 (by omega)
 |some a3=>obtain⟨q1,d3,m7,i0⟩:=h1;exact⟨q1,by simp;omega,by grind,i0⟩
end
end
variable{h:Set}{c:M}{l:Xr}{p:Xg Xr}{n:E}{e:Oper}{g:Xu}
section
variable{main:Xo}
variable{s:Rt}
def uH(a:Xe->M->Prop):Result Next->Prop
 |.ok (.value b) c=>a b c
 |_=>False
theorem Qg(N:Good P h)(Y:h.fr l.fn=J)(a0:l.kind≠.early)(Q:D[n]?=C e)(a6:Region.wanted e (yielded D d.tmps)=J)(a4:jd P h.fn h.bi h.bZ e.op=J)(u:Inv P h f m c)(R:ar h m s d g)
 {H:Xe->M->Prop}(b:∀S,uH H ((execOp d.eval e).run P {c with tape:=S}))(a1:∀t T,H t T->∀a,f a->T.heap[a]?=c.heap[a]?)(O:aV h m c q):
 ∃w t z i x new y,stepG P main (rg (l.at g (Xv D (n::rest)::r)) p) q=.go (rg (l.at (g.put e.dst z) (Xv D rest::r)) p) x (kept y).toArray/\(execOp g.eval e).runT P q #[]=(.ok (.value z) x,y.toArray)/\
  bD h m w c i q x new y/\(∀a,f a->i.heap[a]?=c.heap[a]?)/\(∀v∈new,v.write=J->∀d,f d->v.loc≠.obj d/\∀a,v.loc=.cell a->a.block≠d)/\Inv P h f w i/\cV f m c w i/\an h w t z/\Tp (H t) i:=by
 obtain⟨b1,U⟩:=g;have a7:Region.wanted e (yielded D b1)=J:=by rw[<-ga R.tmps];exact a6
 have a3:(D[n]?).bind (·.dst)=e.dst:=by rw[Q];rfl
 obtain⟨w,b3,b4,i,x,new,y,v,a2,o,k⟩:=Aq N u.base (lF u.base R.tmps d.defers U) a4 (y:=uH H) (by intro b c Z;exact Z) (.all b) O;have X:=u.base.jS O o;cases a2 with
 |@value t z a5=>obtain⟨S,W⟩:=k.one;obtain⟨L,b0⟩:=iE u.cO u.iQ o ⟨i,.refl _,λa a8=>a1 t _ W a a8⟩;refine⟨w,t,z,i,x,new,y,?_,v,o,L,b0,u.keep X L,⟨o.le,λa b2 a9=>(o.fresh a b2 a9).imp id (·.1),o.size,L⟩,a5,k⟩;rw[stepG_value N Y a0 o.lz Q a7 (.inl v),YK,a3]
 |skip=>exact(k.one).elim λ_ b=>b.elim
 |defer=>exact(k.one).elim λ_ b=>b.elim
 |enter=>exact(k.one).elim λ_ b=>b.elim
 |round=>exact(k.one).elim λ_ b=>b.elim
 |recover=>exact(k.one).elim λ_ b=>b.elim
end
section
variable[Inhabited aM]
theorem iW.tape{b:PD}:∀(a:E)(i:Ren)(g:M)(t:E->Question->E)(c:Xt),iW P b h f a i {g with tape:=t} c->iW P b h f a i g c
 |0,_,_,_,_,d=>d
 |a+1,i,g,t,c,d=>by obtain⟨l,q,r,m,n,o,p⟩:=d;exact⟨l,q,r,λk e=>m k ⟨e.inj,e.obj,e.os⟩,n,o,(yw P h f (IQ b) (iW P b h f a) (iW.tape a)).tape p⟩
def fO(P:Xy)(a:PD)(h:Set)(f:E->Prop)(b:E):Goal P h Xf f:=yw P h f (IQ a) (iW P a h f b) (iW.tape b)
end
variable{a:Xr}{c:Xg Xr}
section
variable{main:Xo}{f:Xk Xe}{d:Xg Deferred}{e:Xg Item}
def cC(a:Xk Xq)(d:Xq)(c:E)(b:Xk Xo):Deferred:={target:=.builtin .close a d b,args:=#[.chan (C c)]}
theorem EK{g:Xk Xq}{h:Xq}{i:Xk Xo}{b l n m:E}{k:Xk Xe}{o:Xo}(H:∀fn,P.funcs[a.fn]?=C fn->fn.norace=Xf)(r:q.heap[b]?=C (.chan l k Xf n m o)):
 stepG P main (rg {a.at ⟨f,cC g h b i::d⟩ e with mode:=.returning} c) q=.go (rg {a.at ⟨f,d⟩ e with mode:=.returning} c) (q.setChan b l k J n m o) #[⟨.obj b,Xf,J⟩,⟨.obj b,J,J⟩]:=by
 have t:(invoke (cC g h b i).target (cC g h b i).args)=(do pure (Next.value (<-Builtin.close_ g h #[.chan (C b)])):Xz Next):=A
 have p:(invoke (cC g h b i).target (cC g h b i).args).runT P q #[]=(.ok (.value (.tuple #[])) (q.setChan b l k J n m o),#[⟨.obj b,Xf,J⟩,⟨.obj b,J,J⟩]):=by
  rw[t];have s:=run_close_open (P:=P) (w:=q) g h r;have z:=events_close_open (P:=P) (w:=q) (es:=#[]) g h r;refine V_ ?_ ?_
  .simp[s,M.setChan]
  simp_all
 have w:seen P a.fn #[(⟨.obj b,Xf,J⟩:XF),⟨.obj b,J,J⟩]=#[⟨.obj b,Xf,J⟩,⟨.obj b,J,J⟩]:=by simp[seen]
 have u:(invoke (.builtin .close g h i) #[.chan (C b)]).run P q=.ok (.value (.tuple #[])) (q.setChan b l k J n m o):=by have:=YU Prod.fst p;rw[aaT]at this;exact this
 have v:(invoke (.builtin .close g h i) #[.chan (C b)]).events P q #[]=#[⟨.obj b,Xf,J⟩,⟨.obj b,J,J⟩]:=YU Prod.snd p;rw[ia (by simp)];simp[unwind,callDeferred,Frame.at,cC,u,v,w,GStep.after,rg]
end
section
variable{main:Xo}{c:Xk Xe}{d:Xg Item}
def dx(P:Xy):Xr:={(default:Xr)with fn:=P.funcs.size,defers:=[],mode:=.panicking [goexitEntry]}
theorem vf{b:XI}{fn:Func}{d:XG}{a c:Xk Xe}(g:P.funcs[b]?=C fn)(h:(fn.name== "runtime.NumGoroutine")=Xf)(f:fn.body=C d):
 stepG P main (born P {target:=.fn (.func b) c,args:=a}) q=.go (rg (Frame.enter P b (a++c) .deferred) [dx P]) q:=by
 have e:¬fn.name= "runtime.NumGoroutine":=by simp_all
 simp[born,stepG,unwind,callDeferred,invoke,callFunc,g,e,f,GStep.after,aX,rg,dx]
theorem yj{l:Xg Deferred}{fn:Func}(k:a.kind=.deferred)(i:P.funcs[a.fn]?=C fn)(e:fn.results=#[]):QuitsD P 2 0 (rg {a.at ⟨c,[]⟩ d with mode:=.returning} [dx P]):=by
 refine .ctl A (g':=rg (dx P) []) (λb=>?_) (.ctl A (g':={rg (dx P) []with status:=.finished}) (λb=>?_) ⟨A,A⟩)
 .have f:(results fn c).run P b=.ok (.tuple #[]) b:=by simp[results,e]
  have g:(results fn c).events P b #[]=#[]:=by simp[results,e]
  simp[rg,stepG,unwind,doReturn,Frame.at,k,i,f,g,seen,GStep.after,dx,goexitEntry]
 simp[rg,stepG,unwind,dx,Xr.catches,goexitEntry];rfl
end
variable{c:M}
theorem FZ{b:PD}{e:Xk Xe}{d:Xg Item}{g:Xk Xq}{l:Xq}{i:Xk Xo}{fn:Func}
 (p:a.kind=.deferred)(o:P.funcs[a.fn]?=C fn)(q:fn.results=#[])(y:fn.norace=Xf)(r:mayWake P (rg {a.at ⟨e,[cC g l b.rc i]⟩ d with mode:=.returning} [dx P])=J):
 iW P b h f 0 m c (rg {a.at ⟨e,[cC g l b.rc i]⟩ d with mode:=.returning} [dx P]):=
 ⟨A,r,rg {a.at ⟨e,[]⟩ d with mode:=.returning} [dx P],A,λs u t D z H n=>EK (λw x=>by simp_all) n,2,yj (l:=[]) p o q⟩
variable{c:Xr}{a:Xu}{f:Xg Item}{e:Xg Xr}{g:E}{d:Oper}
section
variable{main:Xo}
theorem Gu{i h:XJ}{b:E}(m:D[g]?=C d)(o:Region.wanted d (yielded D a.tmps)=J)(l:c.kind≠.early)(r:d.op=.send i h)(s:a.eval i=.chan (C b)):
 stepG P main (rg (c.at a (Xv D (g::rest)::f)) e) q=.comm (rg (c.at a (Xv D (g::rest)::f)) e) #[scase b (a.eval h) (.tuple #[])] J .send q #[]:=by
 have n:(execOp a.eval d).run P q=.ok (.comm #[scase b (a.eval h) (.tuple #[])] J .send) q:=by simp_all [execOp,scase]
 have k:(execOp a.eval d).events P q #[]=#[]:=by simp_all [execOp]
 have:=stepG_comm (P:=P) (main:=main) (b:=c) (a:=a) (k:=f) (cs:=e) (rest:=rest) m o l n;unfold listed at this;rw[k,seen_none]at this;exact this
end
variable{f:E->Prop}{d:M}{e:Xr}{g:Xg Item}{l:Xg Xr}{r:Xu}{c:Xu}{u:E}{p:Oper}
section
variable[Inhabited aM]
def Kc(D:Xk Oper):E->Xk Xo->Xg (Xg E)
 |0,_=>[[]]
 |a+1,listed=>match Region.ready .any D listed with
  |[]=>[[]]
  |b::c=>(b::c).flatMap λu=>(Kc D a (listed.setIfInBounds u J)).map (u::·)
theorem vR(D:Xk Oper):∀(a b:E)(listed:Xk Xo),Region.linearise.go .any D a b listed []∈Kc D a listed:=by
 intro a
 induction a with
 |zero=>simp[Region.linearise.go,Kc]
 |succ a c=>
  intro b listed
  change (match(Region.ready .any D listed)[b%(Region.ready .any D listed).length]? with
   |some u=>Region.linearise.go .any D a (b/(Region.ready .any D listed).length) (listed.setIfInBounds u J) [u]
   |none=>[].reverse)∈_
  unfold Kc
  grind [Nat.mod_lt,linearise_go_acc]
theorem xV{s:Xo}(b:s=J)(D:Xk Oper)(a:E):Region.schedule s D a∈Kc D D.size (Array.replicate D.size Xf):=by subst b;exact vR D D.size a _
section
variable{main:Xo}{n:Goal P h main f}
variable{t:Rt}
theorem rF{main:Xo}{a:XJ}{i:E}{b:Xk Xq}(y:D[u]?=C p)(L:Region.wanted p (yielded D c.tmps)=J)(T:e.kind≠.early)
 (z:p.op=.defer {callee:=.builtin .close,args:=#[a],argTypes:=b})(hd:p.dst=F)(O:c.eval a=.chan (C i)):
 ∃k,∀q,stepG P main (rg (e.at c (Xv D (u::rest)::g)) l) q=.go (rg (e.at ⟨c.tmps,cC b p.type i k::c.defers⟩ (Xv D rest::g)) l) q:=by
 refine⟨#[a].map λ|.const _=>J|_=>Xf,λq=>?_⟩
 have H:(execOp c.eval p).run P q=.ok (.defer (cC b p.type i (#[a].map λ|.const _=>J|_=>Xf))) q:=by simp only[z,resolve,cC,go_sem];simp[O];rfl
 have v:(execOp c.eval p).events P q #[]=#[]:=by simp_all [execOp,resolve]
 have w:(e.at ⟨c.tmps,cC b p.type i (#[a].map λ|.const _=>J|_=>Xf)::c.defers⟩ (Xv D (u::rest)::g)).finish I=e.at (Act.put ⟨c.tmps,cC b p.type i (#[a].map λ|.const _=>J|_=>Xf)::c.defers⟩ p.dst I) (Xv D rest::g):=by grind [Frame.finish_at]
 have x:(e.kind==CallKind.early)=Xf:=by simp_all
 have o:e.at ⟨c.tmps,cC b p.type i (#[a].map λ|.const _=>J|_=>Xf)::c.defers⟩ (Xv D rest::g)=(e.at ⟨c.tmps,cC b p.type i (#[a].map λ|.const _=>J|_=>Xf)::c.defers⟩ (Xv D (u::rest)::g)).finish I:=by rw[w,hd];rfl
 rw[o,show rg (e.at c (Xv D (u::rest)::g)) l=Go.Conc.G (e.at c (Xv D (u::rest)::g)) l from A,stepG_oper y L];simp[stepG.apply,H,v,Go.Conc.G,Frame.at,x,GStep.after,seen_none,rg]
end
def lT(P:Xy)(h:Set)(a:Xg E)(D:Xk Oper):Xo:=D.toList.all λp=>jd P h.fn h.bi h.bZ p.op&&a.all λg=>p.dst !=C g
theorem nf{t:Rt}{a:Xg E}(c:t.kn.map (·.1)=a)(b:lT P h a D=J):oE P h t D=J:=by grind [lT,oE,Rt.free]
section
variable{main:Xo}{n:Goal P h main f}
variable{t:Rt}
theorem mI(m:Good P h)(o:h.fr e.fn=J)(p:e.kind≠.early){c:Xg Oper}(s:oE P h t c.toArray=J){id:E}{g:Xu->M->Prop}
 (u:∀k,wpList P c.toArray (eP g) c r {d with tape:=k})(q:∀b a,g b a->∀i,f i->a.heap[i]?=d.heap[i]?)(next:∀b a,g b a->N .normal b a):CW n e t l (.region id c.toArray Xf) N r d:=
 vq m o p s (λk=>by simp_all [W_,wpOps_eq_wpList]) q next
theorem MJ{v:XG}{o:Xu->M->Prop}(L:CW n e t l v (eP o) r d)(x:Inv P h f m d)(O:ar h m t r c)
 (next:∀b i k a,Inv P h f b a->cV f m d b a->ar h b t i k->o i a->n.G b a (rg (e.at k g) l)):n.G m d (rg (e.at c (.code v::g)) l):=
 L m g c x O λz b i k a y H Q w=>by
   cases z with
   |normal=>exact next b i k a y H Q w
   |_=>exact w.elim
theorem bz{a b:XG}(f:n.G m d (rg (e.at c (.code a::.code b::g)) l)):n.G m d (rg (e.at c (.code (.seq a b)::g)) l):=
 n.pure A rfl (λq=>by rfl) f
theorem ie{id:E}{a:XG}(b:n.G m d (rg (e.at c (.code a::.inBlock id::g)) l)):n.G m d (rg (e.at c (.code (.block id a)::g)) l):=
 n.pure A rfl (λq=>by rfl) b
theorem BU{id:E}(a:n.G m d (rg (e.at c g) l)):n.G m d (rg (e.at c (.inBlock id::g)) l):=
 n.pure A rfl (λq=>by rfl) a
theorem MK{a:XG}(b:n.G m d (rg (e.at c (.code a::.inLoop a::g)) l)):n.G m d (rg (e.at c (.code (.loop a)::g)) l):=
 n.pure A rfl (λq=>by rfl) b
theorem Hk{a:XG}(b:n.G m d (rg (e.at c (.code a::.inLoop a::g)) l)):n.G m d (rg (e.at c (.inLoop a::g)) l):=
 n.pure A rfl (λq=>by rfl) b
theorem sq(a:n.G m d (rg (e.at c g) l)):n.G m d (rg (e.at c (.code .skip::g)) l):=
 n.pure A rfl (λq=>by rfl) a
theorem sb{id:E}{a:Xg Item}(i:exitTo id g=C a)(b:n.G m d (rg (e.at c a) l)):n.G m d (rg (e.at c (.code (.exit id)::g)) l):=
 n.pure A rfl (λq=>by rw[bu A];simp[stepG.exec,Frame.at,rg,i]) b
theorem iO{a:XJ}{b i:XG}{k:Xo}(v:c.eval a=.bool k)(o:n.G m d (rg (e.at c (.code (if k then b else i)::g)) l)):n.G m d (rg (e.at c (.code (.cond a b i)::g)) l):=
 n.pure A rfl (λq=>by
  have w:=Xr.eval_at e c (.code (.cond a b i)::g) a;rw[bu A]
  simp_all [stepG.exec,Frame.at,rg]) o
theorem iP{a:XJ}{d:Xo}(e:Base P m)(i:ar h m t r c)(g:du P h.fn a=J)(f:r.eval a=.bool d):c.eval a=.bool d:=by have b:=lF e i.tmps r.defers c.defers a g;rw[f]at b;generalize c.eval a=k at b;cases b;rfl
theorem eA{id:E}(a:n.G m d (rg (e.at c (Xv D (Xg.range D.size)::g)) l)):n.G m d (rg (e.at c (.code (.region id D Xf)::g)) l):=
 n.pure A rfl (λq=>by rfl) a
theorem bP(a:n.G m d (rg (e.at c g) l)):n.G m d (rg (e.at c (Xv D []::g)) l):=
 n.pure A rfl (λq=>iT) a
theorem Sq(x:P.follows .mixedOrders=J){id:E}{i:Xg (Xg E)}(w:Kc D D.size (Array.replicate D.size Xf)=i)(b:∀y∈i,n.G m d (rg (e.at c (Xv D y::g)) l)):n.G m d (rg (e.at c (.code (.region id D J)::g)) l):=by
 refine n.ON A (.step A (λ_ H z v=>xm P h main f (λm d k=>k.status=.running/\n.G m d k) H z v) (λq a=>?_) (λ_ _ _ _ b=>b))
 have o:stepG P main (rg (e.at c (.code (.region id D J)::g)) l) q=.go (rg (e.at c (.inRegion D (Region.schedule (P.follows .mixedOrders) D (q.tape q.drawn (.order e.fn id)))::g)) l) {q with drawn:=q.drawn+1}:=by rfl
 refine⟨_,m,d,_,[],[],o,?_,λ_ _=>rfl,by simp,A,.stop ⟨A,b _ (w▸xV x D _)⟩⟩;exact{bD.refl a with rel:=⟨a.inj,a.obj,a.os⟩}
end
section
variable{main:Xo}
variable{t:Rt}
theorem pD(O:Good P h)(a0:h.fr e.fn=J)(a2:e.kind≠.early)(a4:D[u]?=C p)(a9:Region.wanted p (yielded D r.tmps)=J)(a5:jd P h.fn h.bi h.bZ p.op=J)(Z:t.free p.dst=J)(Q:Inv P h f m d)(y:ar h m t r c)
 (hd:p.dst=C j){H V:Xe}(a3:∀z,uH (λv L=>v=H/\L.heap=d.heap) ((execOp r.eval p).run P {d with tape:=z}))(a6:(execOp c.eval p).run P q=.ok (.value V) q)(b4:j<c.tmps.size)(Y:aV h m d q):
 ∃i a new k,stepG P main (rg (e.at c (Xv D (u::rest)::g)) l) q=.go (rg (e.at (c.put p.dst V) (Xv D rest::g)) l) q (kept k).toArray/\
  bD h m i d a q q new k/\(∀b,f b->a.heap[b]?=d.heap[b]?)/\(∀o∈new,o.write=J->∀r,f r->o.loc≠.obj r/\∀b,o.loc=.cell b->b.block≠r)/\Inv P h f i a/\cV f m d i a/\a.heap=d.heap/\ar h i ⟨t.d0,(j,V)::t.kn⟩ (r.put p.dst H) (c.put p.dst V):=by
 obtain⟨i,v,b3,a,S,new,k,T,U,b2,b0,b1,R,w,a8,X⟩:=Qg (main:=main) (r:=g) (p:=l) (rest:=rest) O a0 a2 a4 a9 a5 Q y a3 (λv L W b _=>by rw[W.2]) Y;have x:(execOp c.eval p).run P q=.ok (.value b3) S:=by rw[<-aaT P _ q #[],U]
 rw[a6]at x;cases x;obtain⟨z,a7,a1⟩:=X.one;subst a7;refine⟨i,a,new,k,T,b2,b0,b1,R,w,a1,((y.mono w.le).put p.dst Z a8).more ?_⟩;simp_all [Act.put]
theorem NP{a:PD}{t:Rt}(H:Good P h)(W:h.fr e.fn=J)(Z:e.kind≠.early)(a1:D[u]?=C p)(a4:Region.wanted p (yielded D r.tmps)=J)(a2:jd P h.fn h.bi h.bZ p.op=J)(U:t.free p.dst=J)(L:Inv P h f m d)(w:ar h m t r c)
 (hd:p.dst=C j){z:Xe}(a0:∀a8,uH (λb0 b1=>b0=z/\b1.heap=d.heap) ((execOp r.eval p).run P {d with tape:=a8}))(a3:∀q o k,q.heap[a.bx]?=C (Xn #[.chan (C a.rc)] o k)->(execOp c.eval p).run P q=.ok (.value (.chan (C a.rc))) q)(Y:j<r.tmps.size)
 (next:∀i v b,Inv P h f i b->cV f m d i b->b.heap=d.heap->ar h i ⟨t.d0,(j,.chan (C a.rc))::t.kn⟩ (r.put (C j) z) v->(fO P a h f s).G i b (rg (e.at v (Xv D rest::g)) l)):(fO P a h f s).G m d (rg (e.at c (Xv D (u::rest)::g)) l):=by
 refine wM A λq S R=>?_;obtain⟨o,k,T⟩:=R;obtain⟨i,b,new,a7,y,a9,a5,a6,O,Q,X,x⟩:=pD (main:=Xf) (g:=g) (l:=l) (rest:=rest) H W Z a1 a4 a2 U L w hd a0 (a3 q o k T) (by rw[<-w.tmps.1];exact Y) S;rw[hd]at x y;exact⟨_,i,b,q,new,a7,y,a9,a5,a6,A,next _ _ _ O Q X x⟩
theorem ar.Mx{e:Xg (E×Xe)}{b:Deferred}(a:ar h m ⟨[],e⟩ r c)(hd:r.defers=[]):ar h m ⟨[b],e⟩ r ⟨c.tmps,b::c.defers⟩:=by obtain⟨f,g,d⟩:=a.defers;rw[hd]at d;cases d;refine⟨a.tmps,⟨[],?_,by rw[hd];exact .nil⟩,a.kn⟩;simp_all
theorem xD{n:Goal P h main f}{q:XJ}{o:E}{b:Xk Xq}{k:Xg (E×Xe)}(v:e.kind≠.early)(w:D[u]?=C p)(z:Region.wanted p (yielded D c.tmps)=J)
 (x:p.op=.defer {callee:=.builtin .close,args:=#[q],argTypes:=b})(hd:p.dst=F)(H:c.eval q=.chan (C o))(y:ar h m ⟨[],k⟩ r c)(t:r.defers=[])
 (next:∀a i,ar h m ⟨[cC b p.type o a],k⟩ r i->n.G m d (rg (e.at i (Xv D rest::g)) l)):n.G m d (rg (e.at c (Xv D (u::rest)::g)) l):=by
 obtain⟨a,s⟩:=rF (P:=P) (main:=main) (g:=g) (l:=l) (rest:=rest) w z v x hd H;exact Goal.pure _ A rfl s (next a _ (y.Mx t))
theorem bT{n:Goal P h main f}{t:Rt}(z:Good P h)(O:h.fr e.fn=J)(Q:e.kind≠.early){k:Xg Oper}{y:Xg E}(S:t.kn.map (·.1)=y)(T:lT P h y k.toArray=J){id:E}(H:Inv P h f m d)(U:ar h m t r c)(v:Xu->M->Prop)
 (L:∀b:M,b.heap=d.heap->b.drawn=d.drawn->b.os=d.os->b.output=d.output->wpList P k.toArray (eP v) k r b)(R:∀i a,v i a->∀w,f w->a.heap[w]?=d.heap[w]?)
 (next:∀o i x a,Inv P h f o a->cV f m d o a->ar h o t i x->v i a->n.G o a (rg (e.at x g) l)):n.G m d (rg (e.at c (.code (.region id k.toArray Xf)::g)) l):=
 MJ (mI z O Q (nf S T) (λX=>L _ A rfl rfl rfl) R λ_ _ W=>W) H U next
theorem Kj{i:PD}{a:XG}(k:E->Ren->M->Xu->Prop)
 (round:∀s,(∀m d c,k s m d c->(fO P i h f s).G m d (rg (e.at c (.inLoop a::g)) l))->∀m d c,k (s+1) m d c->(fO P i h f (s+1)).G m d (rg (e.at c (.code a::.inLoop a::g)) l))
 (last:∀m d c,k 0 m d c->(fO P i h f 0).G m d (rg (e.at c (.code a::.inLoop a::g)) l)):∀(b:E) m d c,k b m d c->(fO P i h f b).G m d (rg (e.at c (.code (.loop a)::g)) l):=by
 have p:∀(b:E) m d c,k b m d c->(fO P i h f b).G m d (rg (e.at c (.code a::.inLoop a::g)) l):=by
  intro b
  induction b with
  |zero=>exact last
  |succ s o=>exact round s λm d c n=>Hk (o m d c n)
 simp_all [MK]
def bN(D:Xk Oper)(u:E)(a:Xp Tmp)(b:Op):Prop:=∃p,D[u]?=C p/\p.dst=a/\p.op=b/\p.guard=F
theorem vH{n:Goal P h main f}{t:Rt}{z:Xp Tmp}{R:Op}(W:Good P h)(a1:h.fr e.fn=J)(a2:e.kind≠.early)(a5:bN D u z R)
 {U:Xg E}(a4:t.kn.map (·.1)=U)(a6:jd P h.fn h.bi h.bZ R=J)(b8:(U.all λg=>z !=C g)=J)(X:Inv P h f m d)(a7:ar h m t r c)(o:Xu->M->Prop)
 (L:∀x:M,x.heap=d.heap->x.drawn=d.drawn->x.os=d.os->x.output=d.output->∀T S H,(⟨z,R,T,S,H,F⟩:Oper).wp P r x o (eP λ_ _=>False))(a3:∀b a,o b a->∀y,f y->a.heap[y]?=d.heap[y]?)
 (next:∀i b v a,Inv P h f i a->cV f m d i a->ar h i t b v->o b a->n.G i a (rg (e.at v (Xv D rest::g)) l)):n.G m d (rg (e.at c (Xv D (u::rest)::g)) l):=by
 obtain⟨⟨b6,b9,T,S,H,b7⟩,O,Q,Z,a0⟩:=a5;subst Q Z a0 a4;refine He W n a1 a2 O A a6 (by grind [Rt.free]) X a7 (T:=o) (a1:=λ_ _=>False) (.all λk=>L {d with tape:=k} A rfl rfl rfl T S H) ?_ ?_
 .intro i b v a b5 _ _ _ _ w;obtain⟨k,w⟩:=w.one;exact⟨{a with tape:=k},⟨λr L=>L,λ_ e p O Q=>⟨p,O,Q⟩⟩,λy a8=>a3 _ _ w y a8⟩
 intro i b v a Y q1 a9 b0 b1 b2 b3;obtain⟨k,w⟩:=b3.one;exact n.tape (next i b v {a with tape:=k} (Y.tape k) ⟨q1,a9,b0,b1⟩ b2 w)
end
end
variable{a:E}
theorem GY:∀(b:Xg Xo)(a:E),b[a]?=C Xf->((b.set a J).filter (!·)).length+1=(b.filter (!·)).length
 |[],a,c=>by simp at c
 |d::b,0,c=>by simp_all
 |d::b,a+1,c=>by have:=GY b a (by simpa using c);cases d<;>simp[Xg.set_cons_succ]at this⊢<;>omega
theorem Br:∀(d:Xg Xo),(d.filter (!·)).length=0->∀(a:E)(c:Xo),d[a]?=C c->c=J
 |[],_,a,c,b=>by simp at b
 |f::d,e,a,c,b=>by
  cases f with
  |false=>simp at e
  |true=>
   cases a with
   |zero=>simp at b;exact b
   |succ a=>exact Br d (by simpa using e) a c (by simpa using b)
def Bz(D:Xk Oper):Xo:=(Xg.range D.size).all λa=>((D[a]?).map λc=>c.after.all λb=>!Region.binds .any b||decide (b.on<a)).getD Xf
theorem ls{b:Xk Xo}:a∈Region.ready .any D b↔a<D.size/\b.getD a J=Xf/\∃d,D[a]?=C d/\∀c∈d.after,Region.binds .any c=J->b.getD c.on Xf=J:=by
 unfold Region.ready
 grind [Array.all_eq_true_iff_forall_mem]
theorem LG(hd:Bz D=J){b:Xk Xo}(k:b.size=D.size)(i:Region.ready .any D b=[]):∀a,a<D.size->b.getD a Xf=J:=by
 intro a
 induction a using E.strongRecOn with
 |_ a h=>
  intro c;apply Classical.byContradiction;intro e;have:a∈Region.ready .any D b:=by
   refine ls.2 ⟨c,?_,D[a],XP c,λd g f=>?_⟩
   .rw[Yu,XP (by omega)]at e⊢
    simpa using e
   unfold Bz at hd;rw[Za]at hd;have:=hd a (abe.2 c);rw[XP c]at this;simp only[Zo,Zz]at this;rw[a_]at this;have:=this d g;rw[f]at this;simp at this;exact h d.on this (by omega)
  simp_all
variable{u:Xe}{r:Xk Xe}{n:Xr}{e:Xu}{l:Xg Item}{t:Xg Xr}{p:E}{g:Oper}{s:Xu}
section
variable[Inhabited aM]
def wu:Xe->Xo
 |.agg _|.tuple _=>Xf
 |_=>J
theorem tM{s:Xw}(a:wu u=J){i:Xe}(b:q.cell? s=C i)(c:q.frozen? s=Xf):
 (store s u).runT P q S=(.ok () (q.setCell s u),S.push ⟨.cell s,J,Xf⟩):=by
 unfold store;cases u<;>first|(cases a;done)|(simp[Xz.runT,b,c];rfl)
def xQ(r:Xk Xe)(g:E):Xg Xe->Xk Xe
 |[]=>r
 |u::a=>xQ (r.setIfInBounds g u) (g+1) a
theorem yS:∀(a:Xg Xe)(r:Xk Xe)(g:E),(xQ r g a).size=r.size
 |[],_,_=>rfl
 |u::b,r,g=>by unfold xQ;rw[yS];simp
theorem wD:∀(a:Xg Xe)(r:Xk Xe)(g l:E),l<g\/g+a.length<=l->(xQ r g a)[l]?=r[l]?
 |[],_,_,_,_=>rfl
 |u::b,r,g,l,c=>by unfold xQ;rw[wD b _ _ _ (by grind),Array.getElem?_setIfInBounds,if_neg (by grind)]
theorem Ii:∀(a:Xg Xe)(r:Xk Xe)(g l:E),g+a.length<=r.size->l<a.length->(xQ r g a)[g+l]?=a[l]?
 |[],_,_,_,_,b=>by simp at b
 |u::c,r,g,0,b,_=>by
  grind [xQ,wD]
 |u::c,r,g,l+1,b,d=>by
  unfold xQ;have:=Ii c (r.setIfInBounds g u) (g+1) l (by grind) (by simp_all)
  grind
theorem po{a g:E}{c:Xq}{b:E×E}(d:q.heap[a]?=C (Xn r c b)):
 (q.setCell ⟨a,g,F⟩ u).heap[a]?=C (Xn (r.setIfInBounds g u) c b):=by
 simp[M.setCell,Zf,d]
theorem ml{P:Xy}{a:E}{y:Xq}{i:E×E}(R:i.1=i.2):∀(c:Xg Xe)(g p:E)(q:M)(r:Xk Xe)(S:Xk XF),(∀w∈c,wu w=J)->q.heap[a]?=C (Xn r y i)->g+p+c.length<=r.size->
 ∃b new,(storeCells ⟨a,g,F⟩ c p).runT P q S=(.ok () b,S++new)/\(b.os=q.os/\b.output=q.output)/\b.heap.size=q.heap.size/\(∀n,n≠a->b.heap[n]?=q.heap[n]?)/\b.heap[a]?=C (Xn (xQ r (g+p) c) y i)/\
  ∀o∈new,∃l,l<c.length/\o=⟨.cell ⟨a,g+p+l,F⟩,J,Xf⟩
 |[],g,p,q,r,S,_,v,_=>⟨q,#[],by rfl,⟨A,A⟩,A,λ_ _=>rfl,v,by simp⟩
 |u::T,g,p,q,r,S,x,v,a1=>by
  have a2:g+p<r.size:=by grind
  have N:q.cell? ⟨a,g+p,F⟩=C r[g+p]:=by simp_all [M.cell?]
  have O:q.frozen? ⟨a,g+p,F⟩=Xf:=by simp_all [M.frozen?]
  have a3:=tM (P:=P) (S:=S) (x u (by simp)) N O;obtain⟨b,new,U,z,W,X,H,L⟩:=ml (P:=P) R T g (p+1) (q.setCell ⟨a,g+p,F⟩ u) (r.setIfInBounds (g+p) u) (S.push ⟨.cell ⟨a,g+p,F⟩,J,Xf⟩) (λw Q=>x w (Ym _ Q)) (po v) (by grind);refine⟨b,#[⟨.cell ⟨a,g+p,F⟩,J,Xf⟩]++new,?_,z,?_,λn Z=>?_,H,?_⟩
  .have Y:Addr.add ⟨a,g,F⟩ p=⟨a,g+p,F⟩:=by simp[Addr.add]
   simp_all [storeCells]
  .simp_all
  .simp_all [M.setCell,Zf,YX]
  intro o k;rcases Xk.mem_append.1 k with k|k
  .simp_all
  obtain⟨l,a0,rfl⟩:=L o k;exact⟨l+1,by simp_all,by grind⟩
theorem seen_cells{fn:XI}(f:∀c,P.funcs[fn]?=C c->c.norace=Xf)(e:∀b∈S,∀d,b.loc≠.mark d):seen P fn S=S:=by
 have g:(P.funcs[fn]?).any (·.norace)=Xf:=by grind
 have i:∀(a:Xg XF)(kept:Xk XF),(∀b∈a,∀d,b.loc≠.mark d)->a.foldl (seenStep λc=>(P.funcs[c]?).any (·.norace)) (Xf,kept)=(Xf,kept++a.toArray):=by
  intro a
  induction a with
  |nil=>simp
  |cons b a h=>simp_all [seenStep]
 simp_all [seen_def]
section
variable{main:Xo}
theorem DO{k:Xq}{v N:XJ}{c i:E}{b:Xg Xe}{L:Xq}{o:E×E}(a1:D[p]?=C g)(a5:Region.wanted g (yielded D e.tmps)=J)(Y:n.kind≠.early)(a2:g.op=.store k v N)(hd:g.dst=F)
 (a6:e.eval v=XA (C ⟨c,i,F⟩))(a7:e.eval N=u)(H:u.cells.toList=b)(a0:∀fn,P.funcs[n.fn]?=C fn->fn.norace=Xf)(a4:∀q S,(Go.sizeOf k).runT P q S=(.ok b.length q,S))(U:∀v∈b,wu v=J)
 (a8:o.1=o.2)(X:q.heap[c]?=C (Xn r L o))(b5:i+b.length<=r.size):
 ∃a S,stepG P main (rg (n.at e (Xv D (p::rest)::l)) t) q=.go (rg (n.at e (Xv D rest::l)) t) a S/\(a.os=q.os/\a.output=q.output)/\a.heap.size=q.heap.size/\(∀n,n≠c->a.heap[n]?=q.heap[n]?)/\a.heap[c]?=C (Xn (xQ r i b) L o)/\
  ∀x∈S,∃l,l<b.length/\x=⟨.cell ⟨c,i+l,F⟩,J,Xf⟩:=by
 obtain⟨a,new,b2,Q,R,T,b3,b4⟩:=ml (P:=P) a8 b i 0 q r #[] U X (by omega)
 have a3:(execOp e.eval g).runT P q #[]=(.ok .skip a,new):=by
  unfold execOp;rw[a2];simp only[a6,a7]
  have O:(Instr.storeAt k (XA (C ⟨c,i,F⟩)) u)=(Go.sizeOf k).bind λb0=>if u.cells.size≠b0 then stuck "storeVar: the value has not the size of the variable"else storeCells ⟨c,i,F⟩ b:=by subst H;rfl
  show((Instr.storeAt k (XA (C ⟨c,i,F⟩)) u).bind λ_=>(Sem.pure Next.skip:Xz Next)).runT P q #[]=_;have b6:u.cells.size=b.length:=by rw[<-H];simp
  rw[J_,O,J_,a4];simp_all
 have Z:∀x∈new,∀a9,x.loc≠.mark a9:=by grind
 refine⟨a,new,?_,Q,R,T,by omega,by omega⟩;obtain⟨y,w⟩:=e;obtain⟨b1,W,z⟩:=fM (P:=P) (n.at ⟨y,w⟩ (Xv D (p::rest)::l)) t (execOp (Act.eval ⟨y,w⟩) g) q;rw[jv a1 a5,W];rw[a3]at z⊢
 rw[z Y trivial];simp only[eQ,stepG.apply,Xz.runT,Yc,YW,aX,aN,rg,GStep.after];rw[show(n.at ⟨y,w⟩ (Xv D (p::rest)::l)).fn=n.fn from A,seen_cells a0 Z];simp_all [YK,Act.put]
end
section
variable{main:Xo}
theorem BT{u:Goal P h main f}{w:Rt}{v:Xp Tmp}{L:Op}(R:Good P h)(Y:h.fr n.fn=J)(Z:n.kind≠.early)(a1:bN D p v L)
 (a2:jd P h.fn h.bi h.bZ L=J)(X:w.free v=J)(S:Inv P h f m d)(a3:ar h m w s e)(k:Xu->M->Prop)
 (y:∀Q:M,Q.heap=d.heap->∀O N x,(⟨v,L,O,N,x,F⟩:Oper).wp P s Q k (eP λ_ _=>False))(a0:∀b a,k b a->∀r,f r->a.heap[r]?=d.heap[r]?)
 (next:∀c b o a,Inv P h f c a->cV f m d c a->ar h c w b o->k b a->u.G c a (rg (n.at o (Xv D rest::l)) t)):u.G m d (rg (n.at e (Xv D (p::rest)::l)) t):=by
 obtain⟨⟨b2,b4,O,N,x,b3⟩,z,H,U,W⟩:=a1;subst H U W;refine He R u Y Z z A a2 X S a3 (T:=k) (a1:=λ_ _=>False) (.all λi=>y {d with tape:=i} A O N x) ?_ ?_
 .intro c b o a b1 _ _ _ _ q;obtain⟨i,q⟩:=q.one;exact⟨{a with tape:=i},⟨λs y=>y,λ_ n g z H=>⟨g,z,H⟩⟩,λr a4=>a0 _ _ q r a4⟩
 intro c b o a T q1 a5 a6 a7 a8 a9;obtain⟨i,q⟩:=a9.one;exact u.tape (next c b o {a with tape:=i} (T.tape i) ⟨q1,a5,a6,a7⟩ a8 q)
theorem Hj{o:Goal P h main f}{b:Rt}{H:Op}(X:n.kind≠.early)(a5:∀fn,P.funcs[n.fn]?=C fn->fn.norace=Xf)(Y:bN D p (C j) H)
 (U:b.free (C j)=J)(z:ar h m b s e)(W:j<s.tmps.size){a:Xe}(T:bO a)(Z:∀q k i c,(execOp e.eval ⟨C j,H,k,i,c,F⟩).runT P q #[]=(.ok (.value a) q,#[]))
 (next:∀v,ar h m ⟨b.d0,(j,a)::b.kn⟩ (s.put (C j) I) v->o.G m d (rg (n.at v (Xv D rest::l)) t)):o.G m d (rg (n.at e (Xv D (p::rest)::l)) t):=by
 obtain⟨⟨a2,a0,k,i,c,a3⟩,x,O,Q,R⟩:=Y;subst R;obtain rfl:=O;obtain rfl:=Q;refine o.pure A rfl (g₁:=rg (n.at (e.put (C j) a) (Xv D rest::l)) t) (λq=>?_) (next _ ?_)
 .obtain⟨L,w⟩:=e;obtain⟨a1,N,y⟩:=fM (P:=P) (n.at ⟨L,w⟩ (Xv D (p::rest)::l)) t (execOp (Act.eval ⟨L,w⟩) ⟨C j,a0,k,i,c,F⟩) q;rw[jv x A,N];rw[Z q k i c]at y⊢
  rw[y X trivial];simp only[eQ,stepG.apply,Xz.runT,Yc,YW,aX,aN,rg,GStep.after];simp[YK,x,Act.put,aX]
 refine(z.put (C j) U (.bS T)).more ?_;simp[Act.put,<-z.tmps.1,W]
theorem qw{o:Type}{c:o->Goal P h main f}{r:XG}(b:E->o->Ren->M->Xu->Prop)
 (round:∀k,(∀a m d e,b k a m d e->(c a).G m d (rg (n.at e (.inLoop r::l)) t))->∀a m d e,b (k+1) a m d e->(c a).G m d (rg (n.at e (.code r::.inLoop r::l)) t))
 (last:∀a m d e,b 0 a m d e->(c a).G m d (rg (n.at e (.code r::.inLoop r::l)) t))(i:E){a:o}(v:b i a m d e):(c a).G m d (rg (n.at e (.code (.loop r)::l)) t):=by
 have x:∀(i:E) a m d e,b i a m d e->(c a).G m d (rg (n.at e (.code r::.inLoop r::l)) t):=by
  intro i
  induction i with
  |zero=>exact last
  |succ k w=>grind [Hk]
 grind [MK]
theorem Hl{L:Type}{c:L->Goal P h main f}(Z:P.follows .mixedOrders=J)(a7:Bz D=J)(o:Xk Xo->L->Ren->M->Xu->Xu->Prop)
 (step:∀a p rest,a.size=D.size->p∈Region.ready .any D a->(∀b m d s e,o (a.setIfInBounds p J) b m d s e->(c b).G m d (rg (n.at e (Xv D rest::l)) t))->∀b m d s e,o a b m d s e->(c b).G m d (rg (n.at e (Xv D (p::rest)::l)) t))
 (fin:∀a,(∀p,p<D.size->a.getD p Xf=J)->∀b m d s e,o a b m d s e->(c b).G m d (rg (n.at e (Xv D []::l)) t))
 {id:E}{b:L}(w:o (Array.replicate D.size Xf) b m d s e):(c b).G m d (rg (n.at e (.code (.region id D J)::l)) t):=by
 have a2:∀(i k:E)(a:Xk Xo) b(m:Ren)(d:M)(s e:Xu),a.size=D.size->(a.toList.filter (!·)).length<=i->o a b m d s e->(c b).G m d (rg (n.at e (Xv D (Region.linearise.go .any D i k a [])::l)) t):=by
  intro i
  induction i with
  |zero=>
   intro k a b m d s e y R x;refine fin a (λp O=>?_) b m d s e x;have Y:p<a.size:=by omega
   rw[Yu,XP Y];exact Br _ (E.le_zero.1 R) p _ (by simp)
  |succ i a1=>
   intro k a b m d s e y R x
   change (c b).G m d (rg (n.at e (.inRegion D (match(Region.ready .any D a)[k%(Region.ready .any D a).length]? with
    |some p=>Region.linearise.go .any D i (k/(Region.ready .any D a).length) (a.setIfInBounds p J) [p]
    |none=>[].reverse)::l)) t)
   cases O:(Region.ready .any D a)[k%(Region.ready .any D a).length]? with
   |none=>
    have a9:Region.ready .any D a=[]:=by
     cases b0:Region.ready .any D a with
     |nil=>rfl
     |cons b b2=>simp_all [abm]
    grind [LG]
   |some p=>
    have Q:=Yj O;simp only[];rw[linearise_go_acc,Xg.reverse_singleton,Xg.singleton_append];refine step a p _ y Q (λa3 H z T U a0=>a1 _ _ a3 H z T U (by simp[y]) ?_ a0) b m d s e x;obtain⟨a5,a6,_⟩:=ls.1 Q;have a8:a.toList[p]?=C Xf:=by simp_all
    grind [GY]
 refine(c b).ON A (.step A (λ_ H z X=>xm P h main f (λm d N=>N.status=.running/\(c b).G m d N) H z X) (λq v=>?_) (λ_ _ _ _ w=>w))
 have W:stepG P main (rg (n.at e (.code (.region id D J)::l)) t) q=.go (rg (n.at e (.inRegion D (Region.schedule (P.follows .mixedOrders) D (q.tape q.drawn (.order n.fn id)))::l)) t) {q with drawn:=q.drawn+1}:=by rfl
 refine⟨_,m,d,_,[],[],W,?_,λ_ _=>rfl,by simp,A,.stop ⟨A,?_⟩⟩
 .exact{bD.refl v with rel:=⟨v.inj,v.obj,v.os⟩}
 simp only[Region.schedule,Z,Xo.true_or,Yc];exact a2 D.size _ _ b m d s e (by simp) (by simp) w
theorem Tz{z:M->Prop}{Stop:Ren->M->Xt->Prop}{O:∀m(d:M) a H,Stop m {d with tape:=a} H->Stop m d H}{x:Rt}{y:Op}(T:Good P h)(a7:h.fr n.fn=J)(b0:n.kind≠.early)(b2:bN D p (C j) y)
 (b3:jd P h.fn h.bi h.bZ y=J)(a6:x.free (C j)=J)(U:Inv P h f m d)(Q:ar h m x s e){R w:Xe}{N:E}(a3:∀q,z q->∃v o,q.heap[N]?=C (Xn #[w] v o))
 (b1:∀a c b c0,uH (λu c7=>u=R/\c7.heap=d.heap) ((execOp s.eval ⟨C j,y,a,c,b,F⟩).run P {d with tape:=c0}))(b4:∀q v o a c b,q.heap[N]?=C (Xn #[w] v o)->(execOp e.eval ⟨C j,y,a,c,b,F⟩).run P q=.ok (.value w) q)(a9:j<s.tmps.size)
 (next:∀k L i,Inv P h f k i->cV f m d k i->i.heap=d.heap->ar h k ⟨x.d0,(j,w)::x.kn⟩ (s.put (C j) R) L->(yw P h f z Stop O).G k i (rg (n.at L (Xv D rest::l)) t)):(yw P h f z Stop O).G m d (rg (n.at e (Xv D (p::rest)::l)) t):=by
 obtain⟨⟨c8,c9,a,c,b,H⟩,Y,Z,a0,a1⟩:=b2;subst a1;obtain rfl:=Z;obtain rfl:=a0;refine wM A λq a4 a2=>?_;obtain⟨v,o,a5⟩:=a3 q a2;obtain⟨k,i,new,b8,b9,c6,b6,b7,W,X,a8,b5⟩:=pD (main:=Xf) (g:=l) (l:=t) (rest:=rest) T a7 b0 Y A b3 a6 U Q A (b1 a c b) (b4 q v o a c b a5) (by rw[<-Q.tmps.1];exact a9) a4;exact⟨_,k,i,q,new,b8,b9,c6,b6,b7,A,next _ _ _ W X a8 b5⟩
end
end
noncomputable section
abbrev TP:Xy:=Go.Proofs.Tryz.prog
def Iv:Xg E:=[15,17,19,20,21,22,26,27,29,30,32,34,35,36,40,41,42,51,52,58,60,61,62,63,64,65,66,95,96,97,98,104,105,106,107,108,109,110,111,112,113,114,128,129,130,131,132,134,135,136,137,138,139,140,141,142,143,144,145,146,147,148,149,150,151,152,153,154,155,156,157,166,167,168,169,170,171,172,173,174,175,176,177,178,179,180,181,182,183,184,185,186,187,188,189,190,200,201,202,203,204,205,206,207,208,209,210,211,212,213,214,215,216,217,218,228,229,230,231,232,233,234,235,236,237,238,239,240,246,247,248,249,250,251,252,253,254,256,257,258,259,260,261,262,263,264,265,266,267,268,269]
def KC:Xg E:=[3,4,5,6,7,8,9,10,11,12,14,15,16,17,18,19,20,21,22,26,27,28,29,30,31,32,34,35,36,39,40,41,42,51,52,58,60,61,62,63,64,65,66,95,96,97,98,104,105,106,107,108,109,110,111,112,113,114,128,129,130,131,132,134,135,136,137,138,139,140,141,142,143,144,145,146,147,148,149,150,151,152,153,154,155,156,157,166,167,168,169,170,171,172,173,174,175,176,177,178,179,180,181,182,183,184,185,186,187,188,189,190,200,201,202,203,204,205,206,207,208,209,210,211,212,213,214,215,216,217,218,228,229,230,231,232,233,234,235,236,237,238,239,240,246,247,248,249,250,251,252,253,254,256,257,258,259,260,261,262,263,264,265,266,267,268,269]
def Gs:Xg E:=[171,230,248,256,262,263]
def wC:Xg E:=[38,53,54,81]
def vS:Xg E:=[58,95,96,97,98,107,128,129,130,131,132,145,146,166,167,168,169,174,175,200,201,202,203,204,205,206,207,208,209,210,211,212,228,229,230,231,232,233,234,235,246,247,248,249,250,251,256,257]
def setOf(b c:Xg E)(bZ:Xo):Set where
 fn:=λa=>b.contains a
 fr:=λa=>c.contains a
 bi:=Jc TP bZ
 code:=codeOk TP (λa=>b.contains a) (Jc TP bZ) bZ
 bZ:=bZ
def al:Set:=setOf Iv KC J
def aJ:Set:=setOf wC (37::wC) Xf
def aW:Set:=setOf vS (56::vS) Xf
def BR(b:Set)(a:E):Xo:=
 match TP.funcs[a]? with
 |some fn=>!fn.norace&&!(fn.name== "runtime.NumGoroutine")&&(match fn.body with|some c=>b.code c|none=>Gs.contains a)
 |none=>Xf
theorem Tm:(Iv.all (BR al))=J:=by decide+kernel
theorem Qm:(wC.all (BR aJ))=J:=by rfl
theorem look_ok:(vS.all (BR aW))=J:=by decide+kernel
end
variable{a:Xk Xe}
def ZV(a:Xe):Prop:=∀(b:Set)(c:Ren),an b c a a
def zu(a:Xk Xe):Prop:=∀(b:Set)(c:Ren),aw b c a a
theorem ZV.cells{a:Xe}(c:ZV a):zu a.cells:=λb d=>dM (c b d)
theorem zu.agg{a:Xk Xe}(c:zu a):ZV (.agg a):=λb d=>.agg A (c b d).2
theorem zu.append{c:Xk Xe}(e:zu a)(f:zu c):zu (a++c):=λb d=>aw.append (e b d) (f b d)
theorem zu.nil:zu #[]:=λ_ _=>aw.nil
theorem zu.of(f:∀b∈a,ZV b):zu a:=λe g=>⟨A,λh b i c d=>by rw[c]at d;cases d;exact f b (Ys c) e g⟩
theorem zu.mem(e:zu a):∀c∈a,ZV c:=λc f d h=>by obtain⟨g,b,rfl⟩:=YQ.1 f;exact(e d h).2 g _ _ (XP b) (XP b)
theorem yu{m g:Type}(i:m->g->Xp (ForInStep g))(c:g->Prop)(step:∀h b e,c b->i h b=C e->c (match e with|.yield b=>b|.done b=>b)):∀(l:Xg m)(d f:g),c d->forIn l d i=C f->c f
 |[],d,f,k,a=>by simp at a;subst a;exact k
 |h::l,d,f,k,a=>by
  rw[aaZ]at a;simp only[bind,Yb]at a;obtain⟨e,n,a⟩:=a;have:=step h d e k n;cases e with
  |done b=>simp[pure]at a;subst a;exact this
  |yield b=>exact yu i c step l b f this a
theorem DU{i:Xq->Xp TypeInfo}(s:∀x e f,i x=C e->e.zero=C f->ZV f){q:Xk Field}{e:TypeInfo}{f:Xe}(d:Made.reckonStruct i q=C e)(v:e.zero=C f):ZV f:=by
 unfold Made.reckonStruct at d;simp only[bind,Yb,pure]at d;obtain⟨l,m,d⟩:=d;rw[<-g_]at m;have w:=yu _ (λg=>∀a,g.2.2.2.2.2.2.2.1=C a->zu a) (λp g y r b=>?_) _ _ _ (λa c=>by cases c;exact zu.nil) m
 .have fin:l.2.2.2.2.2.2.2.1.map Value.agg=e.zero:=by
   split at d<;>(cases d;rfl)
  rw[v]at fin;cases c:l.2.2.2.2.2.2.2.1 with
  |none=>rw[c]at fin;cases fin
  |some a=>rw[c]at fin;cases fin;exact(w a c).agg
 cases h:i p.type with
 |none=>rw[h]at b;cases b
 |some n=>
  rw[h]at b;simp only[ZO]at b
  have leaf:∀a,(if g.2.1+n.size>Made.mostCells then F else g.2.2.2.2.2.2.2.1.bind λk=>n.zero.bind λo=>C (k++o.cells))=C a->zu a:=by
   intro a c;split at c
   .cases c
   simp only[Yb]at c;obtain⟨k,t,o,u,c⟩:=c;cases c;exact(r k t).append (s _ _ _ h u).cells
  split at b
  .cases b
  split at b
  .cases b
  split at b
  .split at b<;>(cases b;exact leaf)
  rw[Yb]at b;obtain⟨tag,_,b⟩:=b;split at b<;>(cases b;exact leaf)
theorem Dt{k:Xq->Xp TypeInfo}(h:∀o d e,k o=C d->d.zero=C e->ZV e){l:TypeDesc}{d:TypeInfo}{e:Xe}(a:Made.reckon k l=C d)(b:d.zero=C e):ZV e:=by
 unfold Made.reckon at a;split at a
 .simp only[bind,Yb,pure]at a;obtain⟨j,_,a⟩:=a;split at a
  .cases a
  .split at a
   .cases a
   rw[Yb]at a;obtain⟨_,_,a⟩:=a;cases a;cases b;exactλc f=>.cG
  rw[Yb]at a;obtain⟨_,_,a⟩:=a;cases a;cases b;exactλc f=>.cG
 .simp only[bind,Yb,pure]at a;obtain⟨_,_,_,_,a⟩:=a;cases a;cases b;exactλc f=>.aO _ _
 .simp only[bind,Yb,pure]at a;obtain⟨_,_,_,_,_,_,_,_,a⟩:=a;cases a;cases b;exactλc f=>.ft
 .simp only[bind,Yb,pure]at a;obtain⟨_,_,_,_,a⟩:=a;cases a;cases b;exactλc f=>.ed
 .simp only[bind,Yb,pure]at a;obtain⟨_,_,a⟩:=a;cases a;cases b;exactλc f=>.nilFunc
 .simp only[bind,Yb,pure]at a;obtain⟨j,m,_,_,a⟩:=a;cases a;dsimp only at b;split at b
  .cases b
  split at b
  .cases b;exact zu.nil.agg
  rw[YE]at b;obtain⟨r,n,rfl⟩:=b;refine zu.agg (zu.of λp g=>?_);rw[Xk.mem_flatten]at g;obtain⟨q,i,g⟩:=g;rw[Xk.mem_replicate]at i;obtain⟨_,rfl⟩:=i;exact(h _ _ _ m n).cells.mem p g
 .exact DU h a b
 cases a
theorem tj{g:Tables}(h:∀(d:E)(a:TypeInfo)(b:Xe),g.types[d]?=C a->a.zero=C b->ZV b):∀(e d:E)(a:TypeInfo)(b:Xe),Made.infoAt g e d=C a->a.zero=C b->ZV b
 |0,d,a,b,c,f=>by cases c
 |e+1,d,a,b,c,f=>by
  unfold Made.infoAt at c;split at c
  .exact h d a b c f
  rw[Yb]at c;obtain⟨i,_,c⟩:=c;exact Dt (λd a b=>tj h e d a b) c f
theorem OJ(e:∀(d:E)(a:TypeInfo)(b:Xe),P.types[d]?=C a->a.zero=C b->ZV b):iL P:=by
 intro d a b c f;unfold Tables.info? at c;split at c
 .exact e d a b c f
 exact tj e _ d a b c f
theorem mH{fn:XI->Xo}:∀(d:E)(e:Xe),bL (λ_=>Xf) d e=J->bL fn d e=J
 |0,_,c=>by simp[bL]at c
 |d+1,e,c=>by
  have g:∀a:Xk Xe,a.toList.all (bL (λ_=>Xf) d)=J->a.toList.all (bL fn d)=J:=λa f=>by
   rw[Za]at f⊢
   exactλh k=>mH d h (f h k)
  cases e with
  |bool l=>rfl
  |int m o=>rfl
  |string q=>rfl
  |pointer b=>cases b with
   |none=>rfl
   |some b=>simp[bL]at c
  |slice b n a=>cases b with
   |none=>rfl
   |some b=>simp[bL]at c
  |map b=>cases b with
   |none=>rfl
   |some b=>simp[bL]at c
  |chan b=>cases b with
   |none=>rfl
   |some b=>simp[bL]at c
  |nilFunc=>rfl
  |nilIface=>rfl
  |func i p a=>cases i<;>simp[bL]at c
  |iface r e=>exact mH d e c
  |agg a=>exact g a c
  |tuple a=>exact g a c
  |_=>simp[bL]at c
def IA(a:TypeInfo):Xo:=(match a.desc with|.float _|.complex _=>Xf|_=>J)&&(match a.zero with|some b=>bL (λ_=>Xf) 8 b|none=>J)
theorem OB:TP.types.toList.all IA=J:=by decide+kernel
theorem IB{c:E}{a:TypeInfo}(b:TP.types[c]?=C a):IA a=J:=by have:=OB;rw[Za]at this;exact this a (by rw[Yz];exact Ys b)
theorem QF:iL TP:=OJ λf e a b c d g=>by have:=IB b;unfold IA at this;rw[c]at this;simp only[Yg]at this;exact ir 8 a (mH 8 a this.2)
theorem Kq{e:Xq->Xp TypeInfo}{d:TypeDesc}{c:TypeInfo}(a:Made.reckon e d=C c)(f:FloatKind):c.desc≠.complex f:=by
 unfold Made.reckon at a;split at a
 .simp only[bind,Yb,pure]at a;obtain⟨j,_,a⟩:=a;split at a
  .cases a
  .split at a
   .cases a
   rw[Yb]at a;obtain⟨_,_,a⟩:=a;cases a;intro b;cases b
  rw[Yb]at a;obtain⟨_,_,a⟩:=a;cases a;intro b;cases b
 .simp only[bind,Yb,pure]at a;obtain⟨_,_,_,_,a⟩:=a;cases a;intro b;cases b
 .simp only[bind,Yb,pure]at a;obtain⟨_,_,_,_,_,_,_,_,a⟩:=a;cases a;intro b;cases b
 .simp only[bind,Yb,pure]at a;obtain⟨_,_,_,_,a⟩:=a;cases a;intro b;cases b
 .simp only[bind,Yb,pure]at a;obtain⟨_,_,a⟩:=a;cases a;intro b;cases b
 .simp only[bind,Yb,pure]at a;obtain⟨j,h,_,_,a⟩:=a;cases a;intro b;cases b
 .unfold Made.reckonStruct at a;simp only[bind,Yb,pure]at a;obtain⟨g,_,a⟩:=a;split at a<;>(cases a;intro b;cases b)
 cases a
theorem Iz{f:Xq}{d:TypeInfo}(a:TP.info? f=C d)(e:FloatKind):d.desc≠.float e/\d.desc≠.complex e:=by
 by_cases c:f<TP.types.size
 .have g:TP.types[f]?=C d:=by
   unfold Tables.info? at a;rwa [XC c]at a
  have:=IB g;unfold IA at this;simp only[Yg]at this;refine⟨λb=>?_,λb=>?_⟩<;>(rw[b]at this;simp at this)
 refine⟨λb=>?_,?_⟩
 .have:=Tables.info?_beyond c a;rw[b]at this;cases this
 unfold Tables.info? at a;rw[Xx c]at a;unfold Made.depth Made.infoAt at a;rw[Xx c,Yb]at a;obtain⟨h,_,a⟩:=a;exact Kq a e
theorem Gw:jW TP:=by
 intro g c;unfold Xy.underlying;cases e:TP.info? g with
 |none=>simp
 |some h=>
  have d:=Iz e c;split
  .constructor<;>
   .intro a;rw[YE]at a;obtain⟨j,f,a⟩:=a;have b:=Iz f c
    first|exact b.1 a|exact b.2 a
  .rename_i j _ a;cases a;simp only[ne_eq,Yh];exact d
  rename_i a;cases a
theorem MC:Extern.findNext Tryz.f171=F/\Extern.find Tryz.f171=C (Extern.SlicesOverlaps.overlaps Tryz.f171.params Tryz.f171.resultTypes):=⟨by kernel_rfl,by kernel_rfl⟩
theorem MD:Extern.findNext Tryz.f230=F/\Extern.find Tryz.f230=C Extern.BytealgCount.count:=⟨by kernel_rfl,by kernel_rfl⟩
theorem ME:Extern.findNext Tryz.f248=F/\Extern.find Tryz.f248=C Extern.BytealgIndex.index:=⟨by kernel_rfl,by kernel_rfl⟩
theorem MF:Extern.findNext Tryz.f256=F/\Extern.find Tryz.f256=C Extern.BytealgIndexByte.indexByte:=⟨by kernel_rfl,by kernel_rfl⟩
theorem MG:Extern.findNext Tryz.f262=F/\Extern.find Tryz.f262=C Extern.AbiNoEscape.same:=⟨by kernel_rfl,by kernel_rfl⟩
theorem Sl:Extern.findNext Tryz.f263=F/\Extern.find Tryz.f263=C (Extern.BytealgMakeNoZero.makeNoZero Tryz.f263.params Tryz.f263.resultTypes):=⟨by kernel_rfl,by kernel_rfl⟩
theorem zf:∀a,TP.globals.findIdx? (·.name== "internal/bytealg.MaxLen")=C a->0<a:=by
 have:TP.globals.findIdx? (·.name== "internal/bytealg.MaxLen")=C 1:=by decide+kernel
 simp_all
theorem Tu{a:E}(d:Gs.contains a=J){fn:Func}(b:TP.funcs[a]?=C fn):Extern.findNext fn=F/\∃c,Extern.find fn=C c/\kG TP h c:=by
 have e:a=171\/a=230\/a=248\/a=256\/a=262\/a=263:=by simpa[Gs]using d
 rcases e with rfl|rfl|rfl|rfl|rfl|rfl
 .cases b;exact⟨MC.1,_,MC.2,AA _ _⟩
 .cases b;exact⟨MD.1,_,MD.2,Jk⟩
 .cases b;exact⟨ME.1,_,ME.2,JI zf⟩
 .cases b;exact⟨MF.1,_,MF.2,xF⟩
 .cases b;exact⟨MG.1,_,MG.2,Oe⟩
 grind [Tryz.func263,Sl,vU]
noncomputable def HY(a:E):Xo:=match TP.funcs[a]? with|some fn=>!fn.norace|none=>J
theorem zY{b c:Xg E}{bZ:Xo}(e:b.all (BR (setOf b c bZ))=J)(q:c.all HY=J)(r:b.all (λa=>c.contains a)=J)(l:TP.follows .rangeFuncRecover=J):Good TP (setOf b c bZ) where
 ux:=Gw
 zero:=QF
 code:=A
 bi:=A
 UG:=l
 norace:=λa fn f d=>by grind [setOf,HY]
 Fb:=λa f=>by simp_all [setOf]
 maxLen:=zf
 funcs:=λa f=>by
  rw[Za]at e;have:=e a (by simp_all [setOf]);unfold BR at this;cases d:TP.funcs[a]? with
  |none=>simp_all
  |some fn=>
   rw[d]at this;simp only[Yg,Xo.not_eq_true']at this;obtain⟨⟨_,m⟩,g⟩:=this;refine⟨fn,A,m,?_⟩;cases k:fn.body with
   |some n=>simp_all
   |none=>rw[k]at g;obtain⟨h,i⟩:=Tu g d;exact Xi ⟨A,h,i⟩
theorem Gx:TP.follows .rangeFuncRecover=J:=by rfl
theorem aC:Good TP al:=zY Tm (by decide+kernel) (by decide+kernel) Gx
theorem eI:Good TP aJ:=zY Qm (by rfl) (by rfl) Gx
theorem gS:Good TP aW:=zY look_ok (by decide+kernel) (by rfl) Gx
abbrev kP:Go.Conc.Lib.WgLink:={add:=55,done:=57,wait:=59,relMerge:=82,disable:=83,enable:=84,inBubble:=85,associate:=86,fatal:=87,uOr:=88,uAdd:=89,raceRead:=90,uLoad:=91,uStore:=92,disassociate:=93,semrelease:=94,acquire:=99,isAssociated:=100,uCas:=101,raceWrite:=102,semacquire:=103,orU64:=124,addU64:=125,loadU64:=126,storeU64:=127,casU64:=133,tWgP:=200,tUP:=202,tAssoc:=203,tWg:=151,tAU:=148,tU64:=146,tUint:=207,tU32:=149,tPU32:=208,tPAU:=241,tPU64:=243,tNoCopy:=143,tANoCopy:=144,tAlign64:=145}
theorem IG:Go.Conc.Lib.WgLib TP kP:=
 ⟨Tryz.func55,Tryz.func57,Tryz.func59,Tryz.func82,Tryz.func83,Tryz.func84,Tryz.func85,Tryz.func86,Tryz.func87,Tryz.func88,Tryz.func89,Tryz.func90,Tryz.func91,Tryz.func92,Tryz.func93,Tryz.func94,Tryz.func99,Tryz.func100,Tryz.func101,Tryz.func102,Tryz.func103,Tryz.func124,Tryz.func125,Tryz.func126,Tryz.func127,Tryz.func133,Tryz.underlying200,Tryz.runUnderlying200,Tryz.sizeOf200,Tryz.isAgg200,Tryz.zeroValue200,Tryz.underlying202,Tryz.runUnderlying202,Tryz.sizeOf202,Tryz.isAgg202,Tryz.zeroValue202,Tryz.underlying203,Tryz.runUnderlying203,Tryz.sizeOf203,Tryz.isAgg203,Tryz.zeroValue203,Tryz.underlying151,Tryz.runUnderlying151,Tryz.sizeOf151,Tryz.isAgg151,Tryz.zeroValue151,Tryz.underlying148,Tryz.runUnderlying148,Tryz.sizeOf148,Tryz.isAgg148,Tryz.zeroValue148,Tryz.underlying146,Tryz.runUnderlying146,Tryz.sizeOf146,Tryz.isAgg146,Tryz.zeroValue146,Tryz.underlying207,Tryz.runUnderlying207,Tryz.sizeOf207,Tryz.isAgg207,Tryz.zeroValue207,Tryz.underlying149,Tryz.runUnderlying149,Tryz.sizeOf149,Tryz.isAgg149,Tryz.zeroValue149,Tryz.underlying208,Tryz.runUnderlying208,Tryz.sizeOf208,Tryz.isAgg208,Tryz.zeroValue208,Tryz.underlying241,Tryz.runUnderlying241,Tryz.sizeOf241,Tryz.isAgg241,Tryz.zeroValue241,Tryz.underlying243,Tryz.runUnderlying243,Tryz.sizeOf243,Tryz.isAgg243,Tryz.zeroValue243,Tryz.underlying0,Tryz.runUnderlying0,Tryz.sizeOf0,Tryz.isAgg0,Tryz.zeroValue0,Tryz.underlying3,Tryz.runUnderlying3,Tryz.sizeOf3,Tryz.isAgg3,Tryz.zeroValue3,Tryz.underlying4,Tryz.runUnderlying4,Tryz.sizeOf4,Tryz.isAgg4,Tryz.zeroValue4,Tryz.underlying9,Tryz.runUnderlying9,Tryz.sizeOf9,Tryz.isAgg9,Tryz.zeroValue9,Tryz.underlying20,Tryz.runUnderlying20,Tryz.sizeOf20,Tryz.isAgg20,Tryz.zeroValue20,Tryz.underlying21,Tryz.runUnderlying21,Tryz.sizeOf21,Tryz.isAgg21,Tryz.zeroValue21,by kernel_rfl,by kernel_rfl⟩
variable{n:M}{b:E}{c:Xt}{o:Xg Ms}{k:XD}
section
theorem Kw{sl:Xp (E×E)}{e:Outcome}(g:W[b]?=C c)(f:stepG P (b==0) c d=.ended e n S):
 runT P (crowd W d sl) b=(.ended e n,XE b c.frame.fn c.frame.place S):=by
 obtain⟨h,rfl⟩:=XN.1 g;have i:=swapAt_of_lt h {(default:Xt)with status:=.finished};show runT P {world:=d,gs:=W,rest:={timers:=#[],alone:=F,slice:=sl}} b=_;unfold runT;simp only[i,f,GStep.es]
def TI(P:Xy)(d:Xe->M->Prop):dB:=λW q sl k=>∃b n c,stepT P (crowd W q sl)=(.ended b n,c)/\Go.Conc.Good P d (crowd W q sl) b n (k++c)
variable[Inhabited aM]
section
theorem AI(s:dG (aj P F) 0 o W q k U y c)(r:y.tag=F):∀b d,0<b->W[b]?=C d->∃f,QuitsD P f (Deaf k b) d/\Told k U b:=by
 intro b d n m;obtain⟨w,_,p,t⟩:=s.ok;have g:=p.each b d n m;have e:=t b n (XN.1 m).1;generalize w b=v at g e;cases v with
 |lv f=>exact⟨f,g⟩
 |wk Q=>obtain⟨i,l,_⟩:=g;rw[r]at l;cases l
 |pr h u i x=>cases e
 |pb h u i x z O R=>cases e
 |pq h f=>cases e
theorem Fo(l:dG (aj P F) 0 o W q k U y c)(D:y.tag=F):k.HandedOver:=by
 intro b x p t⟨g,v,s,H⟩;obtain⟨f,e,m⟩:=YE.1 p;have w:f.act.touch?=C g:=by have:k.act? b=C f.act:=act?_of e;rw[this]at v;exact v
 obtain⟨N,_,d,_⟩:=l.ok;have r:=d.ops b f e;rw[m]at r;obtain⟨L,_,told⟩:=AI l D x _ (by omega) (XP r)
 obtain⟨j,O,h,n,i⟩:=told b f g e m w s (by
  by_cases u:U g.loc=.sync
  .right;rcases l.bF.OO b g (by rw[YM e];exact w) s u with d|⟨_,d⟩
   .exact H.resolve_left (λz=>z d)
   rw[p]at d;cases d;exact absurd A t
  exact Xh u)
 refine⟨j,by simp[XD.g?,h,n],?_⟩;rcases i with rfl|i
 .rw[e]at h;cases h;exact absurd (m.symm.trans n) t
 exact i
structure RE(q:M):Prop where
 heap:∀e,e<dA.heap.size->q.heap[e]?=dA.heap[e]?
 size:dA.heap.size<=q.heap.size
 os:q.os=dA.os
 out:q.output=dA.output
theorem Pz{y:Xe->M->Prop}(w:c.status=.running)(R:∀q,aV h m d q->RE q->∃r,stepG P J c q=.ended (.done r) q #[]/\y r q):sW P F F (TI P y) h f m d c:=by
 intro o
 induction (aj P F).wf.apply o with
 |intro o _ a5=>
  intro W q sl k U e;have a0:∀n∈W,Go.Conc.awake n:=by
   intro n i;obtain⟨b,p,rfl⟩:=YQ.1 i;rcases Ye b with rfl|u
   .have:W[0]=c:=by have:=e.me;simpa[XP p]using this
    rw[this];exactλk D=>by rw[w]at D;cases D
   exact(aj P F).awake e.ok b _ u (XP p)
  obtain⟨b,a6,l,H,p,a2,z⟩:=h_ (P:=P) (w:=q) (sl:=sl) a0 ⟨0,c,e.me,w⟩;have g:dG (aj P F) 0 o W (q.at l) k U ⟨h,m,d,f,F⟩ c:=⟨(aj P F).at_ l e.ok,e.bF.at l,e.bg.at l,e.me,e.hears⟩;rcases Ye b with rfl|u
  .obtain⟨r,s,t⟩:=R (q.at l) g.bg.rel ⟨g.bF.jP.heap,g.bF.jP.size,g.bF.jP.os,g.bF.jP.out⟩;refine bV.now ⟨_,_,_,z.trans (Kw e.me s),r,A,t,?_,?_,⟨λn i=>?_,A⟩,λj n i a7=>?_⟩
   .simpa[XE]using e.bF.clean
   .simpa[XE]using Fo e A
   .obtain⟨j,a3,rfl⟩:=Zg.1 i;have a4:j+1<W.size:=by simp[crowd]at a3;omega
    have a1:W[j+1]?=C (((crowd W q sl).gs.toList.drop 1)[j]):=by
     simp only[crowd,Xg.getElem_drop,Xk.getElem_toList];rw[XP a4]
     congr 2;omega
    obtain⟨x,v,_⟩:=AI e A (j+1) _ (by omega) a1;exact⟨x,v.leaves⟩
   obtain⟨x,v,_⟩:=AI e A j n (by omega) i;refine⟨x,?_⟩;have:=v.hears (crowd W q sl).world;simpa[XE,Deaf]using this
  obtain⟨O,Q,N,a8,L,s,t,S,T,X,Y,Z⟩:=(aj P F).step H g.ok g.bF g.bg e.me w u p a2;exact bV.head (z.trans s) (a5 O t Q N H _ L ⟨T,X,Y,S,Z.trans e.hears⟩)
end
section
variable{a:Xt}
open Classical in
noncomputable def ej:Loc->Own:=λb=>if Rz b then .ro else .iM 0
theorem LV(o:Base P m)(hrel:aV h m d dA)(y:my h f d)(s:∀a g,m a g->f a)(u:∀a,f a->Im a):dG (aj P F) 0 (ua (λ_=>.lv 0) 1) #[a] dA #[] ej ⟨h,m,d,f,F⟩ a:=by
 have low:∀i g,az i g->g<dA.heap.size->ej i=.ro:=λi g t o=>by unfold ej;rw[XC ⟨g,t,o⟩]
 refine⟨⟨λ_=>.lv 0,A,⟨λb c q w=>?_,λb j H N q O r=>?_,λj _=>?_,λD v=>(by cases v),λp z l=>(by simp at l)⟩,λb q r=>rfl⟩,
  {clean:= ?_,mine:= ?_,low:= ?_,OO:= ?_,norel:= ?_,PQ:= ?_,jB:= ?_,row:= ?_,jP:=⟨low,λ_ _=>rfl,XS _,A,A⟩},
  {base:=o,rel:=hrel,cO:=y,dv:=λa g n i x=>Xi ⟨low i g x (hrel.right n),s a g n⟩,dV:= ?_,low:=⟨XS _,λa g n _=>u a (s a g n)⟩},A,?_⟩
 .have:=(XN.1 w).1;simp at this;omega
 .simp at r;omega
 .rfl
 .rintro S⟨b,j,_,⟨k,T,e,_⟩,_⟩;simp[XD.act?]at e
 .intro i b _ _ p k e;simp[touchAt,XD.act?]at e
 .intro b k e;simp[touchAt,XD.act?]at e
 .intro b k e;simp[touchAt,XD.act?]at e
 .intro a p l;simp[XD.act?]at l
 .intro p z k b l;simp at l
 .intro b k e;simp[touchAt,XD.act?]at e
 .intro i _ _ b k e;simp[touchAt,XD.act?]at e
 .intro a g _ i _ _ b k e;simp[touchAt,XD.act?]at e
 rfl
theorem Gi{l:Xe->M->Prop}(v:sW P F F (TI P l) h f m d a)(w:dG (aj P F) 0 o #[a] dA #[] U ⟨h,m,d,f,F⟩ a):
 ∃e last g n i,runNT P (e+1) (solo a dA) #[]=(.ended g n,i)/\runN P e (solo a dA)=.next last/\step P last=.ended g n/\Go.Conc.Good P l last g n i:=by
 obtain⟨e,r,p,u,i,z,g,n,D,t,x⟩:=v o #[a] dA F #[] U w;have s:runNT P e (solo a dA) #[]=(.next (crowd r p u),i):=z;refine⟨e,crowd r p u,g,n,i++D,?_,?_,?_,x⟩
 .rw[runNT_add,s];simp only[runNT,t]
 .rw[<-runNT_fst P e _ #[],s]
 show(stepT P _).1=_;rw[t]
end
end
end Go.Sim
