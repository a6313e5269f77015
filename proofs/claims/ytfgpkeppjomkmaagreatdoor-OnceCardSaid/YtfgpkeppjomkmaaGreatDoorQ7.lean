/- Proved here: parts of the proof of the claimed theorem, no conditions; the last text states it -/
import Derived.Test.YtfgpkeppjomkmaaGreatDoorTie
import Derived.Test.YtfgpkeppjomkmaaGreatDoorCards
import Derived.Test.YtfgpkeppjomkmaaGreatDoorQ6
set_option linter.all false
set_option maxRecDepth 100000
set_option maxHeartbeats 16000000
open _root_ renaming rfl->A,Nat->E,List->Xg,Int->Xj,Array->Xk,Bool->Xo,Option->Xp,if_neg->Xx,ByteArray->XB,if_pos->XC
open Option renaming some->C,none->F
open Go renaming undef->I,World->M,Value->Xe,TypeId->Xq,Frame->Xr,Goroutine->Xt,Act->Xu,Addr->Xw,Program->Xy,Sem->Xz,Trace->XD,Event->XF,Code->XG,MapEntry->XH,FuncId->XI,Operand->XJ
open Bool renaming true->J,false->Xf
open Go.Lib renaming hid->Xl
open Go.MemOp renaming ofEvents->XE
open Go.Op renaming operands->XK
open Go.MemAct renaming ofEvent->XM
open Go.IntKind renaming i64->K
open Go.Value renaming int->Xd,slice->Xm,pointer->XA
open Or renaming inl->Xh,inr->Xi
open Go.Obj renaming cells->Xn
open Go.Ending renaming returned->Xs
open Go.Item renaming inRegion->Xv
namespace Go.Sim
open Go.Conc Go.Proofs Go.RowKit
open Go.ConcN (PermW PermW.app PermW.of fork_knows WgLive RelBy sumTo)
open Go.ConcR (KK wgBlock WgAt stA smA rd wr mk DC0)
variable{y:E}{z:dB}{f:E->Prop}{m:Ren}{e:M}{T:Xr}{N:Xg Xr}{D:Xk Oper}{L:E}{rest:Xg E}{c:Xu}{q:Xu}{j:E}{u:E}{O:E}{t:Xe}{P:Xy}{h:Set}{d:Xg Item}{Q:Oper}{w':M}
section
variable[Inhabited aM]
theorem GS{a6:Type}{c:Xk a6}(b:c.size=42):∃d e q H Y a1 a2 a3 a4 a5 f g h i k l m n o p r s t u v w x y z D L N O Q R S T U W X Z a0,c=#[d,e,q,H,Y,a1,a2,a3,a4,a5,f,g,h,i,k,l,m,n,o,p,r,s,t,u,v,w,x,y,z,D,L,N,O,Q,R,S,T,U,W,X,Z,a0]:=by
 obtain⟨a⟩:=c;simp only[Yt]at b
 iterate 42
  rcases a with _|⟨_,a⟩
  simp at b
 rcases a with _|⟨_,a⟩
 .grind
 simp at b
def stepT{s:Type}(rd x:s->E->s)(H:E->Xo)(a:s)(d:E):s:=if H d then rd a d else x a d
theorem SJ{d:E}{g:PD}{a7:Xp dm}{l:Rt}{o:Xg Item}{i k:E}(c6:al.fr T.fn=J)(c9:T.kind≠.early)(d2:bN D L (C j) (.load 99 (.tmp i)))(c0:l.free (C j)=J)
 (a9:Inv TP al f m e)(n:ar al m l c q)(a5:c.tmps[i]?=C (pt k 0))(b8:m k g.bx)(d0:∃a8 w,e.heap[k]?=C (Xn #[I] a8 w))(c8:j<c.tmps.size)
 (next:∀b v a,Inv TP al f b a->cV f m e b a->a.heap=e.heap->ar al b ⟨l.d0,(j,.chan (C g.rc))::l.kn⟩ (c.put (C j) I) v->sW TP (C (y,g,d)) a7 z al f b a (rg (T.at v (Xv D rest::o)) N)):
 sW TP (C (y,g,d)) a7 z al f m e (rg (T.at q (Xv D (L::rest)::o)) N):=by
 obtain⟨⟨d9,e3,a6,e4,e0,e2⟩,b4,a1,a2,a3⟩:=d2;simp only at a1 a2 a3;subst a1 a2 a3;refine Jw A λp a4 b7=>?_;obtain⟨a8,w,b9⟩:=b7;obtain⟨e5,e1,d1⟩:=d0;obtain⟨B,b5,b6⟩:=lr n a5;obtain rfl:B=g.bx:=(a4.inj _ _ _ _ b5 b8).1 A;have b2:q.eval (.tmp i)=pt g.bx 0:=by simp[Act.eval,b6]
 have b3:c.eval (.tmp i)=pt k 0:=by simp[Act.eval,a5]
 obtain⟨b,a,new,d6,d7,d8,d4,d5,b0,b1,c7,d3⟩:=pD (main:=J) (g:=o) (l:=N) (rest:=rest) aC c6 c9 b4 A (show jd TP al.fn al.bi al.bZ (.load 99 (.tmp i))=J by rfl) c0 a9 n (j:=j) A (H:=I)
  (λa6=>by rw[hZ (q:={e with tape:=a6}) A b3 d1];exact⟨A,A⟩) (hZ A b2 b9) (by rw[<-n.tmps.1];exact c8) a4
 exact⟨_,b,a,p,new,d6,d7,d8,d4,d5,A,next _ _ _ b0 b1 c7 d3⟩
section
variable{s:Type}{St:s->(E->Prop)->(E->Prop)->M->Prop}{Z:s->E->Xe->(E->Prop)->(E->Prop)->M->Prop}{rd x:s->E->s}{look:s->E->LR}{X:E->Prop}{a0:E}{rq:E->RV}{H:E->Xo}{W:E->Xe}{cnt:s->E}
variable{g:PD}{S:Ren}{r:M}{R Y:E->Prop}{U:s}
structure We(X f:E->Prop)(u O:E)(W:E->Xe)(g:PD)(S:Ren)(r:M)(R:E->Prop):Prop where
 dn:g.n=O
 dt:g.τ=W
 only:∀d,fj g.sh (g.τ d)
 sh:∀c,g.sh c->f c
 xl:∀c,X c->f c
 Ob:∀a,f a->a<r.heap.size/\¬R a
 KX:∀c,f c->∃b k,r.heap[c]?=C (Xn b k (0,b.size))/\0<b.size/\(∀(L:E) a,b[L]?=C a->aR f a)/\¬aT b
 Io:∀i,(0<i\/i=TP.globals.size)->i<=TP.globals.size->f i
structure Lh(cnt:s->E)(St:s->(E->Prop)->(E->Prop)->M->Prop)(rd x:s->E->s)(H:E->Xo)(rq:E->RV)(f:E->Prop)(u:E)(v:Xg (E×Xe))(S:Ren)(r:M)(R Y:E->Prop)(U:s)(d:E)(a:Xg E)(b:s)(m:Ren)(e:M)(c q:Xu):Prop where
 inv:Inv TP al f m e
 grow:cV f S r m e
 rel:ar al m ⟨[],v⟩ c q
 size:c.tmps.size=42
 defs:c.defers=[]
 VR:c.tmps[0]?=C (pt u 0)
 st:∃own n o,c.tmps[6]?=C o/\St b own n e/\(gK R own r e/\il Y n r.heap.size)/\nY r.heap.size rq a o e/\∀i,o.ownBlock=C i->¬own i/\¬n i
 Vd:a.foldl rd b=(Xg.range d).foldl (stepT rd x H) U
 mem:∀p∈a,p<d/\H p=J
 len:cnt b+a.length=d
 RZ:∀k,k<a.length->a.getD k 0=cnt b+k
def zq{s:Type}(St:s->(E->Prop)->(E->Prop)->M->Prop)(c:s)(own d:E->Prop)(e w':M):Prop:=∃a b,St c a b w'/\aH own a e w'/\il d b e.heap.size
def GJ(h:E)(rq:E->RV)(f:Xg E)(d:E)(mk:Xe->Xu)(b:M)(t:Xe)(g:Xu)(e:M):Prop:=
 ∃c,g=mk c/\nY h rq (f++[d]) c e/\b.heap.size<=e.heap.size/\(∀a,a<b.heap.size->t.ownBlock≠C a->e.heap[a]?=b.heap[a]?)/\∀a,c.ownBlock=C a->t.ownBlock=C a\/b.heap.size<=a
theorem nY.low{c:E}{rq:E->RV}{d:Xg E}(f:nY c rq d t e){a:E}(b:t.ownBlock=C a):c<=a/\a<e.heap.size:=by
 rcases f with⟨rfl,_⟩|⟨i,g,h,rfl,k,l,_⟩
 .cases b
 cases b;grind
theorem Ja{a:Xq}(i:¬a=107)(e:M):(Instr.typeAssert (.iface a t) 101 107 J).run TP e=.ok (.tuple #[.agg #[Xd K 0,Xd K 0,Xd K 0,.string XB.empty,.string XB.empty,Xd K 0,Xd K 0,.bool Xf,Xm F 0 0],.bool Xf]) e:=by have k:TP.underlying 107=C (.struct ((match TP.underlying 107 with|some (.struct b)=>b|_=>#[]))):=A;unfold Instr.typeAssert;simp only[Zp,YL k,q_,Xx i];go_simp;rfl
theorem yn{i:Goal P h J f}{o:XI}{l:Xk XJ}{a1:Xk Xq}{fn:Func}{a2:XG}(a6:T.kind≠.early)(a8:D[L]?=C Q)(b2:Region.wanted Q (yielded D c.tmps)=J)(a9:Q.op=.call {callee:=.value (.func o),args:=l,argTypes:=a1})
 (a5:P.funcs[o]?=C fn)(a7:(fn.name== "runtime.NumGoroutine")=Xf)(a3:fn.body=C a2)(b0:l.toList.all (du P h.fn)=J)(w:Inv P h f m e){n:Rt}(a4:n.free Q.dst=J)(b1:ar h m n c q)
 {p:Xe->M->Prop}{k:Xk Xe}(b5:l.map c.eval=k)(b6:Co i o k e p)
 (next:∀b v t a,Inv P h f b a->cV f m e b a->ar h b n (c.put Q.dst t) v->p t a->i.G b a (rg (T.at v (Xv D rest::d)) N)):i.G m e (rg (T.at q (Xv D (L::rest)::d)) N):=
 Bt a6 a8 b2 a9 a5 a7 a3 b0 w a4 b1 (by simp_all) next
theorem fold_succ(d:E)(a:s):(Xg.range (d+1)).foldl (stepT rd x H) a=stepT rd x H ((Xg.range d).foldl (stepT rd x H) a) d:=by rw[Xg.range_succ,Xg.foldl_append];rfl
theorem HC.push(i:HC St Z rd x look X u a0 O rq H W cnt){a:s}{own b:E->Prop}(k:St a own b e)(n:e.heap.size<=w'.heap.size)(l:∀c,c<e.heap.size->w'.heap[c]?=e.heap[c]?):St a own b w':=i.sm a own b e w' (wJ (i.lt a own b e k) n l) k
theorem gK.old{own i:E->Prop}{a w2:M}(b:gK own i e a)(n:a.heap.size<=w2.heap.size)(l:∀c,c<a.heap.size->w2.heap[c]?=a.heap[c]?):gK own i e w2:=b.trans ⟨n,λc k _=>Xh (l c k),λc b=>Xh b⟩
noncomputable abbrev KF(z:dB)(y:E)(g:PD)(f:E->Prop)(d:E):Goal TP al J f:=goalAt TP (C (y,g,d)) F z al f
theorem BX(o:HC St Z rd x look X u a0 O rq H W cnt)(G:We X f u O W g S r R){i2:XG}{p3:Xg Item}(k3:(.block 0 (.loop i2):XG)=tl (hd (tl (tl (tl (tl (tl eK)))))))
 (last:∀a3 e5 m e c q,Lh cnt St rd x H rq f u [] S r R Y U O a3 e5 m e c q->(goalAt TP F F z al f).G m e (rg ((base 31).at q p3) N))
 {m:Ren}{e:M}{c q:Xu}(a:Lh cnt St rd x H rq f u [(15,.chan (C g.rc))] S r R Y U 0 [] U m e c q):(KF z y g f 0).G m e (rg ((base 31).at q (.code (.block 0 (.loop i2))::p3)) N):=by
 obtain rfl:i2=(match tl (hd (tl (tl (tl (tl (tl eK))))))with|.block _ (.loop i2)=>i2|_=>.skip):=by rw[<-k3]
 clear k3;show(KF z y g f 0).G m e (rg ((base 31).at q (.code (.block 0 (.loop (.seq _ _)))::p3)) N);refine ie ?_;refine qw (c:=KF z y g f) (λj d m e q=>d+j=O/\∃a3 e5 c,Lh cnt St rd x H rq f u [(15,.chan (C g.rc))] S r R Y U d a3 e5 m e c q) ?_ ?_ O (a:=0) ⟨by omega,_,_,_,a⟩
 .clear a m e c q;rintro j f5 d m e q⟨u0,a3,e5,c,a⟩;have f3:d<O:=by omega
  obtain⟨own,k0,v5,k1,d2,⟨a8,f8⟩,a4,d8⟩:=a.st;obtain⟨v2,n9⟩:=c;obtain⟨v3,a9,b6,b7,c8,d1,n,m0,j8,j9,b0,b1,b2,b3,b4,b5,v4,p6,l9,j3,j4,j5,j6,j7,i0,e6,e7,e8,e9,f6,f4,f0,d5,d6,d7,b8,b9,c0,c6,c7,c9,d0,rfl⟩:=GS a.size;have hd:n9=[]:=a.defs;subst hd;have l1:=a.VR;simp only[Yo,Yv,Yq,Yh]at l1 k1;subst l1 k1;obtain⟨h9,e3⟩:∃h9,W d=h9:=⟨_,A⟩;have hrel:=a.rel;have e2:=a.inv;refine bz (eA ?_);show sW TP (C (y,g,d)) F z al f m e (rg ((base 31).at q (Xv _ (0::[1])::_)) N);have e0:q.tmps[15]?=C (.chan (C g.rc)):=hrel.kn (15,_) (by simp);refine BV (l:=.nilIface) (GU (j:=16) (h:=15) (by decide) ⟨_,A,A,A,A⟩ e0 lp) (λ_ h7 f9=>?_) (λp=>absurd p (by rw[G.dn];omega));rw[za ⟨_,_,A,A,A,A⟩];rw[G.dt,e3]at f9
  have d4:ar al m ⟨[],[(15,.chan (C g.rc))]⟩ ⟨#[pt u 0,a9,b6,b7,c8,d1,n,m0,j8,j9,b0,b1,b2,b3,b4,b5,.tuple #[h9,.bool J],p6,l9,j3,j4,j5,j6,j7,i0,e6,e7,e8,e9,f6,f4,f0,d5,d6,d7,b8,b9,c0,c6,c7,c9,d0],[]⟩ (q.put (C 16) (.tuple #[h7,.bool J])):=by
   refine hrel.put (C 16) A (v:=.tuple #[h9,.bool J]) (.tuple A ?_);intro L w v6 a2 i5;rcases(by grind:L=0\/L=1)with rfl|rfl
   .simp_all
   simp at a2 i5;subst a2 i5;exact .bool _
  generalize q.put (C 16) (.tuple #[h7,.bool J])=s7 at d4⊢
  show(KF z y g f (d+1)).G m e _;refine vH aC (by decide) (by decide) (z:=C 17) (R:=.extract (.tmp 16) 1) ⟨_,A,A,A,A⟩ (U:=[15]) A (by rfl) (by decide) e2 d4 (λi f1=>i=⟨#[pt u 0,a9,b6,b7,c8,d1,n,m0,j8,j9,b0,b1,b2,b3,b4,b5,.tuple #[h9,.bool J],.bool J,l9,j3,j4,j5,j6,j7,i0,e6,e7,e8,e9,f6,f4,f0,d5,d6,d7,b8,b9,c0,c6,c7,c9,d0],[]⟩/\f1.heap=e.heap) (λw' v _ _ _ h6 y p=>?_) (λi f1 a w _=>by rw[a.2]) ?_
  .clear f5 a last a4 d2 a8 d8 hrel e2 e0 d4 f3 f9 o G e3
   go_wp2
  rintro s0 _ s8 f1 d9 f2 e4⟨rfl,e1⟩;refine bP (bz (iO (k:=J) (iP d9.base e4 (by decide) A) (sq (ie (bz ?_)))));refine bT aC (by decide) (by decide) (y:=[15]) A (by rfl) d9 e4 (λi a7=>i=⟨#[pt u 0,a9,b6,b7,c8,d1,n,h9,j8,j9,b0,b1,b2,b3,b4,b5,.tuple #[h9,.bool J],.bool J,h9,j3,j4,j5,j6,j7,i0,e6,e7,e8,e9,f6,f4,f0,d5,d6,d7,b8,b9,c0,c6,c7,c9,d0],[]⟩/\a7.heap=f1.heap) (λw' v _ _ _=>?_) (λi f1 a w _=>by rw[a.2]) ?_
  .clear f5 a last a4 d2 a8 d8 hrel e2 e0 d4 f3 f9 o G e3 e4 d9 f2 e1
   go_wp2
   exact⟨A,v⟩
  rintro z4 _ w8 a5 g0 g1 g3⟨rfl,h0⟩;have g2:a5.heap=e.heap:=h0.trans e1;refine bz (bz ?_);cases o8:H d with
  |true=>
   have r9:=o.yes d f3 o8;rw[e3]at r9;subst r9;obtain⟨⟨l2,l3,l4,l5,l6,l7,l8,k9,k8,l0⟩,k7⟩:∃v1,rq d=v1:=⟨_,A⟩;refine bT aC (by decide) (by decide) (y:=[15]) A (by rfl) g0 g3 (λi a7=>i=⟨#[pt u 0,a9,b6,b7,c8,d1,n,.iface 107 (.agg (aP d (rq d))),pt a5.heap.size 0,.bool J,b0,b1,b2,b3,b4,b5,.tuple #[.iface 107 (.agg (aP d (rq d))),.bool J],.bool J,.iface 107 (.agg (aP d (rq d))),.tuple #[.agg (aP d (rq d)),.bool J],.iface 107 (.agg (aP d (rq d))),.tuple #[.agg (aP d (rq d)),.bool J],.agg (aP d (rq d)),.bool J,i0,e6,e7,e8,e9,f6,f4,f0,d5,d6,d7,b8,b9,c0,c6,c7,c9,d0],[]⟩/\a7.heap=a5.heap.push (.cells (aP d (rq d)) 107 (0,0))) (λw' v _ _ _=>?_) ?_ ?_
   .rw[k7];unfold aP;rw[<-v];clear f5 a last a4 d2 a8 d8 hrel e2 e0 d4 f3 f9 o G e3 e4 d9 f2 e1 g3 g0 g1 h0 g2 k7 v
    go_wp2
    rename_i t7;refine t7 _ _ ?_
    go_wp2
    exact⟨A,A⟩
   .grind [yW]
   rintro v8 _ s9 p9 g7 g9 g4⟨rfl,h3⟩;obtain⟨b,i9⟩:∃t,aP d (rq d)=t:=⟨_,A⟩;rw[i9]at h3 g4;refine bz (bT aC (by decide) (by decide) (y:=[15]) A (by rfl) g7 g4 (λi a7=>i=⟨#[pt u 0,a9,b6,b7,c8,d1,n,.iface 107 (.agg b),pt a5.heap.size 0,.bool J,b0,b1,b2,b3,b4,b5,.tuple #[.iface 107 (.agg b),.bool J],.bool J,.iface 107 (.agg b),.tuple #[.agg b,.bool J],.iface 107 (.agg b),.tuple #[.agg b,.bool J],.agg b,.bool J,.bool J,e6,e7,e8,e9,f6,f4,f0,d5,d6,d7,b8,b9,c0,c6,c7,c9,d0],[]⟩/\a7.heap=p9.heap) (λw' v _ _ _=>?_) (λi f1 a w _=>by rw[a.2]) ?_)
   .clear f5 a last a4 d2 a8 d8 hrel e2 e0 d4 f3 f9 o G e3 e4 d9 f2 e1 g3 g0 g1 h0 g2 k7 g4 g7 g9 h3 i9
    go_wp2
    exact⟨A,v⟩
   rintro v9 _ t0 f7 g8 h8 h1⟨rfl,i8⟩;refine iO (k:=J) (iP g8.base h1 (by decide) A) (bz ?_);have j0:a5.heap.size=e.heap.size:=by rw[g2]
   have u6:f7.heap.size=a5.heap.size+1:=by simp_all
   have q5:f7.heap[a5.heap.size]?=C (Xn (aP d (rq d)) 107 (0,0)):=by simp_all
   have i3:∀c,c<e.heap.size->f7.heap[c]?=e.heap[c]?:=λc a6=>by grind
   have r8:∀a1,n.ownBlock=C a1->a1<e.heap.size:=λa1 d3=>by
    rcases a4 with⟨rfl,_⟩|⟨x7,x4,x5,rfl,_,x8,_⟩
    .cases d3
    cases d3;grind
   have r5:nY r.heap.size rq a3 n f7:=a4.kept λa1 d3=>i3 a1 (r8 a1 d3);have j2:r.heap.size<=e.heap.size:=a.grow.size;have u5:=o.small;have t9:=a.len;refine bT aC (by decide) (by decide) (y:=[15]) A (by rfl) g8 h1 (GJ r.heap.size rq a3 d (λg6=>⟨#[pt u 0,a9,b6,b7,c8,d1,g6,.iface 107 (.agg b),pt a5.heap.size 0,.bool J,b0,b1,b2,b3,b4,b5,.tuple #[.iface 107 (.agg b),.bool J],.bool J,.iface 107 (.agg b),.tuple #[.agg b,.bool J],.iface 107 (.agg b),.tuple #[.agg b,.bool J],.agg b,.bool J,.bool J,n,.agg b,Xm (C ⟨f7.heap.size,0,F⟩) 1 1,g6,f6,f4,f0,d5,d6,d7,b8,b9,c0,c6,c7,c9,d0],[]⟩) f7 n) (λw' v _ _ _=>?_) ?_ ?_
   .have o9:b=#[Xd K d,Xd K l2,Xd K l3,.string l4,.string l5,Xd K l6,Xd K l7,.bool l8,.slice k9 k8 l0]:=by rw[<-i9,k7];rfl
    have r4:∀Q,nY r.heap.size rq a3 n (w'.alloc Q):=λQ=>r5.kept λa1 d3=>by
     show(w'.heap.push Q)[a1]?=_
     grind
    have r0:(w'.alloc (.cells #[Xd K d,Xd K l2,Xd K l3,.string l4,.string l5,Xd K l6,Xd K l7,.bool l8,.slice k9 k8 l0] 107)).heap[w'.heap.size]?=C (Xn (aP d (rq d)) 107 (0,0)):=by rw[i9,o9];show(w'.heap.push _)[_]?=_;simp
    have q6:∀h7 m1,nY r.heap.size rq (a3++[d]) h7 m1->(w'.alloc (.cells #[Xd K d,Xd K l2,Xd K l3,.string l4,.string l5,Xd K l6,Xd K l7,.bool l8,.slice k9 k8 l0] 107)).grownBy m1 n.ownBlock->(∀a1,h7.ownBlock=C a1->n.ownBlock=C a1\/(w'.alloc (.cells #[Xd K d,Xd K l2,Xd K l3,.string l4,.string l5,Xd K l6,Xd K l7,.bool l8,.slice k9 k8 l0] 107)).heap.size<=a1)->GJ r.heap.size rq a3 d (λg6=>⟨#[pt u 0,a9,b6,b7,c8,d1,g6,.iface 107 (.agg b),pt a5.heap.size 0,.bool J,b0,b1,b2,b3,b4,b5,.tuple #[.iface 107 (.agg b),.bool J],.bool J,.iface 107 (.agg b),.tuple #[.agg b,.bool J],.iface 107 (.agg b),.tuple #[.agg b,.bool J],.agg b,.bool J,.bool J,n,.agg b,Xm (C ⟨f7.heap.size,0,F⟩) 1 1,g6,f6,f4,f0,d5,d6,d7,b8,b9,c0,c6,c7,c9,d0],[]⟩) f7 n ((λg6=>⟨#[pt u 0,a9,b6,b7,c8,d1,g6,.iface 107 (.agg b),pt a5.heap.size 0,.bool J,b0,b1,b2,b3,b4,b5,.tuple #[.iface 107 (.agg b),.bool J],.bool J,.iface 107 (.agg b),.tuple #[.agg b,.bool J],.iface 107 (.agg b),.tuple #[.agg b,.bool J],.agg b,.bool J,.bool J,n,.agg b,Xm (C ⟨w'.heap.size,0,F⟩) 1 1,g6,f6,f4,f0,d5,d6,d7,b8,b9,c0,c6,c7,c9,d0],[]⟩) h7) m1:=λh7 m1 q1 h4 h5=>⟨h7,by rw[v],q1,by
     have:=h4.size
     grind,λa1 d3 q9=>by
     have y0:a1<w'.heap.size:=by rw[v];exact d3
     rw[h4.block a1 (by show a1<(w'.heap.push _).size;simp;omega) (by intro p;exact q9 p.symm)];show(w'.heap.push _)[a1]?=_
     grind,λa1 d3=>(h5 a1 d3).imp id λa=>by
     grind⟩
    have s2:=Xl q6;have s5:=Xl r4;have s3:=Xl r0;have k3:=q5;rw[<-v,i9,o9]at k3;have cell:∀j t,#[Xe.int K d,Xd K l2,Xd K l3,.string l4,.string l5,Xd K l6,Xd K l7,.bool l8,.slice k9 k8 l0][j]?=C t->w'.cell? ⟨a5.heap.size,j,F⟩=C t:=λj t y7=>by simp_all [M.cell?]
    have x0:=cell 0 _ A;have c1:=cell 1 _ A;have c2:=cell 2 _ A;have c3:=cell 3 _ A;have c4:=cell 4 _ A;have c5:=cell 5 _ A;have x1:=cell 6 _ A;have x2:=cell 7 _ A;have x3:=cell 8 _ A;have y3:r.heap.size<=w'.heap.size+1:=by grind
    have t8:a3.length<2^30:=by omega
    clear q6 r4 r0 cell k3;subst o9;clear f5 a last a4 d2 a8 f8 d8 hrel e2 e0 d4 f3 f9 o G e3 e4 d9 f2 e1 g3 g0 g1 h0 g2 k7 g4 g7 g9 h3 i9 r5 i3 q5 u6 j0 h1 g8 h8 i8 r8 j2 u5 t9 v
    go_wp2_with (at_builtin;refine oh A _ _ A rfl rfl (s5.out _) s3.out t8 (by simp_all) ?_;intro h7 m1 q1 h4 h5)
    exact s2.out _ _ q1 h4 h5
   .rintro i a7⟨g6,_,_,y5,d3,_⟩ w a2;have t5:=(G.Ob w a2).1;refine d3 w (by omega) λp=>?_;have:=a4.low p;omega
   rintro w0 _ t1 n5 i6 i7 j1⟨g6,rfl,u4,y6,y1,x9⟩;refine sb (id:=1) A ?_;have r2:∀c,c<e.heap.size->n.ownBlock≠C c->n5.heap[c]?=e.heap[c]?:=λc a6 q9=>by grind
   have u1:=o.lt e5 own k0 e d2;refine f5 (d+1) _ _ _ ⟨by omega,a3++[d],e5,_,⟨i6,((((a.grow.trans f2).trans g1).trans g9).trans h8).trans i7,j1,A,A,A,⟨own,k0,g6,A,?_,⟨?_,f8⟩,u4,?_⟩,?_,?_,?_,?_⟩⟩
   .refine o.sm e5 own k0 e n5 ⟨by omega,λc a6=>r2 c (u1 c (Xh a6)) λp=>(d8 c p).1 a6,λc a6=>by grind⟩ d2
   .exact⟨by omega,λc a6 u2=>(a8.keep c a6 u2).trans (Xh (r2 c (by omega) λp=>by have:=(a4.low p).1;omega)),a8.more⟩
   .grind
   .rw[Xg.foldl_append,a.Vd,fold_succ];simp_all [stepT]
   .intro w a2;rcases YC.1 a2 with a2|a2
    .exact⟨by have:=(a.mem w a2).1;omega,(a.mem w a2).2⟩
    simp_all
   .simp;omega
   intro m8 m5;rw[Yw]at m5;simp only[Yl,Zd]at m5;by_cases p:m8<a3.length
   .have:=a.RZ m8 p;simp_all
   obtain rfl:m8=a3.length:=by omega
   simp_all
  |false=>
   obtain⟨l,k,r1,i4⟩:=o.no d f3 o8;rw[e3]at r1;subst r1;refine bT aC (by decide) (by decide) (y:=[15]) A (by rfl) g0 g3 (λi a7=>i=⟨#[pt u 0,a9,b6,b7,c8,d1,n,.iface l k,pt a5.heap.size 0,.bool Xf,b0,b1,b2,b3,b4,b5,.tuple #[.iface l k,.bool J],.bool J,.iface l k,.tuple #[.agg #[Xd K 0,Xd K 0,Xd K 0,.string XB.empty,.string XB.empty,Xd K 0,Xd K 0,.bool Xf,Xm F 0 0],.bool Xf],.iface l k,.tuple #[.agg #[Xd K 0,Xd K 0,Xd K 0,.string XB.empty,.string XB.empty,Xd K 0,Xd K 0,.bool Xf,Xm F 0 0],.bool Xf],.agg #[Xd K 0,Xd K 0,Xd K 0,.string XB.empty,.string XB.empty,Xd K 0,Xd K 0,.bool Xf,Xm F 0 0],.bool Xf,i0,e6,e7,e8,e9,f6,f4,f0,d5,d6,d7,b8,b9,c0,c6,c7,c9,d0],[]⟩/\a7.heap=a5.heap.push (.cells #[Xd K 0,Xd K 0,Xd K 0,.string XB.empty,.string XB.empty,Xd K 0,Xd K 0,.bool Xf,Xm F 0 0] 107 (0,0))) (λw' v _ _ _=>?_) ?_ ?_
   .rw[<-v];have y4:=Ja (t:=k) i4 w';clear f5 a last a4 d2 a8 f8 d8 hrel e2 e0 d4 f3 f9 o G e3 e4 d9 f2 e1 g3 g0 g1 h0 g2 v i4
    go_wp2
    exact⟨A,A⟩
   .grind [yW]
   rintro v8 _ s9 p9 g7 g9 g4⟨rfl,h3⟩;refine bz (bT aC (by decide) (by decide) (y:=[15]) A (by rfl) g7 g4 (λi a7=>i=⟨#[pt u 0,a9,b6,b7,c8,d1,n,.iface l k,pt a5.heap.size 0,.bool Xf,b0,b1,b2,b3,b4,b5,.tuple #[.iface l k,.bool J],.bool J,.iface l k,.tuple #[.agg #[Xd K 0,Xd K 0,Xd K 0,.string XB.empty,.string XB.empty,Xd K 0,Xd K 0,.bool Xf,Xm F 0 0],.bool Xf],.iface l k,.tuple #[.agg #[Xd K 0,Xd K 0,Xd K 0,.string XB.empty,.string XB.empty,Xd K 0,Xd K 0,.bool Xf,Xm F 0 0],.bool Xf],.agg #[Xd K 0,Xd K 0,Xd K 0,.string XB.empty,.string XB.empty,Xd K 0,Xd K 0,.bool Xf,Xm F 0 0],.bool Xf,.bool Xf,e6,e7,e8,e9,f6,f4,f0,d5,d6,d7,b8,b9,c0,c6,c7,c9,d0],[]⟩/\a7.heap=p9.heap) (λw' v _ _ _=>?_) (λi f1 a w _=>by rw[a.2]) ?_)
   .clear f5 a last a4 d2 a8 f8 d8 hrel e2 e0 d4 f3 f9 o G e3 e4 d9 f2 e1 g3 g0 g1 h0 g2 g4 g7 g9 h3 i4
    go_wp2
    exact⟨A,v⟩
   rintro v9 _ t0 f7 g8 h8 h1⟨rfl,i8⟩;refine iO (k:=Xf) (iP g8.base h1 (by decide) A) (sq (bz (eA ?_)));have j0:a5.heap.size=e.heap.size:=by rw[g2]
   have m7:f7.heap.size=e.heap.size+1:=by simp_all
   have i3:∀c,c<e.heap.size->f7.heap[c]?=e.heap[c]?:=λc a6=>by grind
   have j2:r.heap.size<=e.heap.size:=a.grow.size;refine vH aC (by decide) (by decide) (z:=C 29) (R:=.move (.tmp 0)) ⟨_,A,A,A,A⟩ (U:=[15]) A (by rfl) (by decide) g8 h1 (λi a7=>i=⟨#[pt u 0,a9,b6,b7,c8,d1,n,.iface l k,pt a5.heap.size 0,.bool Xf,b0,b1,b2,b3,b4,b5,.tuple #[.iface l k,.bool J],.bool J,.iface l k,.tuple #[.agg #[Xd K 0,Xd K 0,Xd K 0,.string XB.empty,.string XB.empty,Xd K 0,Xd K 0,.bool Xf,Xm F 0 0],.bool Xf],.iface l k,.tuple #[.agg #[Xd K 0,Xd K 0,Xd K 0,.string XB.empty,.string XB.empty,Xd K 0,Xd K 0,.bool Xf,Xm F 0 0],.bool Xf],.agg #[Xd K 0,Xd K 0,Xd K 0,.string XB.empty,.string XB.empty,Xd K 0,Xd K 0,.bool Xf,Xm F 0 0],.bool Xf,.bool Xf,e6,e7,e8,e9,pt u 0,f4,f0,d5,d6,d7,b8,b9,c0,c6,c7,c9,d0],[]⟩/\a7.heap=f7.heap) (λw' v _ _ _ h6 y p=>?_) (λi f1 a w _=>by rw[a.2]) ?_
   .clear f5 a last a4 d2 a8 f8 d8 hrel e2 e0 d4 f3 f9 o G e3 e4 d9 f2 e1 g3 g0 g1 h0 g2 g4 g7 g9 h3 i4 h1 g8 h8 i8 i3 m7 j0 j2
    go_wp2
   rintro w0 _ t1 n5 i6 i7 j1⟨rfl,m4⟩;refine vH aC (by decide) (by decide) (z:=C 30) (R:=.move (.tmp 6)) ⟨_,A,A,A,A⟩ (U:=[15]) A (by rfl) (by decide) i6 j1 (λi a7=>i=⟨#[pt u 0,a9,b6,b7,c8,d1,n,.iface l k,pt a5.heap.size 0,.bool Xf,b0,b1,b2,b3,b4,b5,.tuple #[.iface l k,.bool J],.bool J,.iface l k,.tuple #[.agg #[Xd K 0,Xd K 0,Xd K 0,.string XB.empty,.string XB.empty,Xd K 0,Xd K 0,.bool Xf,Xm F 0 0],.bool Xf],.iface l k,.tuple #[.agg #[Xd K 0,Xd K 0,Xd K 0,.string XB.empty,.string XB.empty,Xd K 0,Xd K 0,.bool Xf,Xm F 0 0],.bool Xf],.agg #[Xd K 0,Xd K 0,Xd K 0,.string XB.empty,.string XB.empty,Xd K 0,Xd K 0,.bool Xf,Xm F 0 0],.bool Xf,.bool Xf,e6,e7,e8,e9,pt u 0,n,f0,d5,d6,d7,b8,b9,c0,c6,c7,c9,d0],[]⟩/\a7.heap=n5.heap) (λw' v _ _ _ h6 y p=>?_) (λi f1 a w _=>by rw[a.2]) ?_
   .clear f5 a last a4 d2 a8 f8 d8 hrel e2 e0 d4 f3 f9 o G e3 e4 d9 f2 e1 g3 g0 g1 h0 g2 g4 g7 g9 h3 i4 h1 g8 h8 i8 i3 m7 j0 j2 j1 i6 i7 m4
    go_wp2
   rintro q0 _ w9 i1 m2 o0 p1⟨rfl,o7⟩;have q7:i1.heap=f7.heap:=o7.trans m4;have k5:∀c,c<e.heap.size->i1.heap[c]?=e.heap[c]?:=λc a6=>by simp_all
   have r6:i1.heap.size=e.heap.size+1:=by simp_all
   have o3:St e5 own k0 i1:=o.push d2 (by omega) k5;have h2:cV f S r q0 i1:=(((((a.grow.trans f2).trans g1).trans g9).trans h8).trans i7).trans o0;have o2:gK R own r i1:=a8.old (by omega) k5;have k6:∀c,f c->¬own c:=λc a6=>a8.free (G.Ob c a6).1 (G.Ob c a6).2
   obtain⟨p8,k4,o6⟩:=DG (a:=i1) o (b3:=C (y,g,d+1)) (z:=z) (f:=f) (λy9 w1 y8 p=>by cases p;exact⟨G.only,G.sh⟩) o3 (a4.kept λa1 d3=>k5 a1 (a4.low d3).2) (λa1 d3=>(d8 a1 d3).1) (λw a2=>⟨by have:=(a.mem w a2).1;omega,(a.mem w a2).2⟩) a.RZ (by have:=a.len;omega) G.xl k6
    (λc a6=>by
      obtain⟨i2,h6,u9,v0⟩:=G.KX c a6
      exact⟨i2,h6,by rw[h2.keep c a6];exact u9,v0⟩) G.Io
   have m6:∀c,f c->p8.heap[c]?=i1.heap[c]?:=λc a6=>by
    rcases k4.blk c with p|⟨p,_⟩
    .exact p
    simp_all
   refine BS k4 k6 ?_;have n6:Inv TP al f q0 p8:=m2.keep m2.base m6;refine yn (l:=#[.tmp 29,.tmp 30]) (a1:=#[76,103]) (by decide) A rfl rfl Tryz.func39 (by decide) A (by decide) n6 A p1 (by simp[Act.eval]) o6 λs1 t2 z0 n4 n7 o1 p2⟨u8,n0,n2,o4,k2,o5⟩=>?_;subst u8;have p0:ar al s1 ⟨[],[(15,.chan (C g.rc))]⟩ ⟨#[pt u 0,a9,b6,b7,c8,d1,n,.iface l k,pt a5.heap.size 0,.bool Xf,b0,b1,b2,b3,b4,b5,.tuple #[.iface l k,.bool J],.bool J,.iface l k,.tuple #[.agg #[Xd K 0,Xd K 0,Xd K 0,.string XB.empty,.string XB.empty,Xd K 0,Xd K 0,.bool Xf,Xm F 0 0],.bool Xf],.iface l k,.tuple #[.agg #[Xd K 0,Xd K 0,Xd K 0,.string XB.empty,.string XB.empty,Xd K 0,Xd K 0,.bool Xf,Xm F 0 0],.bool Xf],.agg #[Xd K 0,Xd K 0,Xd K 0,.string XB.empty,.string XB.empty,Xd K 0,Xd K 0,.bool Xf,Xm F 0 0],.bool Xf,.bool Xf,e6,e7,e8,e9,pt u 0,n,.tuple #[],d5,d6,d7,b8,b9,c0,c6,c7,c9,d0],[]⟩ t2:=p2;have q8:e.heap.size+1<=n4.heap.size:=by have:=k2.size;omega
   refine bP (bz (bT aC (by decide) (by decide) (y:=[15]) A (by rfl) n7 p0 (λi a7=>i=⟨#[pt u 0,a9,b6,b7,c8,d1,Xm F 0 0,.iface l k,pt a5.heap.size 0,.bool Xf,b0,b1,b2,b3,b4,b5,.tuple #[.iface l k,.bool J],.bool J,.iface l k,.tuple #[.agg #[Xd K 0,Xd K 0,Xd K 0,.string XB.empty,.string XB.empty,Xd K 0,Xd K 0,.bool Xf,Xm F 0 0],.bool Xf],.iface l k,.tuple #[.agg #[Xd K 0,Xd K 0,Xd K 0,.string XB.empty,.string XB.empty,Xd K 0,Xd K 0,.bool Xf,Xm F 0 0],.bool Xf],.agg #[Xd K 0,Xd K 0,Xd K 0,.string XB.empty,.string XB.empty,Xd K 0,Xd K 0,.bool Xf,Xm F 0 0],.bool Xf,.bool Xf,e6,e7,e8,e9,pt u 0,n,.tuple #[],d5,d6,d7,b8,b9,c0,c6,c7,c9,d0],[]⟩/\a7.heap=n4.heap) (λw' v _ _ _=>?_) (λi f1 a w _=>by rw[a.2]) ?_))
   .clear f5 a last a4 d2 a8 f8 d8 hrel e2 e0 d4 f3 f9 o G e3 e4 d9 f2 e1 g3 g0 g1 h0 g2 g4 g7 g9 h3 i4 h1 g8 h8 i8 i3 m7 j0 j2 j1 i6 i7 m4 p1 m2 o0 o7 q7 k5 r6 o3 h2 o2 k6 k4 o6 m6 n6 p2 n7 o1 p0 o4 k2 o5 q8
    go_wp2
    exact⟨A,v⟩
   rintro z2 _ w6 n3 q2 q3 r7⟨rfl,m3⟩;have q4:St (a3.foldl rd e5) n0 n2 n3:=o.push o4 (by simp_all) (λc _=>by rw[m3]);refine bT aC (by decide) (by decide) (y:=[15]) A (by rfl) q2 r7 (λi a7=>i=⟨#[pt u 0,a9,b6,b7,c8,d1,Xm F 0 0,.iface l k,pt a5.heap.size 0,.bool Xf,b0,b1,b2,b3,b4,b5,.tuple #[.iface l k,.bool J],.bool J,.iface l k,.tuple #[.agg #[Xd K 0,Xd K 0,Xd K 0,.string XB.empty,.string XB.empty,Xd K 0,Xd K 0,.bool Xf,Xm F 0 0],.bool Xf],.iface l k,.tuple #[.agg #[Xd K 0,Xd K 0,Xd K 0,.string XB.empty,.string XB.empty,Xd K 0,Xd K 0,.bool Xf,Xm F 0 0],.bool Xf],.agg #[Xd K 0,Xd K 0,Xd K 0,.string XB.empty,.string XB.empty,Xd K 0,Xd K 0,.bool Xf,Xm F 0 0],.bool Xf,.bool Xf,e6,e7,e8,e9,pt u 0,n,.tuple #[],pt u 0,.iface l k,.tuple #[],b8,b9,c0,c6,c7,c9,d0],[]⟩/\zq St (x (a3.foldl rd e5) d) n0 n2 n3 a7) (λw' v _ _ _=>?_) ?_ ?_
   .have r3:Calls TP 40 #[pt u 0,.iface l k] w' λp p7=>p=Xs (.tuple #[])/\zq St (x (a3.foldl rd e5) d) n0 n2 n3 p7:=by
     have:=o.one (a3.foldl rd e5) d f3 o8 (by rw[qi o.UZ];exact a.len) n0 n2 w' (o.push q4 (by simp_all) (λc _=>by rw[v]));rw[e3]at this;exact this.mono λp p7⟨m9,n1,q1,h4,h5,p5⟩=>⟨q1,m9,n1,h4,h5.heap v.symm,by simp_all⟩
    have s4:=Xl r3;clear r3;clear f5 a last a4 d2 a8 f8 d8 hrel e2 e0 d4 f3 f9 o G e3 e4 d9 f2 e1 g3 g0 g1 h0 g2 g4 g7 g9 h3 i4 h1 g8 h8 i8 i3 m7 j0 j2 j1 i6 i7 m4 p1 m2 o0 o7 q7 k5 r6 o3 h2 o2 k6 k4 o6 m6 n6 p2 n7 o1 p0 o4 k2 o5 q8 r7 q2 q3 m3 q4 v
    go_wp2_with (go_at_call 40;refine s4.out.mono ?_;rintro p p7⟨rfl,u3⟩)
    exact⟨A,u3⟩
   .rintro i a7⟨_,m9,n1,h4,h5,p5⟩ w a2;have t5:=G.Ob w a2;have t6:=h2.size;refine h5.keep w (by grind) ?_;exact k2.free (by omega) (k6 w a2)
   rintro z3 _ w7 z1 s6 t4 u7⟨rfl,m9,n1,h4,h5,p5⟩;have t6:=h2.size;have y2:n3.heap.size=n4.heap.size:=by rw[m3]
   refine BU (f5 (d+1) _ _ _ ⟨by omega,[],x (a3.foldl rd e5) d,_,⟨s6,?_,u7,A,A,A,⟨m9,n1,_,A,h4,⟨?_,?_⟩,Xh ⟨A,A⟩,(λa1 d3=>by cases d3)⟩,?_,(λw a2=>by cases a2),by rw[o.RZ,qi o.UZ,a.len];rfl,(λm8 m5=>by cases m5)⟩⟩)
   .refine cV.trans (cV.trans (β₁:=s1) (w₁:=n4) ?_ q3) t4;have t3:cV f S r q0 p8:=⟨h2.le,h2.fresh,by rw[k4.size];exact h2.size,λc a6=>by rw[m6 c a6];exact h2.keep c a6⟩;exact t3.trans o1
   .exact((o2.trans k2).old (by omega) (λc _=>by rw[m3])).trans h5.qQ
   .exact(f8.trans o5 (by omega)).trans p5 (by omega)
   rw[fold_succ,<-a.Vd]
   grind [stepT]
 clear a m e c q;rintro d m e q⟨u0,a3,e5,c,a⟩;obtain rfl:d=O:=by omega
 obtain⟨own,k0,v5,k1,d2,⟨a8,f8⟩,a4,d8⟩:=a.st;obtain⟨v2,n9⟩:=c;obtain⟨v3,a9,b6,b7,c8,d1,n,m0,j8,j9,b0,b1,b2,b3,b4,b5,v4,p6,l9,j3,j4,j5,j6,j7,i0,e6,e7,e8,e9,f6,f4,f0,d5,d6,d7,b8,b9,c0,c6,c7,c9,d0,rfl⟩:=GS a.size;have hd:n9=[]:=a.defs;subst hd;have l1:=a.VR;simp only[Yo,Yv,Yq,Yh]at l1 k1;subst l1 k1;have hrel:=a.rel;have e2:=a.inv;refine bz (eA ?_);show sW TP (C (y,g,d)) F z al f m e (rg ((base 31).at q (Xv _ (0::[1])::_)) N);have e0:q.tmps[15]?=C (.chan (C g.rc)):=hrel.kn (15,_) (by simp);refine BV (l:=.nilIface) (GU (j:=16) (h:=15) (by decide) ⟨_,A,A,A,A⟩ e0 lp) (λp=>absurd p (by rw[G.dn];omega)) (λ_=>?_);rw[za ⟨_,_,A,A,A,A⟩]
 have d4:ar al m ⟨[],[]⟩ ⟨#[pt u 0,a9,b6,b7,c8,d1,n,m0,j8,j9,b0,b1,b2,b3,b4,b5,.tuple #[.nilIface,.bool Xf],p6,l9,j3,j4,j5,j6,j7,i0,e6,e7,e8,e9,f6,f4,f0,d5,d6,d7,b8,b9,c0,c6,c7,c9,d0],[]⟩ (q.put (C 16) (.tuple #[.nilIface,.bool Xf])):=by
  refine ar.less (d1:=⟨[],[(15,.chan (C g.rc))]⟩) ?_ A (by simp);refine hrel.put (C 16) A (v:=.tuple #[.nilIface,.bool Xf]) (.tuple A ?_);intro L w v6 a2 i5;rcases(by grind:L=0\/L=1)with rfl|rfl
  .simp at a2 i5;subst a2 i5;exact .nilIface
  simp at a2 i5;subst a2 i5;exact .bool _
 generalize q.put (C 16) (.tuple #[.nilIface,.bool Xf])=s7 at d4⊢
 show(goalAt TP F F z al f).G m e _;refine vH aC (by decide) (by decide) (z:=C 17) (R:=.extract (.tmp 16) 1) ⟨_,A,A,A,A⟩ (U:=[]) A (by rfl) (by decide) e2 d4 (λi f1=>i=⟨#[pt u 0,a9,b6,b7,c8,d1,n,m0,j8,j9,b0,b1,b2,b3,b4,b5,.tuple #[.nilIface,.bool Xf],.bool Xf,l9,j3,j4,j5,j6,j7,i0,e6,e7,e8,e9,f6,f4,f0,d5,d6,d7,b8,b9,c0,c6,c7,c9,d0],[]⟩/\f1.heap=e.heap) (λw' v _ _ _ h6 y p=>?_) (λi f1 a w _=>by rw[a.2]) ?_
 .clear a last a4 d2 a8 f8 d8 hrel e2 e0 d4 o G
  go_wp2
 rintro s0 _ s8 f1 d9 f2 e4⟨rfl,e1⟩;refine bP (bz (iO (k:=Xf) (iP d9.base e4 (by decide) A) (sb (id:=0) A ?_)));refine last a3 e5 _ _ _ _ ⟨d9,a.grow.trans f2,e4,A,A,A,⟨own,k0,_,A,o.push d2 (by simp_all) (λc _=>by rw[e1]),⟨a8.old (by simp_all) (λc _=>by rw[e1]),f8⟩,a4.kept (λa1 _=>by rw[e1]),d8⟩,a.Vd,a.mem,a.len,a.RZ⟩
end
variable{d:Xe}{e:E}{a:M}{k:Xp Xw}
theorem results31{b:Xk Xe}(c:b[4]?=C d)(a:M):(results Tryz.f31 b).run TP a=.ok d a:=by simp_all [results]
structure Ll(b:E->Prop)(own t:E->Prop)(a s:M):Prop where
 size:a.heap.size<=s.heap.size
 keep:∀n,n<a.heap.size->¬own n->¬b n->gd a s n
 list:∀n,b n->s.heap[n]?=(a.heap[n]?).map Obj.whole
 more:∀n,t n->own n\/a.heap.size<=n
section
variable{g:Type}{St:g->(E->Prop)->(E->Prop)->M->Prop}{q:g->E->Xe->(E->Prop)->(E->Prop)->M->Prop}{rd o:g->E->g}{look:g->E->LR}{b:E->Prop}{r:E}{rq:E->RV}{m:E->Xo}{p:E->Xe}{cnt:g->E}
variable{c i:E->Prop}{h:g}
theorem JD(O:HC St q rd o look b u r e rq m p cnt)(n7:cnt h=0){f9:E}{W:Xk Xe}{g1:Xq}{Y:E×E}(S:Ls b a k e f9 rq p)(i9:a.heap[u]?=C (Xn W g1 Y))(n2:8<W.size)(n9:Y.1=Y.2)(j7:¬b u)(t2:c u)(k5:∀l,f l->b l)(k2:∀l,Im l->f l)
 (k1:∀l,c l->l<a.heap.size/\¬b l)(k8:∀f3,Eu a f3 u e f9 k W g1 Y->St h c i (jR (uA b a.heap.size) f3))(out:∀h7 own y a,St h7 own y a->∃W g1 Y d,a.heap[u]?=C (Xn W g1 Y)/\W[8]?=C d):
 Co (goalAt TP F F z al f) 31 #[pt u 0,.slice k e f9] a λd t=>∃own y,St ((Xg.range e).foldl (stepT rd o m) h) own y t/\t.cell? ⟨u,8,F⟩=C d/\Ll b c own a t/\il i y a.heap.size:=by
 intro q7 r7 f5 i4 d9 s next
 refine MQ S i9 n2 n9 j7 k5 k2 d9 s λf4 f3 g7 g0 g5 m3 i5 m4 X j5 g6 Q j6 e5=>?_;have k0:∀l,b l->l<a.heap.size:=λl s=>by obtain⟨_,_,_,n,_⟩:=S.closed l s;grind
 obtain⟨T,e4⟩:∃T,(LB u a.heap.size e f9 k).tmps=T:=by simp
 have o7:T.size=42:=by rw[<-e4];rfl
 have e6:T[0]?=C (pt u 0):=by rw[<-e4];rfl
 have l0:T[5]?=C (pt (a.heap.size+1) 0):=by rw[<-e4];rfl
 replace e5:ar al f4 ⟨[],[]⟩ ⟨T,[]⟩ g7:=by rw[<-e4];exact e5
 clear e4;obtain⟨p9,a2,b3,c9,e9,f2,L,d5,d6,d7,a3,a4,a5,a6,a7,a8,a9,b0,b1,b2,b4,b5,b6,b7,b8,b9,c0,c6,c7,c8,d0,d1,d2,d3,d4,l1,h8,g2,e7,e8,f0,f1,rfl⟩:=GS o7;simp only[Yo,Yv,Yq,Yh]at e6 l0;subst e6 l0;show(KF z g0 g5 (uA b a.heap.size) 0).G f4 _ (rg ((base 31).at g7 [.code (.seq _ _)]) (f5::i4));obtain⟨x,H⟩:∃x,x=jR (uA b a.heap.size) f3:=by simp
 rw[<-H]at g6 Q⊢
 have Z:=k8 f3 X;rw[<-H]at Z;have t3:x.heap.size=a.heap.size+2:=by rw[H,qy,X.size]
 refine bz (bT aC (by decide) (by decide) (y:=[]) A (by rfl) g6 e5 (λw N=>w=⟨#[pt u 0,a2,b3,c9,e9,pt (a.heap.size+1) 0,Xm F 0 0,d5,d6,d7,a3,a4,a5,a6,a7,a8,a9,b0,b1,b2,b4,b5,b6,b7,b8,b9,c0,c6,c7,c8,d0,d1,d2,d3,d4,l1,h8,g2,e7,e8,f0,f1],[]⟩/\N.heap=x.heap) (λt e0 _ _ _=>?_) (λw h9 n v _=>by rw[n.2]) ?_)
 .clear e5 Z next O S i9 k8 out d9 g6 Q s X j5 H j6
  go_wp2
  exact⟨A,e0⟩
 rintro u9 _ s0 N i1 g8 k6⟨rfl,h1⟩;refine bz (bz (eA ?_));refine SJ (j:=15) (i:=5) (k:=a.heap.size+1) (by decide) (by decide) ⟨_,A,A,A,A⟩ A i1 k6 A (g8.le _ _ j6) ⟨99,_,by rw[h1,H,iN (.inr (.inr A)),X.h5];rfl⟩ (by simp) λq8 s1 q4 i2 i7 j9 k7=>?_;show(KF z g0 g5 (uA b a.heap.size) 0).G q8 q4 _;refine bP ?_;have h0:=j9.trans h1
 have G:We b (uA b a.heap.size) u e p g5 f4 x c:={
  dn:=m3
  dt:=i5
  only:=λp6=>by rw[i5,m4];exact S.only p6
  sh:=λl n=>Xh (by simp_all)
  xl:=λl n=>Xh n
  Ob:=λv a0=>by
   rcases a0 with a0|rfl|rfl
   .exact⟨by have:=k0 v a0;omega,λh3=>(k1 v h3).2 a0⟩
   .exact⟨by omega,λh3=>by have:=(k1 _ h3).1;omega⟩
   grind
  KX:=λl s=>by obtain⟨m1,a1,s8,h4,h5,t6,p7⟩:=j5 l s;exact⟨m1,a1,by rw[H,iN s,h4];rfl,h5,p7⟩
  Io:=λe1 R n1=>Xh (S.bF e1 R n1)}
 refine BX (R:=c) (Y:=i) (U:=h) O G A ?_ ⟨i2,g8.trans i7,k7,A,A,A,⟨c,i,_,A,O.push Z (by simp_all) (λl _=>by rw[h0]),⟨(gK.refl _ _).old (by simp_all) (λl _=>by rw[h0]),λl n=>Xh n⟩,Xh ⟨A,A⟩,(λe1 f6=>by cases f6)⟩,A,(λv a0=>by cases a0),by rw[n7];rfl,(λt7 o2=>by cases o2)⟩;clear e5 k6 k7 i1 g8 h1 i2 i7 j9 h0 Z;intro r4 h7 u7 t l g7 n;obtain⟨own,y,u4,i8,Z,⟨j1,n6⟩,o6,h2⟩:=n.st;obtain⟨T,s6⟩:=l;obtain⟨p9,a2,b3,c9,e9,f2,L,d5,d6,d7,a3,a4,a5,a6,a7,a8,a9,b0,b1,b2,b4,b5,b6,b7,b8,b9,c0,c6,c7,c8,d0,d1,d2,d3,d4,l1,h8,g2,e7,e8,f0,f1,rfl⟩:=GS n.size;have hd:=n.defs;subst hd;have e6:=n.VR;simp only[Yo,Yv,Yq,Yh]at e6 i8;subst e6 i8;refine bz (eA ?_);refine vH aC (by decide) (by decide) (z:=C 35) (R:=.move (.tmp 0)) ⟨_,A,A,A,A⟩ (U:=[]) A (by rfl) (by decide) n.inv n.rel (λw N=>w=⟨#[pt u 0,a2,b3,c9,e9,f2,L,d5,d6,d7,a3,a4,a5,a6,a7,a8,a9,b0,b1,b2,b4,b5,b6,b7,b8,b9,c0,c6,c7,c8,d0,d1,d2,d3,d4,pt u 0,h8,g2,e7,e8,f0,f1],[]⟩/\N.heap=t.heap) (λt e0 _ _ _ a1 g0 D=>?_) (λw h9 n v _=>by rw[n.2]) ?_
 .go_wp2
 rintro v0 _ s2 q6 l6 m8 p0⟨rfl,o0⟩;refine vH aC (by decide) (by decide) (z:=C 36) (R:=.move (.tmp 6)) ⟨_,A,A,A,A⟩ (U:=[]) A (by rfl) (by decide) l6 p0 (λw N=>w=⟨#[pt u 0,a2,b3,c9,e9,f2,L,d5,d6,d7,a3,a4,a5,a6,a7,a8,a9,b0,b1,b2,b4,b5,b6,b7,b8,b9,c0,c6,c7,c8,d0,d1,d2,d3,d4,pt u 0,L,g2,e7,e8,f0,f1],[]⟩/\N.heap=q6.heap) (λt e0 _ _ _ a1 g0 D=>?_) (λw h9 n v _=>by rw[n.2]) ?_
 .go_wp2
 rintro q9 _ s3 g4 i3 m9 p1⟨rfl,o1⟩;have f7:=o1.trans o0;have n4:St h7 own y g4:=O.push Z (by simp_all) (λl _=>by rw[f7]);have e2:=(n.grow.trans m8).trans m9;have k4:=λl s=>j1.free (G.Ob l s).1 (G.Ob l s).2
 obtain⟨l2,g9,n8⟩:=DG (a:=g4) O (b3:=F) (z:=z) (f:=uA b a.heap.size) (λt9 r2 t5 D=>by cases D) n4 (o6.kept λe1 f6=>by rw[f7]) (λe1 f6=>(h2 e1 f6).1) n.mem n.RZ (by have:=n.len;omega) G.xl k4
  (λl s=>by
    obtain⟨f5,a1,h4,h5⟩:=G.KX l s
    exact⟨f5,a1,by rw[e2.keep l s];exact h4,h5⟩) G.Io
 have k3:∀l,uA b a.heap.size l->l2.heap[l]?=g4.heap[l]?:=λl s=>by
  rcases g9.blk l with D|⟨D,_⟩
  .exact D
  simp_all
 refine BS g9 k4 ?_;have l7:=i3.keep i3.base k3;refine yn (l:=#[.tmp 35,.tmp 36]) (a1:=#[76,103]) (by decide) A rfl rfl Tryz.func39 (by decide) A (by decide) l7 A p1 (by simp[Act.eval]) n8 λr0 m0 u3 q3 l8 n0 p2⟨p4,k9,q0,j4,n3,n5⟩=>?_;subst p4;have o8:ar al r0 ⟨[],[]⟩ ⟨#[pt u 0,a2,b3,c9,e9,f2,L,d5,d6,d7,a3,a4,a5,a6,a7,a8,a9,b0,b1,b2,b4,b5,b6,b7,b8,b9,c0,c6,c7,c8,d0,d1,d2,d3,d4,pt u 0,L,.tuple #[],e7,e8,f0,f1],[]⟩ m0:=p2;obtain⟨r1,u2,s9,g3,t0,t4⟩:=out _ _ _ _ j4;refine bP (bz (bT aC (by decide) (by decide) (y:=[]) A (by rfl) l8 o8 (λw N=>w=⟨#[pt u 0,a2,b3,c9,g3,f2,L,d5,d6,d7,a3,a4,a5,a6,a7,a8,a9,b0,b1,b2,b4,b5,b6,b7,b8,b9,c0,c6,c7,c8,d0,d1,d2,d3,d4,pt u 0,L,.tuple #[],pt u 0,pt u 0,pt u 8,g3],[]⟩/\N.heap=q3.heap) (λt e0 _ _ _=>?_) (λw h9 n v _=>by rw[n.2]) ?_))
 .have t1:t.cell? ⟨u,8,F⟩=C g3:=by grind [World.cell?]
  go_wp2
  exact⟨A,e0⟩
 rintro d8 _ l9 U l4 m6 o9⟨rfl,j8⟩;have j3:=O.push j4 (w':=U) (by simp_all) (λl _=>by rw[j8]);rw[n.Vd]at j3;have j0:gK c k9 x U:=((j1.old (w2:=g4) (by simp_all) (λl _=>by rw[f7])).trans n3).old (by simp_all) (λl _=>by rw[j8]);refine Goal.pure _ A rfl (g₁:=rg {(base 31).at l9 [.code .ret]with mode:=.returning} (f5::i4)) (λr6=>by rfl) ?_
 have e3:cV (uA b a.heap.size) f4 x d8 U:=by have m5:cV (uA b a.heap.size) f4 x q9 l2:=⟨e2.le,e2.fresh,by rw[g9.size];exact e2.size,λl s=>by rw[k3 l s];exact e2.keep l s⟩;exact(m5.trans n0).trans m6
 have f8:=λl s=>(e3.keep l (Xh (k5 l s))).trans (Q.keep l s);refine Py (r:=d8) (k:=U) (t:=f) (λ_ _ n=>n) id (λ_ n=>n) (d9.cO.keep f8) k2 ?_;have l3:Inv TP al f d8 U:=⟨l4.base,d9.cO.keep f8,d9.iQ.keep f8⟩
 have i6:cV f q7 a d8 U:=⟨λv i0 n=>e3.le _ _ (Q.le _ _ n),λv i0 p5=>by
  rcases e3.fresh v i0 p5 with R|R
  .exact Q.fresh v i0 R
  omega,XZ Q.size e3.size,f8⟩
 show(goalAt TP F F z al f).G d8 U _;refine qj (R:=λd t=>∃own y,St ((Xg.range e).foldl (stepT rd o m) h) own y t/\t.cell? ⟨u,8,F⟩=C d/\Ll b c own a t/\il i y a.heap.size) aC (by decide) A (fn:=Tryz.f31) Tryz.func31 l3 A o9 A (Tp.all λa1=>⟨g3,results31 A _,k9,q0,?_,?_,?_,?_⟩) λd q2 q5 l5 m7 p3 S=>next d8 d q2 q5 l5 (i6.trans m7) p3 S
 .exact O.push j3 (XS _) (λ_ _=>rfl)
 .grind [World.cell?]
 .refine⟨i6.size,λl s h2 o5=>?_,λl s=>?_,λl s=>?_⟩
  .have o3:¬uA b a.heap.size l:=by
    rintro(n|n|n)
    .exact o5 n
    .omega
    omega
   have o4:l≠u:=by grind
   have j2:x.heap[l]?=a.heap[l]?:=by rw[H,uq o3,X.old l s o4]
   exact gd.trans (Xh j2) (j0.keep l (by omega) h2)
  .have j2:x.heap[l]?=(a.heap[l]?).map Obj.whole:=by rw[H,iN (.inl s),X.old l (k0 l s) (λD=>j7 (D▸s))]
   have:=e3.keep l (Xh s);simp_all
  rcases j0.more l s with R|R
  .exact Xh R
  omega
 exactλl s=>(n6.trans n5 (by rw[f7];exact n.grow.size) l s).imp id λn=>by omega
end
variable{c:M}{d:Xr}{e:Xg Xr}{N:Exit->Xu->M->Prop}{p:Xu}{t:M}{R:E}{H:Xt}{r:Xg Item}{u:Xu}{y:Xe}{q:M}
section
variable{main:Xo}{l:Goal P h main f}
variable{s:Rt}
def tV(f:E->Prop)(c t:M):Prop:=∀a,f a->t.heap[a]?=c.heap[a]?
theorem GG(a:Xg Oper):∀r,(∀j,j<a.length->a[j]?=D[r+j]?)->wpOps P D N (Xg.range' r a.length)=wpList P D N a:=by
 induction a with
 |nil=>simp[wpOps,wpList]
 |cons Q a d=>
  intro r b;have e:D[r]?=C Q:=by simpa using(b 0 (by simp)).symm
  have f:=d (r+1) λj c=>by have:=b (j+1) (by simpa using c);simpa[abl,abn 1]using this
  simp_all [Xg.range'_succ,wpOps,wpList]
theorem kp(b:t.heap=c.heap){a:Prop}(d:a):tV f c t/\a:=⟨λe _=>by rw[b],d⟩
theorem vN(b:t.heap=c.heap){a:XG}(g:CW l d s e a N p t):tV f c t/\CW l d s e a N p t:=kp b g
theorem TF(b:t.heap=c.heap){a:Xg E}(g:CO l d s e D a N p t):tV f c t/\CO l d s e D a N p t:=kp b g
theorem WS(b:t.heap=c.heap){a:XG}(g:CW l d s e a N p t):tV f c t/\CO l d s e D [] (Exit.then (CW l d s e a N) N) p t:=kp b (dC g)
theorem Pr(k:Good P h)(o:h.fr d.fn=J)(q:d.kind≠.early){a:Xg Oper}{g:Xg E}(r:s.kn.map (·.1)=g)(u:lT P h g a.toArray=J){id:E}
 (n:∀t:M,t.heap=c.heap->t.os=c.os->t.output=c.output->wpList P a.toArray (eP λm i=>tV f c i/\N .normal m i) a p t):CW l d s e (.region id a.toArray Xf) N p c:=
 mI k o q (nf r u) (λv=>n _ A rfl rfl) (λ_ _ b=>b.1) λ_ _ b=>b.2
theorem eT{id:E}(b:D.size=R)(a:CO l d s e D (Xg.range' 0 R) N p c):CW l d s e (.region id D Xf) N p c:=
 yo (by simp_all [W_])
def OR(l:Goal P h main f)(d:Xr)(s x:Rt)(e:Xg Xr)(D:Xk Oper)(a:Xg E)(N:Exit->Xu->M->Prop)(p:Xu)(c:M):Prop:=
 ∀(m:Ren)(r:Xg Item)(u:Xu),Inv P h f m c->ar h m x p u->mB P h main f l d s e r N m c->l.G m c (rg (d.at u (Xv D a::r)) e)
theorem nG{a:Xg E}(b:OR l d s s e D a N p c):CO l d s e D a N p c:=b
theorem zH{x:Rt}{a:Xg E}(hd:x.d0=s.d0)(h:∀k∈s.kn,k∈x.kn)(f:CO l d s e D a N p c):OR l d s x e D a N p c:=
 λm r u b i g=>f m r u b (i.less hd h) g
theorem zI{x:Rt}{more:Xg E}{g:Xp Tmp}{i:Op}(o:Good P h)(a1:h.fr d.fn=J)(a2:d.kind≠.early)(a4:bN D L g i){n:Xg E}(a3:x.kn.map (·.1)=n)(a5:jd P h.fn h.bi h.bZ i=J)(a0:(n.all λr=>g !=C r)=J)
 (Y:∀t:M,t.heap=c.heap->t.os=c.os->t.output=c.output->∀a9 a8 T,(⟨g,i,a9,a8,T,F⟩:Oper).wp P p t (λb a=>tV f c a/\OR l d s x e D more N b a) (eP λ_ _=>False)):OR l d s x e D (L::more) N p c:=
 λm r u v a6 Z=>vH o a1 a2 a4 a3 a5 a0 v a6 (λb a=>tV f c a/\OR l d s x e D more N b a) (λt U b1 W X=>Y t U W X) (λ_ _ k=>k.1)
  λb0 b S a w O a7 k=>k.2 b0 r S w a7 (Z.grow O)
end
section
variable{O:Xt}{l:cZ}
theorem PC(b1:H.status=.running)(a0:∀q,RE q->∃i:Xk XF,stepG P J H q=.go O q i/\∀a∈i,a.write=Xf/\∃g,a.loc=.cell g/\g.block<dA.heap.size)(next:sW P l F z h f m c O):sW P l F z h f m c H:=by
 intro a Z q sl S w b;refine kW (s:=aj P l) b1 (λa Z q sl S w b=>?_) a Z q sl S w b;have jP:=b.bF.jP;obtain⟨i,a1,a2⟩:=a0 q ⟨jP.heap,jP.size,jP.os,jP.out⟩;refine⟨_,_,_,iS (P:=P) b.me a1,?_⟩
 have a7:∀o∈XE 0 H.frame.fn H.frame.place i,∀g,o.act.touch?=C g->∃d,az g.loc d/\d<dA.heap.size/\g.write=Xf:=λo n g X=>by
  obtain⟨a,k,rfl⟩:=Go.Conc.mem_ofEvents n;obtain⟨q1,a8,b3,b4⟩:=a2 a k;rcases wY X with⟨a6,b5,_⟩|⟨a5,a6⟩
  .exact⟨a8.block,Xi ⟨a8,by rw[a6,b3],A⟩,b4,by rw[b5,q1]⟩
  simp_all
 have Y:∀a∈i,∀a5,a.loc≠.mark a5:=by grind
 have W:jU S q q w w 0 (XE 0 H.frame.fn H.frame.place i):={
  size:=XS _
  os:=A
  out:=A
  heap:=λd _=>Xi (Xi (Xh A))
  old:=λ_ _ _ _=>rfl
  new:=λb7 d _ a1 a2=>by omega
  touch:=λo n g X b0=>by obtain⟨d,a4,U,b2⟩:=a7 o n g X;have a3:=jP.ro g.loc d a4 U;refine⟨tF _ _ _ _ o n,d,a4,XY U jP.size,Xi ⟨XY U jP.size,Xi (Xh ⟨a3,b2,b.bF.row g.loc b0 a3⟩)⟩⟩
  norel:=dU λa k p v=>Y a k _ v
  jB:=Xi ⟨b.hears,λo n=>by
   obtain⟨a,k,rfl⟩:=Go.Conc.mem_ofEvents n
   exact⟨A,λv=>Y a k _ (fE v),λv=>Y a k _ (fE v)⟩⟩}
 have hd:Deaf (S++XE 0 H.frame.fn H.frame.place i) 0=0:=by rw[ZM,b.hears];simp_all [aaF]
 exact next _ _ _ _ _ _ ⟨Ap b W (tF _ _ _ _) A (Ren.le_refl _) (λ_ _ _ _ _ _ _ _ _=>rfl) (λa9 T=>by cases T) (λc0 a0 a9 T=>by cases T),b.bF.step W,b.bg.stay W (λ_ _ _=>rfl),by rw[XX (by simpa using(XN.1 b.me).1)],hd⟩
end
section
variable{s x:Rt}
theorem DR{main:Xo}{c:Xp Tmp}{l:Op}{k:M}{new:Xk XF}(o:d.kind≠.early)(v:bN D L c l)(t:∀fn,P.funcs[d.fn]?=C fn->fn.norace=Xf)(b:∀i h a,(execOp u.eval ⟨c,l,i,h,a,F⟩).runT P q #[]=(.ok (.value y) k,new))(s:∀a∈new,∀w,a.loc≠.mark w):
 stepG P main (rg (d.at u (Xv D (L::rest)::r)) e) q=.go (rg (d.at (u.put c y) (Xv D rest::r)) e) k new:=by
 obtain⟨⟨x,z,i,h,a,H⟩,m,f,g,n⟩:=v;subst f g n;have b:=b i h a;rw[s_]at b;have f:=(t_ b).1;have g:=(t_ b).2;have:=Go.Conc.stepG_value (P:=P) (main:=main) (a:=u) (b:=d) (k:=r) (cs:=e) (rest:=rest) m A o f;refine abr this ?_;rw[listed,g,seen_cells t s];rfl
theorem ji(a3:∀fn,P.funcs[d.fn]?=C fn->fn.norace=Xf)(a2:d.kind≠.early){more:Xg E}{o:Op}(a4:bN D L (C j) o){v V:Xe}(a0:x.free (C j)=J)(a1:j<p.tmps.size)
 (a6:∀q,RE q->∀i:XJ->Xe,(∀a y,(a,y)∈x.kn->i (.tmp a)=y)->(∀k,i (.const k)=k)->(∀(a:E) r R,p.tmps[a]?=C (.int r R)->i (.tmp a)=.int r R)->∃new:Xk XF,(∀a9 a8 b,(execOp i ⟨C j,o,a9,a8,b,F⟩).runT P q #[]=(.ok (.value V) q,new))/\∀b∈new,b.write=Xf/\∃w,b.loc=.cell w/\w.block<dA.heap.size)
 (a7:∀m:Ren,an h m v V)(next:OR (goalAt P F F z h f) d s ⟨x.d0,(j,V)::x.kn⟩ e D more N (p.put (C j) v) c):OR (goalAt P F F z h f) d s x e D (L::more) N p c:=by
 intro m r u S g Z;have b1:j<u.tmps.size:=by rw[<-g.tmps.1];exact a1
 have a5:(u.put (C j) V).tmps[j]?=C V:=by grind [Act.put]
 refine PC (O:=rg (d.at (u.put (C j) V) (Xv D more::r)) e) A (λq Y=>?_) (next m r _ S ((g.put (C j) a0 (a7 m)).more a5) Z)
 obtain⟨new,T,U⟩:=a6 q Y u.eval (λa y n=>by have:=g.kn (a,y) n;simp[Act.eval,Yu,this]) (λk=>rfl) (λa r R n=>by
  obtain⟨b4,W,X⟩:=g.tmps.get n;cases X
  simp[Act.eval,Yu,W])
 exact⟨new,DR a2 a4 a3 T (λb b0 b3 b2=>by grind),U⟩
end
section
variable{l:Goal P h J f}
variable{s x:Rt}
def UT(l:Goal P h J f)(p:XI)(q:Xg (E×Xe))(o:Xk Xe)(c:M)(n:Xe->M->Prop):Prop:=
 ∀(m:Ren)(d:Xk Xe)(g:Xr)(e:Xg Xr),Inv P h f m c->aw h m o d->(∀i∈q,d[i.1]?=C i.2)->
  (∀b y k a,Inv P h f b a->cV f m c b a->an h b y k->n y a->l.G b a (rg (g.finish k) e))->l.G m c (rg (Frame.enter P p d .normal) (g::e))
theorem Mi(v:Good P h){a:XI}{r:Xg (E×Xe)}{i:Xk Xe}{fn:Func}{n:XG}(X:h.fr a=J)(W:P.funcs[a]?=C fn)(a4:fn.body=C n){f:Xe->M->Prop}
 (R:∀g e,CW l (base a) ⟨[],r⟩ (g::e) n N ⟨i++Array.replicate (fn.ntmps-i.size) I,[]⟩ c)
 (S:∀b p c,N b p c->(b=.normal\/b=.ret)/\p.defers=[]/\∀d,∃y,(results fn p.tmps).run P {c with tape:=d}=.ok y {c with tape:=d}/\f y {c with tape:=d}):UT l a r i c f:=by
 intro m k g e w o a5 next
 have L:Frame.enter P a k .normal=(base a).at ⟨k++Array.replicate (fn.ntmps-k.size) I,[]⟩ [.code n]:=by simp_all [Frame.enter,Frame.at,base]
 rw[L];refine R g e m [] _ w ⟨by rw[<-o.1];exact o.append (aw.replicate _ aY),⟨[],A,.nil⟩,λa8 a6=>?_⟩ λb u D H t x O Z a1=>?_
 .grind
 obtain⟨U,hd,Y⟩:=S b D t a1
 have fin:∀s,l.G u t (rg {(base a).at H s with mode:=.returning} (g::e)):=λs=>qj v X A W x A Z hd (R:=f) (Tp.all λd=>Y d) λy a2 a3 z Q a0 T=>next u y a2 a3 z (O.trans Q) a0 T
 rcases U with rfl|rfl
 .exact l.pure A rfl (λq=>by rfl) (fin [])
 exact fin
theorem Mj{more:Xg E}{b:XI}{Y:Xg (E×Xe)}{a:Xk XJ}{a0:Xk Xq}{fn:Func}{a1:XG}(b0:d.kind≠.early)(a7:x.free Q.dst=J)(X:D[L]?=C Q)(b8:Region.wanted Q (yielded D p.tmps)=J)(b4:Q.op=.call {callee:=.value (.func b),args:=a,argTypes:=a0})
 (a8:P.funcs[b]?=C fn)(b2:(fn.name== "runtime.NumGoroutine")=Xf)(a4:fn.body=C a1)(d0:a.toList.all (du P h.fn)=J)(b1:∀g∈Y,∃k,a[g.1]?=C (.tmp k)/\(k,g.2)∈x.kn){U:Xe->M->Prop}{o:Xk Xe}(v:a.map p.eval=o)(a6:UT l b Y o c U)
 (next:∀y n,U y n->OR l d s x e D more N (p.put Q.dst y) n):OR l d s x e D (L::more) N p c:=by
 subst v;intro m r u T i a5;have b9:Region.wanted Q (yielded D u.tmps)=J:=by rw[<-ga i.tmps];exact b8
 have b3:(D[L]?).bind (·.dst)=Q.dst:=by rw[X];rfl
 have b6:∀q,stepG P J (rg (d.at u (Xv D (L::more)::r)) e) q=.go (rg (Frame.enter P b (a.map u.eval) .normal) (d.at u (Xv D (L::more)::r)::e)) q:=by
  intro q
  have:=goes_call (P:=P) (main:=J) (w:=q) (cs:=e) (k:=r) (rest:=more) (K:=λH c W=>H=rg (Frame.enter P b (a.map u.eval) .normal) (d.at u (Xv D (L::more)::r)::e)/\c=q/\W=#[]) X b9 b0 b4 a8 b2 a4 ⟨by simp_all [G,rg,Frame.enter,Frame.at,base],A,A⟩
  obtain⟨H,c,W,a2,rfl,rfl,rfl⟩:=aaG this;exact a2
 have v:aw h m (a.map p.eval) (a.map u.eval):=by
  refine⟨by simp,λj d2 d3 w S=>?_⟩;rw[Yk]at w S;cases a9:a[j]? with
  |none=>simp_all
  |some c6=>
   rw[a9]at w S;cases w;cases S;refine lF T.base i.tmps p.defers u.defers c6 ?_
   grind
 refine l.pure A rfl b6 (a6 m _ _ _ T v (λg b5=>?_) λc7 y d1 n Z O b7 a3=>?_)
 .obtain⟨k,q1,c0⟩:=b1 g b5;have:=i.kn (k,g.2) c0;simp_all [Act.eval]
 rw[YK,b3];exact next y n a3 c7 r _ Z ((i.mono O.le).put Q.dst a7 b7) (a5.grow O)
end
end
end Go.Sim
namespace Go.Sv
open Go.MapKept Go.Proofs Go.RowKit Go.Lib Go.WideShapes Go.Sort Go.Sim Wt
variable{u:E}{y:cN}{c:M}{w':M}{b:E}{R:E}{i:E}{f:E->Prop}{p:Xe}{z:dB}{m:Xp Xw}
section
variable[Inhabited aM]
def fG.clear(d:fG):fG:={d with ov:=Xm F 0 0,vs:=[]}
section
variable{q:Xj}{r:Xg Out}{d:fG}
theorem jo(a:aI u y.tree d.clear b):aI u y.tree d b:=by
 rcases a with a|a|a|a|a|a
 .exact Xh a
 .exact Xi (Xh a)
 .exact Xi (Xi (Xh a))
 .exact Xi (Xi (Xi (Xh a)))
 .cases a
 exact Xi (Xi (Xi (Xi (Xi a))))
theorem sU(a:dw d.clear b):b=1\/b=4:=by
 rcases a with a|a|⟨p,c,_⟩
 .exact Xh a
 .exact Xi a
 cases c
theorem aK.clear(g:aK u q y r d c)(xo:w'.heap[u]?=C (Xn (EJ y.timeout q d.tb d.tw d.hb y.now y.aL y.next (Xm F 0 0) d.li.v) 98 (0,0)))(D:c.heap.size<=w'.heap.size)(x:∀b,b<c.heap.size->b≠u->w'.heap[b]?=c.heap[b]?):aK u q y [] d.clear w':=by
 obtain⟨v,_,n,H,L,_,_,N,T,O⟩:=g.jS D 3 (·=3) (λb w a=>x b w (a 3 A)) y.tree d.clear (λl b a=>by
  rcases l with _|_|_|_|_|_|_|l
  case succ.succ.succ.succ.zero=>cases a
  case succ.succ.succ.succ.succ.zero=>exact Xh ((sU a).elim Xh λa=>Xi (Xh a))
  all_goals exact Xh a) (by decide)
 exact⟨(n (by decide)).1,(n (by decide)).2,g.wf,H (by decide),L (by decide),xo,cr.nil _ _ _ _,⟨A,λQ S p a _=>by simp at a⟩,O,N (by decide),v⟩
structure pX(h R u:E)(q:Xj)(y:cN)(k:E)(r:Xg Out)(d:fG)(c:M):Prop where
 gI:aK u q y r d c
 ptr:c.heap[R]?=C (Xn #[pt u 0] 78 (0,0))
 ok:Ok y k
 own:∀b,aI u y.tree d b->h<=b/\b≠R
 KY:h<=R
 use:∀b,dw d b->b=1\/b=4\/h<=b
 ach:d.hd.length<=33*k
theorem pX.old{h k:E}(a:pX h R u q y k r d c)(l:c.heap.size<=w'.heap.size)(g:∀b,b<c.heap.size->w'.heap[b]?=c.heap[b]?):pX h R u q y k r d w':=
 ⟨a.gI.old l g,by rw[g R (XN.1 a.ptr).1];exact a.ptr,a.ok,a.own,a.KY,a.use,a.ach⟩
end
section
variable{e:E->ew}
theorem foldl_congr{n x:Type}{v g:n->x->n}:∀(a:Xg x)(b:n),(∀b,∀l∈a,v b l=g b l)->a.foldl v b=a.foldl g b
 |[],_,_=>rfl
 |l::a,b,w=>by rw[ZW,ZW,w b l (YZ ..)];exact foldl_congr a _ λb H D=>w b H (Ym _ D)
theorem th(y:cN)(a:Xj)(b:ew)(c:Xg ew):Wt.handle y a (b::c)=((Wt.handle (Wt.step y a b).1 (a+1) c).1,(Wt.step y a b).2++(Wt.handle (Wt.step y a b).1 (a+1) c).2):=A
theorem CG(e:E->ew):∀(b:Xg ew)(a:E)(c:Sg),(∀f d,b[f]?=C d->e (a+f)=d)->
 (Xg.range' a b.length).foldl (wm e) c=⟨(Wt.handle c.gI a b).1,c.outs++(Wt.handle c.gI a b).2,c.cnt+b.length⟩
 |[],a,c,_=>by simp[Wt.handle]
 |d::b,a,c,g=>by
  have h:e a=d:=by simpa using g 0 d (by simp)
  rw[Yl,Xg.range'_succ,ZW,CG e b (a+1) _ λf k i=>by
   have:=g (f+1) k (by simpa using i)
   rw[<-this];congr 1;omega]
  rw[th];unfold wm;simp only[h,ZJ,Xj.natCast_add,Xj.cast_ofNat_Int,Sg.mk.injEq,true_and];omega
theorem KD(H:i<=64)(a:Sg){l:Xg ew}(w:l.length=i)(D:∀g n,l[g]?=C n->e g=n):
 (Xg.range i).foldl (Sim.stepT (Ga e) (wm e) (tq e)) a=⟨(Wt.handle a.gI 0 l).1,a.outs++(Wt.handle a.gI 0 l).2,a.cnt+i⟩:=by
 rw[foldl_congr (g:=wm e) _ _ λb g v=>?_]
 .rw[W_,<-w];exact CG e l 0 a λg n v=>by simp_all
 unfold Sim.stepT;cases L:tq e g with
 |true=>grind [Ij]
 |false=>rfl
end
structure xv(f:E->Prop)(h:E)(c:M):Prop where
 lt:∀b,f b->b<h
 cl:Closed f c
 wh:∀b,f b->(c.heap[b]?).map Sim.Obj.whole=c.heap[b]?
 gl:∀a,(0<a\/a=TP.globals.size)->a<=TP.globals.size->f a
 rb:∀b,Im b->f b
theorem xv.keep{h:E}(a:xv f h c)(e:∀b,f b->w'.heap[b]?=c.heap[b]?):xv f h w':=
 ⟨a.lt,λb d=>by rw[e b d];exact a.cl b d,λb d=>by rw[e b d];exact a.wh b d,a.gl,a.rb⟩
def oU(h R:E)(own:E->Prop)(m:Xp Xw)(i:E)(rq:E->RV)(c:M):Prop:=
 (m=F/\i=0)\/∃b f a l e,m=C ⟨b,f,F⟩/\c.heap[b]?=C (Xn a l e)/\0<a.size/\e.2<=a.size/\(∀(k:E) g,a[k]?=C g->aR (λ_=>False) g)/\¬aT a/\(∀d,d<i->∀j,j<8->a[f+d*8+j]?=(rq d).jf[j]?)/\h<=b/\b≠R/\¬own b
theorem pI{a c:E->Prop}(d:aR a p)(e:∀b,a b->c b):aR c p:=aR.mono e d
theorem ve(a:gd c w' b){d:Xk Xe}{f:Xq}{e:E×E}(n:c.heap[b]?=C (Xn d f e))(o:¬aT d):w'.heap[b]?=c.heap[b]?:=by
 rcases a with a|⟨g,p,h,i,k,l,m⟩
 .exact a
 simp_all
section
variable{h s k t:E}{r:Xg Out}{d:fG}{rq:E->RV}{e:E->ew}{o:Xg ew}
structure dH(ro:E->Prop)(h R u s:E)(y:cN)(k:E)(d:fG)(m:Xp Xw)(o:Xg ew)(c:M)(p:Xe)(w':M)(a:fG):Prop where
 at':pX h R u s (Wt.handle y 0 o).1 (k+o.length) (Wt.handle y 0 o).2 a w'
 val:p=a.ov
 keep:∀b,b<c.heap.size->¬aI u y.tree d b->(∀g,m≠C ⟨b,g,F⟩)->gd c w' b
 ro:∀b,ro b->w'.heap[b]?=c.heap[b]?
 size:c.heap.size<=w'.heap.size
 own:∀b,aI u (Wt.handle y 0 o).1.tree a b->aI u y.tree d b\/c.heap.size<=b
 use:∀b,dw a b->b=1\/b=4\/c.heap.size<=b
 iK:∀b g,m=C ⟨b,g,F⟩->w'.heap[b]?=(c.heap[b]?).map Sim.Obj.whole
 ln:a.li=d.li/\a.hd=d.hd++Wt.lz (Wt.handle y 0 o).2
theorem Fp(v:pX h R u s y k r d c)(x:xv f h c)(d6:1<=s/\s<2^16)(Q:oU h R (aI u y.tree d) m i rq c)(b0:i<=64)(d0:k<2^16)
 (b2:∀g,g<i->RQ (rq g) (e g))(d9:∀g,g<i->qc (e g).op)(a8:∀g,g<i->(e g).op.kind=1\/(e g).op.kind=3\/(e g).op.kind=4\/(e g).op.kind=5\/(e g).op.kind=6\/(e g).op.kind=8\/(e g).op.kind=9\/(e g).op.kind=10)
 (d8:∀g,(rq g).oa=F)(d4:o.length=i)(e0:∀g b4,o[g]?=C b4->e g=b4):
 Co (goalAt TP F F z al f) 31 #[pt u 0,.slice m i t] c λp w'=>∃c7,dH f h R u s y k d m o c p w' c7:=by
 obtain⟨D,d1⟩:∃D:E->Prop,D=λb=>f b\/∃w,m=C ⟨b,w,F⟩:=by simp
 have T:∀b,f b->D b:=by simp_all
 have a0:∀b,D b->f b\/∃w,m=C ⟨b,w,F⟩:=by simp_all
 have bj:∀b,aI u y.tree d b->b<c.heap.size:=λb a=>v.gI.bj a
 have b3:∀b,aI u y.tree d b->¬D b:=λb a L=>by
  rcases a0 b L with q|⟨w,q⟩
  .have:=x.lt b q;have:=(v.own b a).1;omega
  rcases Q with⟨l,_⟩|⟨W,X,U,Z,O,l,_,_,_,_,_,_,_,_,a6⟩
  .rw[q]at l;cases l
  simp_all
 have d2:Closed D c:=λb n=>by
  rcases a0 b n with q|⟨w,q⟩
  .obtain⟨a3,g9,O,q1,Y,S,e8,e9⟩:=x.cl b q
   grind [pI]
  rcases Q with⟨l,_⟩|⟨W,X,U,Z,O,l,q1,Y,S,e8,e9,_⟩
  .rw[q]at l;cases l
  grind [pI]
 have e6:=T 1 (x.gl 1 (Xh (by decide)) (by simp));have HC:=SB (p:=k) (u:=u) b2 d9 a8 d0 b0 e6 d6 (a1:=d.li) (O:=d.hd) (by have:=v.ach;omega);have xo:=b3 u (Xh A)
 have c9:Ls D c m i t rq (KI e rq):={
  closed:=d2
  bF:=λa5 q l=>T a5 (x.gl a5 q l)
  list:=λb n=>by
   rcases Q with⟨l,_⟩|⟨W,X,U,Z,O,l,_⟩
   .rw[n]at l;cases l
   grind
  elem:=λg a2=>by
   rcases Q with⟨_,l⟩|⟨W,X,U,Z,O,l,q1,_,_,_,_,g5,_⟩
   .omega
   grind
  NS:=λg a2 w' _=>SZ (b2 g a2) (a8 g a2) (by omega) w'
  only:=λg=>by
   refine .iface _ (.agg λg0 h4 L=>?_);have a9:=Yz.2 (Ys L);simp only[aP,XV,Yd,YS]at a9;rcases a9 with rfl|rfl|rfl|rfl|rfl|rfl|rfl|rfl|rfl
   case inr.inr.inr.inr.inr.inr.inr.inr=>rw[d8 g];exact .aO _ _
   all_goals first|exact .int _ _|exact .string _|exact .bool _
  small:=by omega}
 have base:=JD (z:=z) (h:=⟨y,[],0⟩) (c:=aI u y.tree d.clear) (i:=dw d.clear) (f:=f) HC A c9 v.gI.ch (by simp) A xo (Xh A) T x.rb (λb n=>⟨bj b (jo n),b3 b (jo n)⟩) (λf1 a1=>?_) (λg7 own h0 h3⟨a4,N,_⟩=>⟨_,_,_,_,N.ch,A⟩)
 .intro f2 c0 a3 c6 b7 n next
  refine base f2 c0 a3 c6 b7 n λf3 p f0 b6 b8 c8 e5⟨g3,h1,⟨a4,N,d7,e4,⟨q1,Y⟩,S⟩,f7,H,a7⟩=>next f3 p f0 b6 b8 c8 e5 ?_
  subst d7 e4;have d3:=KD (e:=e) b0 ⟨y,[],0⟩ d4 e0;rw[d3]at N H q1 Y S;have b1:=λb a=>(H.more b a).imp jo id;have e2:b6.heap[R]?=c.heap[R]?:=by
   refine ve (H.keep R (XN.1 v.ptr).1 (λa=>(v.own R (jo a)).2 A) (λa=>?_)) v.ptr ?_
   .rcases a0 R a with q|⟨w,q⟩
    .have:=x.lt R q;have:=v.KY;omega
    rcases Q with⟨l,_⟩|⟨W,X,U,Z,O,l,_,_,_,_,_,_,_,a6,_⟩
    .rw[q]at l;cases l
    rw[q]at l;cases l;exact a6 A
   simp[mZ]
  refine⟨a4,⟨N,by rw[e2];exact v.ptr,by simp_all,λb n=>?_,v.KY,λb n=>?_,?_⟩,?_,λb n d5 f9=>?_,λb n=>?_,H.size,b1,λb n=>?_,λb w a=>H.list b (by rw[d1];exact Xi ⟨w,a⟩),S⟩
  .have e3:=(XN.1 v.ptr).1;have e1:=v.KY;rcases b1 b n with a|a
   .exact v.own b a
   omega
  .have e3:=(XN.1 v.ptr).1;have e1:=v.KY;rcases a7 b n with a|a
   .rcases sU a with a|a
    .exact Xh a
    exact Xi (Xh a)
   omega
  .have f8:=(Xg.length_filter_le (λe7:Out=>decide (e7.ev≠0)) (Wt.handle y 0 o).2);have:=v.ach;have b5:=S.2;simp only[Zj,Wt.lz]at b5 Y;rw[b5,Yw];omega
  .have:=aa N.ch 8 A;simp_all
  .by_cases L:D b
   .rcases a0 b L with q|⟨w,q⟩
    .exact Xh (by rw[H.list b (T b q)];exact x.wh b q)
    simp_all
   exact H.keep b n (λa=>d5 (jo a)) L
  .rw[H.list b (T b n)];exact x.wh b n
  rcases a7 b n with a|a
  .exact(sU a).imp id Xh
  omega
 have b9:=v.gI.clear (w':=f1) (by rw[a1.xo];rfl) (by rw[a1.size];omega) a1.old;refine⟨d.clear,b9.same ⟨by simp[qy],λb n=>uq ?_,λb _=>yv _ _ _⟩,A,A,⟨v.ok,by simp⟩,A,(YT _).symm⟩;have q:=jo n;have l:=bj b q;rintro(a|a|a)
 .simp_all
 .omega
 omega
end
end
end Go.Sv
namespace Go.Sim
open Go.Conc Go.Proofs Go.RowKit
open Go.ConcN (PermW PermW.app PermW.of fork_knows WgLive RelBy sumTo)
open Go.ConcR (KK wgBlock WgAt stA smA rd wr mk DC0)
variable{P:Xy}{h:Set}{f:E->Prop}{c:M}{m:Xr}{n:Xg Xr}{D:Xk Oper}{N:Exit->Xu->M->Prop}{d:Xu}{l:E}{g:Oper}
section
variable[Inhabited aM]
section
variable{main:Xo}{k:Goal P h main f}
variable{e:Rt}
def Lo(P:Xy)(h:Set)(e:Rt)(D:Xk Oper)(a:Xg E):Prop:=∀l∈a,∀g,D[l]?=C g->jd P h.fn h.bi h.bZ g.op=J/\e.free g.dst=J
theorem qW(G:Good P h){v:Xu->M->Prop}:∀(z:Xg E){b:Ren}{c n:M}{d o:Xu},Lo P h e D z->Base P b->aV h b c n->ar h b e d o->Tp (λc=>wpOps P D (eP v) z d c) c->
 ∃m r x q w,Base P m/\aV h m q w/\b.le m/\ar h m e r x/\Tp (v r) q/\kT h c q
 |[],b,c,n,d,o,_,i,f,k,a=>⟨b,d,o,c,n,i,f,Ren.le_refl _,k,a,.refl _⟩
 |l::rest,b,c,n,d,o,y,i,f,k,a=>by
  have u:Lo P h e D rest:=λj O=>y j (Ym _ O);cases t:D[l]? with
  |none=>simp only[wpOps,t]at a;exact qW G rest u i f k a
  |some g=>
   have s:=y l (YZ ..) g t;simp only[wpOps,t]at a;by_cases p:Region.wanted g (yielded D d.tmps)=J
   .simp only[p,Yc]at a;obtain⟨m,r,x,q,w,q1,Q,R,S,T,U⟩:=NL G i f k s.1 s.2 (a.mono λc p=>p.resolve_right λa3=>fQ a3.2);obtain⟨a4,L,N,a2,H,W,X,Y,Z,a0,a1⟩:=qW G rest u q1 Q S T;exact⟨a4,L,N,a2,H,W,X,Ren.le_trans R Y,Z,a0,U.trans a1⟩
   simp only[p]at a;exact qW G rest u i f (k.put g.dst s.2 aY) a
theorem lI(p:Good P h)(s:h.fr m.fn=J)(t:m.kind≠.early){x:Xu->M->Prop}{more:Xg E}:∀(O:Xg E){d:Xu}{c:M},Lo P h e D O->Tp (λc=>wpOps P D (eP x) O d c) c->
 (∀o i,Tp (x o) i->gO h f c i)->(∀o i,Tp (x o) i->CO k m e n D more N o i)->CO k m e n D (O++more) N d c
 |[],d,c,_,a,q,next=>next d c a
 |l::rest,d,c,Z,a,q,next=>by
  have u:Lo P h e D rest:=λj a7=>Z j (Ym _ a7);intro a3 L a6 w v H;cases b:D[l]? with
  |none=>simp only[wpOps,b]at a;refine k.pure A rfl (λa5=>stepG_unwanted (by rw[b];rfl)) ?_;rw[b];exact lI p s t rest u a q next a3 L a6 w v H
  |some g=>
   have z:=Z l (YZ ..) g b;simp only[wpOps,b]at a;by_cases r:Region.wanted g (yielded D d.tmps)=J
   .simp only[r,Yc]at a;refine He p k s t b r z.1 z.2 w v (a.mono λc r=>r.resolve_right λa2=>fQ a2.2) (λa4 o Y i b1 q1 Q a0 R S=>?_) λa4 o Y i q1 Q a0 R S a8 a9=>?_
    .obtain⟨b9,y,b3,W,b2,b5,b6,b7,b8,T,b0⟩:=qW p rest u q1 Q R S;obtain⟨X,U,a1⟩:=q y W T;exact⟨X,b0.trans U,a1⟩
    refine lI p s t rest u a9 (λy W T=>?_) next a4 L Y q1 a8 (H.grow ⟨Q,a0,R,S⟩)
    obtain⟨X,U,a1⟩:=q y W T;exact⟨X,U,λa2 b4=>by simp_all⟩
   simp only[r]at a;refine k.pure A rfl (λa5=>stepG_unwanted ?_) ?_
   .rw[<-ga v.tmps];simp_all
   rw[b];exact lI p s t rest u a q next a3 L _ w (v.put g.dst z.2 aY) H
theorem co_take(x:Good P h)(z:h.fr m.fn=J)(O:m.kind≠.early){v:Xg E}(Q:e.kn.map (·.1)=v)(b o:E){more:Xg E}{a:Xg Oper}(t:a.map C=(Xg.range' b o).map (λl=>D[l]?))(S:lT P h v a.toArray=J)
 (q:∀r:M,r.heap=c.heap->r.os=c.os->r.output=c.output->wpList P D (eP λp i=>tV f c i/\CO k m e n D more N p i) a d r):CO k m e n D (Xg.range' b o++more) N d c:=by
 have R:a.length=o:=by simpa using YU List.length t
 have y:∀j,j<a.length->a[j]?=D[b+j]?:=λj L=>by
  have X:=YU (λs=>s[j]?) t
  grind
 have T:Lo P h e D (Xg.range' b o):=λl H g Y=>by
  obtain⟨j,L,rfl⟩:∃j,j<o/\l=b+j:=by have:=Xg.mem_range'_1.1 H;exact⟨l-b,by omega,by omega⟩
  exact jF (nf Q S) (D:=a.toArray) (H:=j) (by simp_all)
 refine lI x z O (x:=λp i=>tV f c i/\CO k m e n D more N p i) (Xg.range' b o) T (.all λw=>by rw[<-R,GG a b y];exact q _ A rfl rfl) (λp i q=>⟨i,.refl _,?_⟩) λp i q=>Ha ?_
 .obtain⟨w,u⟩:=q.one;exactλs U=>u.1 s U
 obtain⟨w,u⟩:=q.one
 grind
end
section
variable{k:Goal P h J f}
variable{e:Rt}
theorem vm(t:Good P h){a:XI}{b r:Xk Xe}{fn:Func}{q:XG}(z:h.fr a=J)(y:P.funcs[a]?=C fn)(x:fn.body=C q){p:Xe->M->Prop}(H:b++Array.replicate (fn.ntmps-b.size) I=r)
 (v:∀u n,CW k (base a) ⟨[],[]⟩ (u::n) q N ⟨r,[]⟩ c)
 (w:∀i d c,N i d c->(i=.normal\/i=.ret)/\d.defers=[]/\∀o,∃s,(results fn d.tmps).run P {c with tape:=o}=.ok s {c with tape:=o}/\p s {c with tape:=o}):Co k a b c p:=by
 subst H;exact GZ t z y x v w
theorem Jj(u:Good P h){a:XI}{r:Xg (E×Xe)}{b s:Xk Xe}{fn:Func}{q:XG}(H:h.fr a=J)(z:P.funcs[a]?=C fn)(y:fn.body=C q){p:Xe->M->Prop}(L:b++Array.replicate (fn.ntmps-b.size) I=s)
 (w:∀v n,CW k (base a) ⟨[],r⟩ (v::n) q N ⟨s,[]⟩ c)
 (x:∀i d c,N i d c->(i=.normal\/i=.ret)/\d.defers=[]/\∀o,∃t,(results fn d.tmps).run P {c with tape:=o}=.ok t {c with tape:=o}/\p t {c with tape:=o}):UT k a r b c p:=by
 subst L;exact Mi u H z y w x
theorem kY{more:Xg E}{i:XI}{b:Xk XJ}{r:Xk Xq}{fn:Func}{s:XG}(H:m.kind≠.early)(y:e.free g.dst=J)(O:D[l]?=C g)(S:Region.wanted g (yielded D d.tmps)=J)(Q:g.op=.call {callee:=.value (.func i),args:=b,argTypes:=r})
 (z:P.funcs[i]?=C fn)(L:(fn.name== "runtime.NumGoroutine")=Xf)(w:fn.body=C s)(R:b.toList.all (du P h.fn)=J){o:Xe->M->Prop}{a:Xk Xe}(v:b.map d.eval=a)(x:Co k i a c o)
 (next:∀p q,o p q->CO k m e n D more N (d.put g.dst p) q):CO k m e n D (l::more) N d c:=by
 grind [Po]
end
end
end Go.Sim
namespace Go.Sv
open Go.MapKept Go.Proofs Go.RowKit Go.Lib Go.WideShapes Go.Sort Go.Sim Wt
variable{z:dB}{f:E->Prop}{R:E}{u:E}{h:E}{y:cN}{q:fG}{b:M}{r:Xp Xw}{g:M}{c:Xe}{L:Xg Xr}{D:Xk Oper}{N:Exit->Xu->M->Prop}{k:Out}{e:Xk Xe}
section
variable[Inhabited aM]
variable{i m p S:E}{t:Xg Out}{rq:E->RV}{s:E->ew}{H:Xg ew}
theorem xv.eq(c:xv f i b)(d:g.heap=b.heap):xv f i g:=c.keep λa _=>by rw[d]
theorem oU.eq{own:E->Prop}(c:oU i R own r h rq b)(a:g.heap=b.heap):oU i R own r h rq g:=by simp_all [oU]
theorem pX.eq(c:pX i R u m y p t q b)(d:g.heap=b.heap):pX i R u m y p t q g:=c.old (by simp_all) λa _=>by rw[d]
theorem EF{c d:M}{a:E}(h:gd b g a)(e:c.heap=b.heap)(f:d.heap=g.heap):gd c d a:=by simp_all [gd]
theorem dH.eq{n:fG}{o s:M}(d:dH f i R u m y p q r H b c g n)(h:o.heap=b.heap)(k:s.heap=g.heap):dH f i R u m y p q r H o c s n where
 at':=d.at'.eq k
 val:=d.val
 keep:=λa x t v=>EF (d.keep a (by simp_all) t v) h k
 ro:=λa e=>by rw[k,h];exact d.ro a e
 size:=by rw[k,h];exact d.size
 own:=λa e=>by rw[h];exact d.own a e
 use:=λa e=>by rw[h];exact d.use a e
 iK:=λa w e=>by rw[k,h];exact d.iK a w e
 ln:=d.ln
section
variable{Q:XI}{O:Sim.Rt}{a:Xu}{ks:Xg E}{l:Xg Oper}
theorem ct(w:al.fr Q=J)(x:O.kn.map (·.1)=ks)(h d:E){more:Xg E}(T:l.map C=(Xg.range' h d).map (λW=>D[W]?))(U:lT TP al ks l.toArray=J)
 (v:∀g:M,g.heap=b.heap->g.os=b.os->g.output=b.output->wpList TP D (eP λo n=>tV f b n/\CO (goalAt TP F F z al f) (Go.Conc.base Q) O L D more N o n) l a g):CO (goalAt TP F F z al f) (Go.Conc.base Q) O L D (Xg.range' h d++more) N a b:=
 Sim.co_take aC w (by simp[Go.Conc.base]) x h d T U v
theorem cl(v:al.fr Q=J)(w:O.kn.map (·.1)=ks)(x:lT TP al ks l.toArray=J){id:E}
 (o:∀g:M,g.heap=b.heap->g.os=b.os->g.output=b.output->wpList TP l.toArray (eP λn d=>tV f b d/\N .normal n d) l a g):CW (goalAt TP F F z al f) (Go.Conc.base Q) O L (.region id l.toArray Xf) N a b:=
 Pr aC v (by simp[Go.Conc.base]) w x o
end
theorem DD(a0:pX i R u m y p t q b)(Z:xv f i b)(a7:1<=m/\m<2^16)(a2:oU i R (aI u y.tree q) r h rq b)(a6:h<=64)(a3:p<2^16)
 (b0:∀d,d<h->RQ (rq d) (s d))(a9:∀d,d<h->qc (s d).op)(a4:∀d,d<h->(s d).op.kind=1\/(s d).op.kind=3\/(s d).op.kind=4\/(s d).op.kind=5\/(s d).op.kind=6\/(s d).op.kind=8\/(s d).op.kind=9\/(s d).op.kind=10)
 (a8:∀d,(rq d).oa=F)(a5:H.length=h)(b1:∀d X,H[d]?=C X->s d=X):
 Co (goalAt TP F F z al f) 18 #[pt R 0,.slice r h S] b λc g=>∃n,dH f i R u m y p q r H b c g n:=by
 refine GZ aC (by decide) (fn:=Tryz.f18) Tryz.func18 A (N:=λU a g=>U=.ret/\a.defers=[]/\∃c,a.tmps[4]?=C c/\∃n,dH f i R u m y p q r H b c g n) (λb4 L=>?_) ?_
 .show CW _ _ _ _ _ _ ⟨#[pt R 0,.slice r h S,I,I,I,I,I,I,I,I,I],[]⟩ b;refine aQ (cl (by decide) (ks:=[]) A (by rfl) λb2 o _ _=>?_)
  go_wp2
  refine Sim.kp o ?_;have a1:pX i R u m y p t q b2:=a0.old (by simp_all) λa _=>by rw[o]
  refine aQ (eT (R:=7) A (ct (by decide) (ks:=[]) A 0 5 (l:=[_,_,_,_,_]) A (by rfl) λY v _ _=>?_));have T:pX i R u m y p t q Y:=a1.old (by simp_all) λa _=>by rw[v]
  have b6:Y.cell? ⟨R,0,F⟩=C (pt u 0):=by simp[M.cell?,T.ptr]
  go_wp2
  refine Sim.kp v ?_;refine kY (a:=#[pt u 0,.slice r h S]) (l:=5) (more:=[6]) (by decide) A rfl rfl rfl Tryz.func31 (by decide) A (by decide) (by simp[Act.eval]) (Fp T (Z.eq (v.trans o)) a7 (a2.eq (v.trans o)) a6 a3 b0 a9 a4 a8 a5 b1) λc b9 w=>?_;refine ct (by decide) (ks:=[]) A 6 1 (more:=[]) (l:=[_]) A (by rfl) λc0 W _ _=>?_
  go_wp2
  refine show _/\_ from⟨λe _=>by rw[W],dC (mJ ?_)⟩;obtain⟨n,w⟩:=w;exact⟨A,A,c,A,n,w.eq (v.trans o).symm W⟩
 rintro U a g⟨rfl,hd,c,b5,x⟩;refine⟨Xi A,hd,λb8=>⟨c,?_,?_⟩⟩
 .simp_all [results]
 obtain⟨n,x⟩:=x;exact⟨n,x.eq A rfl⟩
theorem pe(b:M)(k:Obj):(b.alloc k).heap.size=b.heap.size+1:=by simp
def Qx(a:ew):RV:=⟨a.ak,a.op.kind,bs a.op.path,bs a.op.data,a.op.aE,a.op.flags,a.watch,F,0,0⟩
abbrev Ip(a:ew):Xk Xe:=#[Xd K a.ak,Xd K a.op.kind,.string (bs a.op.path),.string (bs a.op.data),Xd K a.op.aE,Xd K a.op.flags,.bool a.watch,Xm F 0 0]
theorem RP{d:ew}(X:pX i R u m y p t q b)(a6:xv f i b)(d3:1<=m/\m<2^16)(d0:p<2^16)(d4:qc d.op)(b4:d.op.kind=1\/d.op.kind=3\/d.op.kind=4\/d.op.kind=5\/d.op.kind=6\/d.op.kind=8\/d.op.kind=9\/d.op.kind=10):
 Co (goalAt TP F F z al f) 28 #[pt R 0,Xd K d.ak,Xd K d.op.kind,.string (bs d.op.path),.string (bs d.op.data),Xd K d.op.aE,Xd K d.op.flags,.bool d.watch] b λc g=>∃U,dH f i R u m y p q F [d] b c g U:=by
 refine vm aC (by decide) (fn:=Tryz.f28) Tryz.func28 A (N:=λY a g=>Y=.ret/\a.defers=[]/\∃c,a.tmps[16]?=C c/\∃U,dH f i R u m y p q F [d] b c g U) (r:=#[pt R 0,Xd K d.ak,Xd K d.op.kind,.string (bs d.op.path),.string (bs d.op.data),Xd K d.op.aE,Xd K d.op.flags,.bool d.watch,I,I,I,I,I,I,I,I,I,I,I,I,I,I,I,I,I,I,I,I,I,I,I,I]) (by kernel_rfl) (λe1 L=>?_) ?_
 .refine aQ (cl (by decide) (ks:=[]) A (by rfl) λg0 b8 _ _=>?_)
  go_wp2
  refine Sim.kp b8 ?_;refine aQ (cl (by decide) (ks:=[]) A (by rfl) λg1 e2 _ _=>?_)
  go_wp2
  have e8:=(XN.1 X.ptr).1;have e9:=X.KY;have a3:∀e,f e->e<b.heap.size:=λe T=>by have:=a6.lt e T;omega
  refine show _/\_ from⟨λe T=>?_,?_⟩
  .simp_all [XQ]
  refine aQ (cl (by decide) (ks:=[]) A (by rfl) λa4 b9 _ _=>?_)
  have n:a4.heap[b.heap.size]?=C (Xn #[Xd K d.ak,Xd K 0,.string ⟨#[]⟩,.string ⟨#[]⟩,Xd K 0,Xd K 0,.bool d.watch,Xm F 0 0] 31 (0,0)):=by grind [Go.MapKept.heap_alloc]
  have d6:∀a,a<b.heap.size->a4.heap[a]?=b.heap[a]?:=by simp_all [XQ]
  have f3:a4.heap.size=b.heap.size+1:=by simp_all
  clear b9;have a9:=aa n 1 A;have b0:=aa n 2 A;have b1:=aa n 3 A;have b2:=aa n 4 A;have b3:=aa n 5 A;have c0:=frozenAt n 1;have c6:=frozenAt n 2;have c7:=frozenAt n 3;have c8:=frozenAt n 4;have c9:=frozenAt n 5
  go_wp2
  refine show _/\_ from⟨λe T=>?_,?_⟩
  .grind [ai,Below.heap_alloc]
  refine aQ (eT (R:=5) A (ct (by decide) (ks:=[]) A 0 3 (l:=[_,_,_]) A (by rfl) λW a7 _ _=>?_))
  have x:W.heap[b.heap.size]?=C (Xn (Ip d) 31 (0,0)):=by rw[a7];exact aA (aA (aA (aA (aA n))))
  have d7:∀a,a<b.heap.size->W.heap[a]?=b.heap[a]?:=by grind [ai]
  have f4:W.heap.size=b.heap.size+1:=by simp_all
  clear a7 n a9 b0 b1 b2 b3 c0 c6 c7 c8 c9;have a9:=aa x 0 A;have b0:=aa x 1 A;have b1:=aa x 2 A;have b2:=aa x 3 A;have b3:=aa x 4 A;have e3:=aa x 5 A;have e4:=aa x 6 A;have e5:=aa x 7 A
  go_wp2
  generalize f0:W.alloc _=a5
  have d1:a5.heap[b.heap.size+1]?=C (Xn (Ip d) 31 (0,0)):=by grind [Go.MapKept.heap_alloc]
  have d8:∀a,a<b.heap.size+1->a5.heap[a]?=W.heap[a]?:=by grind [Below.heap_alloc]
  have f5:a5.heap.size=b.heap.size+2:=by grind [pe]
  have a0:=λa o=>(d8 a (by omega)).trans (d7 a o);refine show _/\_ from⟨λe T=>?_,?_⟩
  .have b6:=a3 e T;rw[a0 e b6,ai (by omega),ai (by omega),ai (by omega),ai (by omega),ai (by omega),d6 e b6]
  have b7:=X.old (by omega) a0;refine kY (a:=#[pt R 0,Xm (C ⟨b.heap.size+1,0,F⟩) 1 1]) (l:=3) (more:=[4]) (by decide) A rfl rfl rfl Tryz.func18 (by decide) A (by decide) (by kernel_rfl) (DD (rq:=λ_=>Qx d) (s:=λ_=>d) (H:=[d]) b7 (a6.keep λa o=>a0 a (a3 a o)) d3 ?_ (by decide) d0 (λ_ _=>⟨A,A,A,A,A,A,A⟩) (λ_ _=>d4) (λ_ _=>b4) (λ_=>rfl) A (λZ e v=>?_)) λc g2 a2=>?_
  .refine Xi ⟨_,0,Ip d,31,(0,0),A,d1,(by simp),(by simp),λd5 e T=>?_,?_,λZ b4 j e7=>?_,by omega,by omega,λv=>?_⟩
   .have b5:=Yz.2 (Ys T);simp only[XV,Yd,YS]at b5;rcases b5 with rfl|rfl|rfl|rfl|rfl|rfl|rfl|rfl
    all_goals first|exact .int _ _|exact .string _|exact .bool _|exact .aO _ _
   .refine fP λe T f2 Y=>?_;simp_all
   .obtain rfl:Z=0:=by omega
    rw[E.zero_mul,Zk];rfl
   have:=X.gI.bj v;omega
  .rcases Z with _|Z
   .simp_all
   cases v
  refine ct (by decide) (ks:=[]) A 4 1 (more:=[]) (l:=[_]) A (by rfl) λg3 a8 _ _=>?_
  go_wp2
  refine show _/\_ from⟨λe _=>by rw[a8],dC (mJ ?_)⟩;obtain⟨U,a2⟩:=a2;refine⟨A,A,c,A,U,?_⟩;have w:=a2.eq A a8
  exact{
   at':=w.at'
   val:=w.val
   keep:=λa o d2 _=>by have:=w.keep a (by omega) d2 (λd9 Y=>by simp_all);simp_all [gd]
   ro:=λa o=>(w.ro a o).trans (a0 a (a3 a o))
   size:=by have:=w.size;omega
   own:=λa o=>(w.own a o).imp id λv=>by omega
   use:=λa o=>(w.use a o).imp id λv=>v.imp id λv=>by omega
   iK:=λa d9 v=>by cases v
   ln:=w.ln}
 rintro Y a g⟨rfl,hd,c,e6,a1⟩;refine⟨Xi A,hd,λf6=>⟨c,?_,?_⟩⟩
 .simp_all [results]
 obtain⟨U,a1⟩:=a1;exact⟨U,a1.eq A rfl⟩
abbrev Az:Xk Xe:=#[Xd K 0,Xd K 0,Xd K 0,Xd K 0,.string ⟨#[]⟩,.string ⟨#[]⟩,.bool Xf,Xd K 0,Xd K 0,Xd K 0,Xd K 0,Xd K 0,Xd K 0,Xd K 0,Xm F 0 0,Xm F 0 0]
theorem qY:∀{l:Xg Out}{d:Xg (Xe×Xe)},l.length=d.length->(gB l d).length=l.length*16
 |[],[],_=>rfl
 |k::l,c::d,n=>by
  have:=qY (l:=l) (d:=d) (by simpa using n);simp only[gB,Xg.zip_cons_cons,Zu,Yw,Yl]at this⊢
  rw[this];show 16+l.length*16=_;omega
theorem NM{c:Xe×Xe}(d:jX k c b):(iC k c).all (·.oneCell')=J:=by
 obtain⟨i,m⟩:=c;obtain⟨a,h,e,f⟩:∃a h e,i=.slice a h e:=by rcases d.1 with⟨d,_⟩|⟨_,_,_,_,_,d,_⟩<;>exact⟨_,_,_,d⟩
 obtain⟨n,p,o,g⟩:∃a h e,m=.slice a h e:=by rcases d.2 with⟨d,_⟩|⟨_,_,_,_,_,d,_⟩<;>exact⟨_,_,_,d⟩
 subst f g
 kernel_rfl
theorem Ay{c:Xe×Xe}(d:jX k c b):∃a h e f i g,c=(.slice a h e,.slice f i g):=by
 obtain⟨m,n⟩:=c;obtain⟨a,h,e,o⟩:∃a h e,m=.slice a h e:=by rcases d.1 with⟨d,_⟩|⟨_,_,_,_,_,d,_⟩<;>exact⟨_,_,_,d⟩
 obtain⟨f,i,g,p⟩:∃a h e,n=.slice a h e:=by rcases d.2 with⟨d,_⟩|⟨_,_,_,_,_,d,_⟩<;>exact⟨_,_,_,d⟩
 simp_all
theorem FA{l:Xg Out}{b:Xg (Xe×Xe)}{d:Xk Xe}(i:(l++[k]).length=b.length)(h:d.toList.take ((l++[k]).length*16)=gB (l++[k]) b):∃a,b[l.length]?=C a/\∀j c,(iC k a).toList[j]?=C c->d[l.length*16+j]?=C c:=by
 obtain⟨f,a,rfl⟩:∃f a,b=f++[a]:=by
  rcases g:b.reverse with _|⟨e,s⟩
  .simp at g;subst g;simp at i
  simp_all
 have m:l.length=f.length:=by simp_all
 rw[qX m]at h;refine⟨a,by simp_all,λj c o=>?_⟩
 have n:(d.toList.take ((l++[k]).length*16))[l.length*16+j]?=C c:=by simp_all [YP,qY]
 grind
def uJ(t:Xg Out)(i:Xg (Xe×Xe))(c:Xe):Prop:=(t=[]/\c=.agg (iC {err:=-1} ln))\/∃k b,t.getLast?=C k/\i[t.length-1]?=C b/\c=.agg (iC k b)/\∃a h e d g f,b=(.slice a h e,.slice d g f)
def TK(f:E->Prop)(i R u m:E)(y:cN)(p:E)(q:fG)(d:ew)(b:M)(h:Exit)(a:Xu)(g:M):Prop:=h=.ret/\a.defers=[]/\∃e k c,a.tmps.getD 16 I=pt b.heap.size 0/\g.heap[b.heap.size]?=C (Xn e 38 k)/\e.size=16/\dH f i R u m y p q F [d] b c.ov g c/\uJ (Wt.handle y 0 [d]).2 c.vs (.agg e)
theorem Uy{h:fG}{k:ew}{t n:M}{a:Xu}{v:E×E}(g:dH f i R u m y p q F [k] b c t h)(O:∀a,f a->a<b.heap.size)(S:R<b.heap.size)(H:∀a,aI u (Wt.handle y 0 [k]).1.tree h a\/dw h a->a≠b.heap.size)(o:∀s,s≠b.heap.size->n.heap[s]?=t.heap[s]?)(T:n.heap.size=t.heap.size)(hd:a.defers=[])(x:a.tmps.getD 16 I=pt b.heap.size 0)(D:n.heap[b.heap.size]?=C (Xn e 38 v))(Q:e.size=16)(L:uJ (Wt.handle y 0 [k]).2 h.vs (.agg e)):TK f i R u m y p q k b .ret a n:=by
 refine⟨A,hd,e,v,h,x,D,Q,?_,L⟩;have r:=g.at'
 exact{
  at':=⟨r.gI.same ⟨by omega,λa d=>o a (H a (Xh d)),λa d=>by simp_all⟩,by rw[o R (by omega)];exact r.ptr,r.ok,r.own,r.KY,r.use,r.ach⟩
  val:=A
  keep:=λa d N z=>by
   have:=g.keep a d N z
   grind [gd]
  ro:=λa d=>by have:=O a d;rw[o a (by omega)];exact g.ro a d
  size:=by grind
  own:=g.own
  use:=g.use
  iK:=λa W w=>by cases w
  ln:=g.ln}
theorem SO{d:ew}(W:pX i R u m y p t q b)(b7:xv f i b)(e2:1<=m/\m<2^16)(d9:p<2^16)(e3:qc d.op)(a2:d.op.kind=1\/d.op.kind=3\/d.op.kind=4\/d.op.kind=5\/d.op.kind=6\/d.op.kind=8\/d.op.kind=9\/d.op.kind=10):
 Co (goalAt TP F F z al f) 16 #[pt R 0,Xd K d.ak,Xd K d.op.kind,.string (bs d.op.path),.string (bs d.op.data),Xd K d.op.aE,Xd K d.op.flags,.bool d.watch] b λc g=>∃v,dH f i R u m y p q F [d] b v.ov g v/\uJ (Wt.handle y 0 [d]).2 v.vs c:=by
 refine vm aC (by decide) (fn:=Tryz.f16) Tryz.func16 A (N:=TK f i R u m y p q d b) (r:=#[pt R 0,Xd K d.ak,Xd K d.op.kind,.string (bs d.op.path),.string (bs d.op.data),Xd K d.op.aE,Xd K d.op.flags,.bool d.watch,I,I,I,I,I,I,I,I,I,I,I,I,I,I,I,I,I,I,I,I,I,I,I,I,I,I,I,I,I]) (by kernel_rfl) (λf2 L=>?_) ?_
 .refine aQ (cl (by decide) (ks:=[]) A (by rfl) λh3 d5 _ _=>?_)
  go_wp2
  have d1:=(XN.1 W.ptr).1;have g4:=W.KY;have a6:∀e,f e->e<b.heap.size:=λe a3=>by have:=b7.lt e a3;omega
  refine show _/\_ from⟨λe a3=>?_,?_⟩
  .simp_all [XQ]
  refine aQ (eT (R:=10) A (ct (by decide) (ks:=[]) A 0 8 (l:=[_,_,_,_,_,_,_,_]) A (by rfl) λb6 b8 _ _=>?_))
  have b2:b6.heap[b.heap.size]?=C (Xn Az 38 (0,0)):=by grind [Go.MapKept.heap_alloc]
  have a7:∀a,a<b.heap.size->b6.heap[a]?=b.heap[a]?:=by simp_all [XQ]
  have e8:b6.heap.size=b.heap.size+1:=by simp_all
  go_wp2
  refine Sim.kp b8 ?_;clear b8;refine kY (a:=#[pt R 0,Xd K d.ak,Xd K d.op.kind,.string (bs d.op.path),.string (bs d.op.data),Xd K d.op.aE,Xd K d.op.flags,.bool d.watch]) (l:=8) (more:=[9]) (by decide) A rfl rfl rfl Tryz.func28 (by decide) A (by decide) (by kernel_rfl) (RP (d:=d) (W.old (by omega) a7) (b7.keep λa w=>a7 a (a6 a w)) e2 d9 e3 a2) λc a8 n=>?_;obtain⟨v,n⟩:=n
  have f7:a8.heap[b.heap.size]?=C (Xn Az 38 (0,0)):=by rw[<-b2];refine ve (n.keep _ (by omega) (λo=>by have:=W.gI.bj o;omega) (λ_ o=>by cases o)) b2 (fP λe a3 g8 a4=>?_);simp_all
  have a1:dH f i R u m y p q F [d] b v.ov a8 v:={
   at':=n.at'
   val:=A
   keep:=λa w e1 _=>by have:=n.keep a (by omega) e1 (λe7 a4=>by cases a4);simp_all [gd]
   ro:=λa w=>(n.ro a w).trans (a7 a (a6 a w))
   size:=by grind
   own:=λa w=>(n.own a w).imp id λo=>by omega
   use:=λa w=>(n.use a w).imp id λo=>o.imp id λo=>by omega
   iK:=λa e7 o=>by cases o
   ln:=n.ln}
  have d0:∀a,aI u (Wt.handle y 0 [d]).1.tree v a\/dw v a->a≠b.heap.size:=λa w a4=>by
   have f5:=W.gI.bF.2.2;rcases w with w|w
   .rcases n.own a w with o|o
    .have:=W.gI.bj o;omega
    omega
   rcases n.use a w with o|o|o<;>omega
  have e4:=n.val;subst e4;have g5:b.heap.size<a8.heap.size:=by grind
  clear n b2 a7 e8 d5;have b1:=a1.at'.gI.row;obtain⟨Z,b3⟩:∃Z,(Wt.handle y 0 [d]).2=Z:=by simp
  refine ct (by decide) (ks:=[]) A 9 1 (more:=[]) (l:=[_]) A (by rfl) λe9 d6 _ _=>?_
  go_wp2
  refine WS d6 ?_;obtain⟨a9,b0,b4⟩:∃a9 b0,v.ov=.slice a9 Z.length b0:=by
   rcases b1.2 with⟨a5,a0⟩|⟨X,T,U,a5,_⟩
   .simp_all
   simp_all
  rw[b4];have f8:e9.heap[b.heap.size]?=C (Xn Az 38 (0,0)):=by simp_all
  refine aQ (aQ (cl (by decide) (ks:=[]) A (by rfl) λh4 b9 _ _=>?_));rcases f9:Z.reverse with _|⟨k,s⟩
  .obtain rfl:Z=[]:=by simp_all
   go_wp2
   refine vN b9 ?_;refine cH (g:=J) (by decide) A ?_;show CW _ _ _ _ (.seq _ _) _ _ _;refine(aQ (eT (R:=2) A (ct (by decide) (ks:=[]) A 0 1 (more:=[1]) (l:=[_]) A (by rfl) λh5 d7 _ _=>?_)))
   go_wp2
   refine Sim.kp d7 ?_;refine ct (by decide) (ks:=[]) A 1 1 (more:=[]) (l:=[_]) A (by rfl) λd4 c0 _ _=>?_;have c8:d4.heap[b.heap.size]?=C (Xn Az 38 (0,0)):=by simp_all
   refine Zc A 38 _ _ A b.heap.size (iC {err:=-1} ln) A rfl 38 Az c8 A rfl (by kernel_rfl) ?_;refine show _/\_ from⟨λe a3=>?_,dC (show CW _ _ _ _ _ _ _ _ from mJ ?_)⟩
   .grind [setRow_other]
   refine Uy a1 a6 d1 d0 (λY a2=>?_) ?_ A rfl (ZY _ _ _ _ _ _ c8) A (Xh ⟨b3,A⟩)
   .simp_all [ZD]
   simp_all
  obtain⟨l,rfl⟩:∃l,Z=l++[k]:=by simp_all
  obtain⟨X,T,U,a5,a0,n,c6,c7,f6,_⟩:=(by
   rw[b3]at b1;rcases b1.2 with⟨_,a0⟩|o
   .simp at a0
   exact o:∃X T U,v.ov=Xm (C ⟨X,0,F⟩) (l++[k]).length T/\a8.heap[X]?=C (Xn U 38 (0,0))/\(l++[k]).length<=T/\T<=maxLen/\U.size=T*16/\U.toList.take ((l++[k]).length*16)=gB (l++[k]) v.vs/\∀e∈U.toList,NB e)
  obtain⟨rfl,rfl⟩:a9=C ⟨X,0,F⟩/\b0=T:=by simp_all
  obtain⟨x,b5,e6⟩:∃x,v.vs[l.length]?=C x/\∀j c,(iC k x).toList[j]?=C c->U[l.length*16+j]?=C c:=by
   have g3:=a1.at'.gI.outs.1
   grind [FA]
  have d2:=a1.at'.gI.outs.2 l.length k x (by simp_all) b5;have e5:=Xl (show v.vs[(l++[k]).length-1]?=C x by simpa using b5);clear b5;have e0:(l++[k]).length=l.length+1:=by simp
  rw[e0]at n b4⊢
  have a2:l.length+1<2^63:=by grind [maxLen]
  generalize l.length=Y at n b4 e6 a2⊢
  have g2:((Y:Xj)+1==0)=Xf:=by simp;omega
  have g1:wrap64 ((Y:Xj)+1-1)=Y:=by grind [wrap64]
  go_wp2
  refine vN b9 ?_;refine cH (g:=Xf) (by decide) (by rfl) ?_;refine eL (show CW _ _ _ _ _ _ _ _ from ?_);refine aQ (eT (R:=7) A (ct (by decide) (ks:=[]) A 0 5 (more:=[5,6]) (l:=[_,_,_,_,_]) A (by rfl) λd4 c0 _ _=>?_))
  go_wp2
  refine Sim.kp c0 ?_;refine ct (by decide) (ks:=[]) A 5 2 (more:=[]) (l:=[_,_]) A (by rfl) λf0 f3 _ _=>?_;have c9:f0.heap[b.heap.size]?=C (Xn Az 38 (0,0)):=by simp_all
  refine wpList_load_mid A 38 _ A X (Y*16) A (iC k x).toList _ (λj c g0=>?_) A rfl rfl ?_
  .grind [aa]
  refine Zc A 38 _ _ A b.heap.size (iC k x) A rfl 38 Az c9 A rfl (NM d2) ?_;refine show _/\_ from⟨λe a3=>?_,dC (show CW _ _ _ _ _ _ _ _ from mJ ?_)⟩
  .grind [setRow_other]
  refine Uy a1 a6 d1 d0 (λY a2=>?_) ?_ A rfl (ZY _ _ _ _ _ _ c9) A (Xi ⟨k,x,by simp_all,by rw[b3];exact e5.out,A,Ay d2⟩)
  .simp_all [ZD]
  simp_all
 rintro a4 a g⟨rfl,hd,e,d8,v,a5,a0,n,c6,c7⟩;refine⟨Xi A,hd,λd3=>⟨.agg e,?_,v,c6.eq A rfl,c7⟩⟩;exact aaJ (ty:=38) A _ _ b.heap.size 38 e d8 _ a5 a0 A rfl (by rw[n];rfl)
end
variable{d:E}{a:M}{e:Path}{b:E}{c:M}
theorem To(a:M):Calls TP 51 #[] a λd c=>d=Xs (pt (a.heap.size+2) 0)/\c=((a.alloc (.map #[] 0)).alloc (.cells (cU [] {} 0 a.heap.size) 192)).alloc (.cells #[pt (a.heap.size+1) 0,Xd K 1,Xm F 0 0] 195):=by
 have e:=λb=>aav (P:=TP) 188 b;go_enter Tryz.func51,Tryz.ntmps51
 go_wp2
 go_ret;exact⟨A,A⟩
theorem Ty(a:M):Calls TP 52 #[] a λd c=>d=Xs (pt (a.heap.size+1) 0)/\c=(a.alloc (.map #[] 0)).alloc (.cells #[.map (C a.heap.size)] 198):=by
 have e:=λb=>aav (P:=TP) 196 b;go_enter Tryz.func52,Tryz.ntmps52
 go_wp2
 go_ret;simp
structure QV(b:E)(h g:Xj)(a c:M):Prop where
 size:c.heap.size=b+9
 old:∀f,f<b->c.heap[f]?=a.heap[f]?
 h1:c.heap[b+1]?=C (.map #[] 0)
 h2:c.heap[b+2]?=C (Xn (cU [] {} 0 (b+1)) 192 (0,0))
 h3:c.heap[b+3]?=C (Xn #[pt (b+2) 0,Xd K 1,Xm F 0 0] 195 (0,0))
 h4:c.heap[b+4]?=C (.map #[] 0)
 h5:c.heap[b+5]?=C (Xn #[.map (C (b+4))] 198 (0,0))
 h6:c.heap[b+6]?=C (.map #[] 0)
 h7:c.heap[b+7]?=C (Xn (EJ h g (b+3) (b+5) (b+6) 0 0 1 (Xm F 0 0) .nilFunc) 98 (0,0))
 h8:c.heap[b+8]?=C (Xn #[pt (b+7) 0] 78 (0,0))
theorem eC(a:M)(b:Obj)(c:a.heap.size=d):(a.alloc b).heap[d]?=C b:=by grind [heap_alloc]
theorem bh(c:Obj){b:Obj}(e:a.heap[d]?=C b):(a.alloc c).heap[d]?=C b:=by grind [heap_alloc]
theorem rB(g:Obj)(f:a.heap.size=d):(a.alloc g).heap.size=d+1:=by simp[f]
theorem RN(a:M)(b c d e f g h k l:Obj):(((((((((a.alloc b).alloc c).alloc d).alloc e).alloc f).alloc g).alloc h).alloc k).alloc l).heap.size=a.heap.size+9/\(∀i,i<a.heap.size->(((((((((a.alloc b).alloc c).alloc d).alloc e).alloc f).alloc g).alloc h).alloc k).alloc l).heap[i]?=a.heap[i]?)/\(((((((((a.alloc b).alloc c).alloc d).alloc e).alloc f).alloc g).alloc h).alloc k).alloc l).heap[a.heap.size+1]?=C c/\(((((((((a.alloc b).alloc c).alloc d).alloc e).alloc f).alloc g).alloc h).alloc k).alloc l).heap[a.heap.size+2]?=C d/\(((((((((a.alloc b).alloc c).alloc d).alloc e).alloc f).alloc g).alloc h).alloc k).alloc l).heap[a.heap.size+3]?=C e/\(((((((((a.alloc b).alloc c).alloc d).alloc e).alloc f).alloc g).alloc h).alloc k).alloc l).heap[a.heap.size+4]?=C f/\(((((((((a.alloc b).alloc c).alloc d).alloc e).alloc f).alloc g).alloc h).alloc k).alloc l).heap[a.heap.size+5]?=C g/\(((((((((a.alloc b).alloc c).alloc d).alloc e).alloc f).alloc g).alloc h).alloc k).alloc l).heap[a.heap.size+6]?=C h/\(((((((((a.alloc b).alloc c).alloc d).alloc e).alloc f).alloc g).alloc h).alloc k).alloc l).heap[a.heap.size+7]?=C k/\(((((((((a.alloc b).alloc c).alloc d).alloc e).alloc f).alloc g).alloc h).alloc k).alloc l).heap[a.heap.size+8]?=C l:=by
 have n:(a.alloc b).heap.size=a.heap.size+1:=by simp
 have o:((a.alloc b).alloc c).heap.size=a.heap.size+2:=by simp
 have p:(((a.alloc b).alloc c).alloc d).heap.size=a.heap.size+3:=by simp
 have q:((((a.alloc b).alloc c).alloc d).alloc e).heap.size=a.heap.size+4:=by simp
 have r:(((((a.alloc b).alloc c).alloc d).alloc e).alloc f).heap.size=a.heap.size+5:=by simp
 have s:((((((a.alloc b).alloc c).alloc d).alloc e).alloc f).alloc g).heap.size=a.heap.size+6:=by simp
 have t:(((((((a.alloc b).alloc c).alloc d).alloc e).alloc f).alloc g).alloc h).heap.size=a.heap.size+7:=by simp
 have v:((((((((a.alloc b).alloc c).alloc d).alloc e).alloc f).alloc g).alloc h).alloc k).heap.size=a.heap.size+8:=by simp
 have u:(((((((((a.alloc b).alloc c).alloc d).alloc e).alloc f).alloc g).alloc h).alloc k).alloc l).heap.size=a.heap.size+9:=by simp
 refine⟨u,λi m=>?_,?_,?_,?_,?_,?_,?_,?_,?_⟩
 .rw[(ZC _ _).2 i (by omega),(ZC _ _).2 i (by omega),(ZC _ _).2 i (by omega),(ZC _ _).2 i (by omega),(ZC _ _).2 i (by omega),(ZC _ _).2 i (by omega),(ZC _ _).2 i (by omega),(ZC _ _).2 i (by omega),(ZC _ _).2 i m]
 .exact bh _ (bh _ (bh _ (bh _ (bh _ (bh _ (bh _ (eC _ _ n)))))))
 .exact bh _ (bh _ (bh _ (bh _ (bh _ (bh _ (eC _ _ o))))))
 .exact bh _ (bh _ (bh _ (bh _ (bh _ (eC _ _ p)))))
 .exact bh _ (bh _ (bh _ (bh _ (eC _ _ q))))
 .exact bh _ (bh _ (bh _ (eC _ _ r)))
 .exact bh _ (bh _ (eC _ _ s))
 .exact bh _ (eC _ _ t)
 grind [eC]
theorem RY{d b:Xj}(a:M):Calls TP 34 #[Xd K d,Xd K b] a λf c=>f=Xs (pt (a.heap.size+6) 0)/\c=((((((a.alloc (.map #[] 0)).alloc (.cells (cU [] {} 0 a.heap.size) 192)).alloc (.cells #[pt (a.heap.size+1) 0,Xd K 1,Xm F 0 0] 195)).alloc (.map #[] 0)).alloc (.cells #[.map (C (a.heap.size+3))] 198)).alloc (.map #[] 0)).alloc (.cells (EJ d b (a.heap.size+2) (a.heap.size+4) (a.heap.size+5) 0 0 1 (Xm F 0 0) .nilFunc) 98):=by
 have g:=λe=>aav (P:=TP) 96 e;go_enter Tryz.func34,Tryz.ntmps34
 go_wp2_with (first
  |(go_at_call 51;refine(To _).mono ?_;rintro _ _⟨rfl,rfl⟩)
  |(go_at_call 52;refine(Ty _).mono ?_;rintro _ _⟨rfl,rfl⟩))
 go_ret;simp
theorem Qa{d b:Xj}(r:1<=d/\d<=100)(q:1<=b/\b<=8)(a:M):Calls TP 26 #[.agg #[Xd K d,Xd K b]] a λp c=>p=Xs (.tuple #[pt (a.heap.size+8) 0,.nilIface])/\QV a.heap.size d b a c:=by
 go_enter Tryz.func26,Tryz.ntmps26
 go_wp2_with (go_at_call 34;refine(RY _).mono ?_;rintro _ _⟨rfl,rfl⟩)
 go_ret2;refine⟨A,?_⟩
 obtain⟨e,o,f,g,h,i,k,l,m,n⟩:=RN a (.cells #[Xd K d,Xd K b] 69) (.map #[] 0) (.cells (cU [] {} 0 (a.heap.size+1)) 192) (.cells #[pt (a.heap.size+1+1) 0,Xd K 1,Xm F 0 0] 195) (.map #[] 0) (.cells #[.map (C (a.heap.size+1+3))] 198) (.map #[] 0)
  (.cells (EJ d b (a.heap.size+1+2) (a.heap.size+1+4) (a.heap.size+1+5) 0 0 1 (Xm F 0 0) .nilFunc) 98) (.cells #[pt (a.heap.size+1+6) 0] 78)
 exact⟨e,o,f,g,h,i,k,l,m,n⟩
theorem nk:Stamped #[] 0:=⟨by simp,by simp,by simp⟩
theorem jl{b:Nd}(a:Wt.find [([],{})] e=C b):e=[]/\b={}:=by
 rcases e with _|⟨c,e⟩
 .exact⟨A,(YF a).symm⟩
 simp_all [Wt.find]
theorem Qb{t s:Xj}(f:QV b t s a c)(p:b=a.heap.size)(z:(∃n,a.cell? ⟨1,0,F⟩=C (Xd K n))/\uQ a/\4<a.heap.size):
 ∃h,aK (b+7) s {timeout:=t} [] h c/\(∀g,aI (b+7) [([],{})] h g->b<=g/\g≠b+8)/\(∀g,dw h g->g=1\/g=4)/\h.li={}/\h.hd=[]:=by
 subst p;obtain⟨b,p⟩:∃b,a.heap.size=b:=by simp
 rw[p]at f⊢
 let h:fG:={tb:=b+3,nb:=λ_=>b+2,mb:=λ_=>b+1,tw:=b+5,mw:=b+4,f:=λ_=>F,hb:=b+6,ov:=Xm F 0 0,vs:=[]}
 have x:∀g,pJ [([],{})] h.nb h.mb h.tb g->g=b+1\/g=b+2\/g=b+3:=λg i=>by
  rcases i with f|⟨e,_,f|f⟩
  .exact Xi (Xi f)
  .exact Xi (Xh f)
  grind
 have y:∀g,eF h.tw h.mw h.f g->g=b+4\/g=b+5:=λg i=>by
  rcases i with f|f|⟨d,l,f⟩
  .exact Xi f
  .exact Xh f
  cases f
 have r:∀g,dw h g->g=1\/g=4:=λg i=>by
  rcases i with f|f|⟨u,f,_⟩
  .exact Xh f
  .exact Xi f
  cases f
 have v:Kids #[] 0 (bX [([],{})] h.nb []):=⟨nk,λq f=>by simp at f,λa4 Q f=>by grind [bX,Option.isSome_iff_exists,jl]⟩
 refine⟨h,⟨?_,?_,IF,?_,?_,?_,?_,?_,?_,?_,?_⟩,λg i=>?_,r,A,A⟩
 .exact{
   nd:=λe n m=>by obtain⟨rfl,rfl⟩:=jl m;exact f.h2
   kd:=λe n m=>by obtain⟨rfl,rfl⟩:=jl m;exact⟨_,_,f.h1,v⟩
   inj:=λe l m N _=>by grind [Option.isSome_iff_exists,jl]
   xM:=λe l m N _=>by grind [Option.isSome_iff_exists,jl]}
 .exact⟨Xm F 0 0,Xi ⟨_,_,_,A⟩,f.h3⟩
 .exact⟨f.h5,⟨_,_,f.h4,nk,λq f=>by simp at f,(λd u f=>by cases f)⟩,(λd l=>Xh ⟨A,_,A⟩),(λd l W a3 R f=>by cases f),(λd l=>Xg.Pairwise.nil),(λd l a9 O=>by cases O)⟩
 .refine⟨_,_,f.h6,nk,λq f=>by simp at f,λd u f=>?_⟩;unfold fL at f
  grind
 .exact f.h7
 .exact cr.nil _ _ _ _
 .grind
 .obtain⟨⟨n,L⟩,w,S⟩:=z;exact⟨⟨n,bW (f.old 1 (by omega)) L⟩,w.stay (by rw[f.old 4 (by omega)]),by rw[f.size];omega⟩
 .exact Xh A
 .intro k j g D H
  have o:∀k,abJ (b+7) [([],{})] h g k->k=if g<=b+3 then(if g<=b then 5 else 0)else if g<=b+5 then 1 else if g=b+6 then 2 else 3:=λk f=>by
   rcases k with _|_|_|_|_|_|_|k
   .have:=x g f;grind
   .have:=y g f;grind
   .obtain rfl:g=b+6:=f
    grind
   .obtain rfl:g=b+7:=f
    grind
   .cases f
   .have:=r g f;grind
   .exact absurd A f.1
   exact f.elim
  rw[o k D,o j H]
 rcases i with f|f|f|f|f|f
 .omega
 .grind
 .grind
 .grind
 .cases f
 exact absurd A f.1
variable{r:Xe}{t:E}{g:fG}{s:Xg Xr}{j:E}
section
variable[Inhabited aM]
def Rx(b:Xj):Prop:=b=1\/b=3\/b=4\/b=5\/b=6\/b=8\/b=9\/b=10
structure zq(ro:E->Prop)(p R u m:E)(y:cN)(o:E)(g:fG)(i:ew)(c:M)(n:Xk Xe)(e:E)(k:M)(d:fG):Prop where
 at':pX p R u m (Wt.handle y 0 [i]).1 (o+1) (Wt.handle y 0 [i]).2 d k
 keep:∀a,a<c.heap.size->¬aI u y.tree g a->gd c k a
 ro:∀a,ro a->k.heap[a]?=c.heap[a]?
 size:c.heap.size<=k.heap.size
 own:∀a,aI u (Wt.handle y 0 [i]).1.tree d a->aI u y.tree g a\/c.heap.size<=a
 use:∀a,dw d a->a=1\/a=4\/c.heap.size<=a
 blk:k.heap[e]?=C (Xn n 38 (0,0))
 new:c.heap.size<=e
 free:¬aI u (Wt.handle y 0 [i]).1.tree d e
 last:uJ (Wt.handle y 0 [i]).2 d.vs (.agg n)
 ok:n.all (·.oneCell')=J
 En:¬aT n
 sz:n.size=16
 ln:d.li=g.li/\d.hd=g.hd++Wt.lz (Wt.handle y 0 [i]).2
theorem Cl{q:Xg Out}{g:Xg (Xe×Xe)}(d:uJ q g r):∃b,r=.agg b/\b.all (·.oneCell')=J/\¬aT b/\b.size=16:=by
 rcases d with⟨_,rfl⟩|⟨m,n,_,_,rfl,a,t,i,h,l,k,rfl⟩
 .refine⟨_,A,by kernel_rfl,fP λb e f c=>?_,A⟩;simp_all [iC]
 refine⟨_,A,by kernel_rfl,fP λb e f c=>?_,A⟩;simp_all [iC]
section
variable{p m o x:E}{q:Xg Out}
variable{e:Xr}{a:Xu}
theorem nE{H:Sim.Rt}{i:ew}{more:Xg E}{O:Xk XJ}{a6:Xk Xq}{a4:Xg E}(a1:H.kn.map (·.1)=a4)(d7:H.free (C j)=J)(b5:(a4.all λy=>C b !=C y)=J)(a0:al.fr e.fn=J)(S:e.kind≠.early)
 (a9:bN D h (C j) (.call {callee:=.value (.func 16),args:=O,argTypes:=a6}))(b0:bN D (h+1) (C b) (.alloc 38))(b1:bN D (h+2) F (.store 38 (.tmp b) (.tmp j)))
 (d8:j<a.tmps.size)(e0:b<a.tmps.size)(d9:j≠b)(c0:jd TP al.fn al.bi al.bZ (.store 38 (.tmp b) (.tmp j))=J)(b4:O.toList.all (du TP al.fn)=J)
 (b3:O.map a.eval=#[pt R 0,Xd K i.ak,Xd K i.op.kind,.string (bs i.op.path),.string (bs i.op.data),Xd K i.op.aE,Xd K i.op.flags,.bool i.watch])
 (L:pX p R u m y o q g c)(W:xv f p c)(b8:1<=m/\m<2^16)(b2:o<2^16)(b9:qc i.op)(b6:Rx i.op.kind)
 (next:∀k X a5 Q,zq f p R u m y o g i c k X a5 Q->CO (goalAt TP F F z al f) e H s D more N ((a.put (C j) (.agg k)).put (C b) (pt X 0)) a5):
 CO (goalAt TP F F z al f) e H s D (h::(h+1)::(h+2)::more) N a c:=by
 obtain⟨e5,c8,c9,d0,e7⟩:=a9;refine kY S (by simp_all) c8 (by simp_all [Region.wanted]) d0 Tryz.func16 (by decide) A b4 b3 (SO (d:=i) L W b8 b2 b9 b6) λr n v=>?_;obtain⟨Q,l,Y⟩:=v;rw[c9];obtain⟨k,rfl,a3,c7,T⟩:=Cl Y;have e1:=(XN.1 L.ptr).1;have e2:∀k,f k->k<c.heap.size:=λk c6=>by have:=W.lt k c6;have:=L.KY;omega
 have e3:=l.size;refine nG (zI aC a0 S b0 a1 (by decide) b5 λf0 a8 _ _ d2 d1 a7=>?_)
 go_wp2
 refine⟨λd w=>(XQ _ _ _ (by grind)).trans (by rw[a8]),?_⟩;refine zI aC a0 S b1 a1 c0 (by simp) λU d6 _ _ d2 d1 a7=>?_;have Z:U.heap[n.heap.size]?=C (Xn Az 38 (0,0)):=by grind [heap_alloc]
 have e6:∀d,d<n.heap.size->U.heap[d]?=n.heap[d]?:=by simp_all [XQ]
 refine wp_store_row 38 _ _ A n.heap.size k ?_ ?_ 38 Az Z (by rw[T];rfl) (by rw[T];rfl) a3 ?_
 .simp_all [Act.eval]
 .simp_all [Act.eval,YX]
 have a2:∀d,d<n.heap.size->(U.setRow n.heap.size k).heap[d]?=n.heap[d]?:=by grind [setRow_other]
 refine⟨λd w=>?_,next k n.heap.size _ Q ?_⟩
 .grind
 exact{
  at':=l.at'.old (by simp_all) a2
  keep:=λd w b7=>by
   have:=l.keep d w b7 (λ_ v=>by cases v)
   grind [gd]
  ro:=λd w=>by rw[a2 d (by grind)];exact l.ro d w
  size:=by grind [setRow_size]
  own:=l.own
  use:=l.use
  blk:=ZY _ _ _ _ _ _ Z
  new:=by omega
  free:=λv=>by have:=l.at'.gI.bj v;omega
  last:=Y
  ok:=a3
  En:=c7
  sz:=T
  ln:=l.ln}
end
variable{v:E}{c:E}{e:fG}{g:Xk Xe}{q:E}{D:Out}
theorem TU{a:Xk Xe}(b:a.size=v):a=((Xg.range v).map λc=>a.getD c I).toArray:=by refine aaj (by simp[b]) λc d e=>?_;simp[Yu,d]
abbrev Th(b:Xj)(R:E)(c:E)(a:E->Xe):Xu:=⟨#[Xd K b,a 1,XA F,pt R 0,.nilIface,Xd K (c+1),a 6,a 7,a 8,a 9,a 10,a 11,a 12,a 13,a 14,a 15,a 16,a 17,a 18,a 19,a 20,a 21,a 22,a 23,a 24,a 25,a 26,a 27,a 28,a 29,a 30,a 31,a 32,a 33,a 34,a 35,a 36,a 37,a 38,a 39,a 40,a 41,a 42,a 43,a 44,a 45,a 46,a 47,a 48,a 49,a 50,a 51,a 52,a 53,a 54,a 55,a 56,a 57,a 58,a 59,a 60,a 61,a 62,a 63,a 64,a 65,a 66,a 67,a 68,a 69,a 70,a 71,a 72,a 73,a 74,a 75,a 76,a 77],[]⟩
theorem Is{b:Xj}{a:Xu}(d:a.tmps.size=78)(hd:a.defers=[])(i:a.tmps[0]?=C (Xd K b))(k:a.tmps[2]?=C (XA F))(l:a.tmps[3]?=C (pt R 0))(m:a.tmps[4]?=C (.nilIface))(n:a.tmps[5]?=C (Xd K (c+1))):∃g,a=Th b R c g:=by obtain⟨f,h⟩:=a;subst hd;exact⟨λc=>f.getD c I,YU (λe=>(⟨e,[]⟩:Xu)) ((TU d).trans (by simp_all [Xg.range,Xg.range.loop]))⟩
structure Eo(ro:E->Prop)(k:E)(a:M)(sx u h:E)(y:cN)(t:E)(e:fG)(d:M):Prop where
 at':∃i,pX k sx u h y t i e d
 keep:∀b,b<a.heap.size->gd a d b
 ro:∀b,ro b->d.heap[b]?=a.heap[b]?
 size:a.heap.size<=d.heap.size
 own:∀b,aI u y.tree e b->a.heap.size<=b
 use:∀b,dw e b->b=1\/b=4\/a.heap.size<=b
 sx:a.heap.size<=sx
 li:e.li={}
section
variable{k h t:E}{m:fG}{s r:M}
theorem Eo.eq(b:Eo f k a R u h y t e s)(c:r.heap=s.heap):Eo f k a R u h y t e r where
 at':=by obtain⟨D,i⟩:=b.at';exact⟨D,i.eq c⟩
 keep:=λd g=>EF (b.keep d g) A c
 ro:=λd g=>by rw[c];exact b.ro d g
 size:=by rw[c];exact b.size
 own:=b.own
 use:=b.use
 sx:=b.sx
 li:=b.li
theorem Eo.one{p:ew}(c:Eo f k a R u h y t e s)(o:∀b,f b->b<a.heap.size)(P:zq f k R u h y t e p s g q r m):Eo f k a R u h (Wt.handle y 0 [p]).1 (t+1) m r where
 at':=⟨_,P.at'⟩
 keep:=λb d=>(c.keep b d).trans (P.keep b (by have:=c.size;omega) λn=>by have:=c.own b n;omega)
 ro:=λb d=>(P.ro b d).trans (c.ro b d)
 size:=XZ c.size P.size
 own:=λb d=>(P.own b d).elim (c.own b) λi=>XZ c.size i
 use:=λb d=>(P.use b d).imp id λi=>i.imp id λl=>XZ c.size l
 sx:=c.sx
 li:=P.ln.1.trans c.li
end
structure Rp(u:E)(y:cN)(e:fG)(q:E)(g:Xk Xe)(a:M):Prop where
 blk:a.heap[q]?=C (Xn g 38 (0,0))
 free:¬aI u y.tree e q
 En:¬aT g
section
variable{k h t:E}{m:fG}{s r:M}{p:ew}{H:E}{Y:Xk Xe}
theorem Rp.eq(a:Rp u y e q g s)(b:r.heap=s.heap):Rp u y e q g r:=⟨by rw[b];exact a.blk,a.free,a.En⟩
theorem zq.UY(P:zq f k R u h y t e p s g q r m):Rp u (Wt.handle y 0 [p]).1 m q g r:=⟨P.blk,P.free,P.En⟩
theorem Rp.next(a:Rp u y e q g s)(P:zq f k R u h y t e p s Y H r m):Rp u (Wt.handle y 0 [p]).1 m q g r:=by have b:=(XN.1 a.blk).1;refine⟨?_,λc=>(P.own q c).elim a.free λd=>by omega,a.En⟩;rw[<-a.blk];exact ve (P.keep q b a.free) a.blk a.En
end
structure Ld(f:E->Prop)(k:E)(a:M)(b:Xe)(d:M)(R u h:E)(m:fG):Prop where
 val:b=pt R 0
 WT:1<=h/\h<=8
 gI:Eo f k a R u h Wt.sB 7 m d
theorem lG:∀a,(b:a<7)->Wt.handle (rE a) 0 [Qu[a]'b]=(rE (a+1),[UE[a]'b]):=λa b=>by rw[Gr a b,<-EB a b,th];exact V_ A (YT _)
theorem OZ:∀c:E,c<3->Wt.handle (rE c) 0 [Wt.rq 0 1 [] [] 0 0 Xf]=(rE (c+1),[{ak:=(c:Xj)+1}])
 |0,_=>lG 0 (by decide)
 |1,_=>lG 1 (by decide)
 |2,_=>lG 2 (by decide)
theorem Ck{c:Xg (Xe×Xe)}(b:uJ [D] c (.agg g)):∃a,c[0]?=C a/\g=iC D a:=by
 rcases b with⟨b,_⟩|⟨h,a,d,e,f,_⟩
 .cases b
 cases d;cases f;exact⟨a,e,A⟩
theorem lf{b:Xg (Xe×Xe)}(a:uJ [D] b (.agg g)):∃c,g=iC D c:=(Ck a).imp λ_ a=>a.2
def Rf(b:E)(a:Xu):E:=match a.tmps[b]? with
 |some (.int _ v)=>v.toNat
 |_=>0
theorem SN{c:Xj}:Ok {timeout:=c} 0 where
 wf:=IF
 xU:=Xg.Pairwise.nil
 key:=λb a=>by cases a
 kR:=show(1:Xj)<=1/\(1:Xj)<=(0:E)+1 by decide
 yt:=by simp
 aL:=show(0:Xj)<=0/\(0:Xj)<=512*(0:E)by decide
 uf:=λb p=>Xg.Pairwise.nil
 ue:=λb p g a=>by cases a
 LQ:=λe v a=>by obtain⟨rfl,rfl⟩:=jl a;simp
section
variable{k:E}
theorem LN{Z:Xj}(d5:-2^63<=Z/\Z<2^63)(O:xv f k a)(d0:(∃L,a.cell? ⟨1,0,F⟩=C (Xd K L))/\uQ a/\4<a.heap.size)(g0:k<=a.heap.size):
 Co (goalAt TP F F z al f) 14 #[Xd K Z] a λT U=>∃R u h m,Ld f k a T U R u h m:=by
 refine vm aC (by decide) (fn:=Tryz.f14) Tryz.func14 A (N:=λb6 d U=>b6=.ret/\d.defers=[]/\∃T,d.tmps[2]?=C T/\∃R u h m,Ld f k a T U R u h m) (r:=#[Xd K Z,I,I,I,I,I,I,I,I,I,I,I,I,I,I,I,I,I,I,I,I,I,I,I,I,I,I,I,I,I,I,I,I,I,I,I,I,I,I,I,I,I,I,I,I,I,I,I,I,I,I,I,I,I,I,I,I,I,I,I,I,I,I,I,I,I,I,I,I,I,I,I,I,I,I,I,I,I]) (by kernel_rfl) (λe3 e4=>?_) ?_
 .have S:∀g,f g->g<a.heap.size:=λg d6=>by have:=O.lt g d6;omega
  refine aQ (cl (by decide) (ks:=[]) A (by rfl) λs a8 _ _=>?_)
  go_wp2
  refine vN a8 ?_;refine aQ (cl (by decide) (ks:=[]) A (by rfl) λr b7 _ _=>?_)
  go_wp2_with (first
   |(go_at_call 21;refine(kM d5 (by decide) _).mono ?_;rintro _ _⟨L,f9,rfl,rfl⟩)
   |(go_at_call 26;refine(Qa (by decide) (by omega) _).mono ?_;rintro _ _⟨rfl,H⟩))
  rename_i d8 _ _ d9
  obtain⟨e,B⟩:∃e,Eo f k a (a.heap.size+8) (a.heap.size+7) (1+L) UL 0 e d9:=by
   have W:=b7.trans a8;have d4:(1+(L:Xj))=((1+L:E):Xj):=by omega
   rw[W,d4]at H;obtain⟨e,c0,b2,b8,d3,d1⟩:=Qb (a:=d8) H (by rw[W]) ⟨by grind [World.cell?],d0.2.1.stay (by rw[W]),by grind⟩;refine⟨e,⟨[],c0,H.h8,SN,λd w=>⟨by have:=(b2 d w).1;omega,(b2 d w).2⟩,by omega,λd w=>(b8 d w).imp id Xh,by rw[d1];exact YA _⟩,λd w=>?_,λd w=>?_,?_,λd w=>(b2 d w).1,λd w=>(b8 d w).imp id Xh,by omega,d3⟩
   .exact Xh (by rw[H.old d w,W])
   .rw[H.old d (S d w),W]
   rw[H.size];omega
  refine show _/\_ from⟨λb4 b3=>(B.ro b4 b3).trans (by rw[a8]),(show CW _ _ _ _ _ _ _ _ from ?_)⟩;clear H;generalize a.heap.size+8=R at B⊢
  generalize a.heap.size+7=u at B;refine aQ (aQ (cl (by decide) (ks:=[]) A (by rfl) λg7 a9 _ _=>?_))
  go_wp2
  replace B:=B.eq a9;refine vN a9 ?_;clear a9 b7;refine cH (g:=Xf) (by decide) A (eL (show CW _ _ _ _ _ _ _ _ from ?_));refine aQ (aQ (cl (by decide) (ks:=[]) A (by rfl) λe0 b0 _ _=>?_))
  go_wp2
  replace B:=B.eq b0;refine vN b0 ?_;clear b0;refine iu (um (w:=λd U=>∃c,c<=3/\(∃b9,d=Th Z R c b9)/\∃e,Eo f k a R u (1+L) (rE c) c e U) (O:=λd a=>4-Rf 5 d) ⟨0,by decide,Is A rfl rfl rfl rfl rfl rfl,e,B⟩ ?_);rintro d e0⟨c,f7,⟨b9,rfl⟩,e,B⟩;dsimp only[Th];refine aQ (aQ (cl (by decide) (ks:=[]) A (by rfl) λg8 Q _ _=>?_));rcases(by omega:c=3\/c<3)with rfl|d2
  .go_wp2
   replace B:=B.eq Q;refine vN Q ?_;clear Q;refine cH (g:=Xf) (by decide) A (qo ?_);show CW _ _ _ _ _ _ _ _;refine aQ (eT (R:=4) A (ct (by decide) (ks:=[]) A 0 1 (more:=[1,2,3]) (l:=[_]) A (by rfl) λa5 b _ _=>?_))
   go_wp2
   replace B:=B.eq b;refine TF b ?_;clear b;obtain⟨a4,t⟩:=B.at';refine nE (a4:=[]) A rfl rfl (i:=Wt.rq 1 3 Wt.pA Wt.first 0 0 Xf) (j:=41) (b:=7) (by decide) (by decide) ⟨_,A,A,A,A⟩ ⟨_,A,A,A,A⟩ ⟨_,A,A,A,A⟩ (show 41<78 by decide) (show 7<78 by decide) (by decide) (by rfl) (by decide) (by kernel_rfl) t (O.keep B.ro) (by omega) (by omega) ⟨by decide,by decide,by decide,by decide⟩ (Xi (Xh A)) λg c6 a6 e5 P=>?_;replace B:=B.one S P;have l:=P.last;have i:=P.UY;have o:=lG 3 (by decide)
   change Wt.handle _ _ [Wt.rq 1 3 Wt.pA Wt.first 0 0 Xf]=_ at o
   rw[o]at B l i;obtain⟨g4,rfl⟩:=lf l;clear t l P o;refine dC (show CW _ _ _ _ _ _ _ _ from ?_);dsimp only[Act.put];refine aQ (eT (R:=4) A (ct (by decide) (ks:=[]) A 0 1 (more:=[1,2,3]) (l:=[_]) A (by rfl) λa5 b _ _=>?_))
   go_wp2
   replace B:=B.eq b;replace i:=i.eq b;refine TF b ?_;clear b;obtain⟨a4,t⟩:=B.at';refine nE (a4:=[]) A rfl rfl (i:=Wt.rq 2 3 Wt.pB [] 0 0 Xf) (j:=43) (b:=8) (by decide) (by decide) ⟨_,A,A,A,A⟩ ⟨_,A,A,A,A⟩ ⟨_,A,A,A,A⟩ (show 43<78 by decide) (show 8<78 by decide) (by decide) (by rfl) (by decide) (by kernel_rfl) t (O.keep B.ro) (by omega) (by omega) ⟨by decide,by decide,by decide,by decide⟩ (Xi (Xh A)) λg c7 a6 e6 P=>?_;replace B:=B.one S P;have l:=P.last;have q:=P.UY;replace i:=i.next P;have o:=lG 4 (by decide)
   change Wt.handle _ _ [Wt.rq 2 3 Wt.pB [] 0 0 Xf]=_ at o
   rw[o]at B l q i;obtain⟨g5,rfl⟩:=lf l;clear t l P o;refine dC (show CW _ _ _ _ _ _ _ _ from ?_);dsimp only[Act.put];refine aQ (eT (R:=4) A (ct (by decide) (ks:=[]) A 0 1 (more:=[1,2,3]) (l:=[_]) A (by rfl) λa5 b _ _=>?_))
   go_wp2
   replace B:=B.eq b;replace i:=i.eq b;replace q:=q.eq b;refine TF b ?_;clear b;obtain⟨a4,t⟩:=B.at';refine nE (a4:=[]) A rfl rfl (i:=Wt.rq 3 3 Rm Iy 0 0 Xf) (j:=45) (b:=9) (by decide) (by decide) ⟨_,A,A,A,A⟩ ⟨_,A,A,A,A⟩ ⟨_,A,A,A,A⟩ (show 45<78 by decide) (show 9<78 by decide) (by decide) (by rfl) (by decide) (by kernel_rfl) t (O.keep B.ro) (by omega) (by omega) ⟨by decide,by decide,by decide,by decide⟩ (Xi (Xh A)) λg c8 a6 e7 P=>?_;replace B:=B.one S P;have l:=P.last;have y:=P.UY;replace i:=i.next P;replace q:=q.next P;have o:=lG 5 (by decide)
   change Wt.handle _ _ [Wt.rq 3 3 Rm Iy 0 0 Xf]=_ at o
   rw[o]at B l y i q;obtain⟨g6,rfl⟩:=lf l;clear t l P o;refine dC (show CW _ _ _ _ _ _ _ _ from ?_);dsimp only[Act.put];refine aQ (eT (R:=4) A (ct (by decide) (ks:=[]) A 0 1 (more:=[1,2,3]) (l:=[_]) A (by rfl) λa5 b _ _=>?_))
   go_wp2
   replace B:=B.eq b;replace i:=i.eq b;replace q:=q.eq b;replace y:=y.eq b;refine TF b ?_;clear b;obtain⟨a4,t⟩:=B.at';refine nE (a4:=[]) A rfl rfl (i:=Wt.rq 1 8 Rm [] 0 0 Xf) (j:=47) (b:=10) (by decide) (by decide) ⟨_,A,A,A,A⟩ ⟨_,A,A,A,A⟩ ⟨_,A,A,A,A⟩ (show 47<78 by decide) (show 10<78 by decide) (by decide) (by rfl) (by decide) (by kernel_rfl) t (O.keep B.ro) (by omega) (by omega) ⟨by decide,by decide,by decide,by decide⟩ (Xi (Xi (Xi (Xi (Xi (Xh A)))))) λg a7 a6 c9 P=>?_;replace B:=B.one S P;have l:=P.last;have N:=P.UY;replace i:=i.next P;replace q:=q.next P;replace y:=y.next P;have o:=lG 6 (by decide)
   change Wt.handle _ _ [Wt.rq 1 8 Rm [] 0 0 Xf]=_ at o
   rw[o]at B l N i q y;obtain⟨g3,rfl⟩:=lf l;clear t l P o;refine dC (show CW _ _ _ _ _ _ _ _ from ?_);dsimp only[Act.put];refine aQ (aQ (cl (by decide) (ks:=[]) A (by rfl) λD x _ _=>?_));replace B:=B.eq x;replace i:=i.eq x;have f1:D.cell? ⟨c6,3,F⟩=C (Xd K 0):=aa i.blk 3 A;replace q:=q.eq x;have f2:D.cell? ⟨c7,3,F⟩=C (Xd K 0):=aa q.blk 3 A;replace y:=y.eq x;have f3:D.cell? ⟨c8,3,F⟩=C (Xd K 0):=aa y.blk 3 A;replace N:=N.eq x;have e9:D.cell? ⟨a7,3,F⟩=C (Xd K 0):=aa N.blk 3 A;have f4:D.cell? ⟨a7,5,F⟩=C (.string ⟨#[116,104,105,114,100]⟩):=aa N.blk 5 A;have f5:D.cell? ⟨a7,7,F⟩=C (Xd K 6):=aa N.blk 7 A
   go_wp2
   refine vN x ?_;refine cH (g:=Xf) (by decide) A (eL (show CW _ _ _ _ _ _ _ _ from ?_));refine aQ (cl (by decide) (ks:=[]) A (by rfl) λd7 X _ _=>?_)
   go_wp2
   refine show _/\_ from⟨λb4 b3=>by rw[X],(show CW _ _ _ _ _ _ _ _ from mJ ?_)⟩;exact⟨A,A,_,A,R,u,1+L,c9,A,⟨by omega,by omega⟩,B.eq X⟩
  have f8:decide (((c:Xj)+1)<=3)=J:=by simp;omega
  go_wp2
  replace B:=B.eq Q;refine vN Q ?_;clear Q;refine cH (g:=J) (by decide) A (eL (show CW _ _ _ _ _ _ _ _ from ?_));refine aQ (iu (aQ (eT (R:=4) A (ct (by decide) (ks:=[]) A 0 1 (more:=[1,2,3]) (l:=[_]) A (by rfl) λa5 b _ _=>?_))))
  go_wp2
  replace B:=B.eq b;refine TF b ?_;clear b;obtain⟨a4,t⟩:=B.at';refine nE (a4:=[]) A rfl rfl (i:=Wt.rq 0 1 [] [] 0 0 Xf) (j:=30) (b:=6) (by decide) (by decide) ⟨_,A,A,A,A⟩ ⟨_,A,A,A,A⟩ ⟨_,A,A,A,A⟩ (show 30<78 by decide) (show 6<78 by decide) (by decide) (by rfl) (by decide) (by kernel_rfl) t (O.keep B.ro) (by omega) (by omega) ⟨by decide,by decide,by decide,by decide⟩ (Xh A) λg b5 a6 m P=>?_;have a1:=B.one S P;have l:=P.last;rw[OZ c d2]at a1 l;obtain⟨g2,rfl⟩:=lf l;have b1:=P.blk;refine dC (show CW _ _ _ _ _ _ _ _ from ?_);refine aQ (cl (by decide) (ks:=[]) A (by rfl) λD x _ _=>?_);rw[<-x]at b1;have f0:D.cell? ⟨b5,3,F⟩=C (Xd K 0):=aa b1 3 A;have e8:D.cell? ⟨b5,0,F⟩=C (Xd K (c+1)):=aa b1 0 A
  go_wp2
  refine vN x ?_;replace a1:=a1.eq x;refine cH (g:=Xf) (by decide) A (eL (show CW _ _ _ _ _ _ _ _ from ?_));refine cl (by decide) (ks:=[]) A (by rfl) λd7 X _ _=>?_
  go_wp2
  refine show _/\_ from⟨λb4 b3=>by rw[X],(show(∃_,_)/\_ from⟨⟨c+1,by omega,Is A rfl rfl rfl rfl rfl (by rfl),m,a1.eq X⟩,?_⟩)⟩;show 4-((c:Xj)+1+1).toNat<4-((c:Xj)+1).toNat;omega
 rintro b6 d U⟨rfl,hd,T,f6,Y⟩;refine⟨Xi A,hd,λa0=>⟨T,?_,?_⟩⟩
 .simp_all [results]
 obtain⟨R,u,h,m,Y⟩:=Y;exact⟨R,u,h,m,⟨Y.val,Y.WT,Y.gI.eq A⟩⟩
end
end
variable{q:M}
def fits(a:Xj):Prop:=-2^63<=a/\a<2^63
abbrev AK(ak d:Xj)(e a:XB)(aE b:Xj)(c:Xo):Xk Xe:=#[Xd K ak,Xd K d,.string e,.string a,Xd K aE,Xd K b,.bool c,Xm F 0 0]
def OQ(ak a:Xj)(d c:XB)(aE b:Xj):Prop:=
 (1<=ak/\ak<=3)/\(a=3\/a=4\/a=5\/a=8\/a=9\/a=10\/a=6)/\(∃e∈AE,d=⟨e.toArray⟩)/\c.size<=16/\(-1<=aE/\aE<=2)/\0<=b/\b<=3
theorem wrap_small{a:Xj}(b:-2^63<=a)(c:a<2^63):IntKind.i64.wrap a=a:=by grind [IntKind.wrap_i64]
structure mv(a q:M)(f h e d g:Xj)(b:XB)(c:Xo)(ak:Xj):Prop where
 h0:q.heap[a.heap.size]?=C (Xn #[Xd K f,Xd K h,Xd K e,Xd K d,Xd K g,.string b,.bool c] 72 (0,0))
 h1:q.heap[a.heap.size+1]?=C (Xn (AK 0 0 ⟨#[]⟩ ⟨#[]⟩ 0 0 Xf) 31 (0,0))
 h2:q.heap[a.heap.size+1+1]?=C (Xn #[Xd K 3,Xd K 4,Xd K 5,Xd K 8,Xd K 9,Xd K 10,Xd K 6] 3 (0,0))
 h3:q.heap[a.heap.size+1+1+1]?=C (Xn (AK ak 0 ⟨#[]⟩ ⟨#[]⟩ 0 0 c) 31 (0,0))
 size:a.heap.size+4<=q.heap.size
 OL:Below a.heap.size a q
theorem Vo(a:M)(f h e d g:Xj)(b:XB)(c:Xo)(ak:Xj):mv a ((((a.alloc (.cells #[Xd K f,Xd K h,Xd K e,Xd K d,Xd K g,.string b,.bool c] 72)).alloc (.cells (AK 0 0 ⟨#[]⟩ ⟨#[]⟩ 0 0 Xf) 31)).alloc (.cells #[Xd K 3,Xd K 4,Xd K 5,Xd K 8,Xd K 9,Xd K 10,Xd K 6] 3)).alloc (.cells (AK ak 0 ⟨#[]⟩ ⟨#[]⟩ 0 0 c) 31)).drew f h e d g b c ak:=by
 have i:=rB (a:=a) (.cells #[Xd K f,Xd K h,Xd K e,Xd K d,Xd K g,.string b,.bool c] 72) A;have k:=rB (.cells (AK 0 0 ⟨#[]⟩ ⟨#[]⟩ 0 0 Xf) 31) i;have l:=rB (.cells #[Xd K 3,Xd K 4,Xd K 5,Xd K 8,Xd K 9,Xd K 10,Xd K 6] 3) k;have m:=rB (.cells (AK ak 0 ⟨#[]⟩ ⟨#[]⟩ 0 0 c) 31) l
 exact⟨bh _ (bh _ (bh _ (eC _ _ A))),bh _ (bh _ (eC _ _ i)),bh _ (eC _ _ k),eC _ _ l,ZZ m.symm,⟨A,A,A,XZ (by omega) (ZZ m.symm),λn o=>by
  show((((a.alloc _).alloc _).alloc _).alloc _).heap[n]?=_
  grind [Go.MapKept.heap_alloc]⟩⟩
section
variable{i:M}{f h e d g ak:Xj}{b:XB}{c:Xo}
theorem mv.stay(k:mv a q f h e d g b c ak)(l:Below q.heap.size q i):mv a i f h e d g b c ak:=by have p:=k.size;have n:=l.size;exact⟨by rw[l.block _ (by omega)];exact k.h0,by rw[l.block _ (by omega)];exact k.h1,by rw[l.block _ (by omega)];exact k.h2,by rw[l.block _ (by omega)];exact k.h3,by omega,⟨l.os.trans k.OL.os,l.tape.trans k.OL.tape,l.output.trans k.OL.output,XZ k.OL.size n,λm o=>(l.block m (by omega)).trans (k.OL.block m o)⟩⟩
theorem mv.c1(i:mv a q f h e d g b c ak):q.cell? ⟨a.heap.size,1,F⟩=C (Xd K h):=aa i.h0 1 A
theorem mv.c2(i:mv a q f h e d g b c ak):q.cell? ⟨a.heap.size,2,F⟩=C (Xd K e):=aa i.h0 2 A
theorem mv.c3(i:mv a q f h e d g b c ak):q.cell? ⟨a.heap.size,3,F⟩=C (Xd K d):=aa i.h0 3 A
theorem mv.c4(i:mv a q f h e d g b c ak):q.cell? ⟨a.heap.size,4,F⟩=C (Xd K g):=aa i.h0 4 A
theorem mv.c5(i:mv a q f h e d g b c ak):q.cell? ⟨a.heap.size,5,F⟩=C (.string b):=aa i.h0 5 A
theorem mv.Wr(l:mv a q f h e d g b c ak)(i:E)(m:(i:Xj)<7):∃k,(k=3\/k=4\/k=5\/k=8\/k=9\/k=10\/k=6)/\q.cell? ⟨a.heap.size+1+1,i,F⟩=C (Xd K k):=by
 obtain rfl|rfl|rfl|rfl|rfl|rfl|rfl:i=0\/i=1\/i=2\/i=3\/i=4\/i=5\/i=6:=by omega
 .exact⟨3,by omega,aa l.h2 0 A⟩
 .exact⟨4,by omega,aa l.h2 1 A⟩
 .exact⟨5,by omega,aa l.h2 2 A⟩
 .exact⟨8,by omega,aa l.h2 3 A⟩
 .exact⟨9,by omega,aa l.h2 4 A⟩
 .exact⟨10,by omega,aa l.h2 5 A⟩
 exact⟨6,by omega,aa l.h2 6 A⟩
end
theorem Hh{i:M}{f h e d g ak:Xj}{b:XB}{c:Xo}(l:mv a q f h e d g b c ak)(m:∀k,k≠a.heap.size+1+1+1->i.heap[k]?=q.heap[k]?)(s:i.heap.size=q.heap.size)(n:i.os=q.os)(o:i.tape=q.tape)(p:i.output=q.output):Below a.heap.size a i:=
 ⟨n.trans l.OL.os,o.trans l.OL.tape,p.trans l.OL.output,by rw[s];exact l.OL.size,λk r=>(m k (by omega)).trans (l.OL.block k r)⟩
theorem BO{k:Xk Xe}(B:Below a.heap.size a q):Below a.heap.size a (q.setRow (a.heap.size+1) k):=
 ⟨B.os,B.tape,B.output,by rw[abg];exact B.size,λm l=>(ZD _ _ _ _ (by omega)).trans (B.block m l)⟩
theorem OY{f h e d g:Xj}{b:XB}{c:Xo}(b1:fits f)(X:fits h)(b2:fits e)(a0:fits d)(W:fits g)(hd:(b.size:Xj)<2^63)(a:M):
 Calls KP 27 #[.agg #[Xd K f,Xd K h,Xd K e,Xd K d,Xd K g,.string b,.bool c]] a λb8 c9=>(∃ak b4 b5 a8 aE a9 c,OQ ak b4 b5 a8 aE a9/\b8=Xs (.agg (AK ak b4 b5 a8 aE a9 c)))/\Below a.heap.size a c9:=by
 unfold fits at b1 X b2 a0 W;go_enter Tryz.func27,Tryz.ntmps27
 go_upto_region 2 with fail
 go_region_held3 (λq=>q.cell? ⟨a.heap.size,0,F⟩=C (Xd K f)/\q.cell? ⟨a.heap.size,6,F⟩=C (.bool c)) (go_keep)
  (first
    |(go_at_call 21;refine(kM b1 (by decide) _).mono ?_;rintro _ _⟨p,d0,rfl,rfl⟩))
 go_upto_region 3 with fail
 all_goals (
  refine(show∀H:M,mv a H f h e d g b c (IntKind.i64.wrap (1+p))->XG.wp KP _ _ _ H fromλH i=>?_) _ (Vo _ _ _ _ _ _ _ _ _);have c6:IntKind.i64.wrap (1+(p:Xj))=1+p:=by grind [wrap_small]
  rw[c6]at i⊢
  have c2:=i.c2
  go_upto_region 4 with(go_at_call 35;refine(Qj b2 _).mono ?_;rintro _ o⟨⟨l,b3,rfl⟩,v⟩)
  replace i:=i.stay v;clear v c2;have c5:=i.c5;rcases H_ 16 b.size with b0|b0
  .have Z:decide ((16:Xj)<b.size)=J:=by simp;omega
   go_upto_region 7 with fail
   have c1:=i.c1;have c3:=i.c3;have c4:=i.c4;clear c5 Z
   go_upto_region 8 with(go_at_call 21;refine(kM X (by decide) _).mono ?_;rintro _ o⟨a2,Y,rfl,rfl⟩;obtain⟨n,c0,U⟩:=i.Wr a2 Y)
   clear c1 U
   go_upto_region 9 with(go_at_call 21;refine(kM a0 (by decide) _).mono ?_;rintro _ o⟨k,c7,rfl,rfl⟩;have a1:wrap64 ((k:Xj)-1)=k-1:=by grind [wrap64])
   clear c3 a1
   go_upto_region 10 with(go_at_call 21;refine(kM W (by decide) _).mono ?_;rintro _ o⟨m,b9,rfl,rfl⟩)
   clear c4;have a3:_=C (Xe.int K 0):=aa i.h3 1 A;have a4:_=C (Value.string ⟨#[]⟩):=aa i.h3 2 A;have a5:_=C (Value.string ⟨#[]⟩):=aa i.h3 3 A;have a6:_=C (Xe.int K 0):=aa i.h3 4 A;have a7:_=C (Xe.int K 0):=aa i.h3 5 A;have L:=frozenAt i.h3 1;have N:=frozenAt i.h3 2;have O:=frozenAt i.h3 3;have Q:=frozenAt i.h3 4;have R:=frozenAt i.h3 5
   go_upto_region 11 with fail
   clear a3 a4 a5 a6 a7 L N O Q R;have w:=aA (n:=5) (i:=Xd K m) (aA (n:=4) (i:=Xd K (k-1)) (aA (n:=3) (i:=.string (b.extract 0 16)) (aA (n:=2) (i:=.string ⟨l.toArray⟩) (aA (n:=1) (i:=Xd K n) i.h3))))
   have s:∀u,u≠a.heap.size+1+1+1->(((((o.setCell ⟨a.heap.size+1+1+1,1,F⟩ (Xd K n)).setCell ⟨a.heap.size+1+1+1,2,F⟩ (.string ⟨l.toArray⟩)).setCell ⟨a.heap.size+1+1+1,3,F⟩ (.string (b.extract 0 16))).setCell ⟨a.heap.size+1+1+1,4,F⟩ (Xd K (k-1))).setCell ⟨a.heap.size+1+1+1,5,F⟩ (Xd K m)).heap[u]?=o.heap[u]?:=λu c8=>by simp_all [ai]
   have x:(((((o.setCell ⟨a.heap.size+1+1+1,1,F⟩ (Xd K n)).setCell ⟨a.heap.size+1+1+1,2,F⟩ (.string ⟨l.toArray⟩)).setCell ⟨a.heap.size+1+1+1,3,F⟩ (.string (b.extract 0 16))).setCell ⟨a.heap.size+1+1+1,4,F⟩ (Xd K (k-1))).setCell ⟨a.heap.size+1+1+1,5,F⟩ (Xd K m)).heap.size=o.heap.size:=by simp
   have v:=Hh i s x A rfl rfl;generalize S:(((((o.setCell ⟨a.heap.size+1+1+1,1,F⟩ (Xd K n)).setCell ⟨a.heap.size+1+1+1,2,F⟩ (.string ⟨l.toArray⟩)).setCell ⟨a.heap.size+1+1+1,3,F⟩ (.string (b.extract 0 16))).setCell ⟨a.heap.size+1+1+1,4,F⟩ (Xd K (k-1))).setCell ⟨a.heap.size+1+1+1,5,F⟩ (Xd K m))=r at w s x v⊢
   have T:r.heap[a.heap.size+1+1+1]?=C (Xn (AK (1+p) n ⟨l.toArray⟩ (b.extract 0 16) (k-1) m c) 31 (0,0)):=w;have z:r.heap[a.heap.size+1]?=C (Xn (AK 0 0 ⟨#[]⟩ ⟨#[]⟩ 0 0 Xf) 31 (0,0)):=by rw[s _ (by omega)];exact i.h1
   clear w s x S;refine ZH ?_;refine Zv A 31 _ A (a.heap.size+1+1+1) A 31 (AK (1+p) n ⟨l.toArray⟩ (b.extract 0 16) (k-1) m c) (0,0) _ T A rfl rfl ?_;refine Zc A 31 _ _ A (a.heap.size+1) (AK (1+p) n ⟨l.toArray⟩ (b.extract 0 16) (k-1) m c) A rfl 31 _ z A rfl (by kernel_rfl) ?_;have D:=ZY r _ _ (AK (1+p) n ⟨l.toArray⟩ (b.extract 0 16) (k-1) m c) _ _ z;have y:=BO (k:=AK (1+p) n ⟨l.toArray⟩ (b.extract 0 16) (k-1) m c) v;generalize r.setRow (a.heap.size+1) _=b6 at D y⊢
   go_wp2
   exact Zm (aaJ A _ _ (a.heap.size+1) 31 _ _ _ A D A rfl rfl) A ⟨⟨_,_,_,_,_,_,_,⟨⟨by omega,by omega⟩,by omega,⟨l,b3,A⟩,(by grind [ByteArray.size_extract]),⟨by omega,by omega⟩,by omega,by omega⟩,A⟩,y⟩
  have Z:decide ((16:Xj)<b.size)=Xf:=by simp;omega
  go_upto_region 7 with fail
  have c1:=i.c1;have c3:=i.c3;have c4:=i.c4;clear c5 Z
  go_upto_region 8 with(go_at_call 21;refine(kM X (by decide) _).mono ?_;rintro _ o⟨a2,Y,rfl,rfl⟩;obtain⟨n,c0,U⟩:=i.Wr a2 Y)
  clear c1 U
  go_upto_region 9 with(go_at_call 21;refine(kM a0 (by decide) _).mono ?_;rintro _ o⟨k,c7,rfl,rfl⟩;have a1:wrap64 ((k:Xj)-1)=k-1:=by grind [wrap64])
  clear c3 a1
  go_upto_region 10 with(go_at_call 21;refine(kM W (by decide) _).mono ?_;rintro _ o⟨m,b9,rfl,rfl⟩)
  clear c4;have a3:_=C (Xe.int K 0):=aa i.h3 1 A;have a4:_=C (Value.string ⟨#[]⟩):=aa i.h3 2 A;have a5:_=C (Value.string ⟨#[]⟩):=aa i.h3 3 A;have a6:_=C (Xe.int K 0):=aa i.h3 4 A;have a7:_=C (Xe.int K 0):=aa i.h3 5 A;have L:=frozenAt i.h3 1;have N:=frozenAt i.h3 2;have O:=frozenAt i.h3 3;have Q:=frozenAt i.h3 4;have R:=frozenAt i.h3 5
  go_upto_region 11 with fail
  clear a3 a4 a5 a6 a7 L N O Q R;have w:=aA (n:=5) (i:=Xd K m) (aA (n:=4) (i:=Xd K (k-1)) (aA (n:=3) (i:=.string b) (aA (n:=2) (i:=.string ⟨l.toArray⟩) (aA (n:=1) (i:=Xd K n) i.h3))))
  have s:∀u,u≠a.heap.size+1+1+1->(((((o.setCell ⟨a.heap.size+1+1+1,1,F⟩ (Xd K n)).setCell ⟨a.heap.size+1+1+1,2,F⟩ (.string ⟨l.toArray⟩)).setCell ⟨a.heap.size+1+1+1,3,F⟩ (.string b)).setCell ⟨a.heap.size+1+1+1,4,F⟩ (Xd K (k-1))).setCell ⟨a.heap.size+1+1+1,5,F⟩ (Xd K m)).heap[u]?=o.heap[u]?:=λu c8=>by simp_all [ai]
  have x:(((((o.setCell ⟨a.heap.size+1+1+1,1,F⟩ (Xd K n)).setCell ⟨a.heap.size+1+1+1,2,F⟩ (.string ⟨l.toArray⟩)).setCell ⟨a.heap.size+1+1+1,3,F⟩ (.string b)).setCell ⟨a.heap.size+1+1+1,4,F⟩ (Xd K (k-1))).setCell ⟨a.heap.size+1+1+1,5,F⟩ (Xd K m)).heap.size=o.heap.size:=by simp
  have v:=Hh i s x A rfl rfl;generalize S:(((((o.setCell ⟨a.heap.size+1+1+1,1,F⟩ (Xd K n)).setCell ⟨a.heap.size+1+1+1,2,F⟩ (.string ⟨l.toArray⟩)).setCell ⟨a.heap.size+1+1+1,3,F⟩ (.string b)).setCell ⟨a.heap.size+1+1+1,4,F⟩ (Xd K (k-1))).setCell ⟨a.heap.size+1+1+1,5,F⟩ (Xd K m))=r at w s x v⊢
  have T:r.heap[a.heap.size+1+1+1]?=C (Xn (AK (1+p) n ⟨l.toArray⟩ b (k-1) m c) 31 (0,0)):=w;have z:r.heap[a.heap.size+1]?=C (Xn (AK 0 0 ⟨#[]⟩ ⟨#[]⟩ 0 0 Xf) 31 (0,0)):=by rw[s _ (by omega)];exact i.h1
  clear w s x S;refine ZH ?_;refine Zv A 31 _ A (a.heap.size+1+1+1) A 31 (AK (1+p) n ⟨l.toArray⟩ b (k-1) m c) (0,0) _ T A rfl rfl ?_;refine Zc A 31 _ _ A (a.heap.size+1) (AK (1+p) n ⟨l.toArray⟩ b (k-1) m c) A rfl 31 _ z A rfl (by kernel_rfl) ?_;have D:=ZY r _ _ (AK (1+p) n ⟨l.toArray⟩ b (k-1) m c) _ _ z;have y:=BO (k:=AK (1+p) n ⟨l.toArray⟩ b (k-1) m c) v;generalize r.setRow (a.heap.size+1) _=b6 at D y⊢
  go_wp2
  exact Zm (aaJ A _ _ (a.heap.size+1) 31 _ _ _ A D A rfl rfl) A ⟨⟨_,_,_,_,_,_,_,⟨⟨by omega,by omega⟩,by omega,⟨l,b3,A⟩,b0,⟨by omega,by omega⟩,by omega,by omega⟩,A⟩,y⟩)
variable{e:E}{a:E}{o:Xp Xw}{g:E}{k:fG}
section
variable[Inhabited aM]
abbrev Ou(a c d e b:Xj)(k:XB)(f:Xo):Xk Xe:=#[Xd K a,Xd K c,Xd K d,Xd K e,Xd K b,.string k,.bool f]
theorem PW{b:E}{n D H L w:Xj}{k:XB}{N:Xo}(d:∀j i,(Ou n D H L w k N)[j]?=C i->q.cell? ⟨e,b+j,F⟩=C i):
 ∃new,(Instr.loadAt 72 (XA (C ⟨e,b,F⟩))).runT TP q #[]=(.ok (.agg (Ou n D H L w k N)) q,new)/\∀O∈new,O.write=Xf/\∃i,O.loc=.cell i/\i.block=e:=by
 have Q:q.cell? ⟨e,b,F⟩=C (Xd K n):=d 0 _ A;have S:q.cell? ⟨e,b+1,F⟩=C (Xd K D):=d 1 _ A;have T:q.cell? ⟨e,b+2,F⟩=C (Xd K H):=d 2 _ A;have U:q.cell? ⟨e,b+3,F⟩=C (Xd K L):=d 3 _ A;have W:q.cell? ⟨e,b+4,F⟩=C (Xd K w):=d 4 _ A;have X:q.cell? ⟨e,b+5,F⟩=C (.string k):=d 5 _ A;have Y:q.cell? ⟨e,b+6,F⟩=C (.bool N):=d 6 _ A;refine⟨_,V_ ?_ A,?_⟩
 .go_simp
 simp[go_sem,Instr.loadAt,Instr.sureAddr,loadVar,loadCells,loadCellsFrom,isAgg,Q,S,T,U,W,X,Y]
structure oT(l h:Xe)(o:Xp Xw)(g p:E)(r:E->Xk Xe):Prop where
 val:l=.slice o g p
 rel:∀N:Ren,an al N h l
 small:g<2^63
 row:∀a,a<g->∃e D b i n w d k H,o=C ⟨e,D,F⟩/\e<dA.heap.size/\r a=Ou b i n w d k H/\fits b/\fits i/\fits n/\fits w/\fits d/\(k.size:Xj)<2^63/\∀j L,(Ou b i n w d k H)[j]?=C L->dA.cell? ⟨e,D+a*7+j,F⟩=C L
structure uL(b:ew):Prop where
 ak:1<=b.ak/\b.ak<=3
 kind:b.op.kind=3\/b.op.kind=4\/b.op.kind=5\/b.op.kind=8\/b.op.kind=9\/b.op.kind=10\/b.op.kind=6
 path:b.op.path∈AE
 data:b.op.data.length<=16
 aE:-1<=b.op.aE/\b.op.aE<=2
 flags:0<=b.op.flags/\b.op.flags<=3
def CR(a:Xe):Prop:=aR (λ_=>False) a/\NB a
theorem QZ{d:ew}{b:Xe}(a:b∈(Ip d).toList):CR b:=by
 simp only[XV,Yd,YS]at a;rcases a with rfl|rfl|rfl|rfl|rfl|rfl|rfl|rfl
 all_goals refine⟨?_,λe c=>by cases c⟩
 all_goals first|exact .int _ _|exact .string _|exact .bool _|exact .aO _ _
theorem UJ(d:ew):∀a∈(Ip d).toList,a.oneCell'=J/\CR a:=λa b=>⟨by
 have c:=b;simp only[XV,Yd,YS]at c
 rcases c with rfl|rfl|rfl|rfl|rfl|rfl|rfl|rfl<;>rfl,QZ b⟩
def uM(a:Xg ew)(d:Xe)(c:M):Prop:=cr CR c 31 8 d a.length (a.flatMap λb=>(Ip b).toList)
abbrev Ti(h:Xe)(c:Xe)(a:E)(b:E->Xe):Xu:=⟨#[h,b 1,Xm F 0 0,c,Xd K a,b 5,b 6,b 7,b 8,b 9,b 10,b 11,b 12,b 13,b 14,b 15,b 16,b 17,b 18,b 19,b 20,b 21,b 22,b 23,b 24,b 25],[]⟩
theorem It{h:Xe}{i:Xe}{b:Xu}(g:b.tmps.size=26)(hd:b.defers=[])(c:b.tmps[0]?=C (h))(d:b.tmps[2]?=C (Xm F 0 0))(e:b.tmps[3]?=C (i))(f:b.tmps[4]?=C (Xd K a)):∃m,b=Ti h i a m:=by obtain⟨l,n⟩:=b;simp only at g hd c d e f;subst hd;exact⟨λa=>l.getD a I,YU (λk=>(⟨k,[]⟩:Xu)) ((TU g).trans (by simp only[Xg.range,Xg.range.loop,Xg.map,Yu,c,d,e,f,Zz]))⟩
section
variable{m:E}{l h:Xe}{p:E}{r:E->Xk Xe}
theorem NH:∀fn,TP.funcs[(Go.Conc.base 15).fn]?=C fn->fn.norace=Xf:=λfn a=>by grind [Go.Conc.base,Tryz.f15,Tryz.func15]
theorem UH:∃a c,TP.underlying 25=C (.slice 31)/\(TP.info? 31=C a/\a.zero=C c/\a.size=8/\a.bytes<=1000/\c.cells.size=8/\0<8)/\∀b∈c.cells.toList,CR b:=by refine⟨_,_,A,⟨A,A,A,by decide,A,by decide⟩,?_⟩;intro b d;have e:b∈(Ip {}).toList:=d;exact QZ e
def TM(h:Xe)(g:E)(c:M)(b:Xu)(e:M):Prop:=∃a d,a.length<=40/\a.length<=g/\(∃k,b=Ti h d a.length k)/\(∀i∈a,uL i)/\uM a d e/\(∀b,b<c.heap.size->e.heap[b]?=c.heap[b]?)/\c.heap.size<=e.heap.size/\(a=[]->d=Xm F 0 0)/\∀f,d.ownBlock=C f->c.heap.size<=f
theorem Dw(X:oT l h o g p r)(f5:xv f m c)(k7:m<=c.heap.size):
 UT (goalAt TP F F z al f) 15 [(0,l)] #[h] c λy R=>∃n:Xg ew,(∀d∈n,uL d)/\n.length<=40/\uM n y R/\(∀b,b<c.heap.size->R.heap[b]?=c.heap[b]?)/\c.heap.size<=R.heap.size/\(n=[]->y=Xm F 0 0)/\∀x,y.ownBlock=C x->c.heap.size<=x:=by
 refine Jj aC (by decide) (fn:=Tryz.f15) Tryz.func15 A (N:=λu b R=>u=.ret/\b.defers=[]/\∃y,b.tmps[2]?=C y/\∃n:Xg ew,(∀d∈n,uL d)/\n.length<=40/\uM n y R/\(∀b,b<c.heap.size->R.heap[b]?=c.heap[b]?)/\c.heap.size<=R.heap.size/\(n=[]->y=Xm F 0 0)/\∀x,y.ownBlock=C x->c.heap.size<=x) (s:=#[h,I,I,I,I,I,I,I,I,I,I,I,I,I,I,I,I,I,I,I,I,I,I,I,I,I]) (by kernel_rfl) (λm0 m1=>?_) ?_
 .have k9:∀i,f i->i<c.heap.size:=λi N=>by have:=f5.lt i N;omega
  refine aQ (cl (by decide) (ks:=[0]) A (by rfl) λs a2 _ _=>?_)
  go_wp2
  refine vN a2 ?_;refine aQ (cl (by decide) (ks:=[0]) A (by rfl) λt a4 _ _=>?_)
  go_wp2
  refine vN a4 ?_;refine aQ (aQ (cl (by decide) (ks:=[0]) A (by rfl) λn7 d1 _ _=>?_))
  go_wp2
  refine vN d1 ?_;have f6:=d1.trans (a4.trans a2);clear d1 a4 a2;refine iu (um (w:=TM h g c) (O:=λb _=>40-Rf 4 b) ⟨[],Xm F 0 0,by decide,YA _,It A rfl rfl rfl rfl rfl,(λd Y=>by cases Y),cr.nil _ _ _ _,(λb _=>by rw[f6]),(by simp_all),(λ_=>rfl),(λx Y=>by cases Y)⟩ ?_);rintro b i5⟨n,e5,g7,h6,⟨a1,rfl⟩,a8,Z,b9,e1,b8,a9⟩;replace b8:=Xl b8;dsimp only[Ti];generalize b7:n.length=a at g7 h6⊢
  refine aQ (aQ (eT (R:=8) A (nG ?_)));refine zI aC (by decide) (by decide) (L:=0) (more:=[1,2,3,4,5,6,7]) ⟨_,A,A,A,A⟩ (n:=[0]) A (by rfl) (by decide) λn8 a5 _ _ H O u=>?_
  go_wp2
  refine⟨λi _=>by rw[a5],?_⟩;refine ji NH (by decide) (L:=1) (more:=[2,3,4,5,6,7]) (j:=7) ⟨_,A,A,A,A⟩ (v:=h) (V:=l) A (show 7<26 by decide) (λq a6 S U _ _=>⟨#[],λH O u=>?_,by simp⟩) X.rel ?_
  .show(Sem.pure (Next.value (S (.tmp 0)))).runT TP q #[]=_;simp_all
  refine ji NH (by decide) (L:=2) (more:=[3,4,5,6,7]) (j:=8) ⟨_,A,A,A,A⟩ (v:=Xd K g) (V:=Xd K g) A (show 8<26 by decide) (λq a6 S U _ _=>⟨#[],λH O u=>?_,by simp⟩) (λ_=>.int _ _) ?_
  .have d5:=U 7 l (by simp);rw[X.val]at d5;rw[s_];refine V_ ?_ ?_
   .simp[execOp,d5,go_sem]
   simp[execOp,d5,go_sem]
  refine zH A (λO k8=>by simp_all) ?_;dsimp only[Act.put];refine ct (by decide) (ks:=[0]) A 3 5 (more:=[]) (l:=[_,_,_,_,_]) A (by rfl) λn9 T _ _=>?_;by_cases b6:a<g/\a<40
  .have c1:decide ((a:Xj)<g)=J:=by simp;omega
   have c2:decide ((a:Xj)<40)=J:=by simp;omega
   go_wp2
   refine Sim.kp T (dC (show CW _ _ _ _ _ _ _ _ from ?_));refine cH (g:=J) (by decide) A (eL (show CW _ _ _ _ _ _ _ _ from ?_));obtain⟨e,e4,e7,f0,f1,f2,e9,e8,swa,g8,h0,k6,f9,g2,g3,g4,g1,g0,h2⟩:=X.row a b6.1;clear c1 c2;refine aQ (iu (aQ (eT (R:=7) A (nG ?_))));refine ji NH (by decide) (L:=0) (more:=[1,2,3,4,5,6]) (j:=16) ⟨_,A,A,A,A⟩ (v:=h) (V:=l) A (show 16<26 by decide) (λq a6 S U _ _=>⟨#[],λH O u=>?_,by simp⟩) X.rel ?_
   .show(Sem.pure (Next.value (S (.tmp 0)))).runT TP q #[]=_;simp_all
   refine zI aC (by decide) (by decide) (L:=1) (more:=[2,3,4,5,6]) ⟨_,A,A,A,A⟩ (n:=[16,0]) A (by rfl) (by decide) λi6 L _ _ H O u=>?_
   go_wp2
   refine⟨λi _=>by rw[L],?_⟩;refine ji NH (by decide) (L:=2) (more:=[3,4,5,6]) (j:=18) ⟨_,A,A,A,A⟩ (v:=.tuple #[]) (V:=XA (C ⟨e,e4+a*7,F⟩)) A (show 18<26 by decide) (λq a6 S U _ g6=>⟨#[],λH O u=>?_,by simp⟩) (λ_=>.bS trivial) ?_
   .have d3:=U 16 l (by simp);have g5:=g6 17 K a A;rw[X.val,g8]at d3;refine V_ ?_ ?_
    .simp[execOp,d3,g5,go_sem];omega
    simp[execOp,d3,g5,go_sem,Instr.indexAt];omega
   refine ji NH (by decide) (L:=3) (more:=[4,5,6]) (j:=19) ⟨_,A,A,A,A⟩ (v:=.agg (Ou e7 f0 f1 f2 e9 e8 swa)) (V:=.agg (Ou e7 f0 f1 f2 e9 e8 swa)) A (show 19<26 by decide) (λq a6 S U _ g6=>?_) (λo3=>?_) ?_
   .have k0:S (.tmp 18)=XA (C ⟨e,e4+a*7,F⟩):=U 18 _ (by simp)
    obtain⟨new,a2,a4⟩:=PW (q:=q) (e:=e) (b:=e4+a*7) (n:=e7) (D:=f0) (H:=f1) (L:=f2) (w:=e9) (k:=e8) (N:=swa) λj i N=>by
     have:=h2 j i N;unfold M.cell? at this⊢
     rw[a6.heap e h0];exact this
    refine⟨new,λH O u=>?_,λu k5=>⟨(a4 u k5).1,?_⟩⟩
    .show Xz.runT TP ((Instr.loadAt 72 (S (.tmp 18))).bind λi=>Sem.pure (Next.value i)) q #[]=_;rw[k0,Go.Sem.runT_bind',a2];rfl
    grind
   .refine .agg A λa i o2 N l2=>?_;obtain rfl:=YF (N.symm.trans l2);have h7:=Yz.2 (Ys N);simp only[XV,Yd,YS]at h7;rcases h7 with rfl|rfl|rfl|rfl|rfl|rfl|rfl
    all_goals first|exact .int _ _|exact .string _|exact .bool _
   refine zH A (λO k8=>by simp_all) ?_;dsimp only[Act.put];refine ct (by decide) (ks:=[0]) A 4 3 (more:=[]) (l:=[_,_,_]) A (by rfl) λo0 f8 _ _=>?_
   go_wp2_with (go_at_call 27;refine(OY f9 g2 g3 g4 g1 g0 _).mono ?_;rintro _ w⟨⟨ak,l3,n0,c9,aE,j9,i7,k2,rfl⟩,d6⟩)
   obtain⟨i2,h5,⟨l4,h9,rfl⟩,k4,i3,h3⟩:=k2;obtain⟨d0,rfl⟩:∃d0:Xg UInt8,c9=bs d0:=⟨c9.data.toList,by cases c9;rfl⟩;obtain⟨d,d9⟩:∃d:ew,d={ak:=ak,op:={kind:=l3,path:=l4,data:=d0,aE:=aE,flags:=j9},watch:=i7}:=⟨_,A⟩;have e0:uL d:=by rw[d9];exact⟨i2,h5,h9,by grind [bs,ByteArray.size],i3,h3⟩
   generalize e3:w.alloc _=W;have d4:=f8.trans (L.trans (T.trans a5))
   have D:W.heap[w.heap.size]?=C (Xn (Ip d) 31 (0,0)):=by rw[<-e3,d9];exact(ZC _ _).1
   have c8:=d6.size;rw[d4]at c8;have c7:W.heap.size=w.heap.size+1:=by grind [pe]
   have b2:∀b,b<i5.heap.size->W.heap[b]?=i5.heap[b]?:=λb a7=>by rw[<-e3,XQ _ _ _ (by omega),d6.block b (by simp_all),d4]
   clear e3 d6 d9;refine show _/\_ from⟨λi N=>?_,dC (show CW _ _ _ _ _ _ _ _ from ?_)⟩
   .grind
   refine eT (R:=5) A (ct (by decide) (ks:=[0]) A 0 3 (more:=[3,4]) (l:=[_,_,_]) A (by rfl) λQ f7 _ _=>?_);rw[<-f7]at D;have j1:Q.cell? ⟨w.heap.size,0,F⟩=C (Xd K d.ak):=aa D 0 A;have j2:Q.cell? ⟨w.heap.size,1,F⟩=C (Xd K d.op.kind):=aa D 1 A;have j3:Q.cell? ⟨w.heap.size,2,F⟩=C (.string (bs d.op.path)):=aa D 2 A;have j4:Q.cell? ⟨w.heap.size,3,F⟩=C (.string (bs d.op.data)):=aa D 3 A;have j5:Q.cell? ⟨w.heap.size,4,F⟩=C (Xd K d.op.aE):=aa D 4 A;have j6:Q.cell? ⟨w.heap.size,5,F⟩=C (Xd K d.op.flags):=aa D 5 A;have j7:Q.cell? ⟨w.heap.size,6,F⟩=C (.bool d.watch):=aa D 6 A;have j8:Q.cell? ⟨w.heap.size,7,F⟩=C (Xm F 0 0):=aa D 7 A
   go_wp2
   generalize l1:Q.alloc _=f3
   have h1:f3.heap[W.heap.size]?=C (Xn (Ip d) 31 (0,0)):=by grind [heap_alloc]
   have a0:∀b,b<W.heap.size->f3.heap[b]?=W.heap[b]?:=λb a7=>by grind [Below.heap_alloc]
   have e6:f3.heap.size=W.heap.size+1:=by grind [pe]
   clear l1 j1 j2 j3 j4 j5 j6 j7 j8 D;refine show _/\_ from⟨λi N=>a0 i (by grind),?_⟩;refine ct (by decide) (ks:=[0]) A 3 1 (more:=[4]) (l:=[_]) A (by rfl) λl5 a3 _ _=>?_;rw[<-a3,c7]at h1
   have g9:cr CR l5 31 8 e5 a (n.flatMap λd=>(Ip d).toList):=by rw[<-b7];exact Z.stay λb0 h4=>by rw[a3,a0 b0 (by have:=Z.lt b0 h4;omega),b2 b0 (Z.lt b0 h4)]
   obtain⟨n2,n3,e2,i0,i1⟩:=UH;refine mr A (.tmp 21) (.tmp 23) 25 A rfl g9 e2 i0 i1 (r:=⟨w.heap.size+1,0,F⟩) (s:=1) A (Ip d).toList A (λj a1 e2=>by grind [qe,aa]) (UJ d) (by omega) ?_;intro i4 l6 b5 d8 h8
   have c0:∀b,b<c.heap.size->l6.heap[b]?=c.heap[b]?:=λb a7=>by rw[d8.block b (by grind) (λu=>by have:=a9 b u.symm;omega),a3,a0 b (by omega),b2 b (by omega),b9 b a7]
   have b3:=d8.size;rw[a3]at b3;have b1:=λx d7=>(h8 x d7).elim (a9 x) λY=>by grind
   have f4:=Xl (And.intro b5 (And.intro c0 (And.intro b3 b1)));have i8:=Xl (And.intro b2 (And.intro a0 b9));clear d8 h8 b5 c0 b3 b1 h1 b2 a0 b9 Z g9 e2 i0 i1 h2 k6 a3;refine show tV _ _ _/\_ from⟨λi N=>?_,(show CO _ _ _ _ _ [4] _ (Act.put _ (C 24) i4) _ from ?_)⟩
   .obtain⟨b5,c0,b3,b1⟩:=f4.out;obtain⟨b2,a0,b9⟩:=i8.out
    grind
   dsimp only[Act.put];refine ct (by decide) (ks:=[0]) A 4 1 (more:=[]) (l:=[_]) A (by rfl) λn6 b4 _ _=>?_
   go_wp2
   refine Sim.kp b4 (dC (show CW _ _ _ _ _ _ _ _ from ?_));refine cl (by decide) (ks:=[0]) A (by rfl) λn5 j0 _ _=>?_;have l0:wrap64 ((a:Xj)+1)=a+1:=by grind [wrap64]
   have i9:=Xl (And.intro b6 (And.intro b7 (And.intro a8 (And.intro e0 (And.intro e1 (And.intro c8 (And.intro c7 (And.intro e6 b4))))))));clear b6 b7 a8 e0 e1 c8 c7 e6 b4 d4 f8 f7 h9 h5 i2 k4 i3 h3 f9 g2 g3 g4 g1 g0 g8 h0 L T a5 a9 g7 h6 X f5 k7 k9 f6
   go_wp2
   refine Sim.kp j0 ?_;obtain⟨b5,c0,b3,b1⟩:=f4.out;obtain⟨b6,b7,a8,e0,e1,c8,c7,e6,b4⟩:=i9.out;refine show TM _ _ _ _ _/\_ from⟨⟨n++[d],i4,?_,?_,It A rfl rfl rfl rfl ?_,?_,?_,?_,?_,(λY=>absurd Y (by simp)),?_⟩,?_⟩
   .simp;omega
   .simp;omega
   .simp_all
   .grind
   .simp_all [cr,uM]
   .simp_all
   .grind
   .exact b1
   show 40-(wrap64 ((a:Xj)+1)).toNat<40-(a:Xj).toNat;rw[l0];omega
  rcases(by omega:g<=a\/(a<g/\40<=a))with k3|k3
  .go_wp2
   refine Sim.kp T (dC (show CW _ _ _ _ _ _ _ _ from ?_));refine cH (g:=Xf) (by decide) A (qo ?_);show CW _ _ _ _ _ _ _ _;refine aQ (cl (by decide) (ks:=[0]) A (by rfl) λi6 L _ _=>?_)
   go_wp2
   refine show _/\_ from⟨λi _=>by rw[L],(show CW _ _ _ _ _ _ _ _ from mJ ?_)⟩;have d2:=L.trans (T.trans a5);exact⟨A,A,e5,A,n,a8,by omega,Z.stay λx d7=>by rw[d2],λb a7=>by simp_all,by simp_all,b8.out,a9⟩
  have c2:decide ((a:Xj)<40)=Xf:=by simp;omega
  go_wp2
  refine Sim.kp T (dC (show CW _ _ _ _ _ _ _ _ from ?_));refine cH (g:=Xf) (by decide) A (qo ?_);show CW _ _ _ _ _ _ _ _;refine aQ (cl (by decide) (ks:=[0]) A (by rfl) λi6 L _ _=>?_)
  go_wp2
  refine show _/\_ from⟨λi _=>by rw[L],(show CW _ _ _ _ _ _ _ _ from mJ ?_)⟩;have d2:=L.trans (T.trans a5);exact⟨A,A,e5,A,n,a8,by omega,Z.stay λx d7=>by rw[d2],λb a7=>by simp_all,by simp_all,b8.out,a9⟩
 rintro u b R⟨rfl,hd,y,m5,k1⟩;refine⟨Xi A,hd,λH=>⟨y,?_,k1⟩⟩;simp_all [results]
end
section
variable{m x v:E}{s t:M}
theorem Eo.base(a:Eo f m s R u x y v k t)(d:s.heap=c.heap):Eo f m c R u x y v k t:=⟨a.at',λb e=>EF (a.keep b (by simp_all)) d.symm A,λb e=>by rw[<-d];exact a.ro b e,by rw[<-d];exact a.size,λb e=>by rw[<-d];exact a.own b e,λb e=>by rw[<-d];exact a.use b e,by rw[<-d];exact a.sx,a.li⟩
theorem BQ{d:ew->Xg Xe}(f:∀b,(d b).length=8):∀(c:Xg ew)(a j:E)(b:ew),c[a]?=C b->j<8->(c.flatMap d)[a*8+j]?=(d b)[j]?
 |[],a,j,b,e,_=>by cases e
 |h::c,0,j,b,e,g=>by
  grind
 |h::c,a+1,j,b,e,g=>by rw[Zu,YP (by grind),f,show(a+1)*8+j-8=a*8+j by omega];simp_all [BQ]
end
variable{h:M}{m:fG}{k:Xp Xw}{p:Xe}{g:Xq}{x:E}{t:Out}
def RI(c h:M)(b:E):Prop:=(h.heap[b]?).map Sim.Obj.whole=(c.heap[b]?).map Sim.Obj.whole
theorem abv(a:gd c h b):RI c h b:=by
 rcases a with a|⟨d,k,e,f,_,g,i⟩
 .simp[RI,a]
 simp_all [RI,Sim.Obj.whole]
structure Bc(own:E->Prop)(k:Xp Xw)(c h:M):Prop where
 size:c.heap.size<=h.heap.size
 wh:∀b,b<c.heap.size->¬own b->RI c h b
 keep:∀b,b<c.heap.size->¬own b->(∀a,k≠C ⟨b,a,F⟩)->(∀d n e,c.heap[b]?=C (Xn d n e)->¬aT d)->h.heap[b]?=c.heap[b]?
 iK:∀b a,k=C ⟨b,a,F⟩->h.heap[b]?=(c.heap[b]?).map Sim.Obj.whole
section
variable{q s r:E}{z:Xg Out}{D:fG}{H:M}{own:E->Prop}{B:Xp Xw}{i:Xg ew}
theorem dH.vW(a:dH f q R u s y r m k i c p h D):Bc (aI u y.tree m) k c h where
 size:=a.size
 wh:=λb l n=>by
  by_cases e:∃d,k=C ⟨b,d,F⟩
  .obtain⟨d,g⟩:=e;rw[RI,a.iK b d g];cases c.heap[b]? with
   |none=>rfl
   |some t=>cases t<;>rfl
  exact abv (a.keep b l n λd g=>e ⟨d,g⟩)
 keep:=λb l n e O=>by
  rcases a.keep b l n e with g|⟨o,Q,v,w,N,L,_⟩
  .exact g
  grind
 iK:=a.iK
theorem Eo.vW(a:Eo f q c R u s y r m h):Bc (λ_=>False) F c h where
 size:=a.size
 wh:=λb d _=>abv (a.keep b d)
 keep:=λb d _ _ w=>by
  rcases a.keep b d with g|⟨e,N,l,n,v,o,_⟩
  .exact g
  grind
 iK:=λb L g=>by cases g
theorem mU(f:c.heap.size<=h.heap.size)(e:∀b,b<c.heap.size->¬own b->h.heap[b]?=c.heap[b]?):Bc own F c h where
 size:=f
 wh:=λb a d=>by simp_all [RI]
 keep:=λb a d _ _=>e b a d
 iK:=λb i g=>by cases g
theorem Hw(g:h.heap=c.heap):Bc own F c h:=mU (by simp[g]) λb _ _=>by rw[g]
theorem pX.vW(a:pX q R u s y r z m c)(l:Bc own k c h)(o:∀b,aI u y.tree m b\/dw m b\/b=R->¬own b)(v:∀b e,k=C ⟨b,e,F⟩->¬aI u y.tree m b/\b≠R):pX q R u s y r z m h where
 gI:=a.gI.same ⟨l.size,λb d=>l.keep b (a.gI.bj d) (o b (Xh d)) (λe g=>(v b e g).1 d) (λw N L n=>a.gI.En d n),λb d=>l.wh b (a.gI.iY d) (o b (Xi (Xh d)))⟩
 ptr:=by
  have n:=a.ptr;rw[l.keep R (XN.1 n).1 (o R (.inr (.inr A))) (λe g=>(v R e g).2 A) λw N L O=>?_]
  .exact n
  simp_all [mZ]
 ok:=a.ok
 own:=a.own
 KY:=a.KY
 use:=a.use
 ach:=a.ach
theorem cr.vW{e:Xe->Prop}{size:E}{v:Xg Xe}(l:cr e c g size p x v)(U:∀o,e o->NB o)(w:Bc own k c h)(n:∀a,p.ownBlock=C a->¬own a/\∀L,k≠C ⟨a,L,F⟩):cr e h g size p x v:=
 l.stay λa d=>w.keep a (l.lt a d) (n a d).1 (n a d).2 λN X Q W=>by
  obtain⟨O,S,T⟩:=l.blk a d
  grind [fP]
theorem jX.vW{e:Xe×Xe}(d:jX t e c)(l:Bc own k c h)(n:∀b,e.1.ownBlock=C b\/e.2.ownBlock=C b->¬own b):jX t e h:=
 ⟨d.1.stay λb a=>l.wh b (d.lt (Xh a)) (n b (Xh a)),d.2.stay λb a=>l.wh b (d.lt (Xi a)) (n b (Xi a))⟩
def uO(i:Xg ew)(B:Xp Xw)(c:M):Prop:=(B=F/\i=[])\/∃b a g d,B=C ⟨b,0,F⟩/\c.heap[b]?=C (Xn a g d)/\0<a.size/\d.2<=a.size/\(∀h∈a.toList,CR h)/\∀(e:E) f,i[e]?=C f->∀j,j<8->a[e*8+j]?=(Ip f)[j]?
theorem uO.of(q:uM i p c)(w:i=[]->p=Xm F 0 0):∃B f,p=.slice B i.length f/\i.length<=f/\uO i B c/\∀d k,B=C ⟨d,k,F⟩->p.ownBlock=C d:=by
 rcases q.2 with⟨g,a⟩|⟨o,l,m,g,s,a,x,y,z,r⟩
 .refine⟨F,0,by rw[g,a],by omega,Xh ⟨A,YR.1 a⟩,λ_ _ g=>by cases g⟩
 refine⟨_,l,g,a,Xi ⟨o,m,31,(0,0),A,s,?_,by simp,r,λh b u j t=>?_⟩,λd k n=>by cases n;rw[g];rfl⟩
 .grind
 obtain⟨e,v⟩:∃e,(Ip b)[j]?=C e:=by simp_all
 have D:(i.flatMap λb=>(Ip b).toList)[h*8+j]?=C e:=by rw[BQ (λ_=>rfl) i h j b u t];simpa using v
 grind
theorem uO.vW(n:uO i B c)(v:Bc own k c h)(U:∀a d,B=C ⟨a,d,F⟩->¬own a):uO i B h:=by
 rcases n with n|⟨a,l,Q,S,rfl,e,w,T,o,L⟩
 .exact Xh n
 by_cases N:∃d,k=C ⟨a,d,F⟩
 .obtain⟨d,g⟩:=N;exact Xi ⟨a,l,Q,(0,l.size),A,by rw[v.iK a d g,e];rfl,w,XS _,o,L⟩
 refine Xi ⟨a,l,Q,S,A,?_,w,T,o,L⟩;rw[v.keep a (XN.1 e).1 (U a 0 A) (λd g=>N ⟨d,g⟩) λY a0 Z O=>?_]
 .exact e
 rw[e]at O;cases O;exact fP λX W=>(o X W).2
theorem uO.list(u:uO i B c)(g:E)(f:Xg ew)(m:∀a d,f[a]?=C d->i[g+a]?=C d)(D:∀e L,B=C ⟨e,L,F⟩->q<=e/\e≠R/\¬own e):
 oU q R own (B.map λb=>⟨b.block,g*8,F⟩) f.length (λa=>Qx (f.getD a {})) c:=by
 rcases u with⟨rfl,rfl⟩|⟨e,o,N,t,rfl,v,w,x,l,y⟩
 .refine Xh ⟨A,?_⟩;rcases f with _|⟨d,f⟩
  .rfl
  have:=m 0 d A;simp at this
 obtain⟨p,r,s⟩:=D e 0 A;refine Xi ⟨e,g*8,o,N,t,A,v,w,x,λa k h=>(l k (Yz.2 (Ys h))).1,fP λk h=>(l k h).2,λa O j H=>?_,p,r,s⟩;obtain⟨d,n⟩:∃d,f[a]?=C d:=by simp_all
 have z:=y (g+a) d (m a d n) j H;rw[<-aat,z];show _=(Qx (f.getD a {})).jf[j]?;rw[Xg.getD_eq_getElem?_getD,n];rfl
end
variable{g:M}{Y:M}{t:Xp Xw}{T:Xe}
def ya(R c:E)(d:Tree)(a:fG)(b:E):Prop:=aI c d a b\/dw a b\/b=R
structure OK(k R c n:E)(e:cN)(m:E)(o:Xg Out)(d:fG)(p h r:E)(l:cN)(q:E)(s:Xg Out)(i:fG)(g:M):Prop where
 x:pX k R c n e m o d g
 y:pX k p h r l q s i g
 xy:∀b,ya R c e.tree d b->¬aI h l.tree i b
 yx:∀b,ya p h l.tree i b->¬aI c e.tree d b
section
variable{k c n m p h r q:E}{e l:cN}{o s:Xg Out}{d i L:fG}{own:E->Prop}{S:Xg ew}
theorem pX.WU(f:pX k R c n e m o d g)(a:ya R c e.tree d b):b<g.heap.size:=by
 rcases a with a|a|rfl
 .exact f.gI.bj a
 .exact f.gI.iY a
 exact(XN.1 f.ptr).1
variable{D H u z:E->Prop}{N O:Xg Out}{W X:Xg (Xe×Xe)}{Q U:Xe}
end
end
variable{p:fG}{h:M}{A:Xp Xw}{W:Xe}{O:Xk Xe}{S:E}{L:E}{s:E}{Y:Xg Xr}{U:E}
theorem acZ{a:E}{i:Xk Xe}(k:c.heap[R]?=C (Xn #[pt u 0] 78 (0,0)))(d:c.heap[u]?=C (Xn i 98 (0,0)))(l:9<i.size):
 Calls TP 29 #[pt R 0,.func (.func 30) #[] #[pt a 0]] c λb h=>b=Xs (.tuple #[])/\h=c.setCell ⟨u,9,F⟩ (.func (.func 30) #[] #[pt a 0]):=by
 have c1:c.cell? ⟨R,0,F⟩=C (pt u 0):=aa k 0 A;have n:=frozenAt d 9;obtain⟨O,c2⟩:∃O,c.cell? ⟨u,9,F⟩=C O:=⟨_,aa d 9 (XP l)⟩;clear k d
 have HC:Calls TP 36 #[pt u 0,.func (.func 30) #[] #[pt a 0]] c λb h=>b=Xs (.tuple #[])/\h=c.setCell ⟨u,9,F⟩ (.func (.func 30) #[] #[pt a 0]):=by
  have r:(store ⟨u,9,F⟩ (.func (.func 30) #[] #[pt a 0])).run TP c=stored TP c ⟨u,9,F⟩ (.func (.func 30) #[] #[pt a 0]) .plain:=run_store TP c _ _ _ A;go_enter Tryz.func36,Tryz.ntmps36
  go_wp2
  go_end0
  simp
 go_enter Tryz.func29,Tryz.ntmps29
 go_wp2_with (go_at_call 36;refine HC.mono ?_;rintro _ _⟨rfl,rfl⟩)
 go_end0
 simp
theorem acp{d:Xk Xe}(a:c.heap[R]?=C (Xn #[pt u 0] 78 (0,0)))(b:c.heap[u]?=C (Xn d 98 (0,0)))(l:9<d.size):
 Calls TP 17 #[pt R 0] c λk h=>k=Xs (pt c.heap.size 0)/\h=((c.setCell ⟨u,9,F⟩ (.func (.func 30) #[] #[pt (c.heap.size+1) 0])).alloc (.cells #[Xm F 0 0] 46)).alloc (.cells #[pt c.heap.size 0] 41):=by
 have p:∀(fn:Fn)(first f:Xk Xe)(c:M),(Instr.makeFunc fn first f).run TP c=.ok (.func fn first f) c:=λ_ _ _ _=>rfl;have n:=(XN.1 a).1;have o:=(XN.1 b).1;have q:(c.alloc (.cells #[Xm F 0 0] 46)).heap.size=c.heap.size+1:=by simp
 have g:∀e,e<c.heap.size->((c.alloc (.cells #[Xm F 0 0] 46)).alloc (.cells #[pt c.heap.size 0] 41)).heap[e]?=c.heap[e]?:=λe m=>by rw[XQ _ _ _ (by omega),XQ _ _ _ m]
 have i:=Xl (acZ (a:=c.heap.size+1) ((g R n).trans a) ((g u o).trans b) l);clear a b;go_enter Tryz.func17,Tryz.ntmps17
 go_wp2_with (go_at_call 29;refine i.out.mono ?_;rintro _ _⟨rfl,rfl⟩)
 go_ret;exact⟨A,A⟩
theorem aK.acv{r:Xj}{s:Xg Out}(g:aK u r y s p c):∃o,aK u r y s o (((c.setCell ⟨u,9,F⟩ (.func (.func 30) #[] #[pt (c.heap.size+1) 0])).alloc (.cells #[Xm F 0 0] 46)).alloc (.cells #[pt c.heap.size 0] 41))/\
 (∀e,aI u y.tree o e->aI u y.tree p e\/c.heap.size<=e)/\(∀e,dw o e->dw p e)/\o.hd=[]/\o.li.hs=c.heap.size/\o.li.v≠.nilFunc:=by
 have xo:=(XN.1 g.ch).1;obtain⟨o,f⟩:∃o:fG,o={p with li:=⟨.func (.func 30) #[] #[pt (c.heap.size+1) 0],c.heap.size+1,c.heap.size⟩,lw:=Xm F 0 0,hd:=[]}:=⟨_,A⟩;obtain⟨b,m⟩:∃b,b=c.setCell ⟨u,9,F⟩ (.func (.func 30) #[] #[pt (c.heap.size+1) 0]):=⟨_,A⟩;have l:b.heap.size=c.heap.size:=by rw[m,aS]
 have n:=aA (n:=9) (i:=.func (.func 30) #[] #[pt (c.heap.size+1) 0]) g.ch;rw[<-m]at n⊢
 obtain⟨d,i⟩:∃d,d=(b.alloc (.cells #[Xm F 0 0] 46)).alloc (.cells #[pt c.heap.size 0] 41):=⟨_,A⟩;have T:d.heap.size=c.heap.size+2:=by simp[i,l]
 have q:∀e,e<c.heap.size->d.heap[e]?=b.heap[e]?:=λe k=>by rw[i,XQ _ _ _ (by simp;omega),XQ _ _ _ (by omega)]
 have H:∀e,e<c.heap.size->e≠u->d.heap[e]?=c.heap[e]?:=λe k a=>(q e k).trans (by rw[m,ai a])
 have x:d.heap[c.heap.size]?=C (Xn #[Xm F 0 0] 46 (0,0)):=by rw[i,XQ _ _ _ (by simp[l]),<-l];exact Yn b _
 have z:d.heap[c.heap.size+1]?=C (Xn #[pt c.heap.size 0] 41 (0,0)):=by have:=Yn (b.alloc (.cells #[Xm F 0 0] 46)) (.cells #[pt c.heap.size 0] 41);rw[show(b.alloc (.cells #[Xm F 0 0] 46)).heap.size=c.heap.size+1 by simp[l]]at this;rw[i];exact this
 rw[<-i]
 obtain⟨v,w,t,N,O,_,Q,_,R,S⟩:=g.jS (w':=d) (by omega) 6 (λL=>L=3\/L=6) (λe k a=>H e k λD=>a 3 (Xh A) D) y.tree o (λL e a=>by
  subst f;rcases L with _|_|_|_|_|_|_|L
  .exact Xh a
  .exact Xh a
  .exact Xh a
  .exact Xh a
  .exact Xh a
  .exact Xh a
  .rcases a.2 with a|a|a
   .exact Xi (Xh ⟨A,by rw[a];exact ZN _⟩)
   .exact Xi (Xh ⟨A,by rw[a];exact XS _⟩)
   cases a
  exact a.elim) (by decide)
 refine⟨o,?_,w.more,λe a=>by subst f;exact a,by rw[f],by rw[f],by rw[f];simp⟩;subst f;exact⟨(t (by decide)).1,(t (by decide)).2,g.wf,N (by decide),O (by decide),(q u xo).trans n,Q (by decide),⟨g.outs.1,R⟩,S,Xi ⟨A,z,x,cr.nil _ _ _ _⟩,v⟩
section
variable[Inhabited aM]
variable{q m t H:E}{Q:M}{X:Xg Out}{o:fG}{T:Xg (E×Xk Xe)}
theorem adh(a:RI c h e)(b:c.cell? ⟨e,j,F⟩=C W):h.cell? ⟨e,j,F⟩=C W:=by
 unfold RI at a;unfold M.cell? at b⊢
 cases f:c.heap[e]? with
 |none=>simp_all
 |some O=>
  cases g:h.heap[e]? with
  |none=>simp_all
  |some d=>cases O<;>cases d<;>simp_all [Sim.Obj.whole]
structure Lw(ro:E->Prop)(q:E)(Q:M)(R m t:E)(y:cN)(H:E)(X:Xg Out)(p:fG)(T:Xg (E×Xk Xe))(c:M):Prop where
 at':pX q R m t y H X p c
 bl:∀a∈T,a.1<c.heap.size/\¬aI m y.tree p a.1/\∀(j:E) W,a.2[j]?=C W->c.cell? ⟨a.1,j,F⟩=C W
 ro:∀e,ro e->c.heap[e]?=Q.heap[e]?
theorem Lw.step{b:cN}{i:E}{Z:Xg Out}{own:E->Prop}(k:Lw f q Q R m t y H X p T c)(d:Bc own A c h)(a3:∀a∈T,¬own a.1)(a0:pX q R m t b i Z o h)(a4:∀e,aI m b.tree o e->aI m y.tree p e\/c.heap.size<=e)(a5:∀e,f e->h.heap[e]?=c.heap[e]?):Lw f q Q R m t b i Z o T h where
 at':=a0
 bl:=λa x=>by obtain⟨n,a1,a2⟩:=k.bl a x;exact⟨XY n d.size,λw=>(a4 _ w).elim a1 λw=>by omega,λj W a6=>adh (d.wh _ n (a3 a x)) (a2 j W a6)⟩
 ro:=λe v=>(a5 e v).trans (k.ro e v)
theorem Lw.eq(a:Lw f q Q R m t y H X p T c)(b:h.heap=c.heap):Lw f q Q R m t y H X p T h:=a.step (A:=F) (own:=λ_=>False) (Hw b) (λ_ _ a=>a) (a.at'.eq b) (λ_ a=>Xh a) λe _=>by rw[b]
theorem zq.vW{i:ew}(P:zq f q R m t y H p i c O S h o):Bc (aI m y.tree p) F c h where
 size:=P.size
 wh:=λe b d=>abv (P.keep e b d)
 keep:=λe b d _ w=>by
  rcases P.keep e b d with a|⟨k,Z,l,n,v,r,_⟩
  .exact a
  grind
 iK:=λe x a=>by cases a
theorem Lw.one{d:ew}(e:Lw f q Q R m t y H X p T c)(P:zq f q R m t y H p d c O S h o):Lw f q Q R m t (Wt.handle y 0 [d]).1 (H+1) (Wt.handle y 0 [d]).2 o ((S,O)::T) h:=by
 obtain⟨g,i,k⟩:=e.step P.vW (λb a=>(e.bl b a).2.1) P.at' P.own P.ro;refine⟨g,λb a=>?_,k⟩;rcases XV.1 a with rfl|a
 .exact⟨(XN.1 P.blk).1,P.free,λj W l=>aa P.blk j l⟩
 exact i b a
def adj(q R m:E)(d:Xg ew)(B:Xp Xw)(y:cN)(p:fG)(c:M):Prop:=uO d B c/\∀a b,B=C ⟨a,b,F⟩->a<c.heap.size/\q<=a/\¬ya R m y.tree p a
theorem adj.one{n:Xg ew}{B:Xp Xw}{l:ew}(d:adj q R m n B y p Q)(w:4<q)(e:c.heap=Q.heap)(P:zq f q R m t y H p l c O S h o):adj q R m n B (Wt.handle y 0 [l]).1 o h:=by
 refine⟨(d.1.vW (own:=λ_=>False) (Hw e) λ_ _ _ d=>d).vW P.vW λb i g s=>(d.2 b i g).2.2 (Xh s),λb i g=>?_⟩;obtain⟨v,r,k⟩:=d.2 b i g;have u:=P.size;rw[e]at u;refine⟨by omega,r,λa=>?_⟩;rcases a with a|a|a
 .rcases P.own b a with a|a
  .exact k (Xh a)
  rw[e]at a;omega
 .rcases P.use b a with a|a|a
  .omega
  .omega
  rw[e]at a;omega
 exact k (Xi (Xi a))
theorem adj.eq{d:Xg ew}{B:Xp Xw}(a:adj q R m d B y p c)(b:h.heap=c.heap):adj q R m d B y p h:=⟨a.1.vW (own:=λ_=>False) (Hw b) λ_ _ _ a=>a,λe g f=>by rw[b];exact a.2 e g f⟩
theorem adr{a:Xg (E×Xe)}{c:E->Xe}(d:L<g):(fq g a c).tmps[L]?=C (lk L (c L) a):=by
 have:∀g b,(sl a c g b)=(Xg.range g).map (λL=>lk L (c L) a)++b:=λg=>by
  induction g with
  |zero=>intro b;rfl
  |succ g e=>intro b;rw[sl,e,Xg.range_succ];simp
 simp[fq,this,d]
theorem abD(g:E)(b:Xg (E×Xe))(c:E->Xe):(fq g b c).tmps.size=g:=by
 have:∀g a,(sl b c g a).length=g+a.length:=λg=>by
  induction g with
  |zero=>intro a;simp[sl]
  |succ g d=>intro a;rw[sl,d];simp;omega
 simp[fq,this]
theorem abA{e:Xu}:∀{b:Xg (E×Xe)},sX e b->(∀a∈b,a.1≠s)->sX (e.put (C s) W) b
 |[],_,_=>trivial
 |a::b,c,d=>⟨by
   have:=d a (by simp);simp only[Act.put];rw[Ya (YX this)]
   exact c.1,abA c.2 λa f=>d a (by simp[f])⟩
theorem abG{i:E->Xe}{id a2 k:E}{b:Xg (E×Xe)}{a:ew}{a8:Xk Xq}{a0:Xg E}{w:Sim.Rt}(c7:D.size=4)(a3:al.fr a2=J)(a4:w.kn.map (·.1)=a0)
 (b7:(a0.all λy=>C s !=C y)=J)(b5:w.free (C j)=J)(b6:(a0.all λy=>C U !=C y)=J)(a9:bN D 0 (C s) (.move (.tmp k)))
 (b0:bN D 1 (C j) (.call {callee:=.value (.func 16),args:=#[.tmp s,.const (Xd K a.ak),.const (Xd K a.op.kind),.const (.string (bs a.op.path)),.const (.string (bs a.op.data)),.const (Xd K a.op.aE),.const (Xd K a.op.flags),.const (.bool a.watch)],argTypes:=a8}))
 (b1:bN D 2 (C U) (.alloc 38))(b2:bN D 3 F (.store 38 (.tmp U) (.tmp j)))(r:s<g/\j<g/\U<g/\k<g)(b8:j≠U)(Z:∀d∈b,d.1≠s/\d.1≠j/\d.1≠U)(b9:sX (fq g b i) b)(d1:lk k (i k) b=pt R 0)
 (d0:jd TP al.fn al.bi al.bZ (.store 38 (.tmp U) (.tmp j))=J)(b4:(#[XJ.tmp s,.const (Xd K a.ak),.const (Xd K a.op.kind),.const (.string (bs a.op.path)),.const (.string (bs a.op.data)),.const (Xd K a.op.aE),.const (Xd K a.op.flags),.const (.bool a.watch)]:Xk XJ).toList.all (du TP al.fn)=J)
 (a7:Lw f q Q R m t y H X p T c)(a6:xv f q Q)(c8:1<=t/\t<=8)(b3:H<2^16)(c9:qc a.op)(c0:Rx a.op.kind)
 (next:∀O S n h o a1,n.heap=c.heap->zq f q R m t y H p a n O S h o->Lw f q Q R m t (Wt.handle y 0 [a]).1 (H+1) (Wt.handle y 0 [a]).2 o ((S,O)::T) h->N .normal (fq g ((U,pt S 0)::b) a1) h):
 CW (goalAt TP F F z al f) (Go.Conc.base a2) w Y (.region id D Xf) N (fq g b i) c:=by
 refine eT (R:=4) c7 (nG (zI aC a3 (by simp[Go.Conc.base]) a9 a4 A b7 λn x _ _ d8 d7 d6=>?_))
 have d2:(fq g b i).eval (.tmp k)=pt R 0:=by simp only[Act.eval,Yu,adr r.2.2.2,d1];rfl
 show tV f c n/\OR _ _ _ _ _ _ _ _ ((fq g b i).put (C s) ((fq g b i).eval (.tmp k))) n;refine⟨λd9 _=>by rw[x],zH A (λd l=>l) ?_⟩;have a5:((fq g b i).put (C s) ((fq g b i).eval (.tmp k))).tmps.size=g:=by simp[Act.put,abD]
 have v:=a7.eq x;refine nE (h:=1) (j:=j) (b:=U) (more:=[]) a4 b5 b6 a3 (by simp[Go.Conc.base]) b0 b1 b2 (by rw[a5];exact r.2.1) (by rw[a5];exact r.2.2.1) b8 d0 ?_ ?_ v.at' (a6.keep v.ro) ⟨c8.1,by omega⟩ b3 c9 c0 λO S h o P=>dC ?_
 .exact b4
 .have c6:((fq g b i).put (C s) ((fq g b i).eval (.tmp k))).eval (.tmp s)=pt R 0:=by
   rw[d2];simp only[Act.eval,Act.put,Yu];rw[XX (by rw[abD];exact r.1)];rfl
  simp only[Zb,YG,Zl,c6];rfl
 refine bm ((U,pt S 0)::b) (P:=λe=>N .normal e h) (by simp[Act.put,abD]) A ⟨?_,?_⟩ λa1=>next O S n h o a1 x P (v.one P)
 .simp[Act.put,YO,abD,r.2.2.1]
 exact abA (abA (abA b9 λd l=>(Z d l).1) λd l=>(Z d l).2.1) λd l=>(Z d l).2.2
end
variable{g:M}{S:M}{a:Xp Xw}{c:Xe}{d:Xq}
section
variable[Inhabited aM]
theorem cr.form{h:Xe->Prop}{size:E}{l:Xg Xe}(k:cr h g d size c b l):∃a i,c=.slice a b i/\∀f,f<b->∃e,a=C ⟨e,0,F⟩/\c.ownBlock=C e:=by
 rcases k.2 with⟨rfl,rfl⟩|⟨e,m,n,rfl,_⟩
 .simp
 exact⟨_,_,A,λf _=>⟨e,A,A⟩⟩
end
end Go.Sv
namespace Go.Sim
open Go.Conc Go.Proofs Go.RowKit
open Go.ConcN (PermW PermW.app PermW.of fork_knows WgLive RelBy sumTo)
open Go.ConcR (KK wgBlock WgAt stA smA rd wr mk DC0)
variable{P:Xy}{h:Set}{f:E->Prop}{g:Xr}{i:Xg Xr}{N:Exit->Xu->M->Prop}{e:Xu}{c:M}
section
variable[Inhabited aM]
section
variable{main:Xo}{d:Goal P h main f}{k:Rt}{l:Xg Deferred}
def pY(d:Goal P h main f)(g:Xr)(k:Rt)(i:Xg Xr)(m:XG)(N:Exit->Xu->M->Prop)(e:Xu)(c:M):Prop:=
 ∀(a:Ren)(b:Xg Item)(l:Xu),jG b=J->Inv P h f a c->ar h a k e l->mB P h main f d g ⟨k.d0,[]⟩ i b N a c->d.G a c (rg (g.at l (.code m::b)) i)
theorem Se{a:XG}(h:CW d g ⟨k.d0,[]⟩ i a N e c):pY d g k i a N e c:=λo n f _ b m l=>h o n f b (m.less A (by simp)) l
theorem eM{l b:XG}(r:CW d g k i l (λf e c=>f=.normal/\pY d g k i b N e c) e c):pY d g k i (.seq l b) N e c:=λw h o t m u s=>by refine d.pure A rfl (λy=>by rfl) (r w (.code b::h) o m u λf x z p D n q v a=>?_);obtain⟨rfl,a⟩:=a;exact a x h p t n v (s.grow q)
theorem Mu{a:XG}(h:pY d g ⟨k.d0,[]⟩ i a N e c):pY d g k i a N e c:=λp o f m b n l=>h p o f m b (n.less A (by simp)) l
theorem Mw{m b:XG}(s:pY d g ⟨l,[]⟩ i m (λf e c=>f=.normal/\pY d g ⟨l,[]⟩ i b N e c) e c):pY d g ⟨l,[]⟩ i (.seq m b) N e c:=λw k p h n u t=>by refine d.pure A rfl (λy=>by rfl) (s w (.code b::k) p (by simpa[jG,wE]using h) n u λf x z q D o r v a=>?_);obtain⟨rfl,a⟩:=a;exact a x k q h o v (t.grow r)
theorem Mv(o:Good P h)(x:h.fr g.fn=J)(v:g.kind=.normal){m:XG}(w:h.code m=J)(l:Xu->M->Prop)
 (t:∀k:M,k.heap=c.heap->k.drawn=c.drawn->k.os=c.os->k.output=c.output->m.wp P (eP l) e k)(z:∀b a,l b a->∀n,f n->a.heap[n]?=c.heap[n]?)(next:∀b a,l b a->N .normal b a):pY d g ⟨[],[]⟩ i m N e c:=
 λS R Q y p D u=>g_lone o x v w y p D l t z λO b r a q s H L=>u .normal O b r a q s H (next _ _ L)
end
end
end Go.Sim
namespace Go.Sv
open Go.MapKept Go.Proofs Go.RowKit Go.Lib Go.WideShapes Go.Sort Go.Sim Wt
variable{z:dB}{f:E->Prop}{a:M}{g:Xp Xw}{m:E}{k:Xg Xr}{N:Exit->Xu->M->Prop}{R:E}{y:cN}{c:fG}{e:E}{s:E}
section
variable[Inhabited aM]
noncomputable section
variable{b:E}{q p:Xe}{h:E}{l:E->Xk Xe}{o:E->Xe}
theorem Oj{x u w:E}{b0:Xg Out}{S n:Xg ew}{B v:Xp Xw}{a9:E}(U:pX b R x u y w b0 c a)(T:xv f b a)(a6:1<=u/\u<=8)(a2:w<2^16)(a8:uO S B a)(a4:∀d t,n[d]?=C t->S[e+d]?=C t)(a5:n.length=s)(a0:s<=64)(Q:∀t∈n,uL t)
 (a3:∀r H,B=C ⟨r,H,F⟩->b<=r/\¬ya R x y.tree c r)(a1:v=B.map λW=>⟨W.block,e*8,F⟩):
 Co (goalAt TP F F z al f) 18 #[pt R 0,.slice v s a9] a λb2 b3=>∃X,dH f b R x u y w c v n a b2 b3 X:=by
 subst a1 a5;have O:∀d,d<n.length->n.getD d {}∈n:=by simp_all
 refine DD (rq:=λd=>Qx (n.getD d {})) (s:=λd=>n.getD d {}) U T ⟨a6.1,by omega⟩ (a8.list e n a4 λr H Y=>?_) a0 a2 (λ_ _=>⟨A,A,A,A,A,A,A⟩) (λd D=>?_) (λd D=>?_) (λ_=>rfl) A λd t i=>by simp[i]
 .obtain⟨Z,L⟩:=a3 r H Y;exact⟨Z,λi=>L (Xi (Xi i)),λi=>L (Xh i)⟩
 .have i:=Q _ (O d D);refine⟨?_,?_,?_,?_⟩
  .have a7:∀b1∈AE,b1.length<2^30:=by decide
   exact a7 _ i.path
  .have:=i.data;omega
  .have:=i.flags;omega
  have:=i.flags;omega
 have:=(Q _ (O d D)).kind;omega
end
end
variable{p:Xg Xr}{o:fG}{c:E}{b:E}
section
variable[Inhabited aM]
noncomputable section
variable{k:E}{m h:Xe}{s:Xp Xw}{q:E}{t:E->Xk Xe}{g:E->Xe}
abbrev abC:XG:=Tryz.f4.body.getD .skip
theorem adv{l:Xj}(L:-2^63<=l/\l<2^63)(v:xv f k a)(D:(∃S,a.cell? ⟨1,0,F⟩=C (Xd K S))/\uQ a/\4<a.heap.size)(U:k<=a.heap.size)
 (y:∀R n d o q s,1<=d/\d<=8->Eo f k a R n d Wt.sB 7 o s->N .normal (fq 155 [(1,h),(5,pt R 0)] q) s):
 CW (goalAt TP F F z al f) (Go.Conc.base 4) ⟨[],[(1,m)]⟩ p (ja [1,0] abC) N (fq 155 [(0,Xd K l),(1,h)] g) a:=by
 show CW _ _ _ _ (.region _ _ _) _ _ _;dsimp only[fq,sl,lk,Nat.reduceBEq,cond];refine eT (R:=3) A (ct (by decide) (ks:=[1]) A 0 1 (more:=[1,2]) (l:=[_]) A (by rfl) λX i _ _=>?_);have u:=Xl y
 go_wp2
 refine Sim.kp i ?_;refine kY (a:=#[Xd K l]) (l:=1) (more:=[2]) (by decide) A rfl rfl rfl Tryz.func14 (by decide) A (by decide) (by kernel_rfl) (LN L (v.eq i) ⟨by simp_all [M.cell?],D.2.1.stay (by rw[i]),by simp_all⟩ (by simp_all)) λW Y x=>?_;obtain⟨R,n,d,o,rfl,H,B⟩:=x;replace B:=B.base i;refine ct (by decide) (ks:=[1]) A 2 1 (more:=[]) (l:=[_]) A (by rfl) λt r _ _=>?_
 go_wp2
 replace B:=B.eq r;refine Sim.kp r (dC ?_);exact bm [(1,h),(5,pt R 0)] (P:=λw=>N .normal w t) A rfl ⟨A,A,trivial⟩ λq=>u.out R n d o q t H B
theorem adw(n:∀b e,e.heap=a.heap->N .normal (fq 155 [(1,h),(5,pt R 0)] b) e):CW (goalAt TP F F z al f) (Go.Conc.base 4) ⟨[],[(1,m)]⟩ p (ja [1,1,0] abC) N (fq 155 [(1,h),(5,pt R 0)] g) a:=by
 show CW _ _ _ _ (.seq _ _) _ _ _;dsimp only[fq,sl,lk,Nat.reduceBEq,cond];refine aQ (cl (by decide) (ks:=[1]) A (by rfl) λi d _ _=>?_);have k:=Xl n
 go_wp2
 refine vN d ?_;refine cH (g:=Xf) (by decide) A (eL ?_);exact bm [(1,h),(5,pt R 0)] (P:=λl=>N .normal l i) A rfl ⟨A,A,trivial⟩ λb=>k.out b i d
theorem adx{s Y H:E}{Z:Xg Out}(L:pX k R s Y y H Z o a)(a9:∀b,f b->b<k)
 (Q:∀i X D q,pX k R s Y y H Z i q->i.hd=[]->i.li.hs=X->i.li.v≠.nilFunc->(∀b,f b->q.heap[b]?=a.heap[b]?)->a.heap.size<=q.heap.size->N .normal (fq 155 [(1,h),(5,pt R 0),(6,pt X 0)] D) q):
 CW (goalAt TP F F z al f) (Go.Conc.base 4) ⟨[],[(1,m)]⟩ p (ja [1,1,1,0] abC) N (fq 155 [(1,h),(5,pt R 0)] g) a:=by
 show CW _ _ _ _ (.region _ _ _) _ _ _;dsimp only[fq,sl,lk,Nat.reduceBEq,cond];have a0:=Xl Q;have a1:=Xl L;clear Q L;refine cl (by decide) (ks:=[1]) A (by rfl) λw x _ _=>?_;have d:=a1.out.eq x;have U:=d.ptr;have S:=d.gI.ch;obtain⟨v,l⟩:∃v,v=w.heap.size:=⟨_,A⟩;have a5:=Xl ((acp U S (by simp)).mono λa3 q⟨t,u⟩=>show a3=Ending.returned (pt v 0)/\RowKit.Hid _ from⟨by rw[l];exact t,Xl u⟩);have a2:=Xl (And.intro d l);clear U S d l
 go_wp2_with (go_at_call 17;refine a5.out.mono ?_;rintro _ r⟨rfl,n⟩)
 obtain⟨d,l⟩:=a2.out;replace n:=n.out;obtain⟨i,O,a8,b2,t,u,a4⟩:=d.gI.acv;rw[<-n]at O;rw[<-l]at u;have b4:r.heap.size=w.heap.size+2:=by rw[n];simp[aS]
 have b1:=(XN.1 d.ptr).1;have a6:=(d.own s (Xh A));have T:∀b,b<w.heap.size->b≠s->r.heap[b]?=w.heap[b]?:=λb e a7=>by rw[n,XQ _ _ _ (by simp[aS];omega),XQ _ _ _ (by rw[aS];exact e),ai a7]
 have b0:=d.KY
 have W:∀b,f b->r.heap[b]?=a.heap[b]?:=λb e=>by have:=a9 b e;rw[T b (by omega) (by omega),x]
 refine show _/\_ from⟨W,?_⟩;refine bm [(1,h),(5,pt R 0),(6,pt v 0)] (P:=λb=>N .normal b r) A rfl ⟨A,A,A,trivial⟩ λD=>a0.out i _ D r ⟨O,(T R b1 (YX a6.2)).trans d.ptr,d.ok,λb e=>(a8 b e).elim (d.own b) λb3=>by omega,b0,λb e=>d.use b (b2 b e),by rw[t];exact YA _⟩ t u a4 W (by rw[<-x];omega)
theorem adu:∀fn,TP.funcs[(Go.Conc.base 4).fn]?=C fn->fn.norace=Xf:=λfn a=>by grind [Go.Conc.base,Tryz.f4,Tryz.func4]
theorem ady{o l n:E}(w:oT m h s e q t)(W:xv f k a)(a3:k<=a.heap.size)
 (L:∀d B c u v,(∀a7∈d,uL a7)->d.length<=40->d.length<=c->uM d (.slice B d.length c) v->(d=[]->B=F)->Kept a v->(∀i r,B=C ⟨i,r,F⟩->a.heap.size<=i)->N .normal (fq 155 [(5,pt R 0),(6,pt o 0),(7,pt l 0),(8,pt n 0),(9,.slice B d.length c)] u) v):
 CW (goalAt TP F F z al f) (Go.Conc.base 4) ⟨[],[(1,m)]⟩ p (ja [1,1,1,1,1,1,0] abC) N (fq 155 [(8,pt n 0),(7,pt l 0),(1,h),(5,pt R 0),(6,pt o 0)] g) a:=by
 show CW _ _ _ _ (.region _ _ _) _ _ _;dsimp only[fq,sl,lk,Nat.reduceBEq,cond];have T:=Xl L;clear L;refine eT (R:=3) A (nG ?_);refine ji adu (by decide) (L:=0) (more:=[1,2]) (j:=29) ⟨_,A,A,A,A⟩ (v:=h) (V:=m) A (show 29<155 by decide) (λX b1 a8 b0 _ _=>⟨#[],λc0 Q y=>?_,by simp⟩) w.rel ?_
 .show(Sem.pure (Next.value (a8 (.tmp 1)))).runT TP X #[]=_;simp_all
 refine Mj (Y:=[(0,m)]) (o:=#[h]) (L:=1) (more:=[2]) (by decide) A rfl rfl rfl Tryz.func15 (by decide) A (by decide) (λQ a4=>⟨29,by simp_all,by simp_all⟩) (by kernel_rfl) (Dw w W a3) λb9 c6 a0=>?_;obtain⟨d,a5,Z,O,b3,b4,H,a6⟩:=a0;refine zH A (λQ a4=>by simp_all) ?_;obtain⟨B,c,rfl,a2,a1,Sz⟩:=uO.of O H;refine ct (by decide) (ks:=[1]) A 2 1 (more:=[]) (l:=[_]) A (by rfl) λS D _ _=>?_;have U:=Xl O;clear a1
 go_wp2
 refine Sim.kp D (dC ?_);exact bm [(5,pt R 0),(6,pt o 0),(7,pt l 0),(8,pt n 0),(9,.slice B d.length c)] (P:=λx=>N .normal x S) A rfl ⟨A,A,A,A,A,trivial⟩ λu=>T.out d B c u S a5 Z a2 (U.out.stay λb5 _=>by rw[D]) (λY=>by have:=H Y;simp at this;exact this.1) ⟨by simp_all,λx b2=>by simp_all⟩ λi r y=>a6 i (Sz i r y)
def ads(a:ew):ew:={a with watch:=Xf}
def abB(l:Xg ew)(B:Xp Xw)(b:E)(i a:M):Prop:=(B=F/\l=[]/\a.heap=i.heap)\/∃(h:E)(e f:Xk Xe),B=C ⟨h,0,F⟩/\a.heap[h]?=C (Xn f 31 (0,0))/\0<e.size/\f.size=e.size/\(∀m∈e.toList,CR m)/\(∀(d:E) k,l[d]?=C k->∀j,j<8->e[d*8+j]?=(Ip k)[j]?)/\
 (∀d,f[d]?=if d%8=6/\d/8<b/\d<e.size then C (.bool Xf)else e[d]?)/\a.heap.size=i.heap.size/\∀g,g≠h->a.heap[g]?=i.heap[g]?
theorem abB.start{d:Xg ew}{B:Xp Xw}(H:uM d (.slice B d.length c) a)(x:d=[]->B=F):abB d B 0 a a:=by
 rcases H.2 with⟨v,D⟩|⟨w,q,u,v,O,D,U,W,X,L⟩
 .have i:=YR.1 D;exact Xh ⟨x i,i,A⟩
 obtain⟨rfl,rfl⟩:B=C ⟨w,0,F⟩/\c=q:=by cases v;exact⟨A,A⟩
 by_cases i:d=[]
 .cases x i
 have Z:0<d.length:=y_.2 i;refine Xi ⟨w,u,u,A,O,by omega,A,L,λn l S j Q=>?_,λn=>by simp,A,λ_ _=>rfl⟩;obtain⟨r,T⟩:∃r,(Ip l)[j]?=C r:=by simp_all
 have Y:(d.flatMap λl=>(Ip l).toList)[n*8+j]?=C r:=by rw[BQ (λ_=>rfl) d n j l S Q];simpa using T
 grind
theorem abB.step{n:Xg ew}{B:Xp Xw}{b:E}{O:M}(T:abB n B b O a)(H:b<n.length):∃d,B=C ⟨d,0,F⟩/\(∃a1,a.cell? ⟨d,b*8+6,F⟩=C a1)/\a.frozen? ⟨d,b*8+6,F⟩=Xf/\abB n B (b+1) O (a.setCell ⟨d,b*8+6,F⟩ (.bool Xf)):=by
 rcases T with⟨_,rfl,_⟩|⟨d,u,Q,rfl,v,U,W,X,w,Y,Z,a0⟩
 .simp at H
 have a2:=w b n[b] (Yy H) 6 (by decide);have a3:b*8+6<u.size:=by grind
 refine⟨d,A,⟨Q[b*8+6]'(by omega),aa v _ (XP (by omega))⟩,frozenAt v _,Xi ⟨d,u,_,A,aA v,U,by simp[W],X,w,λi=>?_,by rw[aS,Z],λS D=>(ai D).trans (a0 S D)⟩⟩;rw[YO,Y];by_cases L:b*8+6=i
 .subst L;rw[XC A,XC (by omega),XC (by omega)]
 rw[Xx L];by_cases x:i%8=6/\i/8<b/\i<u.size
 .rw[XC x,XC (by omega)]
 rw[Xx x,Xx (by omega)]
theorem abB.fin{i:Xg ew}{B:Xp Xw}{u:M}(q:abB i B i.length u a):uO (i.map ads) B a:=by
 rcases q with⟨rfl,rfl,_⟩|⟨p,m,n,rfl,r,w,x,s,k,l,y,z⟩
 .exact Xh ⟨A,A⟩
 refine Xi ⟨p,n,31,(0,0),A,r,by omega,by simp,λv t=>?_,λd N b j f=>?_⟩
 .obtain⟨d,b⟩:=Xk.mem_iff_getElem?.1 (Yz.1 t);rw[l]at b;split at b
  .cases b;exact⟨.bool _,λL o=>by cases o⟩
  exact s v (Yz.2 (Ys b))
 rw[o_]at b;obtain⟨h,g,rfl⟩:=YE.1 b;have D:=(YH.1 g).1;rw[l,k d h g j f];have H:d*8+j<m.size:=by have:=k d h g j f;have e:j<(Ip h).size:=f;rw[XP e]at this;exact(XN.1 this).1
 by_cases e:j=6
 .subst e;rw[XC (by omega)];rfl
 rw[Xx (by omega)];rcases j with _|_|_|_|_|_|_|_|j
 all_goals first|rfl|omega
theorem abB.kept{l:Xg ew}{B:Xp Xw}{f:M}(e:abB l B b f a):a.heap.size=f.heap.size/\∀d,B≠C ⟨d,0,F⟩->a.heap[d]?=f.heap[d]?:=by
 rcases e with⟨_,_,e⟩|⟨o,m,n,rfl,p,q,r,s,t,u,h,i⟩
 .simp[e]
 exact⟨h,λd k=>i d λg=>k (by rw[g])⟩
theorem acb{l:Xg ew}{B:Xp Xw}{f h i k:Xe}(R:l.length=e)(S:e<=40)(s:abB l B 0 a a):
 (ja [1,1,1,1,1,1,1,0] abC).wp TP (eP λd z=>(d.tmps.size=155/\d.defers=[]/\sX d [(5,f),(6,h),(7,i),(8,k),(9,.slice B e c)])/\abB l B e a z) (fq 155 [(5,f),(6,h),(7,i),(8,k),(9,.slice B e c)] g) a:=by
 show XG.wp _ (.seq (.region _ _ _) (.block _ (.loop _))) _ _ _;refine abq λD p=>?_;replace p:=Xl p;have v:=Xl s;clear s
 go_wp2
 refine p.out _ _ (wp_block (wp_loop (λd u=>∃(b:E)(g:E->Xe),b<=e/\d=fq 155 [(5,f),(6,h),(7,i),(8,k),(9,.slice B e c),(10,Xd K b)] g/\abB l B b a u) (λd _=>e-qF 10 d) ?_ ?_))
 .exact bm [(5,f),(6,h),(7,i),(8,k),(9,.slice B e c),(10,Xd K (0:E))] (P:=λd=>∃(b:E)(g:E->Xe),b<=e/\d=fq 155 [(5,f),(6,h),(7,i),(8,k),(9,.slice B e c),(10,Xd K b)] g/\abB l B b a a) A rfl ⟨A,A,A,A,A,A,trivial⟩ λr=>⟨0,r,YA _,A,v.out⟩
 rintro _ u⟨b,g,Q,rfl,q⟩;dsimp only[fq,sl,lk,Nat.reduceBEq,cond];rcases H_ b e with y|O
 .have c1:decide ((b:Xj)<e)=J:=by simp;omega
  obtain⟨n,rfl,⟨T,L⟩,N,t⟩:=q.step (by omega);have w:=Xl t;clear q t;refine abq λx m=>?_;replace m:=Xl m
  go_wp2
  refine m.out _ _ (abq λH o=>wp_block ?_);replace o:=Xl o
  go_wp2
  refine o.out _ _ ?_
  go_wp2
  refine⟨bm [(5,f),(6,h),(7,i),(8,k),(9,Xm (C ⟨n,0,F⟩) e c),(10,Xd K ((b+1:E):Xj))] (P:=λd=>∃(b:E)(g:E->Xe),b<=e/\d=fq 155 [(5,f),(6,h),(7,i),(8,k),(9,Xm (C ⟨n,0,F⟩) e c),(10,Xd K b)] g/\abB l (C ⟨n,0,F⟩) b a _) A rfl ⟨A,A,A,A,A,A,trivial⟩ λr=>⟨b+1,r,y,A,w.out⟩,?_⟩;show e-((b:Xj)+1).toNat<e-b;omega
 obtain rfl:b=e:=by omega
 refine abq λx m=>?_
 go_wp2
 exact show(_/\_)/\_ from⟨⟨A,A,A,A,A,A,A,trivial⟩,q⟩
end
end
variable{q:M}{c:Xp Xw}{h:E}{e:Xg Xr}{a:E}{j:E}{b:Out}
section
variable[Inhabited aM]
noncomputable section
variable{k:E}{p m:Xe}{d:E}{g:E->Xk Xe}{l:E->Xe}
theorem Hi{u:Type}{r:u->Xg Xe}(t:∀i,(r i).length=s):∀(n:Xg u)(a j:E)(i:u),n[a]?=C i->j<s->(n.flatMap r)[a*s+j]?=(r i)[j]?
 |[],a,j,i,o,_=>by cases o
 |w::n,0,j,i,o,v=>by
  grind
 |w::n,a+1,j,i,o,v=>by
  have x:(a+1)*s=a*s+s:=by grind
  rw[Zu,YP (by rw[t];omega),t,show(a+1)*s+j-s=a*s+j by omega];exact Hi t n a j i (by simpa using o) v
theorem ab2{o:Xg Out}{r:Xg (Xe×Xe)}{i:Xe×Xe}(t:o[a]?=C b)(u:r[a]?=C i)(v:j<16):(gB o r)[a*16+j]?=(iC b i)[j]?:=by unfold gB;rw[Hi (r:=λn=>(iC n.1 n.2).toList) (s:=16) (λ_=>rfl) _ a j (b,i) (Xg.getElem?_zip_eq_some.2 ⟨t,u⟩) v];simp
end
end
variable{a:M}{h:Xp Xw}{e:E}{m:Xg Xr}{u:E}{i:fG}{g:M}{b:E}
section
variable[Inhabited aM]
noncomputable section
variable{k:E}{r q:Xe}{o:E}{p:E->Xk Xe}{l:E->Xe}
def abP(f:E)(hd:Xg Out)(a:M):Prop:=∃h b,a.cell? ⟨f,0,F⟩=C (.slice h hd.length b)/\∀(d:E) e,hd[d]?=C e->∃c,h=C ⟨c,0,F⟩/\a.cell? ⟨c,d*16,F⟩=C (i64 e.ak)
theorem aK.hear{p:Xj}{q:Xg Out}(l:aK u p y q i a)(n:i.li.v≠.nilFunc):abP i.li.hs i.hd a:=by
 rcases l.acY with c|⟨_,_,c,f⟩
 .exact absurd c n
 have g:=aa c 0 A;obtain⟨h,b,e,o⟩:=f.form;rw[e]at g;refine⟨h,b,g,λk r d=>?_⟩;obtain⟨m,rfl,_⟩:=o k (YH.1 d).1;refine⟨m,A,f.cell (by rw[e];rfl) (k*16) _ ?_⟩;exact ab2 (j:=0) d (by rw[o_,d];rfl) (by decide)
theorem abP.eq{d:E}{hd:Xg Out}(f:abP d hd a)(c:g.heap=a.heap):abP d hd g:=by
 obtain⟨h,b,i,k⟩:=f
 exact⟨h,b,(gy c).cell i,λo p n=>by
  obtain⟨e,l,m⟩:=k o p n
  exact⟨e,l,(gy c).cell m⟩⟩
theorem adl{h k n d e:E}{B:Xp Xw}(o:a.cell? ⟨k,3,F⟩=C (i64 0))(p:a.cell? ⟨n,3,F⟩=C (i64 0))(q:a.cell? ⟨d,6,F⟩=C (.bool J))(r:a.cell? ⟨e,6,F⟩=C (.bool J))
 (w:∀i g,g.heap=a.heap->N .normal (fq 155 [(5,pt R 0),(6,pt h 0),(9,.slice B s b),(11,pt d 0),(12,pt e 0)] i) g):
 CW (goalAt TP F F z al f) (Go.Conc.base 4) ⟨[],[]⟩ m (ja [1,1,1,1,1,1,1,1,1,1,0] abC) N (fq 155 [(12,pt e 0),(11,pt d 0),(5,pt R 0),(6,pt h 0),(7,pt k 0),(8,pt n 0),(9,.slice B s b)] l) a:=by
 show CW _ _ _ _ (.seq _ _) _ _ _;dsimp only[fq,sl,lk,Nat.reduceBEq,cond];refine aQ (cl (by decide) (ks:=[]) A (by rfl) λt c _ _=>?_);have u:=Xl w;replace o:=(gy c).cell o;replace p:=(gy c).cell p;replace q:=(gy c).cell q;replace r:=(gy c).cell r
 go_wp2
 refine vN c ?_;refine cH (g:=Xf) (by decide) A (eL ?_);exact bm [(5,pt R 0),(6,pt h 0),(9,.slice B s b),(11,pt d 0),(12,pt e 0)] (P:=λv=>N .normal v t) A rfl ⟨A,A,A,A,A,trivial⟩ λi=>u.out i t c
theorem adm{t p q w r s:E}{a3:Xg Out}{c:Xg ew}{B:Xp Xw}(Z:c.length=e)(S:pX k R t p y q a3 i a)(Q:xv f k a)(a0:1<=p/\p<=8)(W:q<2^16)(o:uO c B a)(a7:c.length<=40)(v:∀D∈c,uL D)(Y:∀h a2,B=C ⟨h,a2,F⟩->k<=h/\¬ya R t y.tree i h)
 (X:∀n x g,dH f k R t p y q i B c a n.ov g n->N .normal (fq 155 [(5,pt R 0),(6,pt w 0),(11,pt r 0),(12,pt s 0)] x) g):
 CW (goalAt TP F F z al f) (Go.Conc.base 4) ⟨[],[]⟩ m (ja [1,1,1,1,1,1,1,1,1,1,1,0] abC) N (fq 155 [(5,pt R 0),(6,pt w 0),(9,.slice B e b),(11,pt r 0),(12,pt s 0)] l) a:=by
 subst Z;show CW _ _ _ _ (.region _ _ _) _ _ _;dsimp only[fq,sl,lk,Nat.reduceBEq,cond];have O:=Xl X;refine eT (R:=3) A (ct (by decide) (ks:=[]) A 0 2 (more:=[2]) (l:=[_,_]) A (by rfl) λb3 d _ _=>?_);have L:=Xl (And.intro o v)
 go_wp2
 obtain⟨o,v⟩:=L.out;refine Sim.kp d ?_;refine kY (a:=#[pt R 0,.slice B c.length b]) (l:=2) (more:=[]) (by decide) A rfl rfl rfl Tryz.func18 (by decide) A (by decide) (by kernel_rfl) (Oj (e:=0) (S.eq d) (Q.eq d) a0 W (o.vW (own:=λ_=>False) (Hw d) λ_ _ _ u=>u) (λa8 D u=>by simpa using u) A (by omega) v Y ?_) λb2 H U=>?_
 .rcases o with⟨rfl,_⟩|⟨h,a4,b1,a6,rfl,_⟩
  .rfl
  simp
 obtain⟨n,P⟩:=U;obtain rfl:=P.val;replace P:=P.eq d.symm A;refine dC ?_;exact bm [(5,pt R 0),(6,pt w 0),(11,pt r 0),(12,pt s 0)] (P:=λT=>N .normal T H) A rfl ⟨A,A,A,A,trivial⟩ λx=>O.out n x H P
theorem acd{r:E}{hd:Xg Out}{u v w x:Xe}(Q:abP r hd a)(S:hd.length<2^28)(y:∀c∈hd,c.ak=1\/c.ak=2):
 (ja [1,1,1,1,1,1,1,1,1,1,1,1,1,1,1,1,0] abC).wp TP (eP (kE 155 [(11,u),(12,v),(13,w),(14,x),(15,Xd K (Wt.cnt 1 hd:E)),(16,Xd K (Wt.cnt 2 hd:E))] a)) (fq 155 [(6,pt r 0),(11,u),(12,v),(13,w),(14,x),(15,Xd K (0:E)),(16,Xd K (0:E))] l) a:=by
 show XG.wp _ (.seq (.region _ _ _) (.block _ (.loop _))) _ _ _;obtain⟨X,a1,m,z⟩:=Q;generalize U:hd.length=e at m S;have q:∀f b,Wt.cnt f (hd.take b)<=b:=λf b=>XZ Xg.countP_le_length (by simp;omega)
 have t:∀f(b:E) c,hd[b]?=C c->Wt.cnt f (hd.take (b+1))=Wt.cnt f (hd.take b)+if c.ak=f then 1 else 0:=λf b c d=>by simp[Wt.cnt,ZX,d,Xg.countP_append,d_]
 refine abq λY p=>?_;replace p:=Xl p
 go_wp2
 refine p.out _ _ (wp_block (wp_loop (GM 155 (λb=>[(6,pt r 0),(11,u),(12,v),(13,w),(14,x),(15,Xd K (Wt.cnt 1 (hd.take b):E)),(16,Xd K (Wt.cnt 2 (hd.take b):E)),(17,Xd K b)]) e a) (λL _=>e-qF 17 L) ?_ ?_))
 .exact .of 0 (YA _) A rfl ⟨A,A,A,A,A,A,A,A,trivial⟩ (gy A)
 rintro _ a8⟨b,l,a5,rfl,k⟩;have a2:=k.cell m;have q1:=q 1 b;have W:=q 2 b;rcases H_ b e with T|a4
 .have c1:decide ((b:Xj)<e)=J:=by simp;omega
  obtain⟨c,d⟩:∃c,hd[b]?=C c:=⟨_,Yy (by omega)⟩;obtain⟨a3,rfl,D⟩:=z b c d;have O:=k.cell D;have g:=t 1 b c d;have h:=t 2 b c d;have R:=Xl k;clear z q t m D;rcases y c (Yj d)with s|s<;>rw[s]at O g h
  all_goals
   replace g:=Xl g;replace h:=Xl h;dsimp only[fq,sl,lk,Nat.reduceBEq,cond];generalize Wt.cnt 1 (hd.take b)=a6 at q1 g⊢
   generalize Wt.cnt 2 (hd.take b)=a7 at W h⊢
   clear s d y;refine abq λH i=>?_;replace i:=Xl i
   go_wp2
   refine i.out _ _ (abq λZ n=>wp_block (abq λa0 o=>?_));replace n:=Xl n;replace o:=Xl o
   go_wp2
   refine o.out _ _ (wp_block ?_)
   go_wp2
   refine n.out _ _ ?_
   go_wp2
   refine⟨.of (b+1) T A rfl ⟨A,A,A,A,A,?_,?_,A,trivial⟩ R.out,?_⟩
   .rw[g.out];rfl
   .rw[h.out];rfl
   show e-((b:Xj)+1).toNat<e-b;omega
 obtain rfl:b=e:=by omega
 have N:hd.take b=hd:=by rw[<-U];exact N_
 dsimp only[fq,sl,lk,Nat.reduceBEq,cond];rw[N];refine abq λH i=>?_
 go_wp2
 exact show kE _ _ _ _ _ from⟨⟨A,A,A,A,A,A,A,A,trivial⟩,k⟩
end
end
variable{k:Xp Xw}{d:E}{e:Xg Xr}
section
variable[Inhabited aM]
noncomputable section
variable{c:E}{l i:Xe}{m:E}{o:E->Xk Xe}{h:E->Xe}
theorem adi:al.code (ja [1,1,1,1,1,1,1,0] abC)=J/\al.code (ja [1,1,1,1,1,1,1,1,1,1,1,1,1,1,1,1,0] abC)=J:=⟨by rfl,by rfl⟩
theorem abI{a:ew}(c:a.op.path.length<2^30)(d:a.op.data=[])(e:a.op.aE=0)(b:a.op.flags=0):qc a.op:=⟨c,by rw[d];decide,by rw[b];decide,by rw[b];decide⟩
theorem adn{p q r s:E}{i:E}{d g:Xo}{k l n o:Xj}(c1:a.cell? ⟨p,6,F⟩=C (.bool d))(c2:a.cell? ⟨p,7,F⟩=C (i64 k))(c3:a.cell? ⟨p,9,F⟩=C (i64 n))(x:a.cell? ⟨r,6,F⟩=C (.bool g))(y:a.cell? ⟨r,7,F⟩=C (i64 l))(D:a.cell? ⟨r,9,F⟩=C (i64 o))
 (O:d=g/\k=l/\n=o\/i=1)(L:∀Q m R,(Q=J->i=1)->R.heap=a.heap->N .normal (fq 155 [(12,pt q 0),(14,pt s 0),(15,Xd K i),(16,Xd K b),(18,.bool Q)] m) R):
 CW (goalAt TP F F z al f) (Go.Conc.base 4) ⟨[],[]⟩ e (ja [1,1,1,1,1,1,1,1,1,1,1,1,1,1,1,1,1,0] abC) N (fq 155 [(11,pt p 0),(12,pt q 0),(13,pt r 0),(14,pt s 0),(15,Xd K i),(16,Xd K b)] h) a:=by
 show CW _ _ _ _ (.region _ _ _) _ _ _;dsimp only[fq,sl,lk,Nat.reduceBEq,cond];refine cl (by decide) (ks:=[]) A (by rfl) λu c _ _=>?_;have v:=Xl L;replace c1:=(gy c).cell c1;replace c2:=(gy c).cell c2;replace c3:=(gy c).cell c3;replace x:=(gy c).cell x;replace y:=(gy c).cell y;replace D:=(gy c).cell D
 have S:d=g/\k=l/\n=o\/(d=J/\g=Xf)\/(d=Xf/\g=J)\/d=g/\¬k=l\/d=g/\k=l/\¬n=o:=by
  by_cases q1:d=g<;>by_cases T:k=l<;>by_cases U:n=o<;>simp_all
  all_goals cases d<;>cases g<;>simp_all
 rcases S with⟨rfl,rfl,rfl⟩|⟨rfl,rfl⟩|⟨rfl,rfl⟩|⟨rfl,T⟩|⟨rfl,rfl,U⟩
 .go_wp2
  refine Sim.kp c ?_;exact bm [(12,pt q 0),(14,pt s 0),(15,Xd K i),(16,Xd K b),(18,.bool Xf)] (P:=λw=>N .normal w u) A rfl ⟨A,A,A,A,by simp,trivial⟩ λm=>v.out Xf m u (by simp) c
 all_goals
  have t:i=1:=by
   rcases O with H|H
   .simp_all
   exact H
  replace t:=Xl t;clear O
  go_wp2
  refine Sim.kp c ?_;exact bm [(12,pt q 0),(14,pt s 0),(15,Xd K i),(16,Xd K b),(18,.bool J)] (P:=λw=>N .normal w u) A rfl ⟨A,A,A,A,by clear v L t c1 c2 c3 x y D;simp_all,trivial⟩ λm=>v.out J m u (λ_=>t.out) c
theorem ado{g i:E}{c:E}{d:Xo}(q:d=J->c=1)(r:c<=1)(s:b<=1)(t:∀k m,m.heap=a.heap->N .normal (fq 155 [(12,pt g 0),(14,pt i 0),(16,Xd K b)] k) m):
 CW (goalAt TP F F z al f) (Go.Conc.base 4) ⟨[],[]⟩ e (ja [1,1,1,1,1,1,1,1,1,1,1,1,1,1,1,1,1,1,0] abC) N (fq 155 [(12,pt g 0),(14,pt i 0),(15,Xd K c),(16,Xd K b),(18,.bool d)] h) a:=by
 show CW _ _ _ _ (.seq _ _) _ _ _;dsimp only[fq,sl,lk,Nat.reduceBEq,cond];refine aQ (cl (by decide) (ks:=[]) A (by rfl) λn l _ _=>?_);have o:=Xl t
 have u:(d=J/\c=1\/d=Xf/\c=0\/d=Xf/\c=1)/\(b=0\/b=1):=by cases d<;>simp_all<;>omega
 clear q r s;obtain⟨⟨rfl,rfl⟩|⟨rfl,rfl⟩|⟨rfl,rfl⟩,rfl|rfl⟩:=u
 all_goals
  go_wp2
  refine vN l ?_;refine cH (g:=Xf) (by decide) A (eL ?_);exact bm [(12,pt g 0),(14,pt i 0),(16,Xd K _)] (P:=λp=>N .normal p n) A rfl ⟨A,A,A,trivial⟩ λk=>o.out k n l
theorem adp{l m:E}{i k c d:Xj}(c2:a.cell? ⟨m,7,F⟩=C (i64 i))(c3:a.cell? ⟨m,10,F⟩=C (i64 c))(n:a.cell? ⟨l,7,F⟩=C (i64 k))(o:a.cell? ⟨l,10,F⟩=C (i64 d))(r:b<=1)(s:c=d/\i=k\/b=1):
 pY (goalAt TP F F z al f) (Go.Conc.base 4) ⟨[],[]⟩ e (ja [1,1,1,1,1,1,1,1,1,1,1,1,1,1,1,1,1,1,1] abC) (λq p x=>q=.ret/\p.defers=[]/\p.tmps[4]?=C (.bool J)) (fq 155 [(12,pt l 0),(14,pt m 0),(16,Xd K b)] h) a:=by
 show pY _ _ _ _ (.seq (.region _ _ _) .ret) _ _ _;dsimp only[fq,sl,lk,Nat.reduceBEq,cond];refine eM (cl (by decide) (ks:=[]) A (by rfl) λy g _ _=>?_);replace c2:=(gy g).cell c2;replace c3:=(gy g).cell c3;replace n:=(gy g).cell n;replace o:=(gy g).cell o
 have t:c=d/\i=k/\(b=0\/b=1)\/(c==d)=Xf/\b=1\/c=d/\(i==k)=Xf/\b=1:=by by_cases q1:c=d<;>by_cases w:i=k<;>simp_all;omega
 clear r s;rcases t with⟨rfl,rfl,rfl|rfl⟩|⟨u,rfl⟩|⟨rfl,u,rfl⟩
 all_goals
  go_wp2
  refine Sim.kp g ?_;exact Se (mJ ⟨A,A,by clear c2 c3 n o;simp_all⟩)
theorem acS{f1:Xj}(n7:-2^63<=f1/\f1<2^63)(d7:oT l i k d m o)(t:xv f c a)(R:(∃O,a.cell? ⟨1,0,F⟩=C (Xd K O))/\uQ a/\4<a.heap.size)(h8:c<=a.heap.size):
 pY (goalAt TP F F z al f) (Go.Conc.base 4) ⟨[],[(1,l)]⟩ e abC (λp g a2=>p=.ret/\g.defers=[]/\g.tmps[4]?=C (.bool J)) (fq 155 [(0,Xd K f1),(1,i)] h) a:=by
 have a6:=t.lt;have j9:=a6 4 (t.gl 4 (Xh (by decide)) (by decide));show pY _ _ _ _ (.seq (.region _ _ _) _) _ _ _;have i6:=Xl (And.intro d7 (And.intro t R));clear d7 t R;dsimp only[fq,sl,lk,Nat.reduceBEq,cond];refine eM (cl (by decide) (ks:=[1]) A (by rfl) λd2 b2 _ _=>?_)
 go_wp2
 refine Sim.kp b2 ?_;obtain⟨d7,t,R⟩:=i6.out;refine bm [(0,Xd K f1),(1,i)] (P:=λg=>pY _ _ _ _ _ _ g _) A rfl ⟨A,A,trivial⟩ λq4=>?_;replace t:=t.eq b2;replace R:(∃O,d2.cell? ⟨1,0,F⟩=C (Xd K O))/\uQ d2/\4<d2.heap.size:=⟨by simp_all [M.cell?],R.2.1.stay (by rw[b2]),by simp_all⟩;rw[<-b2]at h8;clear i6 b2;show pY _ _ _ _ (.seq _ _) _ _ _;refine eM (adv n7 t R h8 λf2 h1 n9 j5 o6 p3 Z d5=>⟨A,?_⟩);obtain⟨o0,d8⟩:=d5.at';show pY _ _ _ _ (.seq _ _) _ _ _;refine eM (adw λo7 d3 e3=>⟨A,?_⟩);have f5:c<=d3.heap.size:=by rw[e3];exact XZ h8 d5.size
 replace d8:=d8.eq e3;have m3:∀g,f g->d3.heap[g]?=d2.heap[g]?:=λg y=>by rw[e3];exact d5.ro g y
 clear d5 e3;show pY _ _ _ _ (.seq _ _) _ _ _;refine eM (adx d8 a6 λj4 k6 r3 p4 i9 k2 k7 k3 k5 n8=>⟨A,?_⟩);have j0:Lw f c d2 f2 h1 n9 Wt.sB 7 o0 j4 [] p4:=⟨i9,λT c9=>(by cases c9),λg y=>(k5 g y).trans (m3 g y)⟩;clear d8 i9 m3 k5 n8 f5;show pY _ _ _ _ (.seq _ _) _ _ _;refine eM (abG (a:=Wt.qW) (a0:=[1]) (k:=5) (s:=25) (j:=26) (U:=7) A (by decide) A rfl rfl rfl ⟨_,A,A,A,A⟩ ⟨_,A,A,A,A⟩ ⟨_,A,A,A,A⟩ ⟨_,A,A,A,A⟩ (by decide) (by decide) (by simp) ⟨A,A,A,trivial⟩ A (by rfl) (by rfl) j0 t Z (by omega) (abI (by decide) A rfl rfl) (by unfold Rx;decide) λs7 g4 d4 p3 j5 o6 w P f9=>⟨A,?_⟩);obtain⟨q1,l5,r,v,l8⟩:=adg;obtain⟨k8,b4⟩:=P.ln;have q:=P.last;rw[xE,q1,r]at f9;rw[xE,r]at q b4;obtain⟨o8,rfl⟩:=lf q;replace b4:j5.hd=[]:=by rw[b4,k2];simp[Wt.lz,v]
 clear P q q1 r j0 w;show pY _ _ _ _ (.seq _ _) _ _ _;refine eM (abG (a:=Wt.qK) (a0:=[1]) (k:=5) (s:=27) (j:=28) (U:=8) A (by decide) A rfl rfl rfl ⟨_,A,A,A,A⟩ ⟨_,A,A,A,A⟩ ⟨_,A,A,A,A⟩ ⟨_,A,A,A,A⟩ (by decide) (by decide) (by simp) ⟨A,A,A,A,trivial⟩ A (by rfl) (by rfl) f9 t Z (by omega) (abI (by decide) A rfl rfl) (by unfold Rx;decide) λt0 g7 d4 d3 e0 o7 w P L=>⟨A,?_⟩);obtain⟨q1,l6,r,l9,m0⟩:=adf;obtain⟨l2,b7⟩:=P.ln;have q:=P.last;rw[xE,q1,r]at L;rw[xE,r]at q b7;obtain⟨p1,rfl⟩:=lf q;replace b7:e0.hd=[]:=by rw[b7,b4];simp[Wt.lz,l9]
 clear P q q1 r f9 w;have f5:c<=d3.heap.size:=by have:=L.at'.KY;have:=(XN.1 L.at'.ptr).1;omega
 show pY _ _ _ _ (.seq _ _) _ _ _;refine eM (ady d7 (t.keep L.ro) f5 λa0 B g8 r4 m7 k4 p9 n5 k0 j8 D e4=>⟨A,?_⟩);have g1:=L.step (A:=F) (own:=λ_=>False) (mU D.1 λg y _=>D.2 g y) (λ_ _ n=>n) (L.at'.old D.1 D.2) (λ_ n=>Xh n) λg y=>D.2 g (by have:=a6 g y;omega);have Y:∀s u,B=C ⟨s,u,F⟩->c<=s/\¬ya f2 h1 Wt.sK.tree e0 s/\d3.heap.size<=s:=λs u p=>⟨by have:=e4 s u p;omega,λn=>by have:=e4 s u p;have:=L.at'.WU n;omega,e4 s u p⟩;generalize c8:a0.length=d at n5;refine Mu ?_;show pY _ _ _ _ (.seq _ _) _ _ _;refine Mw (Mv aC (by decide) A adi.1 (λg a2=>(g.tmps.size=155/\g.defers=[]/\sX g [(5,pt f2 0),(6,pt k6 0),(7,pt g4 0),(8,pt g7 0),(9,.slice B d g8)])/\∃f4,f4.heap=m7.heap/\abB a0 B d f4 a2) (λa2 b3 _ _ _=>wp_mono (acb c8 (by omega) (abB.start (c:=g8) (k0.stay λa7 _=>by rw[b3]) j8)) λp g p2 n=>?_) (λg a2 n a8 i0=>?_) λp8 i5 n4=>⟨A,?_⟩)
 .cases p<;>first|exact⟨n.1,a2,b3,n.2⟩|exact n
 .obtain⟨_,f4,a5,n3⟩:=n;rw[<-a5];refine n3.kept.2 a8 λp=>?_;have:=(Y a8 0 p).1;have:=a6 a8 i0;omega
 obtain⟨⟨f0,hd,e7⟩,f4,a5,X⟩:=n4;have f8:Bc (λg=>B=C ⟨g,0,F⟩) F m7 i5:=mU (by rw[X.kept.1,a5];exact XS _) λg _ c8=>by rw[X.kept.2 g c8,a5]
 have j1:=g1.step f8 (λT c9 p=>by have:=(Y _ 0 p).2.2;have:=(L.bl T c9).1;omega) (g1.at'.vW f8 (λg y p=>(Y g 0 p).2.1 (y.elim Xh λn=>Xi n)) λ_ _ p=>by cases p) (λ_ n=>Xh n) λg y=>by rw[X.kept.2 g λp=>?_,a5];have:=(Y g 0 p).1;have:=a6 g y;omega
 have k1:∀s u,B=C ⟨s,u,F⟩->s<i5.heap.size:=λs u p=>by
  rcases X with⟨n,_⟩|⟨b,p5,p6,n,R,_⟩
  .rw[n]at p;cases p
  rw[n]at p;cases p;exact(XN.1 R).1
 have f6:adj c f2 h1 (a0.map ads) B Wt.sK e0 i5:=⟨by rw[<-c8]at X;exact X.fin,λs u p=>⟨k1 s u p,(Y s u p).1,(Y s u p).2.1⟩⟩
 have e9:∀U∈a0.map ads,uL U:=λU n=>by obtain⟨l7,c0,rfl⟩:=YB.1 n;have:=k4 l7 c0;exact⟨this.ak,this.kind,this.path,this.data,this.aE,this.flags⟩
 have h6:(a0.map ads).length=d:=by rw[ZU,c8]
 have h9:∀i3∈a0.map ads,abW i3:=λi3 n=>by
  have c0:=e9 i3 n;refine⟨?_,?_,?_,?_⟩
  .have:=c0.ak;omega
  .have:=c0.kind;omega
  .exact c0.path
  obtain⟨l7,_,rfl⟩:=YB.1 n;rfl
 generalize a0.map ads=m2 at f6 e9 h6 h9;refine bm _ (P:=λg=>pY _ _ _ _ _ _ g _) f0 hd e7 λr5=>?_;clear f0 hd e7 g1 L f8 X Y k1 k0 j8 D e4 a5 k4 f5;have H:=acf;show pY _ _ _ _ (.seq _ _) _ _ _;refine eM (abG (a:=Wt.qE Rm) (a0:=[]) (k:=5) (s:=41) (j:=42) (U:=11) A (by decide) A rfl rfl rfl ⟨_,A,A,A,A⟩ ⟨_,A,A,A,A⟩ ⟨_,A,A,A,A⟩ ⟨_,A,A,A,A⟩ (by decide) (by decide) (by simp) ⟨A,A,A,A,A,trivial⟩ A (by rfl) (by rfl) j1 t Z (by omega) (abI (by decide) A rfl rfl) (by unfold Rx;decide) λt1 b0 d4 s6 j7 r6 w P g2=>⟨A,?_⟩);obtain⟨q1,i1,r,v,c6⟩:=abO (y:=Wt.sK) (b:=Rm) (a:=aci) A (gW.2 (by rw[H.ak];decide));obtain⟨l3,b8⟩:=P.ln;have q:=P.last;have f7:=f6.one j9 w P;rw[xE,q1,r]at g2;rw[xE,r]at q b8;rw[xE,q1]at f7;obtain⟨m4,rfl⟩:=lf q;replace b8:j7.hd=e0.hd:=by rw[b8];simp[Wt.lz,v]
 clear P q q1 r v w f6 j1;replace H:=H.heard 3;show pY _ _ _ _ (.seq _ _) _ _ _;refine eM (abG (a:=Wt.qE Wt.pA) (a0:=[]) (k:=5) (s:=43) (j:=44) (U:=12) A (by decide) A rfl rfl rfl ⟨_,A,A,A,A⟩ ⟨_,A,A,A,A⟩ ⟨_,A,A,A,A⟩ ⟨_,A,A,A,A⟩ (by decide) (by decide) (by simp) ⟨A,A,A,A,A,A,trivial⟩ A (by rfl) (by rfl) g2 t Z (by omega) (abI (by decide) A rfl rfl) (by unfold Rx;decide) λt2 b1 d4 f3 m9 r7 w P x=>⟨A,?_⟩);obtain⟨q1,i2,r,v,c7⟩:=abO (y:=Wt.heard Wt.sK 3) (b:=Wt.pA) (a:=Wt.nA) A (gW.2 (by rw[H.ak];decide));obtain⟨l4,b9⟩:=P.ln;have q:=P.last;have a3:=f7.one j9 w P;rw[xE,q1,r]at x;rw[xE,r]at q b9;rw[xE,q1]at a3;obtain⟨m5,rfl⟩:=lf q;replace b9:m9.hd=j7.hd:=by rw[b9];simp[Wt.lz,v]
 clear P q q1 r v w f7 g2;replace H:=H.heard 3;have q0:YY (abN Wt.sB.tree) (abH Wt.sB.tree) (Wt.heard (Wt.heard Wt.sK 3) 3) []:=H;have c1:f3.cell? ⟨g4,3,F⟩=C (i64 0):=(x.bl (g4,iC l5 o8) (by simp)).2.2 3 _ (by show C (i64 l5.err)=_;rw[l8]);have c2:f3.cell? ⟨g7,3,F⟩=C (i64 0):=(x.bl (g7,iC l6 p1) (by simp)).2.2 3 _ (by show C (i64 l6.err)=_;rw[m0]);have c3:f3.cell? ⟨b0,6,F⟩=C (.bool J):=(x.bl (b0,iC i1 m4) (by simp)).2.2 6 _ (by show C (Xe.bool i1.found)=_;rw[c6.found];rfl);have c4:f3.cell? ⟨b1,6,F⟩=C (.bool J):=(x.bl (b1,iC i2 m5) (by simp)).2.2 6 _ (by show C (Xe.bool i2.found)=_;rw[c7.found];rfl);show pY _ _ _ _ (.seq _ _) _ _ _;refine eM (adl c1 c2 c3 c4 λq5 r8 h3=>⟨A,?_⟩);replace x:=x.eq h3;replace a3:=a3.eq h3;clear c1 c2 c3 c4 h3 v l8 l9 m0;show pY _ _ _ _ (.seq _ _) _ _ _;refine eM (adm h6 x.at' (t.keep x.ro) Z (by omega) a3.1 (by omega) e9 (λs u p=>(a3.2 s u p).2) λm8 q6 r9 P=>⟨A,?_⟩);have d9:=x.step P.vW (λT c9=>(x.bl T c9).2.1) P.at' P.own P.ro;obtain⟨k9,h4⟩:=P.ln;have a4:=abM m2 0 H (by omega) h9;rw[h6]at d9;rw[Zj]at a4;generalize Wt.handle (Wt.heard (Wt.heard Wt.sK 3) 3) 0 m2=d0 at d9 h4 a4;clear P x a3 H e9 h9;show pY _ _ _ _ (.seq _ _) _ _ _;refine eM (abG (a:=Wt.qE Rm) (a0:=[]) (k:=5) (s:=66) (j:=67) (U:=13) A (by decide) A rfl rfl rfl ⟨_,A,A,A,A⟩ ⟨_,A,A,A,A⟩ ⟨_,A,A,A,A⟩ ⟨_,A,A,A,A⟩ (by decide) (by decide) (by simp) ⟨A,A,A,A,trivial⟩ A (by rfl) (by rfl) d9 t Z (by omega) (abI (by decide) A rfl rfl) (by unfold Rx;decide) λs8 g5 d4 s0 j6 q7 w P g0=>⟨A,?_⟩);obtain⟨q1,o1,r,v,e5⟩:=abO (y:=d0.1) (b:=Rm) (a:=aci) A (gW.2 (by rw[a4.ak];decide));obtain⟨l0,b5⟩:=P.ln;have q:=P.last;rw[xE,q1,r]at g0;rw[xE,r]at q b5;obtain⟨o9,rfl⟩:=lf q;replace b5:j6.hd=m8.hd:=by rw[b5];simp[Wt.lz,v]
 clear P q q1 r v w d9;show pY _ _ _ _ (.seq _ _) _ _ _;refine eM (abG (a:=Wt.qE Wt.pA) (a0:=[]) (k:=5) (s:=68) (j:=69) (U:=14) A (by decide) A rfl rfl rfl ⟨_,A,A,A,A⟩ ⟨_,A,A,A,A⟩ ⟨_,A,A,A,A⟩ ⟨_,A,A,A,A⟩ (by decide) (by decide) (by simp) ⟨A,A,A,A,A,trivial⟩ A (by rfl) (by rfl) g0 t Z (by omega) (abI (by decide) A rfl rfl) (by unfold Rx;decide) λs9 g6 d4 s1 h2 q8 w P a9=>⟨A,?_⟩);obtain⟨q1,o2,r,v,e6⟩:=abO (y:=Wt.heard d0.1 3) (b:=Wt.pA) (a:=Wt.nA) A (gW.2 (by rw[(a4.heard 3).ak];decide));obtain⟨l1,b6⟩:=P.ln;have q:=P.last;rw[xE,q1,r]at a9;rw[xE,r]at q b6;obtain⟨p0,rfl⟩:=lf q;replace b6:h2.hd=j6.hd:=by rw[b6];simp[Wt.lz,v]
 clear P q q1 r v w g0;have h7:h2.li=j4.li:=by rw[l1,l0,k9,l4,l3,l2,k8]
 have h5:h2.hd=Wt.lz d0.2:=by rw[b6,b5,h4,b9,b8,b7,Zj]
 have W:=a9.at'.gI.hear (by rw[h7];exact k3);have e8:=a9.at'.ach;rw[h7,k7,h5]at W;rw[h5]at e8;clear k8 l2 l3 l4 k9 l0 l1 b4 b7 b8 b9 h4 b5 b6 k2 k3 k7 h7 h5;show pY _ _ _ _ (.seq (.region _ _ _) _) _ _ _;have i7:=Xl (And.intro a9 (And.intro W (And.intro e8 (And.intro c6 (And.intro c7 (And.intro e5 (And.intro e6 a4)))))));clear a9 W e8 c6 c7 e5 e6 a4;dsimp only[fq,sl,lk,Nat.reduceBEq,cond];refine eM (cl (by decide) (ks:=[]) A (by rfl) λs2 e1 _ _=>?_)
 go_wp2
 refine Sim.kp e1 ?_;show pY _ _ _ _ (.seq (.region _ _ _) _) _ _ _;refine eM (cl (by decide) (ks:=[]) A (by rfl) λm6 e2 _ _=>?_)
 go_wp2
 refine Sim.kp e2 ?_;obtain⟨Q,W,e8,c6,c7,e5,e6,i8⟩:=i7.out;replace Q:=Q.eq (e2.trans e1);replace W:=W.eq (e2.trans e1);refine bm [(6,pt k6 0),(11,pt b0 0),(12,pt b1 0),(13,pt g5 0),(14,pt g6 0),(15,Xd K (0:E)),(16,Xd K (0:E))] (P:=λg=>pY _ _ _ _ _ _ g _) A rfl ⟨A,A,A,A,A,A,A,trivial⟩ λq9=>?_;clear e1 e2 i7;have q2:c<=m6.heap.size:=by have:=Q.at'.KY;have:=(XN.1 Q.at'.ptr).1;omega
 show pY _ _ _ _ (.seq _ _) _ _ _;refine Mw (Mv aC (by decide) A adi.2 (kE 155 [(11,pt b0 0),(12,pt b1 0),(13,pt g5 0),(14,pt g6 0),(15,Xd K (Wt.cnt 1 (Wt.lz d0.2):E)),(16,Xd K (Wt.cnt 2 (Wt.lz d0.2):E))] m6) (λa2 b3 _ _ _=>wp_mono (acd (W.eq b3) (by omega) i8.all) λp g p2 n=>Jm b3 n) (λg a2 n a8 i0=>n.2.2 a8 (by have:=a6 a8 i0;omega)) λp7 s3 n2=>⟨A,?_⟩);obtain⟨⟨f0,hd,e7⟩,D⟩:=n2;refine bm _ (P:=λg=>pY _ _ _ _ _ _ g _) f0 hd e7 λr0=>?_;obtain⟨o3,o4,m1,o5⟩:=acT i8 c6 c7 e5 e6;have h0:=λ(j:E) a1 n=>D.cell ((Q.bl (b0,iC i1 m4) (by simp)).2.2 j a1 n);have j2:=λ(j:E) a1 n=>D.cell ((Q.bl (b1,iC i2 m5) (by simp)).2.2 j a1 n);have g9:=λ(j:E) a1 n=>D.cell ((Q.bl (g5,iC o1 o9) (by simp)).2.2 j a1 n);have j3:=λ(j:E) a1 n=>D.cell ((Q.bl (g6,iC o2 p0) (by simp)).2.2 j a1 n);show pY _ _ _ _ (.seq _ _) _ _ _;refine eM (adn (h0 6 _ A) (h0 7 _ A) (h0 9 _ A) (g9 6 _ A) (g9 7 _ A) (g9 9 _ A) o3 λq3 r1 s4 n6 n0=>⟨A,?_⟩);show pY _ _ _ _ (.seq _ _) _ _ _;refine eM (ado n6 o4 m1 λr2 s5 n1=>⟨A,?_⟩);have d6:=gy (n1.trans n0);exact adp (d6.cell (j3 7 _ A)) (d6.cell (j3 10 _ A)) (d6.cell (j2 7 _ A)) (d6.cell (j2 10 _ A)) m1 o5
end
end
variable{d:Xe}{P:Xy}{c:M}
def jb:Xe->Xe
 |.int .u8 _=>.tuple #[]
 |d=>d
def Rg:Obj->Obj
 |.cells a c d=>.cells (a.map jb) c (0,a.size)
 |b=>b
def xp(b:E):Prop:=0<b/\b<=7
instance:DecidablePred xp:=λb=>inferInstanceAs (Decidable (0<b/\b<=7))
def gL(q:M):M:={q with heap:=q.heap.mapIdx λb a=>if xp b then Rg a else a}
def yi:Ren:=λb a=>b=a/\xp b
def Ew(q:M):Prop:=∀b,xp b->∃a f c,q.heap[b]?=C (Xn a f c)/\0<a.size/\c.1=c.2/\∀g∈a.toList,∃d e,g=.int d e
section
theorem vQ:(gL q).heap.size=q.heap.size:=by simp[gL]
theorem jC(a:xp b):(gL q).heap[b]?=(q.heap[b]?).map Rg:=by simp only[gL,M_,XC a]
theorem SE(e:Ren){b:Xe}(d:∃a c,b=.int a c):an al e (jb b) b:=by obtain⟨a,c,rfl⟩:=d;cases a<;>first|exact .bS trivial|exact .int _ _
theorem MT{b:Xe}(f:∃a d,b=.int a d):(∀c,jb b≠.int .u8 c)/\aR (λ_=>False) (jb b):=by
 obtain⟨a,d,rfl⟩:=f;cases a
 all_goals refine⟨(λc e=>by cases e),?_⟩
 all_goals first|exact .int _ _|exact .bS
theorem JM(g:Ew q):aV al yi (gL q) q where
 inj:=λb m f n a h=>by rw[<-a.1,<-h.1]
 obj:=λb f a=>by
  obtain⟨rfl,a⟩:=a;obtain⟨o,l,p,c,_,i,k⟩:=g b a;refine⟨_,_,by rw[jC a,c];rfl,c,.cells l ⟨by simp,λr u v d e=>?_⟩ ?_⟩
  .rw[Yk,e]at d;cases d;exact SE _ (k _ (Yz.2 (Ys e)))
  exact Xh i
 os:=A
theorem Cq(g:Ew q):my al xp (gL q):=λb c=>by
 obtain⟨e,p,m,f,n,o,h⟩:=g b c;refine⟨_,by rw[jC c,f];rfl,?_⟩;refine⟨by simp,by simp_all,λ⟨i,k,a⟩=>?_⟩;rw[Yk]at a;cases d:e[i]? with
 |none=>simp_all
 |some l=>rw[d]at a;exact(MT (h l (Yz.2 (Ys d)))).1 k (YF a)
theorem Ur{a:Xe}(c:∀b,a≠.int .u8 b):jb a=a:=by simp[jb]
theorem Cr(f:xp b){a:Xk Xe}{c:Xq}{e:E×E}(d:q.heap[b]?=C (Xn a c e))(i:∀h∈a.toList,∀g,h≠.int .u8 g):(gL q).heap[b]?=C (Xn a c (0,a.size)):=by
 rw[jC f,d];show C (Obj.cells (a.map jb) c (0,a.size))=_;have:a.map jb=a:=by grind [Ur]
 rw[this]
theorem uZ:Base Sim.TP yi:=by
 have g:Sim.TP.globals.size=7:=by decide+kernel
 refine⟨λd e f=>⟨A,?_⟩,λb c a=>by rw[a.1]⟩
 grind [xp]
theorem Qe(e:Ew q):kF al xp (gL q):=Xi λb c g i a=>by obtain⟨f,k,h,d,_⟩:=e b c;rw[jC c,d]at a;cases a
theorem VL[Inhabited aM](D:Sim.Im=xp)(f:Ew q)(m:8<=q.heap.size):xv xp q.heap.size (gL q) where
 lt:=λb c=>by grind [xp]
 cl:=λb c=>by
  obtain⟨a,g,o,h,y,z,l⟩:=f b c;refine⟨a.map jb,g,(0,a.size),by rw[jC c,h];rfl,by simp_all,by simp,λs n i=>?_,λ⟨t,u,k⟩=>?_⟩
  .rw[Yk]at i;cases e:a[s]? with
   |none=>simp_all
   |some v=>rw[e]at i;cases i;exact pI (MT (l v (Yz.2 (Ys e)))).2 (λ_ f=>f.elim)
  rw[Yk]at k;cases e:a[t]? with
  |none=>simp_all
  |some n=>rw[e]at k;exact(MT (l n (Yz.2 (Ys e)))).1 u (YF k)
 wh:=λb c=>by obtain⟨a,g,o,h,_⟩:=f b c;rw[jC c,h];show C (Obj.cells (a.map jb) g (0,(a.map jb).size))=C (Obj.cells (a.map jb) g (0,a.size));simp
 gl:=λw d p=>by
  have m:TP.globals.size=7:=by rfl
  have r:=XZ p (ZZ m);rcases d with d|d
  .exact⟨d,r⟩
  rw[d];exact⟨by simp,by simp⟩
 rb:=λb c=>by simp_all
theorem Gt{a:Xr}{b:Xu}{k:Xg Item}{fn:Func}(h:a.kind=.normal)(hd:b.defers=[])(f:P.funcs[a.fn]?=C fn)
 (i:(results fn b.tmps).run P c=.ok d c)(e:(results fn b.tmps).events P c #[]=#[])(g:P.inits.idxOf? a.fn=F):
 stepG P J (Sim.rg {a.at b k with mode:=.returning} []) c=.ended (.done d) c #[]:=by
 simp[Sim.rg,stepG,unwind,doReturn,Frame.at,h,hd,f,i,e,g,seen,GStep.after]
theorem Ug(d:Ew q)(k:uQ q)(i:∃a,q.cell? ⟨1,0,F⟩=C (Xd K a))(p:8<=q.heap.size):(∃a,(gL q).cell? ⟨1,0,F⟩=C (Xd K a))/\uQ (gL q)/\4<(gL q).heap.size:=by
 obtain⟨a,n⟩:=i;have e:xp 1:=by decide
 have f:xp 4:=by decide
 refine⟨⟨a,?_⟩,k.stay ?_,by grind [vQ]⟩
 .obtain⟨b,g,h,c,_⟩:=d 1 e;have l:b[0]?=C (Xd K a):=by simp_all [M.cell?]
  have:(gL q).heap[1]?=C (Xn (b.map jb) g (0,b.size)):=by rw[jC e,c];rfl
  exact aa this 0 (by rw[Yk,l];rfl)
 obtain⟨b,g,h,c,_⟩:=d 4 f;rw[Cr f c λs o r m=>?_,c]
 .rfl
 simp_all [uQ,TabIs,M.var?,pQ]
end
end Go.Sv
namespace Go.Sv
open Go.MapKept Go.Proofs Go.RowKit Go.Lib Go.WideShapes Go.Sort Go.Sim Wt
open Go.ChangeShapes Go.ChangeAt
variable{h:M}{b:E}{c:Xe}{q:M}
section
variable{e:Type}{d:Xq×Xe->e}{base:E}{g:E->Xo}{f:Xo}{a:DataW e×Xg MemPlace}
theorem nl(e:DataW.trod d Tryz.prog h base g f b 3 [c]=C a):∃i,c=Xd K i/\(-2^63<=i/\i<2^63):=by
 cases b with
 |zero=>cases e
 |succ b=>have l:Tryz.prog.underlying 3=C (.int K):=A;unfold DataW.trod at e;rw[l]at e;cases c<;>simp at e;obtain⟨⟨rfl,k⟩,_⟩:=e;refine⟨_,A,?_⟩;simp[Lit.wf,IntKind.min,IntKind.max,IntKind.signed,IntKind.bits]at k;omega
theorem Oy(e:DataW.trod d Tryz.prog h base g f b 9 [c]=C a):∃i,c=.string i/\i.size<=maxLen:=by
 cases b with
 |zero=>cases e
 |succ b=>have k:Tryz.prog.underlying 9=C .string:=A;unfold DataW.trod at e;rw[k]at e;cases c<;>simp at e;exact⟨_,A,e.1⟩
theorem QG(e:DataW.trod d Tryz.prog h base g f b 4 [c]=C a):∃i,c=.bool i:=by
 cases b with
 |zero=>cases e
 |succ b=>have k:Tryz.prog.underlying 4=C .bool:=A;unfold DataW.trod at e;rw[k]at e;cases c<;>simp at e;exact⟨_,A⟩
theorem vV{n o p:Type}{m:o->Xp p}{l:n->o}:∀i:Xg n,(i.map l).mapM m=i.mapM λk=>m (l k)
 |[]=>rfl
 |k::i=>by simp only[YG,abh,vV i]
theorem KG{l:Xg Xe}(e:DataW.trod d Tryz.prog h base g f b 72 l=C a):∃m p k c i n Y,l=(Ou m p k c i n Y).toList/\fits m/\fits p/\fits k/\fits c/\fits i/\(n.size:Xj)<2^63:=by
 cases b with
 |zero=>cases e
 |succ b=>
  obtain⟨o,O,H⟩:∃o,Tryz.prog.underlying 72=C (.struct o)/\o.toList.map (λi=>(i.type,i.offset))=[(3,0),(3,1),(3,2),(3,3),(3,4),(9,5),(4,6)]:=⟨_,A,by decide+kernel⟩;have y:Tryz.prog.cellsOf 72=7:=by decide+kernel
  have w:Tryz.prog.cellsOf 3=1:=by decide+kernel
  have z:Tryz.prog.cellsOf 9=1:=by decide+kernel
  have x:Tryz.prog.cellsOf 4=1:=by decide+kernel
  unfold DataW.trod at e;rw[O]at e;simp only[y]at e;split at e
  .rename_i s;obtain⟨q,c1,c2,c3,c4,c5,r,rfl⟩:∃q c1 c2 c3 c4 c5 r,l=[q,c1,c2,c3,c4,c5,r]:=by
    iterate 7
     rcases l with _|⟨_,l⟩
     simp at s
    obtain rfl:l=[]:=YR.1 (by simpa using s);exact⟨_,_,_,_,_,_,_,A⟩
   obtain⟨a0,e,_⟩:=YE.1 e;have t:=vV (m:=λk=>DataW.trod d Tryz.prog h base g f b k.1 (List.take (Tryz.prog.cellsOf k.1) (List.drop k.2 [q,c1,c2,c3,c4,c5,r]))) (l:=λi:Field=>(i.type,i.offset)) o.toList;rw[H]at t;replace e:=t.trans e;simp only[abh,Xg.mapM_nil,w,z,x,Xg.drop_succ_cons,Xg.drop_zero,Xg.take_succ_cons,aa9,Xp.bind_eq_bind,Yb,Xp.pure_def]at e;obtain⟨a1,R,_,⟨a2,q1,_,⟨a3,S,_,⟨a4,T,_,⟨a5,U,_,⟨a6,W,_,⟨a7,X,_⟩,_⟩,_⟩,_⟩,_⟩,_⟩,_⟩:=e;obtain⟨m,rfl,v⟩:=nl R;obtain⟨p,rfl,L⟩:=nl q1;obtain⟨k,rfl,N⟩:=nl S;obtain⟨c,rfl,Q⟩:=nl T;obtain⟨i,rfl,D⟩:=nl U;obtain⟨n,rfl,hd⟩:=Oy W;obtain⟨u,rfl⟩:=QG X;exact⟨m,p,k,c,i,n,u,A,v,L,N,Q,D,by unfold maxLen at hd;omega⟩
  cases e
end
noncomputable def Rc(b:E):Xo:=match(((begin Tryz.prog (λ_ _=>0) default).world.heap[b]?).bind Obj.row?)with
 |some (zero,a)=>decide (0<zero.size)&&Tryz.prog.buildable a&&(match Tryz.prog.cellTypes Tryz.prog.depth a with
  |some c=>c.all λd=>match Tryz.prog.underlying d with
   |some (.int _)=>J
   |_=>Xf
  |none=>Xf)
 |none=>Xf
theorem Uk:(Rc 1&&Rc 2&&Rc 3&&Rc 4&&Rc 5&&Rc 6)=J:=by decide+kernel
noncomputable def WC:Xo:=match(begin Tryz.prog (λ_ _=>0) default).world.heap[7]? with
 |some (Obj.cells b _ c)=>decide (0<b.size)&&decide (c.1=c.2)&&b.all λa=>match a with
  |Xe.int _ _=>J
  |_=>Xf
 |_=>Xf
theorem VT:WC=J:=by decide+kernel
noncomputable def Ue:Xo:=match(((begin Tryz.prog (λ_ _=>0) default).world.heap[1]?).bind Obj.row?)with
 |some (zero,a)=>decide (zero.size=1)&&Tryz.prog.buildable a&&decide (Tryz.prog.cellTypes Tryz.prog.depth a=C [3])
 |none=>Xf
theorem Uf:Ue=J:=by decide+kernel
theorem Qf(w:q.ShapedOpen Tryz.prog):Ew q/\8<=q.heap.size/\∃n,q.cell? ⟨1,0,F⟩=C (Xd K n):=by
 have t:Tryz.prog.globals.size=7:=by decide+kernel
 have k:∀c,Rc c=J->c<7->∃h g i,q.heap[c]?=C (Xn h g i)/\0<h.size/\i.1=i.2/\∀a∈h.toList,∃S b,a=.int S b:=λc l p=>by
  unfold Rc at l;split at l
  .rename_i zero g z;simp only[Yg,YV]at l;obtain⟨⟨c0,a4⟩,Q⟩:=l;obtain⟨o,u,b2,y⟩:=w.1 c zero g (by rw[t];exact p) z;obtain⟨b9,r,b1,x⟩:=y a4;rw[r]at Q;refine⟨o,g,_,u,by omega,A,λa d=>?_⟩;obtain⟨b5,a6⟩:=Xg.getElem?_of_mem d;obtain⟨D,s,m⟩:=x b5 a (by rw[<-ZS];exact a6);have R:=Za.1 Q D (Yj s);split at R
   .rename_i S a7;unfold Cell.ok at m;rw[a7]at m;cases a<;>first|exact⟨_,_,rfl⟩|exact False.elim m
   cases R
  cases l
 have f:=VT;unfold WC at f;split at f
 .rename_i h g i H;simp only[Yg,YV]at f;have a9:=(XN.1 H).1;obtain⟨T,b7,v,L,N⟩:=w.2 7 (by rw[t];exact XS _) a9;have a8:M.looseAt (7-Tryz.prog.globals.size)=Xf:=by rw[t];rfl
  rw[a8]at N;have U:T=b7:=by simpa using N
  rw[H]at L;have W:T=.cells h g i:=U.trans (YF L).symm;rw[W]at v;have O:=Uk;simp only[Yg]at O;obtain⟨⟨⟨⟨⟨X,Y⟩,Z⟩,a0⟩,a1⟩,a2⟩:=O;refine⟨λe a3=>?_,by have:=(XN.1 v).1;omega,?_⟩
  .obtain⟨c6,c7⟩:=a3;rcases(by omega:e=1\/e=2\/e=3\/e=4\/e=5\/e=6\/e=7)with rfl|rfl|rfl|rfl|rfl|rfl|rfl
   .exact k 1 X (by decide)
   .exact k 2 Y (by decide)
   .exact k 3 Z (by decide)
   .exact k 4 a0 (by decide)
   .exact k 5 a1 (by decide)
   .exact k 6 a2 (by decide)
   refine⟨h,g,i,v,f.1.1,f.1.2,λa d=>?_⟩;have:=Xk.all_eq_true'.1 f.2 a (Yz.1 d);split at this
   .exact⟨_,_,A⟩
   cases this
  have c:=Uf;unfold Ue at c;split at c
  .rename_i zero b8 z;simp only[Yg,YV]at c;obtain⟨⟨c8,a5⟩,b3⟩:=c;obtain⟨o,u,b2,y⟩:=w.1 1 zero b8 (by rw[t];decide) z;obtain⟨b9,r,b1,x⟩:=y a5;rw[b3]at r;cases r;have p:0<o.size:=by omega
   obtain⟨D,s,m⟩:=x 0 o[0] (XP p);obtain rfl:D=3:=by have:([3]:Xg Xq)[0%([3]:Xg Xq).length]?=C 3:=A;rw[this]at s;exact(YF s).symm
   have b4:Tryz.prog.underlying 3=C (.int K):=A
   have b6:∀a,Cell.ok Tryz.prog q .any 0 3 a->∃n,a=Xd K n:=λa d=>by unfold Cell.ok at d;rw[b4]at d;cases a<;>first|(obtain⟨rfl,_⟩:=d;exact⟨_,A⟩)|exact False.elim d
   obtain⟨n,b0⟩:=b6 _ m;exact⟨n,aa u 0 (by rw[XP p,b0])⟩
  cases c
 cases f
theorem Bj(a c b:E):(⟨a,c,F⟩:Xw).add b=⟨a,c+b,F⟩:=by unfold Addr.add;split<;>simp_all
theorem Cv{d e:Type}{f:d->Xp e}:∀{c:Xg d}{b:Xg e},c.mapM f=C b->b.length=c.length
 |[],b,a=>by simp at a;subst a;rfl
 |h::c,b,a=>by simp only[abh,Xp.bind_eq_bind,Yb,Xp.pure_def,Yh]at a;obtain⟨i,k,l,g,rfl⟩:=a;simp[Cv g]
theorem EI{base:E}{e:Xw}{d:Xg Xe}(c:q.cells? base e b=C d):∀(j:E) a,d[j]?=C a->q.cell? (e.add j)=C a:=by
 unfold M.cells? at c;split at c
 .intro j a g;have k:d.length=b:=by
   have:=Cv c;simpa using this
  have i:j<b:=by rw[<-k];exact(YH.1 g).1
  obtain⟨l,f,h⟩:=Go.Lib.mapM_at c j j (by simp[i]);rw[g]at f;cases f;exact h
 cases c
theorem JL{e:Type}{d:Xq×Xe->e}{T:DataW e}{b2:Xg MemPlace}{S:E}(r:Xe.okWide Tryz.prog q .any S 22 c)(g:DataW.Trod d Tryz.prog q 0 (λ_=>J) J 22 c T b2):
 ∃b4 O b t x,@oT ⟨⟨q,xp⟩⟩ c b4 O b t x:=by
 obtain⟨c6,L⟩:=g;obtain⟨U,u⟩:∃U:Unit,Tryz.prog.underlying 22=C (.slice 72):=⟨(),A⟩;have a9:c.cells.toList=[c]:=by unfold Xe.okWide at r;rw[u]at r;unfold Cell.okWide at r;rw[u]at r;unfold Cell.ok at r;rw[u]at r;cases c<;>first|rfl|exact False.elim r
 rw[a9]at L;rcases Go.Deep.open_slice u L with⟨y,_⟩|⟨o,len,t,b1,b,b6,b7,y,c7,c8,a5,a7,_,H⟩
 .cases y;exact⟨Xm F 0 0,F,0,0,λ_=>#[],@oT.mk ⟨⟨q,xp⟩⟩ _ _ _ _ _ _ A (λb5=>.aO _ _) (by decide) λf p=>absurd p (aaV _)⟩
 cases y;have a4:Tryz.prog.cellsOf 72=7:=by decide+kernel
 rw[a4]at H;have c9:b1=t:=by rw[a7];rfl
 have cell:∀f,f<len->∃s,(∀j a,s[j]?=C a->q.cell? ((o.add (f*7)).add j)=C a)/\∃h l m n k i swa,s=(Ou h l m n k i swa).toList/\fits h/\fits l/\fits m/\fits n/\fits k/\(i.size:Xj)<2^63:=λf p=>by obtain⟨s,q1,b3⟩:=H f (by omega);exact⟨s,EI q1,KG b3⟩
 have spot:0<len->o.spot=F/\o.block<q.heap.size:=λa2=>by
  obtain⟨s,q1,h,l,m,n,k,i,swa,rfl,_⟩:=cell 0 a2;have g:=q1 0 _ A;rw[E.zero_mul]at g;have w:((o.add 0).add 0)=o:=by simp[Addr.add]
  rw[w]at g;unfold M.cell? at g;split at g
  .rename_i b9 d0 c0 a3;refine⟨?_,(XN.1 a3).1⟩;split at g
   .cases g
   rename_i a8;simpa using a8
  cases g
 have row:∀f,∃w:Xk Xe,f<len->∃v N h l m n k i swa,C o=C (⟨v,N,F⟩:Xw)/\v<q.heap.size/\w=Ou h l m n k i swa/\fits h/\fits l/\fits m/\fits n/\fits k/\(i.size:Xj)<2^63/\∀j a,(Ou h l m n k i swa)[j]?=C a->q.cell? ⟨v,N+f*7+j,F⟩=C a:=λf=>by
  by_cases p:f<len
  .obtain⟨s,q1,h,l,m,n,k,i,swa,rfl,W,X,Y,Z,a0,a1⟩:=cell f p;obtain⟨z,D⟩:=spot (by omega);obtain⟨Q,R,b8⟩:=o;simp only at z D;subst z;refine⟨Ou h l m n k i swa,λ_=>⟨Q,R,h,l,m,n,k,i,swa,A,D,A,W,X,Y,Z,a0,a1,λj a b0=>?_⟩⟩;have:=q1 j a (by rw[ZS];exact b0);rw[Bj,Bj]at this;exact this
  exact⟨#[],λg=>absurd g p⟩
 obtain⟨x,a6⟩:=Classical.axiomOfChoice row;exact⟨.tuple #[],C o,len,t,x,@oT.mk ⟨⟨q,xp⟩⟩ _ _ _ _ _ _ A (λb5=>.bS trivial) (by unfold maxLen at a5;omega) λf p=>a6 f p⟩
end Go.Sv
namespace Go.Sv
open Go.Proofs Go.RowKit Go.Lib Go.MapKept Go.WideShapes
open Go.Sim (aT aR bO Closed al an aw gP aV Ren my kS Base)
theorem adD(a:Xj)(b:Xe):#[Xd K a,b]++Array.replicate (Tryz.f4.ntmps-(#[Xd K a,b]).size) I=(fq 155 [(0,Xd K a),(1,b)] λ_=>I).tmps:=by kernel_rfl
section
variable{q:M}
theorem acU(d:Ew q)(O:uQ q)(S:∃h,q.cell? ⟨1,0,F⟩=C (Xd K h))(t:8<=q.heap.size){a:Xj}(L:-2^63<=a/\a<2^63){b k:Xe}{w:Xp Xw}{X z:E}{H:E->Xk Xe}(m:@oT ⟨⟨q,xp⟩⟩ b k w X z H):
 ∃n last i l v,runNT TP (n+1) (Go.Conc.solo (Go.Conc.G (Frame.enter TP 4 #[Xd K a,b] .normal) []) q) #[]=(.ended i l,v)/\runN TP n (Go.Conc.solo (Go.Conc.G (Frame.enter TP 4 #[Xd K a,b] .normal) []) q)=.next last/\step TP last=.ended i l/\
  Go.Conc.Good TP (λa0 e=>a0=.bool J/\(∀c,c<q.heap.size->e.heap[c]?=q.heap[c]?)/\q.heap.size<=e.heap.size/\e.os=q.os/\e.output=q.output) last i l v:=by
 letI:Inhabited Go.Sim.aM:=⟨⟨q,xp⟩⟩
 have W:Go.Sim.Im=xp:=A;have x:Go.Sim.Inv TP al xp yi (gL q):=⟨uZ,Cq d,Qe d⟩;have U:(∃h,(gL q).cell? ⟨1,0,F⟩=C (Xd K h))/\uQ (gL q)/\4<(gL q).heap.size:=Ug d O S t;refine Go.Sim.Gi (m:=yi) (d:=gL q) (h:=al) (f:=xp) ?_ (Go.Sim.LV uZ (JM d) (Cq d) (λy c f=>f.2) λy f=>f)
 have D:Frame.enter TP 4 #[Xd K a,b] .normal=(Go.Conc.base 4).at ⟨#[Xd K a,b]++Array.replicate (Tryz.f4.ntmps-(#[Xd K a,b]).size) I,[]⟩ [.code (Tryz.f4.body.getD .skip)]:=by rfl
 rw[D];refine acS (h:=λ_=>I) L m (VL W d t) U (by simp[vQ]) yi [] _ A x ?_ λa6 b9 a4 o b6 a2 a8 r Y=>?_
 .have Q:aw al yi #[Xd K a,k] #[Xd K a,b]:=by
   refine⟨A,λu b7 a1 g s=>?_⟩;rcases u with _|_|u
   .cases g;cases s;exact .int _ _
   .cases g;cases s;exact m.rel _
   simp at g
  refine⟨?_,⟨[],A,.nil⟩,λb1 b0=>?_⟩
  .rw[<-adD a k];exact Q.append (Go.Sim.aw.replicate _ Go.Sim.aY)
  simp_all
 obtain⟨rfl,hd,N⟩:=Y;intro b3;have T:o.defers=[]:=by obtain⟨a5,a7,p⟩:=r.defers;rw[hd]at p;cases p;simp_all
 have a9:o.tmps[4]?=C (.bool J):=by obtain⟨a1,q1,Z⟩:=r.tmps.get N;cases Z;exact q1
 refine Go.Sim.Pz A λe hrel jP=>⟨.bool J,Gt A T Tryz.func4 ?_ ?_ (by decide+kernel),A,?_⟩
 .simp_all [results]
 .simp[results]
 exact⟨λc R=>jP.heap c R,jP.size,jP.os,jP.out⟩
end
end Go.Sv
namespace Go.Proofs.YtfgpkeppjomkmaaGreatDoor
open Go.ChangeShapes Go.WideShapes Go.ChangeAt Go.RowKit Go.Conc
theorem Tryz.own:ownKnob Tryz.prog.godebug=F:=by kernel_rfl
theorem Tryz.laidOut:laidOutB Tryz.prog=J:=by kernel_rfl
theorem ab0(f:Os)(d3:f.Started)(H:Type)(c:Xq×Xe->H):
 ReturnsInLeavingWide jh.assume Tryz.checked f 4 .any (jh.pre c Tryz.prog Tryz.f4 (OpenSpec.ofChange Ex)) (Ex.post c Tryz.prog Tryz.f4 jh.apart jh.fresh jh.handsOn jh.again):=by
 refine returnsInLeavingWide_of_good (C:=Tryz.checked) Tryz.own d3 ?_ ?_
 .exact ChangeSpec.witness_shaped (enc:=c) (C:=Tryz.checked) (os:=f) (fn:=Tryz.f4) (s:=Ex) (conds:=[]) (apart:=Xf) (X:=λa _=>laidMetH Tryz.prog jh.laid a) Xf (M.laidAll Tryz.prog f jh.laid) #[Xd K 0,Xm F 0 0] 8 (M.laidAll_os _ _ _)
   (M.shaped_of_ZipB (by kernel_rfl) (by kernel_rfl)) (by kernel_rfl) (by kernel_rfl) (by kernel_rfl)
   (by exact laidMet_laidAll _ (by kernel_rfl) (by kernel_rfl))
 intro a tape b f5 b3 f7 a7 b1 f4;obtain⟨_,_,_,e8,a2,_,_,_,_,b6⟩:=a7;obtain rfl:=YF (a2.symm.trans Tryz.func4);obtain⟨⟨⟨e6,f0,e0,b8,f3⟩,l⟩,f8⟩:=b1;have h:=DataW.Whole.of_heap (w':=a.forCall tape b) (by rfl) b8;have t:laidMetH Tryz.prog jh.laid (a.forCall tape b):=laidMetH.of_heap (by rfl) l;have w:(a.forCall tape b).ShapedOpen Tryz.prog:=b3;have d:∀(j:E) y o,Tryz.f4.params[j]?=C y->b.args[j]?=C o->Xe.okWide Tryz.prog (a.forCall tape b) .any a.heap.size y o:=b6;generalize f2:a.forCall tape b=q at h t w d⊢
 generalize b.args=d9 at h d⊢
 have u:=h;obtain⟨f9,g1,T,W,rfl,_,_⟩:=h;have s:=T;rw[Tryz.params4]at s d;obtain⟨d4,z,e4,e5,g0,x,rfl,rfl,rfl,c8,q1⟩:=trodAll_two s;obtain⟨rfl,rfl⟩:=trodVars_none W;obtain⟨nums,b9,a6⟩:=Go.Sv.Qf w;have U:Go.Sv.uQ q:=by
  obtain⟨e9,n,r,O,c7,a3,f6,b7,hd⟩:=Go.Lib.laidMet.reads t (n:= "internal/strconv.uint64pow10") (d:=Rows.laid_internal_strconv_uint64pow10) (.tail _ (.tail _ (.head _)));obtain rfl:=(YF (Go.Sv.pQ.symm.trans a3)).symm;obtain rfl:n=386:=by
   have f1:(Tryz.prog.globals[4]?).map (·.type)=C 386:=by kernel_rfl
   simp_all
  obtain⟨g,e,b5,a1,X,Z⟩:∃g e,Tryz.prog.underlying 386=C (.array e g)/\Tryz.prog.underlying g=C (.int .u64)/\Tryz.prog.cellsOf g=1/\Tryz.prog.cellsOf 386=e:=⟨_,_,A,A,by kernel_rfl,A⟩;have a0:DataW.trod (λ_=>()) Tryz.prog q 0 (λ_=>J) Xf O 386 r.toList=C (Go.Lib.tabData .u64 Go.Lib.pow10Tab,c7):=hd;have Y:=Go.Lib.cells_of_tab b5 a1 X Z a0;show Go.Lib.TabIs _ _ _ _ _;unfold Go.Lib.TabIs;rw[show q.var? Go.Sim.TP "internal/strconv.uint64pow10"=C r from b7,<-Y]
 obtain⟨g3,d6,e,e1,e7,L⟩:=Go.Sv.JL (d 1 _ z A rfl) q1;have S:=q1;obtain⟨m,rfl,rfl,rfl,d5⟩:=open_int Tryz.underlying3 (d 0 _ d4 A rfl) c8;have R:-2^63<=m/\m<2^63:=by grind [Lit.wf,IntKind.min,IntKind.max,IntKind.signed,IntKind.bits]
 obtain⟨N,last,c6,i,n,c9,d0,d1,d2⟩:=Go.Sv.acU nums U a6 b9 R L;refine⟨N,last,c6,i,n,c9,d0,d1,d2.mono λo k=>?_⟩;obtain⟨rfl,a8,b4,a9,b0⟩:=k;have v:Below q.heap.size q {i with tape:=q.tape}:=⟨a9,A,b0,b4,λc0 a4=>a8 c0 a4⟩;have a5:∀p∈x,p.block<q.heap.size:=λp l=>u.lt p (by simp[l])
 have k:Ex.post c Tryz.prog Tryz.f4 jh.apart jh.fresh jh.handsOn jh.again q #[Xd K m,z] (.bool J) {i with tape:=q.tape}:=
  ⟨_,_,_,[],[]++x,[],u,trodAll_mk1 (shut_bool Tryz.underlying4 _),trodAll_mk2 (shut_int Tryz.underlying3 d5) (Below.trod Tryz.laidOut (by kernel_rfl) (of_decide_eq_true (by kernel_rfl)) S v a5),A,v.frame _,λQ=>by cases Q⟩
 have b2:=ChangeSpec.post_blind k;exact b2
end Go.Proofs.YtfgpkeppjomkmaaGreatDoor
namespace Go.Proofs.YtfgpkeppjomkmaaGreatDoor
open Go.ChangeShapes Go.WideShapes Go.ChangeAt Go.RowKit Go.Conc
theorem ab9:Rows.OnceSaid:=
 OpenClaim.holds_of_wide_leaving 4 Tryz.f4 A rfl rfl rfl rfl rfl rfl ⟨A,A,A,A,A⟩ A rfl rfl rfl rfl abR Tryz.func4 abZ ack aco
  (λc d a b _=>ab0 c d a b)
theorem ab1:jh.wfByText (OpenSpec.ofChange Ex)=J:=by kernel_rfl
theorem acm:jQ.mainIs=C (J,"4ca961c1605857c738903d8913d06c658404b6c38c60f97ea9f6d2ec8fdb8f47".toList):=by kernel_rfl
theorem aca:J=jQ.looks []:=by kernel_rfl
theorem acj:J=jh.goesBy jQ:=by kernel_rfl
theorem ace:([3,22].all λa=>!Tryz.prog.wantsStandIn a)=J:=by kernel_rfl
theorem onceCard:Rows.OnceCardSaid:=by
 have h:∀b fn,jQ.funcNamed jh.func=C b->jQ.funcs[b]?=C fn->J=jQ.looks []/\∀(j:E) a,fn.params[j]?=C a->jQ.wantsStandIn a=Xf:=λb fn f g=>by
  obtain rfl:=(YF (abR.symm.trans f)).symm;obtain rfl:=(YF (Tryz.func4.symm.trans g)).symm
  exact⟨aca,λj a i=>by
   rw[Tryz.params4]at i
   exact(show Tryz.prog.wantsStandIn a=Xf by grind [ace])⟩
 have d:Claim7.isSixth {stood:={row:=jh,standIns:=[],harness:=(J,"4ca961c1605857c738903d8913d06c658404b6c38c60f97ea9f6d2ec8fdb8f47"),looks:=J},kinds:=[]}=Xf:=A;exact⟨Claim7.tied_new_at .later [.data,.data,.data,.data,.pinned] J (Claim7.new_of_sixth ab9 (J,"4ca961c1605857c738903d8913d06c658404b6c38c60f97ea9f6d2ec8fdb8f47") J rfl ⟨A,A⟩ acm d h) ab1,(λk e=>by cases e),once_row_tie,(λc=>by cases c),acj⟩
end Go.Proofs.YtfgpkeppjomkmaaGreatDoor
