/- Proved here: parts of the proof of the claimed theorem, no conditions; the last text states it -/
import Derived.Test.YtfgpkeppjomkmaaGreatDoorR3
set_option linter.all false
set_option maxRecDepth 100000
set_option maxHeartbeats 16000000
open _root_ renaming rfl->A,Nat->E,Int->VB,List->VD,Array->VE,Bool->VI,if_neg->VK,Option->VL,congrArg->VU,if_pos->VV,ByteArray->VX
open Option renaming some->C,none->I
open Go renaming undef->F,World->K,Value->Vx,TypeId->VJ,Frame->VM,Goroutine->VO,Act->VQ,Sem->VR,Program->VS,Addr->VT,Trace->VY,Event->Wa,MapEntry->Wb,FuncId->Wc,Operand->Wd
open Bool renaming true->J,false->Vz
open Go.Lib renaming hid->VF
open Go.MemOp renaming ofEvents->VZ
open Go.Op renaming operands->We
open Go.MemAct renaming ofEvent->Wf
open Go.IntKind renaming i64->M
open Go.Value renaming int->Vy,slice->VG,pointer->VW
open Or renaming inl->VA,inr->VC
open Go.Obj renaming cells->VH
open Go.Ending renaming returned->VN
open Go.Item renaming inRegion->VP
namespace Go.Sim
open Go.Conc Go.Proofs Go.RowKit
open Go.ConcN (PermW PermW.app PermW.of fork_knows WgLive RelBy sumTo)
open Go.ConcR (KK wgBlock WgAt stA smA rd wr mk DC0)
variable{f:Set}{h:Ren}{m:Vx}{q:K}{l:E}{U:K}{R:Loc->dw}{b:VY}{j:E}{e:VS}{y:bT}{a:E}{c:VO}{w:E}{T:VE VO}{s:E}{O:VE Wa}{u:E}
section
variable[Inhabited aV]
inductive fg(d:E->Prop):Vx->Prop
 |bool (r:VI):fg d (.bool r)
 |int (t:IntKind) (l:VB):fg d (.int t l)
 |string (y:VX):fg d (.string y)
 |cH:fg d (VW I)
 |ptr {i:VT} (n:d i.block):fg d (VW (C i))
 |aP (l g:E):fg d (VG I l g)
 |slice {i:VT} (n:d i.block) (l g:E):fg d (VG (C i) l g)
 |iface (b:VJ) {m:Vx} (n:fg d m):fg d (.iface b m)
 |nilIface:fg d .nilIface
 |agg {g:VE Vx} (n:∀(a:E) p,g[a]?=C p->fg d p):fg d (.agg g)
theorem an.to{s:Set}{r:Ren}{n:E->Prop}(o:∀d e,n d->h d e->r d e){k:Vx}(v:fg n m)(c:an f h m k):an s r m k:=by
 induction v generalizing k with
 |bool e=>cases c;exact .bool _
 |int H l=>cases c;exact .int _ _
 |string y=>cases c;exact .string _
 |cH=>cases c;exact .cH
 |ptr g=>cases c with|ptr c=>exact .ptr ⟨o _ _ g c.1,c.2⟩
 |aP l t=>cases c;exact .aP _ _
 |slice g l t=>cases c with|slice c=>exact .slice ⟨o _ _ g c.1,c.2⟩ _ _
 |iface b _ i=>cases c with|iface _ c=>exact .iface b (i c)
 |nilIface=>cases c;exact .nilIface
 |agg D i=>cases c with|agg u x=>exact .agg u λa q z p w=>i a q p (x a q z p w)
structure PD where
 rc:E
 n:E
 τ:E->Vx
 sh:E->Prop
 mine:Loc->Prop
 bx:E
def Hf(a:PD)(q:K):Prop:=∃c b,q.heap[a.bx]?=C (VH #[.chan (C a.rc)] c b)
def iQ(e:VS)(a:PD)(f:Set)(l:E->Prop):E->Ren->K->VO->Prop
 |0,h,d,c=>c.status=.running/\mayWake e c=J/\∃b,b.status=.running/\
    (∀(q:K) i g y k m,q.heap[a.rc]?=C (.chan i g Vz y k m)->stepG e Vz c q=.go b (q.setChan a.rc i g J y k m) #[⟨.obj a.rc,Vz,J⟩,⟨.obj a.rc,J,J⟩])/\∃o,QuitsD e o 0 b
 |u+1,h,d,c=>c.status=.running/\∃n p,(∀q,aU f h d q->stepG e Vz c q=.comm c #[scase a.rc n p] J .send q #[])/\an f h (a.τ (a.n-(u+1))) n/\fg a.sh (a.τ (a.n-(u+1)))/\
   jl e f l (Hf a) (iQ e a f l u) h d (Go.Conc.served c F)
inductive aG where
 |lv (i:E)
 |pr (d:PD) (u:E) (g:Tr) (n:bT)
 |pb (d:PD) (u:E) (g:Tr) (n:bT) (c:VO) (p t:Vx)
 |pq (d:PD) (i:E)
 |wk (r:nj)
abbrev Ms:=E×E×Tr
def aG.ms:aG->Ms
 |.lv b=>(0,b,.leaf)
 |.pr _ u a _=>(2*u+2,0,a)
 |.pb _ u a _ _ _ _=>(2*u+3,0,a)
 |.pq _ b=>(1,b,.leaf)
 |.wk (.work u _ a _)=>(u+10,0,a)
 |.wk (.done c u _ _ _)=>(9-c,u,.leaf)
 |.wk (.quit b _ _ _)=>(1,b,.leaf)
def Ms.lt:Ms->Ms->Prop:=Prod.Lex Nat.lt (Prod.Lex Nat.lt Tr.lt)
theorem lex_wf{c d:Type}{b:c->c->Prop}{y:d->d->Prop}(f:WellFounded b)(g:WellFounded y):WellFounded (Prod.Lex b y):=⟨λ⟨e,a⟩=>Prod.lexAccessible (f.apply e) (λa=>g.apply a) a⟩
theorem Ms.wf:WellFounded Ms.lt:=lex_wf E.lt_wfRel.wf (lex_wf E.lt_wfRel.wf Tr.wf)
structure km(g:PD)(q:K)(R:Loc->dw)(y:bT)(n i:E)(r:VI)(d:VE Vx):Prop where
 heap:q.heap[g.rc]?=C (.chan 4 d r n i Vz)
 count:d.size+i=n
 room:d.size<=4
 own:R (.obj g.rc)=.sync
 msgs:∀(a:E) p,d[a]?=C p->an y.S y.β (g.τ (i+a)) p
def Told(b:VY)(R:Loc->dw)(a:E):Prop:=∀(c:E) d e,b[c]?=C d->d.g=a->d.act.touch?=C e->e.loc.isMemory=J->(R e.loc≠.sync\/b.heard c)->Knows b 0 c
def ky(b:VY)(R:Loc->dw)(a w:E):Prop:=∀(c:E) d e,b[c]?=C d->d.g=a->d.act.touch?=C e->e.loc.isMemory=J->(R e.loc≠.sync\/b.heard c)->Before b c w
def kr(b:PD)(d y:bT):Prop:=(∀a c,b.sh a->d.β a c->y.β a c)/\∀a,b.sh a->a<d.w.heap.size
structure tN(g:PD)(b:VY)(q:K)(R:Loc->dw)(a:E):Prop where
 JG:∀(p:E) n i,b[p]?=C n->n.g=a->n.act.touch?=C i->i.loc.isMemory=J->R i.loc≠.sync->R i.loc=.iG a\/g.mine i.loc
 ro:∀d,g.mine d->R d=.ro
 low:∀d,g.mine d->d.isMemory=J/\zr q.heap.size d
 kn:Hf g q
 JN:∀d,aA d g.bx->g.mine d
def uk(e:PD)(d:bT):Prop:=∀a b,d.β a b->d.ro a->∀c,aA c b->e.mine c
def cB(e:VS)(a:E)(c:VO)(q:K)(b:VY)(R:Loc->dw)(y:bT):aG->Prop
 |.lv l=>QuitsD e l (Deaf b a) c/\Told b R a
 |.pr d u g f=>c.status=.running/\u<=d.n/\(∃i h,km d q R y (d.n-u) i Vz h)/\aH e b q R a f/\Deaf b a=0/\(kr d f y/\tN d b q R a/\uk d f)/\xi e f.S f.ro (Hf d) (iQ e d f.S f.ro u) g f.β f.w c
 |.pb d u g f k m o=>u+1<=d.n/\c=parked k #[scase d.rc m o] .send/\k.status=.running/\(∃i h,km d q R y (d.n-(u+1)) i Vz h/\h.size=4)/\aH e b q R a f/\Deaf b a=0/\(kr d f y/\tN d b q R a/\uk d f)/\
   an y.S y.β (d.τ (d.n-(u+1))) m/\xi e f.S f.ro (Hf d) (iQ e d f.S f.ro u) g f.β f.w (Go.Conc.served k F)
 |.pq d l=>(∃i h,km d q R y d.n i J h)/\QuitsD e l (Deaf b a) c/\∃w,b.act? w=C (.close d.rc)/\b.heard w/\ky b R a w/\tN d b q R a
 |.wk n=>∃g,y.tag=C g/\ug g.D a n.cl/\CQ e g.D g.fin a c q b R n
def aG.cnt:aG->E
 |.wk a=>a.cnt
 |_=>0
def aG.lE:aG->E
 |.wk a=>a.lE
 |_=>0
def aG.vS:aG->E
 |.wk a=>a.vS
 |_=>0
inductive ef(d:dm)(g:E->aG)(l:E)(q:K):E->Prop
 |opn {m:E} (i:d.wt=0) (v:d.pend<=1) (n:∀j,0<j->j<l->(g j).lE=0) (p:WgAt d.D.ty d.D.Wg q (((m+d.pend:E):VB)*KK) 0):ef d g l q m
 |reg {m:E} (i:d.wt=1) (z:1<=m) (n:∀j,0<j->j<l->(g j).lE=0) (p:WgAt d.D.ty d.D.Wg q (m*KK+1) 0):ef d g l q m
 |last (a:E) (i:d.wt=1) (r:0<a) (t:a<l) (n:∀j,0<j->j<l->j≠a->(g j).lE=0) (x:(g a).lE=1) (p:WgAt d.D.ty d.D.Wg q (if(g a).vS<=4 then 1 else 0) 0):ef d g l q 0
 |fin (i:d.wt=1) (n:∀j,0<j->j<l->(g j).lE=0) (p:WgAt d.D.ty d.D.Wg q 0 1):ef d g l q 0
 |AE (i:d.wt=2) (n:∀j,0<j->j<l->(g j).lE=0) (p:WgAt d.D.ty d.D.Wg q 0 0):ef d g l q 0
def xk(b:Obj)(q:K)(a:E):Prop:=q.heap[a]?=C b
def Hd(b:WD)(q:K)(R:Loc->dw):Prop:=(∀c,b.g0=C c->q.os=c.os)/\∀a e,b.gh a e->(∀d,aA d a->R d=.ro)/\xk e q a
theorem xk.lt{c:Obj}{a:E}(b:xk c q a):a<q.heap.size:=by exact(Wh.1 b).1
theorem Hd.step{p:WD}{b k:VY}{q U:K}{R o:Loc->dw}{a:E}(r:Hd p q R)(n:jM b q U R o a k):Hd p U o:=by
 refine⟨λD H=>n.os.trans (r.1 D H),λg N L=>?_⟩;obtain⟨t,i⟩:=r.2 g N L;refine⟨λz v=>by rw[n.old z g v i.lt];exact t z v,?_⟩;have x:=t (.obj g) (VA A);rcases n.heap g i.lt with d|d|d|d
 .rw[x]at d;cases d
 .rcases d with d|d<;>(rw[x]at d;cases d)
 .exact d.trans i
 simp_all
structure dV(d:dm)(n:E->aG)(l:E)(q:K)(R:Loc->dw):Prop where
 zero:(n 0).cnt=0
 mode:ef d n l q (sumTo l λa=>(n a).cnt)
 qU:∀g,aA g d.D.Wg->R g=.sync
 yZ:R (.obj d.D.gb)=.void
 own:∀a p,0<a->a<l->n a=.wk p->∀i r,d.D.own a i->R (.cell ⟨d.D.gb,i,r⟩)=.iG a
 gb:tv d.D q
 gv:tz d.D q
 JP:R (.obj d.D.gv)=.ro
 ne:d.D.gb≠d.D.Wg
 apart:∀a j i,d.D.own a i->d.D.own j i->a=j
 xC:d.hi<d.lo+1000000
 bound:(sumTo l λa=>(n a).cnt)<=d.vb
 tu:0<d.lo/\d.lo<=d.hi/\d.hi=l/\∀a,d.lo<=a->a<d.hi->∃p,n a=.wk p
 Gs:∀a p,0<a->a<l->n a=.wk p->d.lo<=a/\a<d.hi
 gh:Hd d.D q R
 JO:∀g,aA g d.D.gb->g=.obj d.D.gb\/R g=.iG 0\/∃a i r,d.lo<=a/\a<d.hi/\g=.cell ⟨d.D.gb,i,r⟩/\d.D.own a i/\R g=.iG a
theorem ef.live{e:dm}{f:E->aG}{m:E}(c:ef e f l q m):WgLive e.D.ty e.D.Wg q:=by
 cases c with
 |opn c i d b=>exact⟨_,_,b⟩
 |reg c n d b=>exact⟨_,_,b⟩
 |last a c g h d k b=>exact⟨_,_,b⟩
 |fin c d b=>exact⟨_,_,b⟩
 |AE c d b=>exact⟨_,_,b⟩
theorem ef.same{e:dm}{i k:E->aG}{m:E}(b:ef e i l q m)(d:U.heap[e.D.Wg]?=q.heap[e.D.Wg]?)(r:∀a,(k a).lE=(i a).lE/\(k a).vS=(i a).vS):ef e k l U m:=by
 cases b with
 |opn b p h c=>exact .opn b p (λj f g=>by simp_all) (c.of_block d)
 |reg b s h c=>exact .reg b s (λj f g=>by simp_all) (c.of_block d)
 |last a b n o h u c=>exact .last a b n o (λj f g t=>by simp_all) (by simp_all) (by rw[(r a).2];exact c.of_block d)
 |fin b h c=>exact .fin b (λj f g=>by simp_all) (c.of_block d)
 |AE b h c=>exact .AE b (λj f g=>by simp_all) (c.of_block d)
theorem dV.pD{a:dm}{c:E->aG}(b:dV a c l q R):a.D.Wg<q.heap.size:=by obtain⟨d,e,b⟩:=b.mode.live;exact(Wh.1 (show q.heap[a.D.Wg]?=_ from b)).1
theorem dV.tA{a:dm}{c:E->aG}(b:dV a c l q R):a.D.gb<q.heap.size:=by
 obtain⟨d,e,b,_⟩:=b.gb
 grind
theorem dV.SX{a:dm}{c:E->aG}(b:dV a c l q R):a.D.gv<q.heap.size:=by
 obtain⟨d,e,b⟩:=b.gv
 grind
theorem Hf.step{g:PD}{b k:VY}{q U:K}{R o:Loc->dw}{a:E}(i:Hf g q)(r:jM b q U R o a k)(n:R (.obj g.bx)=.ro):Hf g U:=by
 obtain⟨t,p,i⟩:=i;rcases r.heap g.bx (Wh.1 i).1 with d|d|d|d
 .rw[n]at d;cases d
 .rcases d with d|d<;>(rw[n]at d;cases d)
 .exact⟨t,p,d.trans i⟩
 simp_all
theorem tz.step{g:WD}{b k:VY}{q U:K}{R o:Loc->dw}{a:E}(i:tz g q)(r:jM b q U R o a k)(n:R (.obj g.gv)=.ro):tz g U:=by
 obtain⟨t,p,i⟩:=i;rcases r.heap g.gv (Wh.1 i).1 with d|d|d|d
 .rw[n]at d;cases d
 .rcases d with d|d<;>(rw[n]at d;cases d)
 .exact⟨t,p,d.trans i⟩
 simp_all
theorem dV.keep{d:dm}{e f:E->aG}{k:VY}{o:Loc->dw}(c:dV d e l q R)(h:jM b q U R o j k)(D:U.heap[d.D.Wg]?=q.heap[d.D.Wg]?)(H:tv d.D q->tv d.D U)
 (p:∀a,(f a).cnt=(e a).cnt/\(f a).lE=(e a).lE/\(f a).vS=(e a).vS)(w:∀a g,f a=.wk g->∃i,e a=.wk i)(W:∀a g,e a=.wk g->∃i,f a=.wk i):dV d f l U o where
 zero:=by rw[(p 0).1];exact c.zero
 mode:=by have u:(λa=>(f a).cnt)=λa=>(e a).cnt:=funext λa=>(p a).1;rw[u];exact c.mode.same D λa=>(p a).2
 qU:=λn m=>by rw[h.old n _ m c.pD];exact c.qU n m
 yZ:=by rw[h.old _ _ (.inl A) c.tA];exact c.yZ
 own:=λa g z L r x y N=>by obtain⟨i,v⟩:=w a g r;rw[h.old (.cell ⟨d.D.gb,x,y⟩) d.D.gb (.inr ⟨_,A,A⟩) c.tA];exact c.own a i z L v x y N
 gb:=H c.gb
 gv:=c.gv.step h c.JP
 JP:=by rw[h.old _ _ (.inl A) c.SX];exact c.JP
 ne:=c.ne
 apart:=c.apart
 xC:=c.xC
 bound:=by have u:(λa=>(f a).cnt)=λa=>(e a).cnt:=funext λa=>(p a).1;rw[u];exact c.bound
 tu:=⟨c.tu.1,c.tu.2.1,c.tu.2.2.1,λa s t=>by obtain⟨g,r⟩:=c.tu.2.2.2 a s t;simp_all⟩
 Gs:=λa g s t r=>by obtain⟨i,v⟩:=w a g r;exact c.Gs a i s t v
 gh:=c.gh.step h
 JO:=λn m=>by rw[h.old n _ m c.tA];exact c.JO n m
theorem tv.same{a:WD}(d:tv a q)(g:U.heap[a.gb]?=q.heap[a.gb]?):tv a U:=by obtain⟨b,c,e,f⟩:=d;exact⟨b,c,g.trans e,f⟩
def aG.chan:aG->VL E
 |.lv _=>I
 |.pr a .. =>C a.rc
 |.pb a .. =>C a.rc
 |.pq a .. =>C a.rc
 |.wk _=>I
def aG.pd:aG->VL PD
 |.lv _=>I
 |.pr a .. =>C a
 |.pb a .. =>C a
 |.pq a .. =>C a
 |.wk _=>I
theorem aG.cC(a:aG):a.chan=a.pd.map (·.rc):=by cases a<;>rfl
def Ko(q:K)(b d:E):Prop:=∃c a cl e f,q.heap[b]?=C (.chan c a cl e d f)
section
variable{o:Loc->dw}{s':bT}{k:VY}
def iP(y s':bT):Prop:=s'.S=y.S/\y.β.le s'.β/\s'.tag=y.tag
theorem iP.refl(y:bT):iP y y:=⟨A,Ren.le_refl _,A⟩
theorem km.frame{d:PD}{i h:E}{f:VI}{e:VE Vx}(c:km d q R y i h f e)(l:jM b q U R o j k)(m:U.heap[d.rc]?=q.heap[d.rc]?)(g:iP y s'):km d U o s' i h f e where
 heap:=by rw[m];exact c.heap
 count:=c.count
 room:=c.room
 own:=by rw[l.old _ _ (.inl A) (Wh.1 c.heap).1];exact c.own
 msgs:=λa p n=>by rw[g.1];exact(c.msgs a p n).mono g.2.1
theorem Told.frame(G:cR b q R)(r:Told b R a)(i:jM b q U R o j k)(s:j≠a):Told (b++k) o a:=by
 intro m n d t f l c h;rcases Wp t with⟨w,u⟩|⟨_,v⟩
 .obtain⟨p,e⟩:=cM c;have g:=G.low m d (by simp_all [Xm]);rw[bj e]at g;rw[i.old _ p e g]at h;exact(r m n d u f l c (h.imp id (Yg w).1)).app k
 exact absurd ((i.touch n v d l c).1.symm.trans f) s
theorem ky.frame(G:cR b q R)(r:ky b R a w)(i:jM b q U R o j k)(s:j≠a):ky (b++k) o a w:=by
 intro m n d t f l c h;rcases Wp t with⟨x,u⟩|⟨_,v⟩
 .obtain⟨p,e⟩:=cM c;have g:=G.low m d (by simp_all [Xm]);rw[bj e]at g;rw[i.old _ p e g]at h;exact(r m n d u f l c (h.imp id (Yg x).1)).app k
 exact absurd ((i.touch n v d l c).1.symm.trans f) s
theorem Told.mine(G:cR b q R)(e:Told b R a)(r:∀c∈k,∀d,c.act.touch?=C d->False):Told (b++k) R a:=by
 intro o c d g f n l m;rcases Wp g with⟨i,h⟩|⟨_,p⟩
 .exact(e o c d h f n l (m.imp id (Yg i).1)).app k
 simp_all
theorem ky.mine(G:cR b q R)(e:ky b R a w)(r:∀c∈k,∀d,c.act.touch?=C d->False):ky (b++k) R a w:=by
 intro o c d g f n l m;rcases Wp g with⟨i,h⟩|⟨_,p⟩
 .exact(e o c d h f n l (m.imp id (Yg i).1)).app k
 simp_all
theorem tN.frame{l:PD}(G:cR b q R)(c:tN l b q R a)(h:jM b q U R o j k)(w:∀i∈k,i.g≠a):tN l (b++k) U o a where
 JG:=by
  intro s i t v u r n p;rcases Wp v with⟨y,m⟩|⟨_,x⟩
  .obtain⟨g,e⟩:=cM n;have d:=G.low s t (by rw[Xm m];exact r);rw[bj e]at d;rw[h.old _ g e d]at p⊢
   exact c.JG s i t m u r n p
  simp_all
 ro:=λf d=>by obtain⟨g,e⟩:=cM (c.low f d).1;have:=(c.low f d).2;rw[bj e]at this;rw[h.old _ g e this];exact c.ro f d
 low:=λf d=>⟨(c.low f d).1,by
  obtain⟨g,e⟩:=cM (c.low f d).1;have:=(c.low f d).2;rw[bj e]at this⊢
  exact Ws this h.size⟩
 kn:=c.kn.step h (c.ro _ (c.JN _ (VA A)))
 JN:=c.JN
theorem tN.own{l:PD}(G:cR b q R)(c:tN l b q R a)(i:jM b q U R o a k)(y:∀m∈k,∀e,m.act.touch?=C e->e.loc.isMemory=J->o e.loc≠.sync->o e.loc=.iG a\/l.mine e.loc):tN l (b++k) U o a where
 JG:=by
  intro t m e v u s p r;rcases Wp v with⟨x,n⟩|⟨_,w⟩
  .obtain⟨h,f⟩:=cM p;have d:=G.low t e (by rw[Xm n];exact s);rw[bj f]at d;rw[i.old _ h f d]at r⊢
   exact c.JG t m e n u s p r
  grind
 ro:=λg d=>by obtain⟨h,f⟩:=cM (c.low g d).1;have:=(c.low g d).2;rw[bj f]at this;rw[i.old _ h f this];exact c.ro g d
 low:=λg d=>⟨(c.low g d).1,by
  obtain⟨h,f⟩:=cM (c.low g d).1;have:=(c.low g d).2;rw[bj f]at this⊢
  exact Ws this i.size⟩
 kn:=c.kn.step i (c.ro _ (c.JN _ (VA A)))
 JN:=c.JN
theorem tN.Uj{f:PD}{d:bT}(G:cR b q R)(x:tN f b q R a)(s:uk f d)(k:aH e b q R a d){w:Ren}{n:K}{new u:VD Wa}(m:bD d.S d.β w d.w n q U new u)(O:∀c,d.ro c->n.heap[c]?=d.w.heap[c]?)
 (t:∀i∈new,i.write=J->∀c,d.ro c->i.loc≠.obj c/\∀o,i.loc=.cell o->o.block≠c)(D:Deaf b a=0)(fn:Wc)(v:String):
 tN f (b++VZ a fn v (kept u).toArray) U (dw.more R a q.heap.size U.heap.size) a/\uk f {d with β:=w,w:=n}:=by
 refine⟨x.own G (fu k m O t D fn v) λZ N o P L X=>?_,λc g y r Q H=>?_⟩
 .obtain⟨_,z⟩:=vR k m t N P;obtain⟨g,q1,a1,l⟩:=z L;rcases l with l|⟨a0,l|⟨_,_,_,c,S,T⟩⟩
  .grind [qo]
  .grind [qp]
  exact VC (s c g S T _ q1)
 rcases m.fresh c g y with p|⟨p,_⟩
 .exact s c g p r Q H
 obtain⟨Y,W,_⟩:=k.cY c r;simp_all
theorem kr.frame{a:PD}{c:bT}(b:kr a c y)(h:iP y s'):kr a c s':=⟨λd e f g=>h.2.1 _ _ (b.1 d e f g),b.2⟩
theorem kr.step{p:PD}{g:bT}(n:kr p g y){z:Ren}{x q U:K}{new H:VD Wa}(v:bD g.S g.β z g.w x q U new H):kr p {g with β:=z,w:=x} y:=by
 refine⟨λd r i D=>?_,λd i=>Ws (n.2 d i) v.size⟩;rcases v.fresh d r D with t|⟨t,_⟩
 .exact n.1 d r i t
 have:=n.2 d i;omega
theorem cB.frame(G:cR b q R){D:aG}(l:cB e a c q b R y D)(f:jM b q U R o j k)(t:j≠a)(hd:Deaf (b++k) a=Deaf b a)(g:iP y s')(N:∀H,D.chan=C H->U.heap[H]?=q.heap[H]?)(z:∀T∈k,T.g≠a)(S:∀h,y.tag=C h->ft h.D j q U):cB e a c U (b++k) o s' D:=by
 cases D with
 |wk a4=>obtain⟨h,m,n,i⟩:=l;exact⟨h,by rw[g.2.2];exact m,n,i.frame t f z hd (S h m) n⟩
 |lv W=>exact⟨by rw[hd];exact l.1,l.2.frame G f t⟩
 |pr O u h X=>obtain⟨m,n,⟨v,p,i⟩,L,r,d,s⟩:=l;exact⟨m,n,⟨v,p,i.frame f (N _ A) g⟩,L.other t f,by rw[hd];exact r,⟨d.1.frame g,d.2.1.frame G f z,d.2.2⟩,s⟩
 |pb O u h X Y a3 a5=>obtain⟨m,n,P,⟨v,p,i,Q⟩,L,r,d,s,x⟩:=l;exact⟨m,n,P,⟨v,p,i.frame f (N _ A) g,Q⟩,L.other t f,by rw[hd];exact r,⟨d.1.frame g,d.2.1.frame G f z,d.2.2⟩,by rw[g.1];exact s.mono g.2.1,x⟩
 |pq O W=>obtain⟨⟨v,p,i⟩,r,w,d,s,x⟩:=l;refine⟨⟨v,p,i.frame f (N _ A) g⟩,by rw[hd];exact r,w,?_,((Yg (YP d)).2 s),x.1.frame G f t,x.2.frame G f z⟩;rw[T_ (YP d)];exact d
theorem cB.woken{k:aG}(d:cB e a c q b R y k)(f g:VO)(p:∀h,k.chan=C h->U.heap[h]?=q.heap[h]?):woken e f g U c=c:=by
 cases k with
 |wk P=>obtain⟨m,o,n,i⟩:=d;exact i.woken f g
 |lv r=>exact woken_quitsD d.1
 |pr l u m s=>exact woken_run d.1
 |pb l u m s v O Q=>obtain⟨o,n,w,⟨N,t,i,x⟩,_⟩:=d;rw[n];exact woken_send_open f g (by rw[p _ A];exact i.heap)
 |pq l r=>exact woken_quitsD d.2.1
theorem cB.awake{k:aG}(d:cB e a c q b R y k):Go.Conc.awake c:=by
 cases k with
 |wk g=>obtain⟨i,p,r,l⟩:=d;rcases l.status with d|d<;>(intro g f;simp_all)
 |lv m=>rcases d.1.status with d|d<;>(intro g f;simp_all)
 |pr h u i n=>intro g f;rw[d.1]at f;cases f
 |pb h u i n o x z=>rw[d.2.1];intro g f;cases f
 |pq h m=>rcases d.2.1.status with d|d<;>(intro g f;simp_all)
structure bB(e:VS)(T:VE VO)(q:K)(b:VY)(R:Loc->dw)(y:bT)(d:E->aG):Prop where
 each:∀a c,0<a->T[a]?=C c->cB e a c q b R y (d a)
 one:∀a j n s,0<a->0<j->a<T.size->j<T.size->(d a).chan=C n->(d j).chan=C s->a=j
 above:∀j,T.size<=j->Deaf b j=0
 wg:∀g,y.tag=C g->dV g d T.size q R
 ops:∀(p:E) i,b[p]?=C i->i.g<T.size
def tE(b:E->aG)(l:E):VD Ms:=(VD.range l).map λa=>(b a).ms
theorem kU{d:E->aG}{e:aG}(g:a<l)(i:Ms.lt e.ms (d a).ms):dU Ms.lt (tE (λb=>if b=a then e else d b) l) (tE d l):=by
 have f:tE (λb=>if b=a then e else d b) l=(tE d l).set a e.ms:=by
  refine VD.ext_getElem? λb=>?_;unfold tE;rw[XI,List.getElem?_set,XI];by_cases h:b<l
  .rw[VD.getElem?_range h];by_cases c:a=b
   .subst c;simp[g]
   have:¬b=a:=λf=>c f.symm;simp[c,this]
  have:(VD.range l)[b]?=I:=by simp;omega
  rw[this];by_cases c:a=b
  .omega
  simp[c]
 simp_all [dU.set,tE]
theorem bB.jK{gs':VE VO}{x:E->aG}(G:cR b q R)(n:bB e T q b R y x)(b1:jM b q U R o j k)(a4:iP y s')(a5:gs'.size=T.size)(a7:∀d,d≠j->0<d->gs'[d]?=T[d]?)
 (hd:∀d,d≠j->Deaf (b++k) d=Deaf b d)(b2:∀d g,0<d->d<T.size->d≠j->(x d).chan=C g->U.heap[g]?=q.heap[g]?)(b6:j<T.size){r:aG}(b8:∀c,0<j->gs'[j]?=C c->cB e j c U (b++k) o s' r)
 (N:∀g,r.chan=C g->∃s,(x j).chan=C s)(a8:∀d,d≠j->0<d->∀a1∈k,a1.g≠d)(b0:∀i,y.tag=C i->ft i.D j q U)
 (b3:∀i,y.tag=C i->dV i (λd=>if d=j then r else x d) gs'.size U o):bB e gs' U (b++k) o s' (λd=>if d=j then r else x d) where
 wg:=λi a2=>b3 i (by rw[a4.2.2]at a2;exact a2)
 ops:=by
  intro d a1 a3;rw[a5];rcases Wp a3 with⟨_,a9⟩|⟨_,b7⟩
  .exact n.ops d a1 a9
  grind
 each:=by
  intro a c P Y;by_cases v:a=j
  .simp_all
  simp only[v,Wy];rw[a7 a v P]at Y;exact(n.each a c P Y).frame G b1 (λa6=>v a6.symm) (hd a v) a4 (λg N=>b2 a g P (Wh.1 Y).1 v N) (a8 a v P) b0
 one:=by
  intro z D g s W X H L p t;rw[a5]at H L;by_cases Z:z=j<;>by_cases a0:D=j
  .omega
  .subst Z;simp only[Wv]at p;simp only[a0,Wy]at t;obtain⟨Q,S⟩:=N g p;exact n.one z D Q s W X H L S t
  .subst a0;simp only[Wv]at t;simp only[Z,Wy]at p;obtain⟨Q,S⟩:=N s t;exact n.one z D g Q W X H L p S
  simp only[Z,Wy]at p;simp only[a0,Wy]at t;exact n.one z D g s W X H L p t
 above:=λd a3=>by rw[hd d (by omega)];exact n.above d (by omega)
theorem mB(g:∀c∈k,∀d,c.act.touch?=C d->False)(l:∀c∈k,∀h,c.act≠.mark (.release h)):jM b q q R R a k where
 norel:=l
 iU:=VA λc e d f _=>(g c e d f).elim
 size:=Wl _
 os:=A
 out:=A
 heap:=λi _=>VC (VC (VA A))
 old:=λ_ _ _ _=>rfl
 new:=λo i _ m n=>by omega
 touch:=λc e d f _=>(g c e d f).elim
theorem mI{d:VO->VO}{e:VO}(b:E)(g:b≠a)(f:∀c,T[b]?=C c->d c=c):((T.map d).setIfInBounds a e)[b]?=T[b]?:=by grind
theorem lJ{b:E}(a:QuitsD e b s c)(i:c.status=.running):∃f d O,b=f+1/\(∀h∈O,Wa.mute h=J)/\(∀g,stepG e Vz c g=.go d g O)/\QuitsD e f (deafBehind s O) d:=by
 cases b with
 |zero=>have:=a.1;simp_all
 |succ b=>
  rcases a with a|⟨_,d,O,k,l,m⟩
  .have:=a.1;rw[i]at this;cases this
  grind
def uy(e:VS)(c:VO):aG->Prop
 |.pr b u d a=>iQ e b a.S a.ro u a.β a.w c
 |_=>False
def QC(e:VS)(T:VE VO)(q:K)(r:VL (E×E))(b:VY)(R:Loc->dw)(y:bT)(g:E->aG)(a:E)(n:VO):Prop:=
 ∃m f U k o,runT e (crowd T q r) a=(.next (crowd f U r),k)/\Ms.lt (aG.ms m) (g a).ms/\f.size=T.size/\(∃h s,f[0]?=C (Go.Conc.woken e h s U n))/\bB e f U (b++k) o y (λp=>if p=a then m else g p)/\cR (b++k) U o/\aH e (b++k) U o 0 y/\Deaf (b++k) 0=Deaf b 0/\aG.pd m=(g a).pd/\(∀i d l,0<i->i<T.size->(g i).chan=C d->(U.heap[d]?=q.heap[d]?/\(Ko q d l->Ko U d l)))/\(∀c,y.tag=C c->(∃h,WgAt c.D.ty c.D.Wg q h 0)->(∃t,WgAt c.D.ty c.D.Wg U t 1)->f[0]?=C (n.again U))
theorem sY(a:E)(fn:Wc)(d:String)(O:VE Wa):∀b∈VZ a fn d O,b.g=a:=λb c=>by obtain⟨e,_,rfl⟩:=Go.Conc.mem_ofEvents c;rfl
theorem jC{f:VO}(g:∀a,y.tag=C a->U.heap[a.D.Wg]?=q.heap[a.D.Wg]?):∀a,y.tag=C a->(∃b,WgAt a.D.ty a.D.Wg q b 0)->(∃d,WgAt a.D.ty a.D.Wg U d 1)->mayWake e c=J/\f.status≠.blocked/\f.status≠.waiting:=by intro a h⟨b,i⟩⟨d,k⟩;have:=(i.of_block (g a h)).unique k;omega
theorem te{i:E->aG}{v h:VO}(t:VL (E×E))(w:bB e T q b R y i)(G:cR b q R)(a6:aH e b q R 0 y)(b7:T[0]?=C v)(c6:0<a)(z:T[a]?=C c)
 (a8:stepG e Vz c q=.go h U O)(s:jM b q U R o a (VZ a c.frame.fn c.frame.place O))(m:aG)(a3:Ms.lt m.ms (i a).ms)(c8:cB e a h U (b++VZ a c.frame.fn c.frame.place O) o y m)(H:m.pd=(i a).pd)
 (r:∀d g,0<d->d<T.size->(i d).chan=C g->U.heap[g]?=q.heap[g]?)(a7:∀f,y.tag=C f->ft f.D a q U)(a9:∀f,y.tag=C f->dV f (λd=>if d=a then m else i d) T.size U o)
 (c9:∀f,y.tag=C f->(∃N,WgAt f.D.ty f.D.Wg q N 0)->(∃Y,WgAt f.D.ty f.D.Wg U Y 1)->mayWake e c=J/\h.status≠.blocked/\h.status≠.waiting):QC e T q t b R y i a v:=by
 have a4:a<T.size:=(Wh.1 z).1;have a2:(a==0)=Vz:=by simp;omega
 have c7:¬a=0:=by omega
 have u:∀d,d≠a->Deaf (b++VZ a c.frame.fn c.frame.place O) d=Deaf b d:=λd k=>Yy b (g':=a) (λp=>k p.symm) _ (sY _ _ _ _);refine⟨m,_,U,_,o,Zj (P:=e) (sl:=t) (i:=a) z (by rw[a2];exact a8),a3,by simp,⟨c,h,?_⟩,?_,G.step s,a6.other (by omega) s,u 0 (by omega),H,λd g l q1 b1 b2=>⟨r d g q1 b1 b2,λ⟨P,Q,S,W,X,b4⟩=>⟨P,Q,S,W,X,by grind⟩⟩,λf x b8 b9=>?_⟩
 rotate_right
 .grind [Go.Conc.woken]
 .simp_all
 refine w.jK G s (iP.refl y) (by simp) (λd k D=>mI d k λb3 L=>(w.each d b3 D L).woken c h λg n=>r d g D (Wh.1 L).1 n) u (λd g Z a0 _ a1=>r d g Z a0 a1) a4 (λb6 _ c0=>?_) (λg n=>by rw[aG.cC,H,<-aG.cC]at n;exact⟨g,n⟩)
  (λd k _ b0 a5=>by rw[sY _ _ _ _ b0 a5];exactλp=>k p.symm) a7 (λf x=>by simpa using a9 f x)
 simp_all
theorem fD{p:E->aG}{x:aG}(W:bB e T q b R y p)(a1:jM b q U R o j k)(X:∀t,t<q.heap.size->(R (.obj t)=.sync\/R (.obj t)=.void)->(∀Q N cl L P s,q.heap[t]?≠C (.chan Q N cl L P s))->U.heap[t]?=q.heap[t]?)(a0:x.cnt=(p j).cnt/\x.lE=(p j).lE/\x.vS=(p j).vS)(Z:(∀r,x=.wk r->∃S,p j=.wk S)/\∀r,p j=.wk r->∃S,x=.wk S):
 (∀d,y.tag=C d->ft d.D j q U)/\∀d,y.tag=C d->dV d (λn=>if n=j then x else p n) T.size U o:=by
 have H:∀d,y.tag=C d->U.heap[d.D.Wg]?=q.heap[d.D.Wg]?/\U.heap[d.D.gb]?=q.heap[d.D.gb]?:=by
  intro d i;have v:=W.wg d i;refine⟨X _ v.pD (VA (v.qU _ (VA A))) λQ N cl L P s g=>?_,X _ v.tA (VC v.yZ) λQ N cl L P s g=>?_⟩
  .obtain⟨_,_,D⟩:=v.mode.live;have:q.heap[d.D.Wg]?=_:=D;rw[g]at this;cases this
  obtain⟨_,_,D,_⟩:=v.gb;rw[g]at D;cases D
 refine⟨λd i=>ft.same (H d i).1 (H d i).2,λd i=>(W.wg d i).keep a1 (H d i).1 (λY=>Y.same (H d i).2) (λn=>?_) (λn r g=>?_) λn r g=>?_⟩
 .by_cases z:n=j
  .subst z;simp only[Wv];exact a0
  simp only[z,Wy];simp
 .by_cases z:n=j
  .subst z;simp only[Wv]at g;exact Z.1 r g
  simp only[z,Wy]at g;exact⟨r,g⟩
 grind
theorem dX{fn:Wc}{f:String}(g:∀c∈O,∀b,c.loc≠.mark (.release b)):∀d∈VZ a fn f O,∀b,d.act≠.mark (.release b):=by
 intro d e b h;obtain⟨c,i,rfl⟩:=Go.Conc.mem_ofEvents e
 grind [fC]
theorem qs{a:Wa}(b:a.mute=J):a.loc=.mark .disable\/a.loc=.mark .enable:=by
 obtain⟨c,d,y⟩:=a;cases c with
 |mark u=>cases u<;>first|(cases b;done)|simp|simp
 |_=>cases b
theorem np{fn:Wc}{g:String}(i:∀c∈O,(Wf c).touch?=I)(f:∀c∈O,∀d,c.loc≠.mark (.release d)):jM b q q R R a (VZ a fn g O):=
 mB (λl e m k=>by
  obtain⟨c,h,rfl⟩:=Go.Conc.mem_ofEvents e
  simp_all) (dX f)
theorem yb{d:VT}{c f:E}(g:RelBy d b c f){fn:Wc}{e:String}(i:∀a∈O,(Wf a).touch?=I):RelBy d (b++VZ c fn e O) c f:=
 g.appOwn fn e O λj a h=>VA (i a (WN h))
theorem sV{a b:Ms}(c:a.1<b.1):Ms.lt a b:=by obtain⟨d,e⟩:=a;obtain⟨f,g⟩:=b;exact .left _ _ c
theorem yP{g:E->aG}{i:aG}(n:a<l):sumTo l (λd=>(if d=a then i else g d:aG).cnt)+(g a).cnt=sumTo l (λd=>(g d).cnt)+i.cnt:=
 Go.ConcN.sumTo_upd g i aG.cnt n
theorem dV.yO{b:dm}{c:E->aG}(e:dV b c l q R):sumTo l (λd=>(c d).cnt)<=b.hi-b.lo:=by
 have one:∀a,a<l->(c a).cnt<=if b.lo<=a/\a<b.hi then 1 else 0:=by
  intro a k;rcases WA a with rfl|h
  .rw[e.zero];exact Xg _
  have f:=e.Gs a;generalize c a=n at f;cases n with
  |wk g=>rw[VV (f g h k A)];cases g<;>simp only[aG.cnt,nj.cnt]<;>(try split)<;>omega
  |_=>simp[aG.cnt]
 have r:∀j,j<=l->sumTo j (λd=>(c d).cnt)<=min j b.hi-b.lo:=by
  intro j
  induction j with
  |zero=>intro _;simp[sumTo]
  |succ j m=>intro p;have o:=m (by omega);have i:=one j (by omega);simp only[sumTo];split at i<;>omega
 grind
theorem yO(b:E->aG)(l:E):sumTo l (λa=>(b a).cnt)<=l:=by
 have:=Go.ConcN.sumTo_le (f:=λa=>(b a).cnt) (c:=1) (j:=l) λa _=>by
  show(b a).cnt<=1;generalize b a=c;cases c with
  |wk d=>cases d<;>simp only[aG.cnt,nj.cnt]<;>(try split)<;>omega
  |_=>simp[aG.cnt]
 omega
theorem QK{f:dm}{x:E->aG}{u:E}{fn:Wc}{w:String}(g:dV f x l q R)(o:∀c∈O,(Wf c).touch?=I\/∃d wr,c=⟨.cell d,wr,J⟩/\d.block=f.D.Wg)(t:∀c∈O,∀p,c.loc≠.mark (.release p)):
 jM b q (q.setCell ⟨f.D.Wg,u,I⟩ m) R R a (VZ a fn w O) where
 size:=by simp
 os:=A
 out:=A
 heap:=λn D=>by
  by_cases r:n=f.D.Wg
  .subst r;exact VC (VA (VA (g.qU _ (VA A))))
  grind [Go.RowKit.Below.heap_setCell]
 old:=λ_ _ _ _=>rfl
 new:=λH n _ e z=>by grind [World.size_setCell]
 touch:=λv k y h s=>by
  obtain⟨c,i,rfl⟩:=Go.Conc.mem_ofEvents k;rcases o c i with e|⟨d,wr,rfl,e⟩
  .simp_all
  simp[Wf,MemAct.touch?]at h;subst h;refine⟨A,f.D.Wg,VC ⟨d,A,e⟩,by rw[K.size_setCell];exact g.pD,VC ⟨g.pD,VC (VC ⟨g.qU _ (VC ⟨d,A,e⟩),VA A⟩)⟩⟩
 norel:=dX t
 iU:=VA λv k y h s=>by
  obtain⟨c,i,rfl⟩:=Go.Conc.mem_ofEvents k;rcases o c i with e|⟨d,wr,rfl,e⟩
  .simp_all
  simp[Wf,MemAct.touch?]at h;subst h;exact g.qU _ (VC ⟨d,A,e⟩)
theorem Ag{d:dm}{f:E->aG}{i:aG}{p w:nj}(b:dV d f l q R)(a4:0<a)(s:f a=.wk p)(P:i=.wk w)(a2:ft d.D a q U)(D:tv d.D U)(L:tz d.D U)(k:∀e g,aA e g->g<q.heap.size->o e=R e)(H:Hd d.D U o)(O:ef d (λc=>if c=a then i else f c) l U (sumTo l λc=>(if c=a then i else f c:aG).cnt))(N:a<l)(a3:w.cnt<=p.cnt):dV d (λc=>if c=a then i else f c) l U o where
 zero:=by have:¬0=a:=by omega
          simp only[this,Wy];exact b.zero
 mode:=O
 qU:=λe m=>by rw[k e _ m b.pD];exact b.qU e m
 yZ:=by rw[k _ _ (.inl A) b.tA];exact b.yZ
 own:=λc v x y n t u z=>by
  rw[k (.cell ⟨d.D.gb,t,u⟩) d.D.gb (.inr ⟨_,A,A⟩) b.tA];by_cases h:c=a
  .subst h;exact b.own c p x y s t u z
  simp only[h,Wy]at n;exact b.own c v x y n t u z
 gb:=D
 gv:=L
 JP:=by rw[k _ _ (.inl A) b.SX];exact b.JP
 ne:=b.ne
 apart:=b.apart
 xC:=b.xC
 bound:=by
  have Y:=yP (g:=f) (i:=i) N;have Z:i.cnt=w.cnt:=by rw[P];rfl
  have a0:(f a).cnt=p.cnt:=by rw[s];rfl
  have a1:=b.bound;omega
 tu:=⟨b.tu.1,b.tu.2.1,b.tu.2.2.1,λc r g=>by
  by_cases h:c=a
  .simp_all
  simp only[h,Wy];exact b.tu.2.2.2 c r g⟩
 Gs:=λc v r g n=>by
  by_cases h:c=a
  .subst h;exact b.Gs c p r g s
  simp only[h,Wy]at n;exact b.Gs c v r g n
 gh:=H
 JO:=λe m=>by rw[k e _ m b.tA];exact b.JO e m
theorem zY{d:dm}{t:E->aG}(g:dV d t l q R){i:E}(r:WgLive d.D.ty d.D.Wg (q.setCell ⟨d.D.Wg,i,I⟩ m)):ft d.D a q (q.setCell ⟨d.D.Wg,i,I⟩ m)/\tv d.D (q.setCell ⟨d.D.Wg,i,I⟩ m):=
 ⟨⟨λ_=>r,λn x v p=>⟨n,(Go.RowKit.Below.heap_setCell q _ m _ g.ne).trans p,A,λ_ _ _ _=>rfl⟩⟩,g.gb.same (Go.RowKit.Below.heap_setCell q _ m _ g.ne)⟩
theorem nI{a:dm}{e:E->aG}(c:dV a e l q R){d:E}{cl:bE}(b:di a.D f h cl q):di a.D f h cl (q.setCell ⟨a.D.Wg,d,I⟩ m):=b.same (Go.RowKit.Below.heap_setCell q _ m _ c.ne)
theorem Jx{c:dm}{t:E->aG}{n:bT}(p:dV c t l q R)(h:aH e b q R a n){i:E}(s:jM b q (q.setCell ⟨c.D.Wg,i,I⟩ m) R R a k):aH e (b++k) (q.setCell ⟨c.D.Wg,i,I⟩ m) R a n:=
 h.stay s λo g r=>Go.RowKit.Below.heap_setCell q _ m g λd=>by have d:g=c.D.Wg:=d;subst d;rcases h.dv o _ r _ (VA A)with f|⟨f,_⟩<;>(rw[p.qU _ (.inl A)]at f;cases f)
theorem PC{m:E->aG}{n:VO}{d:dm}{t g:E}{cl:bE}{i:bT}(v:VL (E×E))(o:bB e T q b R y m)(G:cR b q R)(X:aH e b q R 0 y)(w:T[0]?=C n)(Q:0<a)(P:T[a]?=C c)(W:c.status=.running)
 (h:m a=.wk (.quit t g cl i))(N:y.tag=C d)(U:ug d.D a cl)(S:CQ e d.D d.fin a c q b R (.quit t g cl i)):QC e T q v b R y m a n:=by
 obtain⟨x,z,D,H,L⟩:=S;obtain⟨u,a3,O,rfl,q1,a0,a4⟩:=lJ L W;have s:∀f∈O,(Wf f).touch?=I:=λf k=>touch_mute (q1 f k)
 have l:jM b q q R R a (VZ a c.frame.fn c.frame.place O):=np s λf k a2 p=>by rcases qs (q1 f k)with r|r<;>(rw[r]at p;cases p)
 obtain⟨Y,Z⟩:=fD (x:=.wk (.quit u g cl i)) o l (λ_ _ _ _=>rfl) (by rw[h];exact⟨A,A,A⟩) ⟨λa1 _=>⟨_,h⟩,λa1 _=>⟨_,A⟩⟩;refine te v o G X w Q P (a0 q) l (.wk (.quit u g cl i)) (by rw[h];exact .right _ (.left _ _ (Yd _))) ⟨d,N,U,yb x s,z.stay l λ_ _ _=>rfl,D,H,?_⟩ (by rw[h];rfl) (λ_ _ _ _ _=>rfl) Y Z (jC λ_ _=>rfl);simp_all [Yt]
theorem GX{p:E->aG}{c9:VO}{d:dm}{r S:E}{cl:bE}{Q:bT}(c8:VL (E×E))(z:bB e T q b R y p)(G:cR b q R)(h9:aH e b q R 0 y)(g8:T[0]?=C c9)(a2:0<a)(f4:T[a]?=C c)(m4:c.status=.running){a7:nj}
 (b5:p a=.wk a7)(j7:9-r<(p a).ms.1\/a7=.done r u S cl Q)(H:a7.cnt=(nj.done r u S cl Q).cnt/\a7.lE=(nj.done r u S cl Q).lE/\a7.vS=(nj.done r u S cl Q).vS)(d0:y.tag=C d)(h7:ug d.D a cl)(k0:CQ e d.D d.fin a c q b R (.done r u S cl Q)):QC e T q c8 b R y p a c9:=by
 have a3:=(Wh.1 f4).1;have D:=z.wg d d0;obtain⟨j4,b0,hrel,i0,c0,c6,d4⟩:=k0
 have h6:∀n:Ms,n.1<9-r\/(n.1=9-r/\n.2.1<u)->Ms.lt n (p a).ms:=by
  intro n d5;rcases j7 with a8|a8
  .exact sV (by rcases d5 with z|⟨z,_⟩<;>omega)
  rw[b5,a8];obtain⟨i6,i7,i8⟩:=n;rcases d5 with z|⟨z,g7⟩
  .exact .left _ _ z
  simp only at z g7;subst z;exact .right _ (.left _ _ g7)
 have e6:∀(t:nj)(b7:VO)(O:VE Wa),stepG e Vz c q=.go b7 q O->(∀g∈O,(Wf g).touch?=I\/∃N wr,g=⟨.cell N,wr,J⟩/\N.block=d.D.Wg)->(∀g∈O,∀n,g.loc≠.mark (.release n))->
  ((aG.wk t).ms.1<9-r\/((aG.wk t).ms.1=9-r/\(aG.wk t).ms.2.1<u))->t.cl=cl->t.cnt<=a7.cnt->ef d (λj=>if j=a then .wk t else p j) T.size q (sumTo T.size λj=>(if j=a then .wk t else p j:aG).cnt)->
  (∀(k:VY),k=VZ a c.frame.fn c.frame.place O->aH e (b++k) q R a Q->CQ e d.D d.fin a b7 q (b++k) R t)->QC e T q c8 b R y p a c9:=by
  intro t b7 O X a5 f5 d5 g1 f3 e2 g0
  have d2:jM b q q R R a (VZ a c.frame.fn c.frame.place O):=by
   refine⟨Wl _,A,λv _=>VC (VC (VA A)),λ_ _ _ _=>rfl,λm5 v _ x a8=>by omega,λl0 f6 l3 b8 b3=>?_,dX f5,VA λl0 f6 l3 b8 b3=>?_,A⟩
   rotate_left
   .obtain⟨g,i,rfl⟩:=Go.Conc.mem_ofEvents f6;rcases a5 g i with x|⟨N,wr,rfl,x⟩
    .rw[x]at b8;cases b8
    simp[Wf,MemAct.touch?]at b8;subst b8;exact D.qU _ (VC ⟨N,A,x⟩)
   obtain⟨g,i,rfl⟩:=Go.Conc.mem_ofEvents f6;rcases a5 g i with x|⟨N,wr,rfl,x⟩
   .rw[x]at b8;cases b8
   simp[Wf,MemAct.touch?]at b8;subst b8;exact⟨A,d.D.Wg,VC ⟨N,A,x⟩,D.pD,VC ⟨D.pD,VC (VC ⟨D.qU _ (VC ⟨N,A,x⟩),VA A⟩)⟩⟩
  refine te c8 z G h9 g8 a2 f4 X d2 (.wk t) (h6 _ d5) ⟨d,d0,by rw[g1];exact h7,g0 _ A (i0.stay d2 λ_ _ _=>rfl)⟩ (by rw[b5];rfl) (λ_ _ _ _ _=>rfl) (λe0 a9=>ft.same A rfl) (λe0 a9=>?_) (jC λ_ _=>rfl);rw[d0]at a9;cases a9;exact Ag D a2 b5 A (ft.same A rfl) D.gb D.gv (λ_ _ _ _=>rfl) D.gh e2 a3 f3
 have jK:∀(t:nj)(b7:VO)(O:VE Wa)(b9:E)(m:Vx),stepG e Vz c q=.go b7 (q.setCell ⟨d.D.Wg,b9,I⟩ m) O->(∀g∈O,(Wf g).touch?=I\/∃N wr,g=⟨.cell N,wr,J⟩/\N.block=d.D.Wg)->(∀g∈O,∀n,g.loc≠.mark (.release n))->
  (aG.wk t).ms.1<9-r->((∃v,WgAt d.D.ty d.D.Wg (q.setCell ⟨d.D.Wg,b9,I⟩ m) v 0)\/(mayWake e c=J/\b7.status≠.blocked/\b7.status≠.waiting))->t.cl=cl->t.cnt<=a7.cnt->ef d (λj=>if j=a then .wk t else p j) T.size (q.setCell ⟨d.D.Wg,b9,I⟩ m) (sumTo T.size λj=>(if j=a then .wk t else p j:aG).cnt)->
  (∀(k:VY),k=VZ a c.frame.fn c.frame.place O->aH e (b++k) (q.setCell ⟨d.D.Wg,b9,I⟩ m) R a Q->CQ e d.D d.fin a b7 (q.setCell ⟨d.D.Wg,b9,I⟩ m) (b++k) R t)->QC e T q c8 b R y p a c9:=by
  intro t b7 O b9 m X a5 f5 d5 f7 g1 f3 e2 g0;have d2:jM b q (q.setCell ⟨d.D.Wg,b9,I⟩ m) R R a (VZ a c.frame.fn c.frame.place O):=QK D a5 f5;obtain⟨i4,l2⟩:=zY (a:=a) (i:=b9) (m:=m) D e2.live
  refine te c8 z G h9 g8 a2 f4 X d2 (.wk t) (h6 _ (VA d5)) ⟨d,d0,by rw[g1];exact h7,g0 _ A (Jx D i0 d2)⟩ (by rw[b5];rfl) (λj L P j2 d1=>Go.RowKit.Below.heap_setCell q _ m L λg=>?_) (λe0 a9=>by rw[d0]at a9;cases a9;exact i4) (λe0 a9=>?_) (λe0 a9 _⟨v,j0⟩=>by
   rw[d0]at a9;cases a9;rcases f7 with⟨L,d1⟩|f7
   .have:=(d1.unique j0).2;omega
   exact f7)
  .have g:L=d.D.Wg:=g;subst g;rw[aG.cC]at d1;cases b4:(p j).pd with
   |none=>rw[b4]at d1;cases d1
   |some g3=>
    rw[b4]at d1;obtain⟨_,_,k6⟩:=D.mode.live;have e5:q.heap[d.D.Wg]?=_:=k6;have e3:=z.each j _ P (Wj j2)
    have:∃n v L s g d6,q.heap[g3.rc]?=C (.chan n v L s g d6):=by
     generalize p j=l1 at e3 b4;cases l1 with
     |lv c7=>cases b4
     |wk t=>cases b4
     |pr g4 u d Q=>cases b4;obtain⟨_,_,⟨i3,g5,a0⟩,_⟩:=e3;exact⟨_,_,_,_,_,_,a0.heap⟩
     |pb g4 u d Q l7 n0 n2=>cases b4;obtain⟨_,_,_,⟨i3,g5,a0,_⟩,_⟩:=e3;exact⟨_,_,_,_,_,_,a0.heap⟩
     |pq g4 c7=>cases b4;obtain⟨⟨i3,g5,a0⟩,_⟩:=e3;exact⟨_,_,_,_,_,_,a0.heap⟩
    obtain⟨i6,i7,i8,l4,l5,l6,a0⟩:=this;have j1:g3.rc=d.D.Wg:=Xa d1;rw[j1,e5]at a0;cases a0
  rw[d0]at a9;cases a9;exact Ag D a2 b5 A i4 l2 (D.gv.step d2 D.JP) (λ_ _ _ _=>rfl) (D.gh.step d2) e2 a3 f3
 have same:∀(t:nj),t.cnt=a7.cnt->t.lE=a7.lE->t.vS=a7.vS->ef d (λj=>if j=a then .wk t else p j) T.size q (sumTo T.size λj=>(if j=a then .wk t else p j:aG).cnt):=by
  intro t x a8 a0
  have e9:(λj=>(if j=a then .wk t else p j:aG).cnt)=λj=>(p j).cnt:=by
   funext j;by_cases P:j=a
   .subst P;simp only[Wv,b5];exact x
   simp only[P,Wy]
  rw[e9];refine D.mode.same A λj=>?_;by_cases P:j=a
  .subst P;simp only[Wv,b5];exact⟨a8,a0⟩
  simp only[P,Wy];simp
 have e1:(p a).cnt=a7.cnt:=by rw[b5];rfl
 have d3:(p a).lE=a7.lE:=by rw[b5];rfl
 have f8:(p a).vS=a7.vS:=by rw[b5];rfl
 have k9:∀Z W,Z<u->stepG e Vz c q=.go W q #[]->Go.Conc.Goes e Vz (Go.SimW.RL d.D.ty d.D.Wg) Go.ConcR.DC0 (Go.SimW.PO e d.D.ty d.D.Wg r) Z W q->QC e T q c8 b R y p a c9:=by
  intro Z W j6 X b2;refine e6 (.done r Z S cl Q) W #[] X (by simp) (by simp) (VC ⟨A,j6⟩) A (YF H.1.symm) (same _ H.1.symm H.2.1.symm H.2.2.symm) λk a1 Y=>?_;have k4:b++k=b:=by rw[a1];simp[VZ]
  rw[k4]at Y⊢
  exact⟨j4,b0,hrel,Y,c0,c6,b2⟩
 have g2:(p a).lE=1->(p a).vS=r->(∀j,0<j->j<T.size->j≠a->(p j).lE=0)/\sumTo T.size (λr=>(p r).cnt)=0/\WgAt d.D.ty d.D.Wg q (if r<=4 then 1 else 0) 0:=by
  intro x a8;have b3:=D.mode;generalize h0:(sumTo T.size λr=>(p r).cnt)=V at b3;cases b3 with
  |opn n w v L=>rw[v a a2 a3]at x;cases x
  |reg n i5 v L=>rw[v a a2 a3]at x;cases x
  |fin n v L=>rw[v a a2 a3]at x;cases x
  |AE n v L=>rw[v a a2 a3]at x;cases x
  |last i2 n v L s g d6=>
   have:a=i2:=Classical.byContradiction λj9=>by rw[s a a2 a3 j9]at x;cases x
   subst this;exact⟨s,A,by rw[a8]at d6;exact d6⟩
 have e7:∀t:aG,t.cnt=0->sumTo T.size (λr=>(p r).cnt)=0->(p a).cnt=0->sumTo T.size (λj=>(if j=a then t else p j:aG).cnt)=0:=λt x a8 a0=>by have:=yP (g:=p) (i:=t) a3;omega
 have f1:(p a).lE=1->d.wt=1:=by
  intro x;have b3:=D.mode;generalize h0:(sumTo T.size λr=>(p r).cnt)=V at b3;cases b3 with
  |opn n w v L=>rw[v a a2 a3]at x;cases x
  |reg n i5 v L=>exact n
  |fin n v L=>exact n
  |AE n v L=>rw[v a a2 a3]at x;cases x
  |last i2 n v L s g d6=>exact n
 have stop:Go.SimW.PO e d.D.ty d.D.Wg r c q->QC e T q c8 b R y p a c9:=by
  intro a4;have j3:r=0\/r=1\/r=2\/r=3\/r=4\/r=5:=by omega
  rcases j3 with rfl|rfl|rfl|rfl|rfl|rfl
  ·
   obtain⟨_,W,X,Z,b2⟩:=a4;refine e6 (.done 1 Z b.size cl Q) W _ X (λg i=>?_) (λg i n f2=>?_) (VA (by show 9-1<9-0;omega)) A (YF H.1.symm) (same _ H.1.symm H.2.1.symm (H.2.2.symm)) λk a1 Y=>?_
   .simp[Go.ConcR.mk]at i;subst i;exact VA A
   .simp[Go.ConcR.mk]at i;subst i;cases f2
   subst a1;refine⟨by omega,?_,λ_=>RelBy.new (by simpa using b0) _ _,Y,c0,c6,b2⟩;rw[Yt,b0];rfl
  .obtain⟨_,W,X,Z,b2⟩:=a4;refine e6 (.done 2 Z S cl Q) W _ X (λg i=>?_) (λg i n f2=>?_) (VA (by show 9-2<9-1;omega)) A (YF H.1.symm) (same _ H.1.symm H.2.1.symm (H.2.2.symm)) λk a1 Y=>?_
   .simp[Go.ConcR.mk]at i;subst i;exact VA A
   .simp[Go.ConcR.mk]at i;subst i;cases f2
   subst a1;refine⟨by omega,?_,λ_=>yb (hrel (by omega)) (λg i=>by simp[Go.ConcR.mk]at i;subst i;rfl),Y,c0,c6,b2⟩;rw[Yt,b0];rfl
  ·
   obtain⟨_,a4⟩:=a4;have l8:(p a).cnt=1:=by rw[e1,H.1];rfl
   have m1:(p a).lE=0:=by rw[d3,H.2.1];rfl
   have e4:∀t:aG,t.cnt=0->sumTo T.size (λj=>(if j=a then t else p j:aG).cnt)+1=sumTo T.size λr=>(p r).cnt:=λt e5=>by have:=yP (g:=p) (i:=t) a3;omega
   have iU:∀g∈#[Go.ConcR.rd (stA d.D.Wg),Go.ConcR.wr (stA d.D.Wg)],((Wf g).touch?=I\/∃N wr,g=⟨.cell N,wr,J⟩/\N.block=d.D.Wg)/\∀n,g.loc≠.mark (.release n):=by intro g i;simp[Go.ConcR.rd,Go.ConcR.wr]at i;rcases i with rfl|rfl<;>exact⟨VC ⟨_,_,A,A⟩,λn z=>by cases z⟩
   have h4:Deaf b a=1:=b0
   have h3:RelBy (stA d.D.Wg) (b++VZ a c.frame.fn c.frame.place #[Go.ConcR.rd (stA d.D.Wg),Go.ConcR.wr (stA d.D.Wg)]) a S:=(hrel (by omega)).appOwn _ _ _ λj g i=>by
    have P:j=0\/j=1:=by have:=(Wh.1 i).1;simp at this;omega
    rcases P with rfl|rfl<;>(simp[Go.ConcR.rd,Go.ConcR.wr]at i;subst i;exact VC ⟨⟨_,_,A⟩,by rw[h4];exact E.one_pos⟩)
   have h5:Deaf (b++VZ a c.frame.fn c.frame.place #[Go.ConcR.rd (stA d.D.Wg),Go.ConcR.wr (stA d.D.Wg)]) a=1:=by rw[Yt,h4];rfl
   have l9:=D.yO;have m0:=D.xC
   have g6:∀(m a6 pd:E),a6<=1->pd<=1->(a6=1->pd=0)->(a6=0->d.pend=pd)->m+1=sumTo T.size (λr=>(p r).cnt)+pd->WgAt d.D.ty d.D.Wg q ((m+1)*KK+a6) 0->d.wt=a6->(∀j,0<j->j<T.size->(p j).lE=0)->QC e T q c8 b R y p a c9:=by
    intro m a6 pd k8 m2 k7 k2 k5 i1 g9 h1;obtain⟨W,X,j5,k3⟩:=a4 m a6 k8 (by omega) i1;have b6:WgAt d.D.ty d.D.Wg (q.setCell ⟨d.D.Wg,0,I⟩ (.int .u64 ((m:VB)*KK+a6))) ((m:VB)*KK+a6) 0:=i1.setSt ((m:VB)*KK+a6);by_cases f9:m=0/\a6=1
    .obtain⟨Z,b2⟩:=j5 f9;refine jK (.done 3 Z S cl Q) W _ 0 _ X (λg i=>(iU g i).1) (λg i=>(iU g i).2) (by show 9-3<9-2;omega) (VA ⟨_,b6⟩) A (Xg _) ?_ λk a1 Y=>?_
     .have e8:sumTo T.size (λj=>(if j=a then aG.wk (.done 3 Z S cl Q)else p j:aG).cnt)=0:=by
       have:=e4 (.wk (.done 3 Z S cl Q)) A;omega
      rw[e8];refine .last a (by omega) a2 a3 (λj n v L=>by simp only[L,Wy];exact h1 j n v) (by simp only[Wv];rfl) ?_;obtain⟨rfl,rfl⟩:=f9;simpa[aG.vS,nj.vS]using b6
     subst a1;exact⟨by omega,h5,λ_=>h3,Y,nI D c0,c6,b2⟩
    obtain⟨c7,d8⟩:=k3 f9;refine jK (.quit c7 S cl Q) W _ 0 _ X (λg i=>(iU g i).1) (λg i=>(iU g i).2) (by show 1<9-2;omega) (VA ⟨_,b6⟩) A (Xg _) ?_ λk a1 Y=>?_
    .have e8:sumTo T.size (λj=>(if j=a then aG.wk (.quit c7 S cl Q)else p j:aG).cnt)=m-pd:=by
      have:=e4 (.wk (.quit c7 S cl Q)) A;omega
     rw[e8]
     have h2:∀j,0<j->j<T.size->(if j=a then aG.wk (.quit c7 S cl Q)else p j:aG).lE=0:=λj n v=>by
      by_cases P:j=a
      .simp only[P,Wv];rfl
      simp only[P,Wy];exact h1 j n v
     obtain rfl|rfl:a6=0\/a6=1:=by omega
     .have h8:=k2 A;refine .opn g9 (by omega) h2 ?_;have m3:1<=sumTo T.size λr=>(p r).cnt:=by have:=e4 (.lv 0) A;omega
      have f0:((m-pd+d.pend:E):VB)=(m:VB):=by omega
      rw[f0];simpa using b6
     have h8:=k7 A;subst h8;exact .reg g9 (by omega) h2 (by simpa using b6)
    subst a1;exact⟨h3,Y,nI D c0,c6,by rw[h5];exact d8⟩
   have k1:1<=sumTo T.size λr=>(p r).cnt:=by have:=e4 (.lv 0) A;omega
   have b3:=D.mode;generalize h0:(sumTo T.size λr=>(p r).cnt)=V at b3 k1;obtain⟨m,rfl⟩:∃m,V=m+1:=⟨V-1,by omega⟩;cases b3 with
   |opn x b4 a8 a0=>exact g6 (m+d.pend) 0 d.pend (by omega) b4 (by omega) (λ_=>rfl) (by omega) (by
     have f0:((m+d.pend:E):VB)+1=((m+1+d.pend:E):VB):=by omega
     rw[f0];simpa using a0) x a8
   |reg x k5 a8 a0=>exact g6 m 1 0 (by omega) (by omega) (by omega) (by omega) (by omega) (by simpa using a0) x a8
  .obtain⟨_,a4⟩:=a4;obtain⟨d7,d9,b1⟩:=g2 (by rw[d3,H.2.1];rfl) (by rw[f8,H.2.2];rfl);obtain⟨W,X,Z,b2⟩:=a4 (by simpa using b1)
   have a5:∀g∈#[Go.ConcR.rd (stA d.D.Wg)],((Wf g).touch?=I\/∃N wr,g=⟨.cell N,wr,J⟩/\N.block=d.D.Wg)/\∀n,g.loc≠.mark (.release n):=by intro g i;simp[Go.ConcR.rd]at i;subst i;exact⟨VC ⟨_,_,A,A⟩,λn z=>by cases z⟩
   refine e6 (.done 4 Z S cl Q) W _ X (λg i=>(a5 g i).1) (λg i=>(a5 g i).2) (VA (by show 9-4<9-3;omega)) A (Xg _) ?_ λk a1 Y=>?_
   .rw[e7 _ A d9 (by rw[e1,H.1];rfl)];exact .last a (f1 (by rw[d3,H.2.1];rfl)) a2 a3 (λj n v L=>by simp only[L,Wy];exact d7 j n v L) (by simp only[Wv];rfl) (by simp only[Wv];simpa[aG.vS,nj.vS]using b1)
   subst a1
   exact⟨by omega,by rw[Yt,b0];rfl,λ_=>(hrel (by omega)).appOwn _ _ _ (λj g i=>by
    have P:j=0:=by have:=(Wh.1 i).1;simp at this;omega
    subst P;simp[Go.ConcR.rd]at i;subst i
    exact VC ⟨⟨_,_,A⟩,by rw[b0];exact E.one_pos⟩),Y,c0,c6,b2⟩
  .obtain⟨_,a4⟩:=a4;obtain⟨d7,d9,b1⟩:=g2 (by rw[d3,H.2.1];rfl) (by rw[f8,H.2.2];rfl);have b1:WgAt d.D.ty d.D.Wg q 1 0:=by simpa using b1
   obtain⟨W,X,Z,b2⟩:=a4 b1;have b6:WgAt d.D.ty d.D.Wg (q.setCell ⟨d.D.Wg,0,I⟩ (.int .u64 0)) 0 0:=b1.setSt 0
   have a5:∀g∈#[Go.ConcR.wr (stA d.D.Wg)],((Wf g).touch?=I\/∃N wr,g=⟨.cell N,wr,J⟩/\N.block=d.D.Wg)/\∀n,g.loc≠.mark (.release n):=by intro g i;simp[Go.ConcR.wr]at i;subst i;exact⟨VC ⟨_,_,A,A⟩,λn z=>by cases z⟩
   refine jK (.done 5 Z S cl Q) W _ 0 _ X (λg i=>(a5 g i).1) (λg i=>(a5 g i).2) (by show 9-5<9-4;omega) (VA ⟨_,b6⟩) A (Xg _) ?_ λk a1 Y=>?_
   .rw[e7 _ A d9 (by rw[e1,H.1];rfl)];exact .last a (f1 (by rw[d3,H.2.1];rfl)) a2 a3 (λj n v L=>by simp only[L,Wy];exact d7 j n v L) (by simp only[Wv];rfl) (by simp only[Wv];simpa[aG.vS,nj.vS]using b6)
   subst a1
   exact⟨by omega,by rw[Yt,b0];rfl,λ_=>(hrel (by omega)).appOwn _ _ _ (λj g i=>by
    have P:j=0:=by have:=(Wh.1 i).1;simp at this;omega
    subst P;simp[Go.ConcR.wr]at i;subst i
    exact VC ⟨⟨_,_,A⟩,by rw[b0];exact E.one_pos⟩),Y,nI D c0,c6,b2⟩
  obtain⟨_,j8,a4⟩:=a4;obtain⟨d7,d9,b1⟩:=g2 (by rw[d3,H.2.1];rfl) (by rw[f8,H.2.2];rfl);have b1:WgAt d.D.ty d.D.Wg q 0 0:=by simpa using b1
  obtain⟨W,X,c7,d8⟩:=a4 b1;have b6:WgAt d.D.ty d.D.Wg (q.setCell ⟨d.D.Wg,1,I⟩ (.int .u32 1)) 0 1:=b1.setSm 1
  have a5:∀g∈semEvents (smA d.D.Wg),((Wf g).touch?=I\/∃N wr,g=⟨.cell N,wr,J⟩/\N.block=d.D.Wg)/\∀n,g.loc≠.mark (.release n):=by
   intro g i;simp[semEvents]at i;rcases i with rfl|rfl|rfl|rfl
   .exact⟨VA A,λn z=>by cases z⟩
   .exact⟨VC ⟨_,_,A,A⟩,λn z=>by cases z⟩
   .exact⟨VC ⟨_,_,A,A⟩,λn z=>by cases z⟩
   exact⟨VA A,λn z=>by cases z⟩
  refine jK (.quit c7 S cl Q) W _ 1 _ X (λg i=>(a5 g i).1) (λg i=>(a5 g i).2) (by show 1<9-5;omega) (VC ⟨j8,by rcases d8.status with z|z<;>(rw[z];simp),by rcases d8.status with z|z<;>(rw[z];simp)⟩) A (Xg _) ?_ λk a1 Y=>?_
  .rw[e7 _ A d9 (by rw[e1,H.1];rfl)];refine .fin (f1 (by rw[d3,H.2.1];rfl)) (λj n v=>?_) b6;by_cases P:j=a
   .simp only[P,Wv];rfl
   simp only[P,Wy];exact d7 j n v P
  subst a1;refine⟨(hrel (by omega)).appOwn _ _ _ (λj g i=>?_),Y,nI D c0,c6,by rw[Yt,b0];exact d8⟩;have P:j=0\/j=1\/j=2\/j=3:=by have:=(Wh.1 i).1;simp[semEvents]at this;omega
  rcases P with rfl|rfl|rfl|rfl<;>(simp[semEvents]at i;subst i)
  .exact VA A
  .exact VC ⟨⟨_,_,A⟩,by rw[b0];simp[semEvents,deafBehind]⟩
  .exact VC ⟨⟨_,_,A⟩,by rw[b0];simp[semEvents,deafBehind]⟩
  exact VA A
 cases u with
 |zero=>exact stop (d4 q (Go.SimW.RL.refl q))
 |succ u=>
  rcases d4 with d4|⟨_,d4⟩
  .exact stop (d4 q (Go.SimW.RL.refl q))
  have e5:=d4 q (Go.SimW.RL.refl q);obtain⟨W,n1,O,e9,⟨rfl,rfl⟩,i9⟩:=x_ e5;exact k9 u W (Yd u) e9 i9
theorem PE{v:E->aG}{b4:VO}{i:dm}{cl:bE}{b1:Tr}{p:bT}(a4:VL (E×E))(n:bB e T q b R y v)(G:cR b q R)(c7:aH e b q R 0 y)(b5:T[0]?=C b4)(W:0<a)(a7:T[a]?=C c)(g4:c.status=.running)
 (t:v a=.wk (.work u cl b1 p))(S:y.tag=C i)(c0:ug i.D a cl)(g2:CQ e i.D i.fin a c q b R (.work u cl b1 p)):QC e T q a4 b R y v a b4:=by
 have b8:=(Wh.1 a7).1;have d:=n.wg i S;obtain⟨_,a1,P,b6,d7⟩:=g2
 have e1:∀(L:nj)(U:K),L.cnt=1->L.lE=0->L.vS=0->U.heap[i.D.Wg]?=q.heap[i.D.Wg]?->ef i (λj=>if j=a then .wk L else v j) T.size U (sumTo T.size λj=>(if j=a then .wk L else v j:aG).cnt):=by
  intro L U a6 o l f0
  have b3:(λj=>(if j=a then .wk L else v j:aG).cnt)=λj=>(v j).cnt:=by
   funext j;by_cases a8:j=a
   .subst a8;simp only[Wv,t];exact a6
   simp only[a8,Wy]
  rw[b3];refine d.mode.same f0 λj=>?_;by_cases a8:j=a
  .subst a8;simp only[Wv,t];exact⟨o,l⟩
  simp_all
 have e4:∀f r,0<f->f<T.size->(v f).chan=C r->∃x m s k a5 c,q.heap[r]?=C (.chan x m s k a5 c)/\R (.obj r)=.sync:=by
  intro f r z a9 N;rw[aG.cC]at N;cases g:(v f).pd with
  |none=>simp_all
  |some h7=>
   rw[g]at N;cases N;have b0:=n.each f _ z (Wj a9);generalize v f=h2 at b0 g;cases h2 with
   |lv g9=>cases g
   |wk L=>cases g
   |pr d0 u i p=>cases g;obtain⟨_,_,⟨e0,d1,l⟩,_⟩:=b0;exact⟨_,_,_,_,_,_,l.heap,l.own⟩
   |pb d0 u i p i4 j4 j6=>cases g;obtain⟨_,_,_,⟨e0,d1,l,_⟩,_⟩:=b0;exact⟨_,_,_,_,_,_,l.heap,l.own⟩
   |pq d0 g9=>cases g;obtain⟨⟨e0,d1,l⟩,_⟩:=b0;exact⟨_,_,_,_,_,_,l.heap,l.own⟩
 have stop:kM e i.D (i.fin a) a p.S p.ro u cl p.β p.w c->QC e T q a4 b R y v a b4:=by
  intro d4;cases u with
  |zero=>obtain⟨_,⟨g7,f6⟩,f4⟩:=d4;exact GX a4 n G c7 b5 W a7 g4 (r:=0) (u:=g7) (S:=0) (cl:=cl) (Q:=p) t (VA (by rw[t];show 9-0<0+10;omega)) ⟨A,A,A⟩ S c0 ⟨by omega,a1,λn=>absurd n (by omega),P,b6,f4,f6 q d.mode.live⟩
  |succ u=>
   obtain⟨_,Q,h4,e2,e5,d8,b7,f2,g5,c8,f8⟩:=d4;obtain⟨U,O,b3,g,f3⟩:=c8 q d.gb;obtain⟨e3,e9⟩:=f8.tree;have d3:∀k∈O,∃f,f<e2.size/\k=⟨.cell ⟨i.D.gb,Q+f,I⟩,J,Vz⟩:=f3
   have g0:∀k∈O,∀x,k.loc≠.mark (.release x):=λk a2 x X=>by grind
   have H:jM b q U R R a (VZ a c.frame.fn c.frame.place O):=by
    refine⟨by rw[g.size];simp,g.os,λm i5=>?_,λ_ _ _ _=>rfl,λi6 m _ a6 o=>by rw[g.size]at o;omega,λg8 b9 L X a3=>?_,dX g0,VC ⟨a1,λg8 b9=>?_⟩,g.out⟩
    rotate_right
    .obtain⟨k,a2,rfl⟩:=Go.Conc.mem_ofEvents b9;obtain⟨f,z,rfl⟩:=d3 k a2;simp[Wf]
    .by_cases d2:m=i.D.gb
     .subst d2;exact VC (VA (VC d.yZ))
     exact VC (VC (VA (g.block m d2)))
    obtain⟨k,a2,rfl⟩:=Go.Conc.mem_ofEvents b9;obtain⟨f,z,rfl⟩:=d3 k a2;simp[Wf,MemAct.touch?]at X;subst X;exact⟨A,i.D.gb,VC ⟨_,A,A⟩,by rw[g.size];exact d.tA,VC ⟨d.tA,VA (d.own a _ W b8 t _ _ (b7 f z))⟩⟩
   have f9:∀x m,p.β x m->U.heap[m]?=q.heap[m]?:=λx m f1=>g.block m λk=>by subst k;rcases P.dv x _ f1 _ (VA A)with n|⟨n,_⟩<;>(rw[d.yZ]at n;cases n)
   have d6:=g.block _ (λk=>d.ne k.symm);have f5:tv i.D U:=by obtain⟨r,a0,q1,h0,j2⟩:=d.gb;obtain⟨b2,c9,d9,_⟩:=g.put r _ a0 q1;exact⟨b2,a0,c9,h0,by omega⟩
   have g6:ft i.D a q U:=by
    refine⟨λ⟨x,m,n⟩=>⟨x,m,n.of_block d6⟩,λr h3 a0 N=>?_⟩;obtain⟨b2,c9,d9,h1,_⟩:=g.put r h3 a0 N;refine⟨b2,c9,d9,λf Y f7 g1=>h1 Y (Classical.byContradiction λX=>?_)⟩;have:Q<=Y/\Y<Q+e2.size:=by omega
    have o:=b7 (Y-Q) (by omega);rw[show Q+(Y-Q)=Y by omega]at o;exact f7 (d.apart _ _ _ g1 o)
   refine te a4 n G c7 b5 W a7 b3 H (.wk (.work u (cl++[(Q,h4)]) e3 p)) (by rw[t];exact sV (by show u+10<u+1+10;omega)) ⟨i,S,?_,g5,?_,P.stay H f9,b6.Uk d.gb g d8 f2,e9⟩ (by rw[t];rfl) (λf r z a9 N=>g.block r λk=>?_) (λZ D=>by simp_all) (λZ D=>?_) (jC λZ D=>by simp_all)
   .intro w g3 f z;rcases WL.1 g3 with a3|a3
    .exact c0 w a3 f z
    simp only[Xi]at a3;subst a3;exact b7 f (by rw[<-d8.1];exact z)
   .rw[Yt,a1];exact w_ (λk a2=>by grind) 0
   .subst k;obtain⟨h8,h9,i0,i1,i2,i3,l,_⟩:=e4 f _ z a9 N;obtain⟨r,a0,q1,_⟩:=d.gb;simp_all
   rw[S]at D;cases D;exact Ag d W t A g6 f5 (d.gv.step H d.JP) (λ_ _ _ _=>rfl) (d.gh.step H) (e1 _ _ A rfl rfl d6) b8 (Wl _)
 cases b1 with
 |leaf=>exact stop d7
 |node a5=>
  rcases d7 with X|⟨_,c8⟩
  .exact stop X
  obtain⟨e5,h6,h5,U,new,i8,a6,o,l,e6,e7,e8⟩:=c8 q P.rel d.gv;have H:=fu P o l e6 a1 c.frame.fn c.frame.place;have d5:=fQ P o d.pD (VA (d.qU _ (VA A)));have c6:=fQ P o d.tA (VC d.yZ);refine te a4 n G c7 b5 W a7 a6 H (.wk (.work u cl (a5 q) {p with β:=h6,w:=h5})) (by rw[t];exact .right _ (.right _ (.mk a5 q))) ⟨i,S,c0,e7,by rw[jc o.la];exact a1,P.own o l H,(b6.mono o.le).same c6,e8⟩ (by rw[t];rfl) (λf r z a9 N=>?_) (λZ D=>by grind [ft.same]) (λZ D=>?_) (jC λZ D=>by grind)
  .grind [fQ]
  rw[S]at D;cases D;exact Ag d W t A (ft.same d5 c6) (d.gb.same c6) (d.gv.step H d.JP) BE (d.gh.step H) (e1 _ _ A rfl rfl d5) b8 (Wl _)
theorem quiet_step{a4:E->aG}{b5:VO}(Q:VL (E×E))(k:bB e T q b R y a4)(G:cR b q R)(X:aH e b q R 0 y)(W:T[0]?=C b5)(v:0<a)(t:T[a]?=C c)(H:c.status=.running)(b9:¬uy e c (a4 a)):
 QC e T q Q b R y a4 a b5:=by
 have L:=k.each a c v t;have d0:∀x:E,x<q.heap.size->(R (.obj x)=.sync\/R (.obj x)=.void)->(∀d3 Y cl a7 z s,q.heap[x]?≠C (.chan d3 Y cl a7 z s))->q.heap[x]?=q.heap[x]?:=λ_ _ _ _=>rfl;obtain⟨b4,d⟩:∃b4,a4 a=b4:=⟨_,A⟩;rw[d]at L;cases b4 with
 |wk p=>
  obtain⟨S,D,f,n⟩:=L;cases p with
  |work u cl e7 o=>exact PE Q k G X W v t H d D f n
  |done P u a6 cl o=>exact GX Q k G X W v t H d (VC A) ⟨A,A,A⟩ D f n
  |quit c8 a6 cl o=>exact PC Q k G X W v t H d D f n
 |lv c8=>
  obtain⟨a3,d4,O,rfl,q1,b2,c9⟩:=lJ L.1 H;have b1:∀i∈O,(Wf i).touch?=I:=λi r=>touch_mute (q1 i r)
  have l:jM b q q R R a (VZ a c.frame.fn c.frame.place O):=np b1 λi r a7 a9=>by rcases qs (q1 i r)with b8|b8<;>(rw[b8]at a9;cases a9)
  obtain⟨a1,a2⟩:=fD (x:=.lv a3) k l d0 (by rw[d];exact⟨A,A,A⟩) ⟨λp g=>(by cases g),λp g=>by rw[d]at g;cases g⟩;refine te Q k G X W v t (b2 q) l (.lv a3) (by rw[d];exact .right _ (.left _ _ (Yd _))) ⟨by rw[Yt];exact c9,L.2.mine G ?_⟩ (by rw[d];rfl) (λ_ _ _ _ _=>rfl) a1 a2 (jC λ_ _=>rfl);intro c7 a0 p g;obtain⟨i,r,rfl⟩:=Go.Conc.mem_ofEvents a0;simp_all
 |pq m c8=>
  obtain⟨⟨b3,Y,Z⟩,e0,w,f3,f4,c0⟩:=L;obtain⟨a3,d4,O,rfl,q1,b2,c9⟩:=lJ e0 H;have b1:∀i∈O,(Wf i).touch?=I:=λi r=>touch_mute (q1 i r)
  have l:jM b q q R R a (VZ a c.frame.fn c.frame.place O):=np b1 λi r a7 a9=>by grind [qs]
  obtain⟨a1,a2⟩:=fD (x:=.pq m a3) k l d0 (by rw[d];exact⟨A,A,A⟩) ⟨λp g=>(by cases g),λp g=>by simp_all⟩;refine te Q k G X W v t (b2 q) l (.pq m a3) (by rw[d];exact .right _ (.left _ _ (Yd _))) ⟨⟨b3,Y,Z.frame l A (iP.refl y)⟩,by simp_all [Yt],w,?_,?_,c0.1.mine G ?_,c0.2.own G l λc7 a0 p g=>?_⟩ (by rw[d];rfl) (λ_ _ _ _ _=>rfl) a1 a2 (jC λ_ _=>rfl)
  .simp_all [T_,YP]
  .simp_all [Yg,YP]
  .intro c7 a0 p g;obtain⟨i,r,rfl⟩:=Go.Conc.mem_ofEvents a0;simp_all
  obtain⟨i,r,rfl⟩:=Go.Conc.mem_ofEvents a0;simp_all
 |pb m u S o e8 g0 g1=>rw[L.2.1]at H;cases H
 |pr m u S o=>
  obtain⟨_,d8,⟨b3,Y,Z⟩,N,b0,a5,c6⟩:=L;have e3:¬iQ e m o.S o.ro u o.β o.w c:=by rw[d]at b9;exact b9
  have same:∀P z,0<P->P<T.size->(a4 P).chan=C z->z=m.rc:=λP z D f n=>by have:=k.one P a z m.rc D v f ((Wh.1 t).1) n (by rw[d];rfl);subst this;rw[d]at n;exact(Xa n).symm
  cases S with
  |leaf=>exact absurd c6 e3
  |node a8=>
   rcases c6 with g|⟨_,e2⟩
   .simp_all
   obtain⟨e9,d2,d1,U,new,f6,D,f,n,b6,d5,d6⟩:=e2 q N.rel a5.2.1.kn;have l:=fu N f n b6 b0 c.frame.fn c.frame.place;have e1:U.heap[m.rc]?=q.heap[m.rc]?:=fQ N f ((Wh.1 Z.heap).1) (VA Z.own);obtain⟨e4,e5⟩:=a5.2.1.Uj G a5.2.2 N f n b6 b0 c.frame.fn c.frame.place;obtain⟨a1,a2⟩:=fD (x:=.pr m u (a8 q) {o with β:=d2,w:=d1}) k l (λx d7 d9 _=>fQ N f d7 d9) (by rw[d];exact⟨A,A,A⟩) ⟨λp g=>(by cases g),λp g=>by simp_all⟩
   exact te Q k G X W v t D l (.pr m u (a8 q) {o with β:=d2,w:=d1}) (by rw[d];exact .right _ (.right _ (.mk a8 q))) ⟨d5,d8,⟨b3,Y,Z.frame l e1 (iP.refl y)⟩,N.own f n l,by rw[jc f.la];exact b0,⟨a5.1.step f,e4,e5⟩,d6⟩ (by rw[d];rfl)
    (λP z f1 f2 f0=>by grind) a1 a2 (jC λS b7=>fQ N f (k.wg S b7).pD (VA ((k.wg S b7).qU _ (VA A))))
theorem xz{N:E->aG}{b0:VO}(a0:VL (E×E))(m:bB e T q b R y N)(G:cR b q R)(e3:aH e b q R 0 y)(j4:T[0]?=C b0)(k0:b0.status=.running\/b0.offers=I)(d7:0<a)(b3:T[a]?=C c)(h6:c.status=.running)(hd:uy e c (N a)):
 ∃a8 b1 U k o,runT e (crowd T q a0) a=(.next (crowd b1 U a0),k)/\Ms.lt (aG.ms a8) (N a).ms/\b1.size=T.size/\(b1[0]?=C b0\/∃H a2,b1[0]?=C (Go.Conc.woken e H a2 U b0))/\bB e b1 U (b++k) o y (λd=>if d=a then a8 else N d)/\cR (b++k) U o/\aH e (b++k) U o 0 y/\Deaf (b++k) 0=Deaf b 0/\aG.pd a8=(N a).pd/\(∀e7 h l,0<e7->e7<T.size->(N e7).chan=C h->Ko q h l->Ko U h l)/\(∀z,y.tag=C z->U.heap[z.D.Wg]?=q.heap[z.D.Wg]?):=by
 have f8:=m.each a c d7 b3;have a3:a<T.size:=(Wh.1 b3).1;have d8:(a==0)=Vz:=by simp;omega
 have wk:∀(U:K)(H a2:VO),(∀d h,0<d->d<T.size->d≠a->(N d).chan=C h->U.heap[h]?=q.heap[h]?)->∀d,d≠a->0<d->∀n,T[d]?=C n->woken e H a2 U n=n:=by exactλU H a2 e6 d i b5 n g=>(m.each d n b5 g).woken H a2 λh a5=>e6 d h b5 (Wh.1 g).1 i a5
 have a4:∀(k:VY),(∀t∈k,t.g=a)->∀d,d≠a->Deaf (b++k) d=Deaf b d:=λk h9 d i=>Yy b (g':=a) (λw=>i w.symm) k h9;have d3:∀(fn:Wc)(v:String)(O:VE Wa),∀t∈VZ a fn v O,t.g=a:=λfn v O t r=>by obtain⟨w,_,rfl⟩:=Go.Conc.mem_ofEvents r;rfl
 obtain⟨f0,s⟩:∃f0,N a=f0:=⟨_,A⟩;rw[s]at f8;cases f0 with
 |lv a7=>rw[s]at hd;exact hd.elim
 |wk n=>rw[s]at hd;exact hd.elim
 |pq f a7=>rw[s]at hd;exact hd.elim
 |pb f u z X j3 a1 b8=>rw[s]at hd;exact hd.elim
 |pr f u z X=>
  obtain⟨_,h3,⟨a9,P,p⟩,d2,c8,a6,k2⟩:=f8;have d0:f.rc<q.heap.size:=(Wh.1 p.heap).1
  have same:∀d h,0<d->d<T.size->(N d).chan=C h->h=f.rc:=λd h Q S W=>by have:=m.one d a h f.rc Q d7 S a3 W (by rw[s];rfl);subst this;rw[s]at W;exact(Xa W).symm
  have lone:∀d h,0<d->d<T.size->d≠a->(N d).chan=C h->False:=λd h i d9 e0 a5=>e0 (m.one d a h f.rc i d7 d9 a3 a5 (by rw[s];rfl))
  have g1:∀c0 P cl H L h,∀z,y.tag=C z->(q.setChan f.rc c0 P cl H L h).heap[z.D.Wg]?=q.heap[z.D.Wg]?:=λc0 P cl H L h z c6=>by simp only[K.setChan];rw[Wr (λw=>?_)];obtain⟨_,_,h1⟩:=(m.wg z c6).mode.live;have g:q.heap[z.D.Wg]?=_:=h1;rw[<-w,p.heap]at g;cases g
  have f9:iQ e f X.S X.ro u X.β X.w c:=by rw[s]at hd;exact hd
  cases u with
  |zero=>
   obtain⟨_,j7,g5,j6,e5,a7,j9⟩:=f9;have d1:=e5 q _ _ _ _ _ p.heap
   have x:jM b q (q.setChan f.rc 4 P J (f.n-0) a9 Vz) R R a (VZ a c.frame.fn c.frame.place #[⟨.obj f.rc,Vz,J⟩,⟨.obj f.rc,J,J⟩]):=by
    refine⟨by simp[K.setChan],A,λL d6=>?_,λ_ _ _ _=>rfl,λi1 L _ Q S=>by grind [World.setChan],λt r n g b4=>?_,dX (by simp),VA λt r n g b4=>?_,A⟩
    rotate_right
    .obtain⟨w,Y,rfl⟩:=Go.Conc.mem_ofEvents r;simp only[Yh,Wo,Wx,Xo]at Y;rcases Y with rfl|rfl
     .simp[Wf,MemAct.touch?]at g;subst g;exact p.own
     grind [MemAct.ofEvent,MemAct.touch?]
    .by_cases c7:L=f.rc
     .subst c7;exact VC (VA (VA p.own))
     grind [World.setChan]
    obtain⟨w,Y,rfl⟩:=Go.Conc.mem_ofEvents r;refine⟨A,f.rc,?_⟩;simp only[Yh,Wo,Wx,Xo]at Y;rcases Y with rfl|rfl
    .simp[Wf,MemAct.touch?]at g;subst g;exact⟨VA A,by simp[K.setChan];exact d0,VC ⟨d0,VC (VC ⟨p.own,VA A⟩)⟩⟩
    grind [MemAct.ofEvent,MemAct.touch?]
   obtain⟨b6,g0⟩:=fD (x:=.pq f a7) m x (λL d6 c9 e1=>by
    simp only[K.setChan]
    rw[Wr (λw=>by subst w;exact e1 _ _ _ _ _ _ p.heap)]) (by rw[s];exact⟨A,A,A⟩) ⟨λn g=>(by cases g),λn g=>by grind⟩
   refine⟨.pq f a7,_,_,_,R,Zj (P:=e) (sl:=a0) (i:=a) b3 (by rw[d8];exact d1),?_,by simp,?_,?_,G.step x,e3.other (by omega) x,a4 _ (d3 _ _ _) 0 (by omega),by rw[s];rfl,λd h l q1 e8 e9⟨c0,g2,cl,i8,j0,b7⟩=>by
    have:=same d h q1 e8 e9;subst this;rw[p.heap]at b7;cases b7
    exact⟨_,_,_,_,_,by simp only[K.setChan];rw[Wq d0]⟩,g1 _ _ _ _ _ _⟩
   .rw[s];exact .left _ _ (by simp)
   .grind
   refine m.jK G x (iP.refl y) (by simp) (λd i d9=>mI d i (((λU H a2=>wk U H a2 λd h Q S W b2=>(lone d h Q S W b2).elim) (q.setChan f.rc 4 P J (f.n-0) a9 Vz) c g5) d i d9)) (a4 _ (d3 _ _ _)) (λd h Q S W b2=>(lone d h Q S W b2).elim) a3 (λd5 _ Z=>?_) (λh a5=>by rw[s];exact⟨_,A⟩) (λd i _ t r=>by grind) b6 (λz c6=>by grind);rw[Wq (by grind)]at Z;cases Z;have f2:VZ a c.frame.fn c.frame.place #[⟨.obj f.rc,Vz,J⟩,⟨.obj f.rc,J,J⟩]=#[{g:=a,fn:=c.frame.fn,pos:=c.frame.place,act:=.access ⟨.obj f.rc,Vz,J⟩},{g:=a,fn:=c.frame.fn,pos:=c.frame.place,act:=.close f.rc}]:=by simp[VZ,Wf]
   have f7:(b++#[({g:=a,fn:=c.frame.fn,pos:=c.frame.place,act:=.access ⟨.obj f.rc,Vz,J⟩}:MemOp),{g:=a,fn:=c.frame.fn,pos:=c.frame.place,act:=.close f.rc}])[b.size+1]?=C {g:=a,fn:=c.frame.fn,pos:=c.frame.place,act:=.close f.rc}:=by simp
   have j5:Deaf (b++VZ a c.frame.fn c.frame.place #[⟨.obj f.rc,Vz,J⟩,⟨.obj f.rc,J,J⟩]) a=0:=by rw[Yt,c8];rfl
   refine⟨⟨a9,P,⟨by grind [World.setChan],by have:=p.count;omega,p.room,p.own,p.msgs⟩⟩,by grind,b.size+1,?_,?_,?_⟩
   .grind [Trace.act?]
   .rw[f2];refine⟨a,fy f7,?_⟩
    have g6:(b++#[({g:=a,fn:=c.frame.fn,pos:=c.frame.place,act:=.access ⟨.obj f.rc,Vz,J⟩}:MemOp),{g:=a,fn:=c.frame.fn,pos:=c.frame.place,act:=.close f.rc}])[b.size]?=C {g:=a,fn:=c.frame.fn,pos:=c.frame.place,act:=.access ⟨.obj f.rc,Vz,J⟩}:=by simp
    rw[deaf_succ g6,deaf_old (Wl _)];exact c8
   refine⟨?_,a6.2.1.own G x λt r n g b4 c9=>?_⟩
   rotate_left
   .obtain⟨w,Y,rfl⟩:=Go.Conc.mem_ofEvents r;simp only[Yh,Wo,Wx,Xo]at Y;rcases Y with rfl|rfl
    .simp[Wf,MemAct.touch?]at g;subst g;exact absurd p.own c9
    grind [MemAct.ofEvent,MemAct.touch?]
   intro d t n i g9 g b4 c9;rw[f2]at i⊢
   have h2:=ZU i;simp at h2;by_cases h0:d=b.size+1
   .exact VA h0
   exact VC (hb_po (by omega) i f7 g9)
  |succ u=>
   obtain⟨_,a1,b8,e5,e6,h5,h4⟩:=f9;obtain⟨b9,f3⟩:=h4.tree;have d1:=e5 q d2.rel
   have f5:partners (T.setIfInBounds a ph) f.rc Vz=[]:=by
    refine partners_nil λd n g=>?_;rcases c_ T a d n g with⟨rfl,rfl⟩|⟨e0,g⟩
    .rfl
    rcases WA d with rfl|b5
    .grind [offersAt]
    refine Yn ?_ _ _;have i:=m.each d n b5 g;have j8:=lone d;generalize h7:N d=i7 at i;cases i7 with
    |lv a7=>rcases i.1.status with m|m<;>rw[m]<;>simp
    |wk n=>obtain⟨f1,_,_,i⟩:=i;rcases i.status with m|m<;>rw[m]<;>simp
    |pr d4 i3 f1 i9=>rw[i.1];simp
    |pq d4 a7=>rcases i.2.1.status with m|m<;>rw[m]<;>simp
    |pb d4 i3 f1 i9 d5 k3 k4=>exact(lone d d4.rc b5 (Wh.1 g).1 e0 (by rw[h7];rfl)).elim
   have i0:an y.S y.β (f.τ (f.n-(u+1))) a1:=an.to a6.1.1 h5 e6;by_cases h8:P.size<4
   ·
    have e2:=crowd_send_room (P:=e) (sl:=a0) (i:=a) b3 (by rw[d8];exact d1) p.heap h8 f5
    have x:jM b q (q.setChan f.rc 4 (P.push a1) Vz (f.n-(u+1)+1) a9 Vz) R R a (VZ a c.frame.fn c.frame.place #[]++#[{g:=a,fn:=c.frame.fn,pos:=c.frame.place,act:=.send f.rc (f.n-(u+1))},{g:=a,fn:=c.frame.fn,pos:=c.frame.place,act:=.sendDone f.rc (f.n-(u+1))}]):=by
     refine⟨by simp[K.setChan],A,λL d6=>?_,λ_ _ _ _=>rfl,λi1 L _ Q S=>by grind [World.setChan],λt r n g b4=>?_,λt r H=>?_,VA λt r n g b4=>by simp[VZ]at r;rcases r with rfl|rfl<;>simp[MemAct.touch?]at g,A⟩
     .by_cases c7:L=f.rc
      .subst c7;exact VC (VA (VA p.own))
      grind [World.setChan]
     .simp[VZ]at r;rcases r with rfl|rfl<;>simp[MemAct.touch?]at g
     simp[VZ]at r
     grind
    have f6:∀t∈(VZ a c.frame.fn c.frame.place #[]++#[{g:=a,fn:=c.frame.fn,pos:=c.frame.place,act:=.send f.rc (f.n-(u+1))},{g:=a,fn:=c.frame.fn,pos:=c.frame.place,act:=.sendDone f.rc (f.n-(u+1))}]:VY),t.g=a:=by grind
    obtain⟨b6,g0⟩:=fD (x:=.pr f u b9 X) m x (λL d6 c9 e1=>by
     simp only[K.setChan]
     rw[Wr (λw=>by subst w;exact e1 _ _ _ _ _ _ p.heap)]) (by rw[s];exact⟨A,A,A⟩) ⟨λn g=>(by cases g),λn g=>by grind⟩
    have e4:∀d,d≠a->(T.setIfInBounds a (c.finishComm e #[scase f.rc a1 b8] .send 0 F Vz))[d]?=T[d]?:=λd i=>Wr (λw=>i w.symm)
    refine⟨.pr f u b9 X,_,_,_,R,e2,?_,WQ ..,?_,?_,G.step x,e3.other (by omega) x,a4 _ f6 0 (by omega),by rw[s];rfl,λd h l q1 e8 e9⟨c0,g2,cl,i8,j0,b7⟩=>by
     have:=same d h q1 e8 e9;subst this;rw[p.heap]at b7;cases b7
     exact⟨_,_,_,_,_,by simp only[K.setChan];rw[Wq d0]⟩,g1 _ _ _ _ _ _⟩
    .rw[s];exact .left _ _ (by simp)
    .grind
    refine m.jK G x (iP.refl y) (WQ ..) (λd i _=>e4 d i) (a4 _ f6) (λd h Q S W b2=>(lone d h Q S W b2).elim) a3 (λd5 _ Z=>?_) (λh a5=>by rw[s];exact⟨_,A⟩) (λd i _ t r=>by grind) b6 (λz c6=>by grind);rw[Wq a3]at Z;cases Z;rw[L_];refine⟨A,by omega,⟨a9,P.push a1,?_⟩,?_,?_,⟨a6.1,a6.2.1.own G x (λt r n g=>by simp[VZ]at r;rcases r with rfl|rfl<;>simp[MemAct.touch?]at g),a6.2.2⟩,f3⟩
    .have g8:=p.count;refine⟨?_,?_,by simp;omega,p.own,?_⟩
     .grind [World.setChan]
     .grind
     intro d n g;rw[Xv]at g;split at g
     .grind
     exact p.msgs d n g
    .refine d2.stay x λH L g7=>?_;have c7:L≠f.rc:=by
      intro w;subst w;rcases d2.dv H _ g7 _ (VA A)with m|⟨m,_⟩<;>(rw[p.own]at m;cases m)
     grind [World.setChan]
    have g3:(VZ a c.frame.fn c.frame.place #[]++#[{g:=a,fn:=c.frame.fn,pos:=c.frame.place,act:=.send f.rc (f.n-(u+1))},{g:=a,fn:=c.frame.fn,pos:=c.frame.place,act:=.sendDone f.rc (f.n-(u+1))}]:VY)=[({g:=a,fn:=c.frame.fn,pos:=c.frame.place,act:=.send f.rc (f.n-(u+1))}:MemOp),{g:=a,fn:=c.frame.fn,pos:=c.frame.place,act:=.sendDone f.rc (f.n-(u+1))}].toArray:=by rfl
    rw[g3,ZL,c8];rfl
   ·
    have g8:=p.count;have k1:=p.room
    have e2:=crowd_waits (P:=e) (sl:=a0) (i:=a) b3 (by rw[d8];exact d1) (λj1 f4=>by
     simp only[Yh,Wo,Wx,Xo]at f4;subst f4
     exact ways_send_none p.heap (by omega) f5)
    have x:jM b q q R R a (VZ a c.frame.fn c.frame.place #[]):=mB (λt r n g=>by grind [MemOp.ofEvents]) (λt r=>by grind [MemOp.ofEvents]);obtain⟨b6,g0⟩:=fD (x:=.pb f u b9 X c a1 b8) m x (λ_ _ _ _=>rfl) (by rw[s];exact⟨A,A,A⟩) ⟨λn g=>(by cases g),λn g=>by grind⟩;have e4:∀d,d≠a->(T.setIfInBounds a (parked c #[scase f.rc a1 b8] .send))[d]?=T[d]?:=λd i=>Wr (λw=>i w.symm);have g4:b++VZ a c.frame.fn c.frame.place #[]=b:=by rfl
    refine⟨.pb f u b9 X c a1 b8,_,_,_,R,e2,?_,WQ ..,?_,?_,G.step x,e3.other (by omega) x,a4 _ (d3 _ _ _) 0 (by omega),by rw[s];rfl,λ_ _ _ _ _ _ m=>m,λ_ _=>rfl⟩
    .rw[s];exact .left _ _ (by show 2*u+3<2*(u+1)+2;omega)
    .grind
    refine m.jK G x (iP.refl y) (WQ ..) (λd i _=>e4 d i) (a4 _ (d3 _ _ _)) (λ_ _ _ _ _ _=>rfl) a3 (λd5 _ Z=>?_) (λh a5=>by rw[s];exact⟨_,A⟩) (λd i _ t r=>by grind) b6 (λz c6=>by grind);rw[Wq a3]at Z;cases Z;rw[g4];exact⟨h3,A,h6,⟨a9,P,p,by omega⟩,d2,c8,a6,i0,f3⟩
theorem BL{f:E->aG}{m:VO}(h:VL (E×E))(p:bB e T q b R y f)(G:cR b q R)(v:aH e b q R 0 y)(r:T[0]?=C m)(x:m.status=.running)(t:0<a)(s:T[a]?=C c)(u:c.status=.running):
 ∃g d U k o,runT e (crowd T q h) a=(.next (crowd d U h),k)/\Ms.lt (aG.ms g) (f a).ms/\d.size=T.size/\d[0]?=C m/\bB e d U (b++k) o y (λw=>if w=a then g else f w)/\cR (b++k) U o/\aH e (b++k) U o 0 y/\Deaf (b++k) 0=Deaf b 0/\aG.pd g=(f a).pd/\∀n i l,0<n->n<T.size->(f n).chan=C i->Ko q i l->Ko U i l:=by
 by_cases hd:uy e c (f a)
 .obtain⟨g,d,U,k,o,q1,D,H,L,N,O,P,Q,S,z,_⟩:=xz h p G v r (VA x) t s u hd
  grind [woken_run]
 obtain⟨g,d,U,k,o,q1,D,H,⟨W,X,L⟩,N,O,P,Q,S,z,_⟩:=quiet_step h p G v r t s u hd
 grind [woken_run]
end
end
variable{c:VY}{b:E}{a:VO}{l:K}{k:Vx}{d:E}
section
variable[Inhabited aV]
section
variable{h:Loc->dw}{m:bT}{f:VY}
theorem tN.at{d:PD}(a:tN d c q R b)(e:E):tN d c (q.at e) R b:=⟨a.JG,a.ro,a.low,a.kn,a.JN⟩
theorem tN.chan{m:PD}{n p D z:E}{o:VE Vx}{r H:VI}(a:tN m c q R b)(T:∀h∈f,∀l,h.act.touch?=C l->False)(P:∀k i d,q.heap[n]?≠C (VH #[k] i d)):tN m (c++f) (q.setChan n p o r D z H) R b where
 JG:=by
  intro y h l t s x v w;rcases Wp t with⟨S,u⟩|⟨_,Q⟩
  .exact a.JG y h l u s x v w
  simp_all
 ro:=a.ro
 low:=λg e=>⟨(a.low g e).1,by
  obtain⟨L,O⟩:=cM (a.low g e).1;have:=(a.low g e).2
  simp_all [K.setChan]⟩
 kn:=by
  obtain⟨i,d,N⟩:=a.kn;refine⟨i,d,?_⟩
  grind [World.setChan]
 JN:=a.JN
theorem cB.at{u:aG}(k:cB e b a q c R y u)(h:E):cB e b a (q.at h) c R y u:=by
 cases u with
 |lv H=>exact k
 |wk U=>obtain⟨r,l,m,f⟩:=k;exact⟨r,l,m,f.at h⟩
 |pr v D r L=>obtain⟨l,m,⟨p,i,f⟩,s,n,g,o⟩:=k;exact⟨l,m,⟨p,i,⟨f.heap,f.count,f.room,f.own,f.msgs⟩⟩,s.at h,n,⟨g.1,g.2.1.at h,g.2.2⟩,o⟩
 |pb v D r L N T W=>obtain⟨l,m,w,⟨p,i,f,x⟩,s,n,g,o,t⟩:=k;exact⟨l,m,w,⟨p,i,⟨f.heap,f.count,f.room,f.own,f.msgs⟩,x⟩,s.at h,n,⟨g.1,g.2.1.at h,g.2.2⟩,o,t⟩
 |pq v H=>obtain⟨⟨p,i,f⟩,n,d,g,o,t,z⟩:=k;exact⟨⟨p,i,⟨f.heap,f.count,f.room,f.own,f.msgs⟩⟩,n,d,g,o,t,z.at h⟩
theorem bB.at{g:E->aG}(d:bB e T q c R y g)(f:E):bB e T (q.at f) c R y g:=⟨λb a N L=>(d.each b a N L).at f,d.one,d.above,λh H=>by
 obtain⟨i,s,t,u,v,w,x,z,D,k,l,m,n,o,p,r⟩:=d.wg h H
 exact⟨i,s.same A (λ_=>⟨A,A⟩),t,u,v,w,x,z,D,k,l,m,n,o,p,r⟩,d.ops⟩
theorem cB.La{i:aG}{k:PD}(h:cB e b a q c R y i)(d:i.pd=C k):∃r g cl f,km k q R y r g cl f:=by
 cases i with
 |lv p=>cases d
 |wk D=>cases d
 |pr l o n s=>cases d;obtain⟨_,_,⟨g,f,m⟩,_⟩:=h;grind
 |pb l o n s t z H=>cases d;obtain⟨_,_,_,⟨g,f,m,_⟩,_⟩:=h;grind
 |pq l p=>cases d;obtain⟨⟨g,f,m⟩,_⟩:=h;grind
abbrev dc:=VL (E×PD×E)
def ee(e:dc)(T:VE VO)(q:K)(c:E->aG):Prop:=
 match e with
 |none=>∀b,0<b->b<T.size->(c b).pd=I
 |some (d,a,f)=>0<d/\d<T.size/\(c d).pd=C a/\Ko q a.rc f
def db(e:VS)(b:dc)(d:VD Ms)(T:VE VO)(q:K)(c:VY)(R:Loc->dw)(y:bT):Prop:=
 ∃a,d=tE a T.size/\bB e T q c R y a/\ee b T q a
theorem iD{n:dc}{t:VE VO}{i:E->aG}{z:aG}(p:ee n T q i)(S:t.size=T.size)(P:z.pd=(i b).pd)
 (Q:∀s o x,0<s->s<T.size->(i s).chan=C o->Ko q o x->Ko U o x):ee n t U (λg=>if g=b then z else i g):=by
 cases n with
 |none=>
  intro g v r;rw[S]at r;by_cases w:g=b
  .subst w;simp only[Wv];rw[P];exact p g v r
  simp only[w,Wy];exact p g v r
 |some W=>
  obtain⟨d,D,g⟩:=W;obtain⟨u,H,L,N⟩:=p;refine⟨u,by omega,?_,Q d D.rc g u H (by rw[aG.cC,L];rfl) N⟩
  grind
theorem bB.main{p:E->aG}{r g₁:VO}{S:Ren}{D:K}{new Y:VD Wa}(w:bB e T q c R y p)(G:cR c q R)(N:aH e c q R 0 y)(a6:T[0]?=C r)
 (z:bD y.S y.β S y.w D q U new Y)(b4:∀u,y.ro u->D.heap[u]?=y.w.heap[u]?)(b3:∀v∈new,v.write=J->∀u,y.ro u->v.loc≠.obj u/\∀t,v.loc=.cell t->t.block≠u)(a9:Deaf c 0=0):
 bB e ((T.map (Go.Conc.woken e r g₁ U)).setIfInBounds 0 g₁) U (c++VZ 0 r.frame.fn r.frame.place (kept Y).toArray) (dw.more R 0 q.heap.size U.heap.size) {y with β:=S,w:=D} p/\
  ∀P i Q,0<P->P<T.size->(p P).chan=C i->Ko q i Q->Ko U i Q:=by
 have X:=fu N z b4 b3 a9 r.frame.fn r.frame.place
 have H:∀g i,0<g->g<T.size->(p g).chan=C i->U.heap[i]?=q.heap[i]?:=by
  intro g i o s n;rw[aG.cC]at n;cases L:(p g).pd with
  |none=>rw[L]at n;cases n
  |some c0=>rw[L]at n;cases n;obtain⟨d0,c9,cl,c7,W⟩:=(w.each g _ o (Wj s)).La L;exact fQ N z (Wh.1 W.heap).1 (VA W.own)
 obtain⟨b5,b6⟩:=fD (x:=p 0) w X (λc6 a8 b1 _=>fQ N z a8 b1) ⟨A,A,A⟩ ⟨λt x=>⟨t,x⟩,λt x=>⟨t,x⟩⟩;refine⟨?_,λg i Q o s n⟨a0,a1,a2,a3,a4,a5⟩=>⟨a0,a1,a2,a3,a4,by rw[H g i o s n];exact a5⟩⟩
 have:=w.jK (gs':=(T.map (Go.Conc.woken e r g₁ U)).setIfInBounds 0 g₁) (s':={y with β:=S,w:=D}) (j:=0) G X ⟨A,z.le,A⟩ (by simp) (λg o s=>mI g o λt x=>(w.each g t s x).woken r g₁ λi n=>H g i s (Wh.1 x).1 n)
  (λg o=>jc z.la _ _ _ _ _) (λg i o s _ n=>H g i o s n) ((Wh.1 a6).1) (r:=p 0) (λa b0=>absurd b0 (by omega)) (λi n=>⟨i,n⟩) (λg o _ b7 b2=>by rw[sY _ _ _ _ b7 b2];exactλv=>o v.symm) b5 (λZ a7=>by simpa using b6 Z a7)
 have v:(λg=>if g=0 then p 0 else p g)=p:=by funext g;by_cases w:g=0<;>simp[w]
 simp_all
def aj(e:VS)(t:dc):ui e (VD Ms) where
 lt:=dU Ms.lt
 wf:=dU.wf Ms.wf
 Ok:=db e t
 awake:=λ⟨d,_,o,_⟩ b a r l=>(o.each b a r l).awake
 at_:=λz⟨d,D,i,g⟩=>⟨d,D,i.at z,by
  cases t with
  |none=>exact g
  |some b0=>exact g⟩
 step:=by rintro u T q c R y v b a a4⟨d,rfl,i,g⟩ G s p x r l L;obtain⟨a3,w,U,f,h,q1,W,n,X,Y,Z,a0,a1,a2,S⟩:=BL a4 i G s p x r l L;exact⟨_,w,U,f,h,q1,by rw[<-n];rw[n];exact kU (Wh.1 l).1 W,X,⟨_,by rw[n],Y,iD g n a2 S⟩,Z,a0,a1⟩
 main:=by
  rintro u T q c R y v k b1 a9 U new a8⟨d,rfl,i,g⟩ G s p H x a7 a5 O N;obtain⟨P,Q⟩:=i.main (g₁:=k) G s p a5 O N H;refine⟨d,by simp,P,?_⟩;have:=iD (t:=(T.map (Go.Conc.woken e v k U)).setIfInBounds 0 k) (b:=0) (z:=d 0) (U:=U) g (by simp) A Q;have u:(λm=>if m=0 then d 0 else d m)=d:=by funext m;by_cases o:m=0<;>simp[o]
  simp_all
theorem pS{z:VL (E×E)}{n i:VO}{shape r:CommShape}{L:VI}{w:K}{g u y p:E}{o:VE Vx}{x D:VI}{H s:Vx}
 (W:T[b]?=C a)(N:stepG e (b==0) a l=.comm n #[rcase g H] L shape w O)(P:w.heap[g]?=C (.chan u o x y p D))(a2:0<o.size)
 (X:j≠b)(Y:T[j]?=C (parked i #[scase g k s] r))(a1:partners (T.setIfInBounds b ph) g J=[(j,0)]):
 runT e (crowd T l z) b=(.next (crowd ((T.setIfInBounds j (i.finishComm e #[scase g k s] r 0 F Vz)).setIfInBounds b (n.finishComm e #[rcase g H] shape 0 (o.getD 0 F) J)) (w.setChan g u ((o.extract 1 o.size).push k) x (y+1) (p+1) D) z),
  VZ b a.frame.fn a.frame.place O++#[{g:=b,fn:=n.frame.fn,pos:=n.frame.place,act:=.recv g p u},{g:=b,fn:=n.frame.fn,pos:=n.frame.place,act:=.recvDone g p},
   {g:=j,fn:=i.frame.fn,pos:=i.frame.place,act:=.send g y},{g:=j,fn:=i.frame.fn,pos:=i.frame.place,act:=.sendDone g y}]):=by
 rw[runT_crowd_comm W N];have Z:=stand_get (i:=b) X Y;have Q:=finishPartner_at e (T.setIfInBounds b ph) Z (cs:=#[scase g k s]) (sh:=r) A 0 F;have S:(T.setIfInBounds b ph).getD j default=parked i #[scase g k s] r:=by simp_all
 have a0:offeredValue (T.setIfInBounds b ph) j 0=k:=by grind [offeredValue,parked,scase]
 simp[communicate,ways,rcase,P,a1,a2,choose,Sem.run,Question.forced,bind,Sem.bind,pure,K.setChan,crowd,Q,S,a0,set_stand2,finishComm_parked,scase,parked];rfl
def AtRecv(e:VS)(c:E)(d:Vx)(b a:VO):Prop:=
 b.status=.running/\a.status=.running/\∀q,stepG e J b q=.comm a #[rcase c d] J (.recv J) q #[]
def Hh(e:VS)(d:E)(b:PD)(f:E)(i:Vx)(a:VO)(y:bT)(T:VE VO)(q:K)(c:VY):Prop:=
 ∃g R,cR c q R/\aH e c q R 0 y/\Deaf c 0=0/\
  ((f<b.n/\∃h,T[0]?=C (Go.Conc.served a (.tuple #[h,.bool J]))/\an y.S y.β (b.τ f) h/\db e (C (d,b,f+1)) g T q c R y)\/
   (f=b.n/\T[0]?=C (Go.Conc.served a (.tuple #[i,.bool Vz]))/\db e I g T q c R y))
theorem bB.chan{L:VE VO}{w:E->aG}{u:PD}(G:cR c q R)(r:bB e T q c R y w)(b0:jM c q U R h 0 f)(a2:0<d)(a3:d<T.size)(a9:(w d).pd=C u)(a4:L.size=T.size)
 (b3:∀g,g≠d->0<g->L[g]?=T[g]?)(hd:∀g,0<g->Deaf (c++f) g=Deaf c g){v:aG}(c7:∀a,L[d]?=C a->cB e d a U (c++f) h y v)(a5:v.pd=C u\/v.pd=I)(b9:∀H∈f,H.g=0\/H.g=d)(a8:∀t,v≠.wk t)
 (O:∀m,m<q.heap.size->(R (.obj m)=.sync\/R (.obj m)=.void)->(∀z x cl p n s,q.heap[m]?≠C (.chan z x cl p n s))->U.heap[m]?=q.heap[m]?):
 bB e L U (c++f) h y (λg=>if g=d then v else w g) where
 ops:=by
  intro g H a6;rw[a4];rcases Wp a6 with⟨_,b4⟩|⟨_,c0⟩
  .exact r.ops g H b4
  grind
 wg:=by
  intro o S;have i:=r.wg o S
  have b2:U.heap[o.D.Wg]?=q.heap[o.D.Wg]?:=O _ i.pD (VA (i.qU _ (VA A))) λz x cl p n s k=>by obtain⟨_,_,l⟩:=i.mode.live;have:q.heap[o.D.Wg]?=_:=l;rw[k]at this;cases this
  have b1:U.heap[o.D.gb]?=q.heap[o.D.gb]?:=O _ i.tA (VC i.yZ) λz x cl p n s k=>by obtain⟨_,_,l,_⟩:=i.gb;rw[k]at l;cases l
  have a7:∀t,w d≠.wk t:=λt k=>by rw[k]at a9;cases a9
  rw[a4];refine i.keep b0 b2 (λP=>P.same b1) (λg=>?_) (λg t k=>?_) λg t k=>?_
  .by_cases D:g=d
   .subst D;simp only[Wv];generalize w g=b5 at a7;cases v<;>cases b5<;>first|exact⟨rfl,rfl,rfl⟩|(exact absurd rfl (a8 _))|(exact absurd rfl (a7 _))
   simp only[D,Wy,and_self]
  .by_cases D:g=d
   .subst D;simp only[Wv]at k;exact absurd k (a8 t)
   simp only[D,Wy]at k;exact⟨t,k⟩
  grind
 each:=by
  intro b a Q Y;by_cases Z:b=d
  .simp_all
  simp only[Z,Wy];rw[b3 b Z Q]at Y;refine(r.each b a Q Y).frame G b0 (by omega) (hd b Q) (iP.refl y) (λn a5=>?_) (λH c6 b7=>by grind) λo S=>?_
  rotate_left
  .have i:=r.wg o S;refine ft.same (O _ i.pD (VA (i.qU _ (VA A))) λz x cl p n s k=>?_) (O _ i.tA (VC i.yZ) λz x cl p n s k=>?_)
   .obtain⟨_,_,l⟩:=i.mode.live;have:q.heap[o.D.Wg]?=_:=l;rw[k]at this;cases this
   obtain⟨_,_,l,_⟩:=i.gb;simp_all
  exact absurd (r.one b d n u.rc Q a2 ((Wh.1 Y).1) a3 a5 (by simp_all [aG.cC])) Z
 one:=by
  intro p m n s i P W X l N;rw[a4]at W X;have k:(w d).chan=C u.rc:=by simp_all [aG.cC]
  by_cases a0:p=d<;>by_cases a1:m=d
  .omega
  .simp only[a1,Wy]at N;exact absurd (r.one m d s u.rc P a2 X a3 N k) a1
  .simp only[a0,Wy]at l;exact absurd (r.one p d n u.rc i a2 W a3 l k) a0
  simp only[a0,Wy]at l;simp only[a1,Wy]at N;exact r.one p m n s i P W X l N
 above:=λg a6=>by rw[hd g (by omega)];exact r.above g (by omega)
theorem kR{p v y z:E}{u:VE Vx}{w D:VI}(N:R (.obj p)=.sync)(r:∀g∈f,∀i,g.act.touch?=C i->False)(x:∀g∈f,∀s,g.act≠.mark (.release s)):jM c q (q.setChan p v u w y z D) R R b f where
 norel:=x
 iU:=VA λg n i o _=>(r g n i o).elim
 size:=by simp[K.setChan]
 os:=A
 out:=A
 heap:=λt _=>by grind [World.setChan]
 old:=λ_ _ _ _=>rfl
 new:=λP t _ H L=>by grind [World.setChan]
 touch:=λg n i o _=>(r g n i o).elim
theorem mU{d n v u:E}{m:VE Vx}{o w:VI}(k:aH e c q R b y)(i:R (.obj d)=.sync)(t:∀h∈f,∀x,h.act.touch?=C x->False)(s:∀h∈f,∀a,h.act≠.mark (.release a)):aH e (c++f) (q.setChan d n m o v u w) R b y:=
 k.stay (kR (b:=b) i t s) λa l r=>by
  have z:l≠d:=by intro p;subst p;rcases k.dv a _ r _ (VA A)with g|⟨g,_⟩<;>(rw[i]at g;cases g)
  grind [World.setChan]
theorem pf{l:E->aG}{i:PD}{o:VO}(b:bB e T q c R y l)(D:T[0]?=C o)(r:0<d)(s:d<T.size)(N:(l d).pd=C i)(L:∀a,T[d]?=C a->a.status≠.blocked):
 partners (T.setIfInBounds 0 ph) i.rc J=[]:=by
 refine partners_nil λg m h=>?_;rcases c_ T 0 g m h with⟨rfl,rfl⟩|⟨H,h⟩
 .rfl
 by_cases p:g=d
 .simp_all [Yn]
 refine Yn ?_ _ _;have f:=b.each g m (by omega) h;generalize t:l g=w at f;cases w with
 |lv v=>rcases f.1.status with b|b<;>rw[b]<;>simp
 |wk m=>obtain⟨n,_,_,f⟩:=f;rcases f.status with b|b<;>rw[b]<;>simp
 |pr k u n x=>rw[f.1];simp
 |pq k v=>rcases f.2.1.status with b|b<;>rw[b]<;>simp
 |pb k u n x z U W=>exact absurd (b.one g d k.rc i.rc (by omega) r (Wh.1 h).1 s (by rw[t];rfl) (by simp_all [aG.cC])) p
theorem xV{d:PD}{c:VE Vx}{e:E}(f:∀(b:E) a,c[b]?=C a->an y.S y.β (d.τ (e+b)) a):∀(b:E) a,(c.extract 1 c.size)[b]?=C a->an y.S y.β (d.τ (e+1+b)) a:=by grind [Array.getElem?_extract]
theorem Jd{a3:E->aG}{g:PD}{m:E}{b9:Vx}{v:VO}(H:VL (E×E))(p:bB e T q c R y a3)(h7:ee (C (d,g,m)) T q a3)(G:cR c q R)(e5:aH e c q R 0 y)(d8:Deaf c 0=0)
 (a1:T[0]?=C v)(g6:AtRecv e g.rc b9 v a):
 ∃a4 U f,runT e (crowd T q H) 0=(.next (crowd a4 U H),f)/\(Hh e d g m b9 a y a4 U (c++f)\/(a4=T.setIfInBounds 0 (parked a #[rcase g.rc b9] (.recv J))/\U=q/\f=#[]/\q.heap[g.rc]?=C (.chan 4 #[] Vz m m Vz))):=by
 obtain⟨O,X,b0,h5⟩:=h7;have f9:0<T.size:=(Wh.1 a1).1;obtain⟨c6,b6⟩:∃c6,T[d]?=C c6:=⟨_,Wj X⟩;have d1:=p.each d c6 O b6;obtain⟨e8,a6⟩:∃e8,a3 d=e8:=⟨_,A⟩;rw[a6]at d1 b0;have d2:=g6.2.2
 have e7:∀{P u cl h},km g q R y P u cl h->u=m:=by intro P u cl h w;obtain⟨_,_,_,_,_,r⟩:=h5;rw[w.heap]at r;cases r;rfl
 have e9:∀n s,s≠0->(T.setIfInBounds 0 n)[s]?=T[s]?:=λn s x=>Wr (λZ=>x Z.symm);have i7:∀{T:VE VO} n s,s≠0->(T.setIfInBounds 0 n)[s]?=T[s]?:=λn s x=>Wr (λZ=>x Z.symm)
 have i2:∀(Q b2:MemAct)(a:VO),(∀l∈(VZ 0 v.frame.fn v.frame.place #[]++#[{g:=0,fn:=a.frame.fn,pos:=a.frame.place,act:=Q},{g:=0,fn:=a.frame.fn,pos:=a.frame.place,act:=b2}]:VY),l.g=0):=by simp[VZ]
 have take:∀(P:E)(cl:VI)(h:VE Vx)(d3:aG),km g q R y P m cl h->0<h.size->(∀a,T[d]?=C a->a.status≠.blocked)->m<g.n->d3.pd=C g->
  (∀(f:VY),(∀l∈f,l.g=0)->(∀l∈f,∀n,l.act.touch?=C n->False)->(∀l∈f,∀Q,l.act≠.mark (.release Q))->km g (q.setChan g.rc 4 (h.extract 1 h.size) cl P (m+1) Vz) R y P (m+1) cl (h.extract 1 h.size)->cB e d c6 (q.setChan g.rc 4 (h.extract 1 h.size) cl P (m+1) Vz) (c++f) R y d3)->
  ∃a4 U f,runT e (crowd T q H) 0=(.next (crowd a4 U H),f)/\(Hh e d g m b9 a y a4 U (c++f)\/(a4=T.setIfInBounds 0 (parked a #[rcase g.rc b9] (.recv J))/\U=q/\f=#[]/\q.heap[g.rc]?=C (.chan 4 #[] Vz m m Vz))):=by
  intro P cl h d3 w g0 d0 e0 e4 j8;have h4:g.rc<q.heap.size:=(Wh.1 w.heap).1;have Y:=crowd_recv_buf (P:=e) (sl:=H) (i:=0) a1 (d2 q) w.heap g0 (pf p a1 O X (by grind) d0);have a9:=i2 (.recv g.rc m 4) (.recvDone g.rc m) a
  have a2:∀l∈(VZ 0 v.frame.fn v.frame.place #[]++#[{g:=0,fn:=a.frame.fn,pos:=a.frame.place,act:=.recv g.rc m 4},{g:=0,fn:=a.frame.fn,pos:=a.frame.place,act:=.recvDone g.rc m}]:VY),∀n,l.act.touch?=C n->False:=by simp[VZ,MemAct.touch?]
  have S:∀l∈(VZ 0 v.frame.fn v.frame.place #[]++#[{g:=0,fn:=a.frame.fn,pos:=a.frame.place,act:=.recv g.rc m 4},{g:=0,fn:=a.frame.fn,pos:=a.frame.place,act:=.recvDone g.rc m}]:VY),∀Q,l.act≠.mark (.release Q):=by simp[VZ]
  have z:=kR (b:=0) (c:=c) (q:=q) (f:=(VZ 0 v.frame.fn v.frame.place #[]++#[{g:=0,fn:=a.frame.fn,pos:=a.frame.place,act:=.recv g.rc m 4},{g:=0,fn:=a.frame.fn,pos:=a.frame.place,act:=.recvDone g.rc m}]:VY)) (v:=4) (u:=h.extract 1 h.size) (w:=cl) (y:=P) (z:=m+1) (D:=Vz) w.own a2 S;have a8:=w.count;have j9:=w.room
  have c9:km g (q.setChan g.rc 4 (h.extract 1 h.size) cl P (m+1) Vz) R y P (m+1) cl (h.extract 1 h.size):=by
   refine⟨?_,by simp;omega,by simp;omega,w.own,xV w.msgs⟩
   grind [World.setChan]
  refine⟨_,_,_,Y,VA ⟨_,R,G.step z,mU e5 w.own a2 S,?_,VA ⟨e0,h.getD 0 F,?_,?_,λb=>if b=d then d3 else a3 b,A,?_,O,by grind,by grind,⟨_,_,_,_,_,c9.heap⟩⟩⟩⟩
  .have b3:(VZ 0 v.frame.fn v.frame.place #[]++#[{g:=0,fn:=a.frame.fn,pos:=a.frame.place,act:=.recv g.rc m 4},{g:=0,fn:=a.frame.fn,pos:=a.frame.place,act:=.recvDone g.rc m}]:VY)=[({g:=0,fn:=a.frame.fn,pos:=a.frame.place,act:=.recv g.rc m 4}:MemOp),{g:=0,fn:=a.frame.fn,pos:=a.frame.place,act:=.recvDone g.rc m}].toArray:=by rfl
   rw[b3,ZL,d8];rfl
  .rw[Wq f9];rfl
  .have r:h[0]?=C h[0]:=Wj g0;rw[WB,r];exact w.msgs 0 _ r
  exact p.chan G z O X (by grind) (by simp) (λs _ a5=>e9 _ s (by omega)) (λs a5=>Yy c (g':=0) (by omega) _ a9) (λa0 N=>by
   grind) (VA e4) (λl W=>VA (a9 l W)) (λn r=>by rw[r]at e4;cases e4) (λb2 b5 e3 e2=>by
   simp only[K.setChan]
   rw[Wr (λZ=>by subst Z;exact e2 _ _ _ _ _ _ w.heap)])
 cases e8 with
 |lv b8=>cases b0
 |wk n=>cases b0
 |pr f1 D d5 f0=>
  cases b0;obtain⟨f5,d6,⟨u,h,o⟩,c7,a7,L,c8⟩:=d1;obtain rfl:=e7 o;by_cases b5:0<h.size
  .have a8:=o.count;exact take _ _ h (.pr g D d5 f0) o b5 (λa0 N=>by grind) (by omega) A λf e6 b7 S w=>⟨f5,d6,⟨_,_,w⟩,c7.other (i:=0) (by omega) (kR o.own b7 S),by rw[Yy c (g':=0) (by omega) f e6];exact a7,⟨L.1,L.2.1.chan b7 (by rw[o.heap];simp),L.2.2⟩,c8⟩
  have d7:h=#[]:=ZF (by omega);subst d7
  have Y:=crowd_waits (P:=e) (sl:=H) (i:=0) a1 (d2 q) (λj1 f6=>by
   simp only[Yh,Wo,Wx,Xo]at f6;subst f6
   exact ways_recv_none o.heap (pf p a1 O X (by rw[a6];rfl) (λa0 N=>by grind)))
  have a8:=o.count;simp at a8;exact⟨_,_,_,Y,VC ⟨A,A,by rfl,by rw[o.heap,<-a8]⟩⟩
 |pb f1 D d5 f0 t d4 i9=>
  cases b0;obtain⟨f5,d6,j2,⟨u,h,o,j3⟩,c7,a7,L,c8,b4⟩:=d1;obtain rfl:=e7 o;subst d6;have h4:g.rc<q.heap.size:=(Wh.1 o.heap).1
  have h2:partners (T.setIfInBounds 0 ph) g.rc J=[(d,0)]:=by
   rw[partners_one (j:=d) (g:=parked t #[scase g.rc d4 i9] .send) (stand_get (by omega) b6),offersAt_parked_send,VV A]
   .rfl
   intro m n f8 r;rcases c_ T 0 m n r with⟨rfl,rfl⟩|⟨j5,r⟩
   .rfl
   refine Yn ?_ _ _;have x:=p.each m n (by omega) r;generalize h6:a3 m=i6 at x;cases i6 with
   |lv b8=>rcases x.1.status with p|p<;>rw[p]<;>simp
   |wk n=>obtain⟨f2,_,_,x⟩:=x;rcases x.status with p|p<;>rw[p]<;>simp
   |pr b1 i1 f2 i8=>rw[x.1];simp
   |pq b1 b8=>rcases x.2.1.status with p|p<;>rw[p]<;>simp
   |pb b1 i1 f2 i8 a0 k0 k1=>exact absurd (p.one m d b1.rc g.rc (by omega) O (Wh.1 r).1 X (by rw[h6];rfl) (by rw[a6];rfl)) f8
  have Y:=pS (e:=e) (z:=H) (b:=0) (j:=d) a1 (d2 q) o.heap (by omega) (by omega) b6 h2;rw[L_]at Y;have a8:=o.count
  have b3:∀(n:E),(VZ 0 v.frame.fn v.frame.place #[]++#[{g:=0,fn:=a.frame.fn,pos:=a.frame.place,act:=.recv g.rc u 4},{g:=0,fn:=a.frame.fn,pos:=a.frame.place,act:=.recvDone g.rc u},
   {g:=d,fn:=t.frame.fn,pos:=t.frame.place,act:=.send g.rc n},{g:=d,fn:=t.frame.fn,pos:=t.frame.place,act:=.sendDone g.rc n}]:VY)=
   [({g:=0,fn:=a.frame.fn,pos:=a.frame.place,act:=.recv g.rc u 4}:MemOp),{g:=0,fn:=a.frame.fn,pos:=a.frame.place,act:=.recvDone g.rc u},{g:=d,fn:=t.frame.fn,pos:=t.frame.place,act:=.send g.rc n},{g:=d,fn:=t.frame.fn,pos:=t.frame.place,act:=.sendDone g.rc n}].toArray:=by
   simp[VZ]
  rw[b3]at Y
  have a2:∀l∈[({g:=0,fn:=a.frame.fn,pos:=a.frame.place,act:=.recv g.rc u 4}:MemOp),{g:=0,fn:=a.frame.fn,pos:=a.frame.place,act:=.recvDone g.rc u},{g:=d,fn:=t.frame.fn,pos:=t.frame.place,act:=.send g.rc (g.n-(D+1))},{g:=d,fn:=t.frame.fn,pos:=t.frame.place,act:=.sendDone g.rc (g.n-(D+1))}].toArray,∀n,l.act.touch?=C n->False:=by simp[MemAct.touch?]
  have S:∀l∈[({g:=0,fn:=a.frame.fn,pos:=a.frame.place,act:=.recv g.rc u 4}:MemOp),{g:=0,fn:=a.frame.fn,pos:=a.frame.place,act:=.recvDone g.rc u},{g:=d,fn:=t.frame.fn,pos:=t.frame.place,act:=.send g.rc (g.n-(D+1))},{g:=d,fn:=t.frame.fn,pos:=t.frame.place,act:=.sendDone g.rc (g.n-(D+1))}].toArray,(∀Q,l.act≠.mark (.release Q))/\(l.g=0\/l.g=d):=by simp
  have g7:∀s,Deaf (c++[({g:=0,fn:=a.frame.fn,pos:=a.frame.place,act:=.recv g.rc u 4}:MemOp),{g:=0,fn:=a.frame.fn,pos:=a.frame.place,act:=.recvDone g.rc u},{g:=d,fn:=t.frame.fn,pos:=t.frame.place,act:=.send g.rc (g.n-(D+1))},{g:=d,fn:=t.frame.fn,pos:=t.frame.place,act:=.sendDone g.rc (g.n-(D+1))}].toArray) s=Deaf c s:=by intro s;rw[ZL];rfl
  have z:=kR (b:=0) (c:=c) (q:=q) (v:=4) (u:=(h.extract 1 h.size).push d4) (w:=Vz) (y:=g.n-(D+1)+1) (z:=u+1) (D:=Vz) o.own a2 (λl W=>(S l W).1)
  have c9:km g (q.setChan g.rc 4 ((h.extract 1 h.size).push d4) Vz (g.n-(D+1)+1) (u+1) Vz) R y (g.n-D) (u+1) Vz ((h.extract 1 h.size).push d4):=by
   refine⟨?_,by simp;omega,by simp;omega,o.own,λh8 n r=>?_⟩
   .grind [World.setChan]
   rw[Xv]at r;split at r
   .grind
   exact xV o.msgs h8 n r
  refine⟨_,_,_,Y,VA ⟨_,R,G.step z,mU e5 o.own a2 (λl W=>(S l W).1),by grind,VA ⟨by omega,h.getD 0 F,?_,?_,λb=>if b=d then .pr g D d5 f0 else a3 b,A,?_,O,by grind,by simp only[Wv];rfl,⟨_,_,_,_,_,c9.heap⟩⟩⟩⟩
  .rw[Wq (by grind)];rfl
  .have r:h[0]?=C h[0]:=Wj (by omega);rw[WB,r];exact o.msgs 0 _ r
  refine p.chan G z O X (by rw[a6];rfl) (by simp) (λs f8 a5=>?_) (λs a5=>g7 s) (λa0 N=>?_) (VA A) (λl W=>(S l W).2) (λn r=>by cases r) (λb2 b5 e3 e2=>by
   simp only[K.setChan]
   rw[Wr (λZ=>by subst Z;exact e2 _ _ _ _ _ _ o.heap)])
  .grind
  rw[i7 _ d (by omega),Wq X]at N;cases N
  exact⟨A,by omega,⟨_,_,c9⟩,c7.stay z (λQ b2 g5=>by
   have j4:b2≠g.rc:=by intro Z;subst Z;rcases c7.dv Q _ g5 _ (VA A)with p|⟨p,_⟩<;>(rw[o.own]at p;cases p)
   grind [World.setChan]),by grind,⟨L.1,L.2.1.chan a2 (by rw[o.heap];simp),L.2.2⟩,b4⟩
 |pq f1 b8=>
  cases b0;obtain⟨⟨u,h,o⟩,a7,g1,L,c8,b4⟩:=d1;obtain rfl:=e7 o
  have d0:∀a0,T[d]?=C a0->a0.status≠.blocked:=λa0 N=>by rw[b6]at N;cases N;rcases a7.status with p|p<;>rw[p]<;>simp
  have a8:=o.count;by_cases b5:0<h.size
  .refine take _ _ h (.pq g b8) o b5 d0 (by omega) A λf e6 b7 S w=>?_;have z:=kR (b:=0) (c:=c) (q:=q) (f:=f) (v:=4) (u:=h.extract 1 h.size) (w:=J) (y:=g.n) (z:=u+1) (D:=Vz) o.own b7 S;refine⟨⟨_,_,w⟩,by rw[Yy c (g':=0) (by omega) f e6];exact a7,g1,?_,?_,b4.1.frame G z (by omega),b4.2.chan b7 (by rw[o.heap];simp)⟩
   .rw[T_ (YP L)];exact L
   grind [heard_old,lt_of_act?]
  have d7:h=#[]:=ZF (by omega);subst d7;have Y:=crowd_recv_closed (P:=e) (sl:=H) (i:=0) a1 (d2 q) o.heap (pf p a1 O X (by rw[a6];rfl) d0);have b3:(VZ 0 v.frame.fn v.frame.place #[]++#[{g:=0,fn:=a.frame.fn,pos:=a.frame.place,act:=.recvClosed g.rc}]:VY)=#[({g:=0,fn:=a.frame.fn,pos:=a.frame.place,act:=.recvClosed g.rc}:MemOp)]:=by rfl
  rw[b3]at Y
  have a2:∀l∈(#[({g:=0,fn:=a.frame.fn,pos:=a.frame.place,act:=.recvClosed g.rc}:MemOp)]:VY),∀n,l.act.touch?=C n->False:=by simp[MemAct.touch?]
  have a9:∀l∈(#[({g:=0,fn:=a.frame.fn,pos:=a.frame.place,act:=.recvClosed g.rc}:MemOp)]:VY),l.g=0:=by simp
  have z:jM c q q R R 0 (#[({g:=0,fn:=a.frame.fn,pos:=a.frame.place,act:=.recvClosed g.rc}:MemOp)]:VY):=mB a2 (λl W Q=>by grind)
  have e1:(c++#[({g:=0,fn:=a.frame.fn,pos:=a.frame.place,act:=.recvClosed g.rc}:MemOp)])[c.size]?=C {g:=0,fn:=a.frame.fn,pos:=a.frame.place,act:=.recvClosed g.rc}:=by simp
  have h3:=YP L
  have e0:Knows (c++#[({g:=0,fn:=a.frame.fn,pos:=a.frame.place,act:=.recvClosed g.rc}:MemOp)]) 0 g1:=by refine⟨c.size,_,e1,A,VC (.single (VC ⟨.closed (c:=g.rc) (by grind [act?_old]) (act?_of e1),(Yg h3).2 c8,0,fy e1,?_⟩))⟩;rw[deaf_old (Wl _)];exact d8
  refine⟨_,_,_,Y,VA ⟨_,R,G.step z,e5.stay z (λ_ _ _=>rfl),?_,VC ⟨by omega,?_,λb=>if b=d then .lv b8 else a3 b,A,?_,?_⟩⟩⟩
  .have g4:(#[({g:=0,fn:=a.frame.fn,pos:=a.frame.place,act:=.recvClosed g.rc}:MemOp)]:VY)=[({g:=0,fn:=a.frame.fn,pos:=a.frame.place,act:=.recvClosed g.rc}:MemOp)].toArray:=A;rw[g4,ZL,d8];rfl
  .rw[Wq f9];rfl
  .refine p.chan G z O X (by rw[a6];rfl) (by simp) (λs _ a5=>e9 _ s (by omega)) (λs a5=>Yy c (g':=0) (by omega) _ a9) (λa0 N=>?_) (VC A) (λl W=>VA (a9 l W)) (λn r=>by cases r) (λ_ _ _ _=>rfl);rw[e9 _ d (by omega),b6]at N;cases N;refine⟨by rw[Yy c (g':=0) (by omega) _ a9];exact a7,λh9 l n x g8 r h1 e3=>?_⟩;rcases Wp x with⟨h0,a5⟩|⟨_,j6⟩
   .exact Knows.of_before ((b4.1 h9 l n a5 g8 r h1 (e3.imp id (Yg h0).1)).app _) e0
   grind
  intro b g9 f7;simp at f7;by_cases d9:b=d
  .simp[d9];rfl
  simp only[d9,Wy];cases j7:(a3 b).pd with
  |none=>rfl
  |some b1=>exact absurd (p.one b d b1.rc g.rc g9 O f7 X (by grind [aG.cC]) (by rw[a6];rfl)) d9
def iZ(q:K)(b a:E):Prop:=q.heap[b]?=C (.chan 4 #[] Vz a a Vz)
theorem BO{x:E->aG}{g:PD}{k:E}{a1:Vx}{i:VO}(S:VL (E×E))(p:bB e T q c R y x)(i2:ee (C (d,g,k)) T q x)(N:iZ q g.rc k)(G:cR c q R)(c8:aH e c q R 0 y)(g5:Deaf c 0=0)
 (a7:T[0]?=C (parked a #[rcase g.rc a1] (.recv J)))(k9:a.status=.running)(b5:0<b)(a4:T[b]?=C i)(h8:i.status=.running):
 ∃D U f,runT e (crowd T q S) b=(.next (crowd D U S),f)/\(Hh e d g k a1 a y D U (c++f)\/
  ∃h d3,dU Ms.lt (tE d3 D.size) (tE x T.size)/\bB e D U (c++f) h y d3/\ee (C (d,g,k)) D U d3/\cR (c++f) U h/\aH e (c++f) U h 0 y/\Deaf (c++f) 0=0/\
   ((iZ U g.rc k/\D[0]?=C (parked a #[rcase g.rc a1] (.recv J)))\/D[0]?=C {parked a #[rcase g.rc a1] (.recv J)with status:=.running})):=by
 have b6:b<T.size:=(Wh.1 a4).1;obtain⟨L,P,c6,h9⟩:=i2;have Y:(x d).chan=C g.rc:=by simp_all [aG.cC]
 by_cases hd:uy e i (x b)
 ·
  have e7:=p.each b i b5 a4;obtain⟨d2,Z⟩:∃d2,x b=d2:=⟨_,A⟩;rw[Z]at e7 hd;cases d2 with
  |lv a0=>exact hd.elim
  |wk s=>exact hd.elim
  |pq O a0=>exact hd.elim
  |pb O Q d5 f1 k6 d4 a1=>exact hd.elim
  |pr O Q d5 f1=>
   have g9:b=d:=p.one b d O.rc g.rc b5 L b6 P (by rw[Z];rfl) Y;subst g9;rw[Z]at c6;cases c6;obtain⟨_,l0,⟨l7,f7,v⟩,c9,e3,a6,l2⟩:=e7;have o:=v.heap;rw[N]at o;simp only[Wz,Obj.chan.injEq]at o;obtain⟨_,i5,_,l3,i6,_⟩:=o;subst i5;subst i6;have e6:g.rc<q.heap.size:=(Wh.1 N).1;have e4:(b==0)=Vz:=by simp;omega
   have g3:=v.count;cases Q with
   |zero=>
    obtain⟨_,h4,d8,g6,d0,a0,l1⟩:=hd;have c7:=d0 q _ _ _ _ _ N;have b2:VZ b i.frame.fn i.frame.place #[⟨.obj g.rc,Vz,J⟩,⟨.obj g.rc,J,J⟩]=#[{g:=b,fn:=i.frame.fn,pos:=i.frame.place,act:=.access ⟨.obj g.rc,Vz,J⟩},{g:=b,fn:=i.frame.fn,pos:=i.frame.place,act:=.close g.rc}]:=by simp[VZ,Wf]
    have H:jM c q (q.setChan g.rc 4 #[] J k k Vz) R R b (VZ b i.frame.fn i.frame.place #[⟨.obj g.rc,Vz,J⟩,⟨.obj g.rc,J,J⟩]):=by
     refine⟨by simp[K.setChan],A,λW d9=>?_,λ_ _ _ _=>rfl,λl5 W _ a8 a9=>by grind [World.setChan],λt u s o b7=>?_,dX (by simp),VA λt u s o b7=>?_,A⟩
     rotate_right
     .obtain⟨z,a3,rfl⟩:=Go.Conc.mem_ofEvents u;simp only[Yh,Wo,Wx,Xo]at a3;rcases a3 with rfl|rfl
      .simp[Wf,MemAct.touch?]at o;subst o;exact v.own
      simp_all [Wf,MemAct.touch?]
     .by_cases e0:W=g.rc
      .subst e0;exact VC (VA (VA v.own))
      grind [World.setChan]
     rw[b2]at u;simp only[Yh,Wo,Wx,Xo]at u;rcases u with rfl|rfl
     .simp[MemAct.touch?]at o;subst o;exact⟨A,g.rc,VA A,by simp[K.setChan];exact e6,VC ⟨e6,VC (VC ⟨v.own,VA A⟩)⟩⟩
     simp_all [MemAct.touch?]
    have f8:∀l,l≠b->Deaf (c++VZ b i.frame.fn i.frame.place #[⟨.obj g.rc,Vz,J⟩,⟨.obj g.rc,J,J⟩]) l=Deaf c l:=λl r=>Yy c (g':=b) (λz=>r z.symm) _ (λt u=>by grind);have lone:∀l w,0<l->l<T.size->l≠b->(x l).chan=C w->False:=λl w a8 a9 b3 b4=>b3 (p.one l b w g.rc a8 L a9 P b4 Y)
    have i4:∀l,l≠b->0<l->∀s,T[l]?=C s->Go.Conc.woken e i d8 (q.setChan g.rc 4 #[] J k k Vz) s=s:=λl r X s o=>(p.each l s X o).woken i d8 λw e1=>(lone l w X (Wh.1 o).1 r e1).elim
    have g8:(q.setChan g.rc 4 #[] J k k Vz).heap[g.rc]?=C (.chan 4 #[] J k k Vz):=by simp_all [K.setChan]
    refine⟨_,_,_,Zj (P:=e) (sl:=S) (i:=b) a4 (by rw[e4];exact c7),VC ⟨R,λj=>if j=b then .pq g a0 else x j,?_,?_,⟨L,by simp_all,by simp only[Wv];rfl,⟨_,_,_,_,_,g8⟩⟩,G.step H,c8.other (by omega) H,by grind,.inr ?_⟩⟩
    .simp only[WQ,XY];exact kU b6 (by rw[Z];exact .left _ _ (by simp))
    .obtain⟨i7,l4⟩:=fD (x:=.pq g a0) p H (λW d9 b0 b8=>by
    simp only[K.setChan]
    rw[Wr (λz=>by subst z;exact b8 _ _ _ _ _ _ N)]) (by rw[Z];exact⟨A,A,A⟩) ⟨λs o=>(by cases o),λs o=>by simp_all⟩
     refine p.jK G H (iP.refl y) (by simp) (λl r X=>mI l r (i4 l r X)) f8 (λl w a8 a9 b3 b4=>(lone l w a8 a9 b3 b4).elim) b6 (λd7 _ a5=>?_) (λw e1=>⟨g.rc,Y⟩) (λk r _ t u=>by grind) i7 (λd5 k7=>by simp_all);rw[Wq (by simp_all)]at a5;cases a5
     have e5:(c++#[({g:=b,fn:=i.frame.fn,pos:=i.frame.place,act:=.access ⟨.obj g.rc,Vz,J⟩}:MemOp),{g:=b,fn:=i.frame.fn,pos:=i.frame.place,act:=.close g.rc}])[c.size+1]?=C {g:=b,fn:=i.frame.fn,pos:=i.frame.place,act:=.close g.rc}:=by simp
     have k8:Deaf (c++VZ b i.frame.fn i.frame.place #[⟨.obj g.rc,Vz,J⟩,⟨.obj g.rc,J,J⟩]) b=0:=by rw[Yt,e3];rfl
     refine⟨⟨k,#[],?_⟩,by simp_all,c.size+1,?_,?_,?_⟩
     .refine⟨?_,by simp at g3⊢;omega,by simp,v.own,by simp⟩;simp_all
     .simp_all [VY.act?]
     .rw[b2];refine⟨b,fy e5,?_⟩
      have g0:(c++#[({g:=b,fn:=i.frame.fn,pos:=i.frame.place,act:=.access ⟨.obj g.rc,Vz,J⟩}:MemOp),{g:=b,fn:=i.frame.fn,pos:=i.frame.place,act:=.close g.rc}])[c.size]?=C {g:=b,fn:=i.frame.fn,pos:=i.frame.place,act:=.access ⟨.obj g.rc,Vz,J⟩}:=by simp
      rw[deaf_succ g0,deaf_old (Wl _)];exact e3
     refine⟨?_,a6.2.1.own G H λt u s o b7 b0=>?_⟩
     rotate_left
     .obtain⟨z,a3,rfl⟩:=Go.Conc.mem_ofEvents u;simp only[Yh,Wo,Wx,Xo]at a3;rcases a3 with rfl|rfl
      .simp[Wf,MemAct.touch?]at o;subst o;exact absurd v.own b0
      simp_all [Wf,MemAct.touch?]
     intro i8 t s r g7 o b7 b0;rw[b2]at r⊢
     have h3:=ZU r;simp at h3;by_cases h1:i8=c.size+1
     .exact VA h1
     exact VC (hb_po (by omega) r e5 g7)
    rw[Wr (by omega),WE,a7];simp only[Xp,Wz];unfold Go.Conc.woken;rw[VV (by rw[h4,g6];rfl)]
    grind [again_recv_closed]
   |succ Q=>
    obtain⟨_,d4,m1,d0,i3,h6,h5⟩:=hd;obtain⟨f2,g1⟩:=h5.tree;have c7:=d0 q c9.rel;have e8:an y.S y.β (g.τ (g.n-(Q+1))) d4:=an.to a6.1.1 h6 i3
    have h7:partners (T.setIfInBounds b ph) g.rc Vz=[(0,0)]:=by
     rw[partners_one (j:=0) (g:=parked a #[rcase g.rc a1] (.recv J)) (stand_get (by omega) a7),offersAt_parked_recv,VV A]
     .rfl
     intro l s h2 o;rcases c_ T b l s o with⟨rfl,rfl⟩|⟨h0,o⟩
     .rfl
     refine Yn ?_ _ _;have r:=p.each l s (by omega) o;generalize i0:x l=k1 at r;cases k1 with
     |lv a0=>rcases r.1.status with p|p<;>rw[p]<;>simp
     |wk s=>obtain⟨d6,_,_,r⟩:=r;rcases r.status with p|p<;>rw[p]<;>simp
     |pr O j0 d6 k2=>rw[r.1];simp
     |pq O a0=>rcases r.2.1.status with p|p<;>rw[p]<;>simp
     |pb O j0 d6 k2 d7 l9 m0=>exact absurd (p.one l b O.rc g.rc (by omega) L (Wh.1 o).1 P (by rw[i0];rfl) Y) h0
    have b1:=crowd_send_meets (P:=e) (sl:=S) (i:=b) (j:=0) a4 (by rw[e4];exact c7) v.heap (by omega) a7 h7;rw[L_,finishComm_recv]at b1
    have f9:(VZ b i.frame.fn i.frame.place #[]++#[{g:=b,fn:=i.frame.fn,pos:=i.frame.place,act:=.send g.rc k},{g:=0,fn:=a.frame.fn,pos:=a.frame.place,act:=.recv g.rc k 4},
     {g:=b,fn:=i.frame.fn,pos:=i.frame.place,act:=.sendDone g.rc k},{g:=0,fn:=a.frame.fn,pos:=a.frame.place,act:=.recvDone g.rc k}]:VY)=
     [({g:=b,fn:=i.frame.fn,pos:=i.frame.place,act:=.send g.rc k}:MemOp),{g:=0,fn:=a.frame.fn,pos:=a.frame.place,act:=.recv g.rc k 4},{g:=b,fn:=i.frame.fn,pos:=i.frame.place,act:=.sendDone g.rc k},{g:=0,fn:=a.frame.fn,pos:=a.frame.place,act:=.recvDone g.rc k}].toArray:=by rfl
    have i1:g.n-(Q+1)=k:=by omega
    rw[i1]at b1 e8;rw[f9]at b1
    have c0:∀t∈[({g:=b,fn:=i.frame.fn,pos:=i.frame.place,act:=.send g.rc k}:MemOp),{g:=0,fn:=a.frame.fn,pos:=a.frame.place,act:=.recv g.rc k 4},{g:=b,fn:=i.frame.fn,pos:=i.frame.place,act:=.sendDone g.rc k},{g:=0,fn:=a.frame.fn,pos:=a.frame.place,act:=.recvDone g.rc k}].toArray,∀s,t.act.touch?=C s->False:=by simp[MemAct.touch?]
    have b9:∀t∈[({g:=b,fn:=i.frame.fn,pos:=i.frame.place,act:=.send g.rc k}:MemOp),{g:=0,fn:=a.frame.fn,pos:=a.frame.place,act:=.recv g.rc k 4},{g:=b,fn:=i.frame.fn,pos:=i.frame.place,act:=.sendDone g.rc k},{g:=0,fn:=a.frame.fn,pos:=a.frame.place,act:=.recvDone g.rc k}].toArray,(∀a2,t.act≠.mark (.release a2))/\(t.g=0\/t.g=b):=by simp
    have g4:∀l,Deaf (c++[({g:=b,fn:=i.frame.fn,pos:=i.frame.place,act:=.send g.rc k}:MemOp),{g:=0,fn:=a.frame.fn,pos:=a.frame.place,act:=.recv g.rc k 4},{g:=b,fn:=i.frame.fn,pos:=i.frame.place,act:=.sendDone g.rc k},{g:=0,fn:=a.frame.fn,pos:=a.frame.place,act:=.recvDone g.rc k}].toArray) l=Deaf c l:=by intro l;rw[ZL];rfl
    have H:=kR (b:=0) (c:=c) (q:=q) (v:=4) (u:=#[]) (w:=Vz) (y:=k+1) (z:=k+1) (D:=Vz) v.own c0 (λt u=>(b9 t u).1)
    have e2:km g (q.setChan g.rc 4 #[] Vz (k+1) (k+1) Vz) R y (g.n-Q) (k+1) Vz #[]:=by
     refine⟨?_,by simp;omega,by simp,v.own,by simp⟩
     grind [World.setChan]
    refine⟨_,_,_,b1,VA ⟨_,R,G.step H,mU c8 v.own c0 (λt u=>(b9 t u).1),by grind,VA ⟨by omega,d4,?_,e8,λj=>if j=b then .pr g Q f2 f1 else x j,A,?_,L,by grind,by simp only[Wv];rfl,⟨_,_,_,_,_,e2.heap⟩⟩⟩⟩
    .rw[Wr (by omega),Wq (by omega)];rfl
    .refine p.chan G H L P (by rw[Z];rfl) (by simp) (λl h2 X=>?_) (λl X=>g4 l) (λd7 a5=>?_) (VA A) (λt u=>(b9 t u).2) (λs o=>by cases o) (λW d9 b0 b8=>by
    simp only[K.setChan]
    rw[Wr (λz=>by subst z;exact b8 _ _ _ _ _ _ N)])
     .grind
     rw[Wq (by grind)]at a5;cases a5
     exact⟨A,by omega,⟨_,_,e2⟩,c9.stay H (λa2 W g2=>by
      have e0:W≠g.rc:=by intro z;subst z;rcases c9.dv a2 _ g2 _ (VA A)with p|⟨p,_⟩<;>(rw[v.own]at p;cases p)
      grind [World.setChan]),by grind,⟨a6.1,a6.2.1.chan c0 (by rw[N];simp),a6.2.2⟩,g1⟩
 obtain⟨f0,D,U,f,h,q1,l6,j5,⟨a2,f3,e9⟩,j6,j7,j8,j9,k0,d1,_⟩:=quiet_step S p G c8 a7 b5 a4 h8 hd;rw[woken_recv_open a2 f3 (by rw[(d1 d g.rc 0 L P Y).1];exact N)]at e9;refine⟨D,U,f,q1,VC ⟨h,_,?_,j6,iD ⟨L,P,c6,h9⟩ j5 k0 (λk w j1 f4 f5 f6=>(d1 k w j1 f4 f5 f6).2),j7,j8,j9.trans g5,VA ⟨?_,e9⟩⟩⟩
 .simp_all [kU]
 unfold iZ;rw[(d1 d g.rc 0 L P Y).1];exact N
end
end
variable{a:VS}{c:VO}{b:VY}
section
variable[Inhabited aV]
section
theorem AtRecv.again{d:E}{e:Vx}{f:VE CommCase}{g:CommShape}(b:AtRecv a d e c c):AtRecv a d e {parked c f g with status:=.running} c:=
 ⟨A,b.1,λq=>by rw[stepG_tries];have:=b.2.2 q;rw[<-b.1];exact this⟩
theorem mR{c:dc}{e:VD Ms}(d:E)(f:db a c e T q b R y):db a c e T (q.at d) b R y:=(aj a c).at_ d f
theorem IH{e:PD}{i:E}{p:Vx}(W:AtRecv a e.rc p c c):∀(u:VD Ms),
 (∀(T:VE VO)(q:K)(l:VL (E×E))(b:VY)(R:Loc->dw)(y:bT)(v:VO),db a (C (d,e,i)) u T q b R y->cR b q R->aH a b q R 0 y->T[0]?=C v->Deaf b 0=0->AtRecv a e.rc p v c->
   cd a T q l b λk x _ S=>Hh a d e i p c y k x S)/\
 (∀(T:VE VO)(q:K)(l:VL (E×E))(b:VY)(R:Loc->dw)(y:bT),db a (C (d,e,i)) u T q b R y->cR b q R->aH a b q R 0 y->T[0]?=C (parked c #[rcase e.rc p] (.recv J))->Deaf b 0=0->iZ q e.rc i->
   cd a T q l b λk x _ S=>Hh a d e i p c y k x S):=by
 intro u
 induction (dU.wf Ms.wf).apply u with
 |intro u _ a7=>
  have b5:∀(T:VE VO)(q:K)(l:VL (E×E))(b:VY)(R:Loc->dw)(y:bT),db a (C (d,e,i)) u T q b R y->cR b q R->aH a b q R 0 y->T[0]?=C (parked c #[rcase e.rc p] (.recv J))->Deaf b 0=0->iZ q e.rc i->
   cd a T q l b λk x _ S=>Hh a d e i p c y k x S:=by
   intro T q l b R y s G Q n N O;have a5:∀w∈T,Go.Conc.awake w:=by
    intro w a6;obtain⟨g,h,rfl⟩:=Xt.1 a6;rcases WA g with rfl|t
    .have:T[0]=parked c #[rcase e.rc p] (.recv J):=by simpa[Wj h]using n
     rw[this];exactλb a0=>by cases a0
    exact(aj a (C (d,e,i))).awake s g _ t (Wj h)
   have d7:∃(g:E)(c:VO),T[g]?=C c/\c.status=.running:=by
    obtain⟨a2,_,m,d5,b7,P,e7⟩:=s;have Y:=m.each d _ d5 (Wj b7);refine⟨d,_,Wj b7,?_⟩;obtain⟨a8,d6⟩:∃a8,a2 d=a8:=⟨_,A⟩;rw[d6]at Y P;cases a8 with
    |lv d9=>cases P
    |wk w=>cases P
    |pr a9 d8 c0 e4=>exact Y.1
    |pb a9 d8 c0 e4 e6 f2 p=>cases P;obtain⟨_,_,_,⟨e3,c6,H,d0⟩,_⟩:=Y;have:=H.heap;rw[O]at this;cases this;simp at d0
    |pq a9 d9=>cases P;obtain⟨⟨e3,c6,H⟩,_⟩:=Y;have:=H.heap;rw[O]at this;cases this
   obtain⟨g,c8,f,r,h,X,Z⟩:=YO (P:=a) (w:=q) (sl:=l) a5 d7;have t:0<g:=by
    rcases WA g with rfl|c9
    .rw[n]at h;cases h;cases X
    exact c9
   obtain⟨a2,rfl,m,a1⟩:=mR f s;obtain⟨k,z,b9,D,o⟩:=BO r m a1 (show iZ (q.at f) e.rc i from O) (G.at f) (Q.at f) N n W.1 t h X;refine cd.head (Z.trans D) ?_;rcases o with o|⟨U,b8,b6,b0,b1,b2,b3,b4,a3⟩
   .exact .now o
   rcases a3 with⟨a3,a4⟩|a4
   .exact(a7 _ b6).2 k z r _ U y ⟨b8,A,b0,b1⟩ b2 b3 a4 b4 a3
   exact(a7 _ b6).1 k z r _ U y _ ⟨b8,A,b0,b1⟩ b2 b3 a4 b4 W.again
  refine⟨?_,b5⟩;intro T q l b R y v s G Q n N L;have a5:∀w∈T,Go.Conc.awake w:=by
   intro w a6;obtain⟨g,h,rfl⟩:=Xt.1 a6;rcases WA g with rfl|t
   .have:T[0]=v:=by simpa[Wj h]using n
    rw[this];exactλb a0=>by rw[L.1]at a0;cases a0
   exact(aj a (C (d,e,i))).awake s g _ t (Wj h)
  obtain⟨g,c8,f,r,h,X,Z⟩:=YO (P:=a) (w:=q) (sl:=l) a5 ⟨0,v,n,L.1⟩;rcases WA g with rfl|t
  .obtain⟨a2,rfl,m,a1⟩:=mR f s;obtain⟨k,z,b9,D,o⟩:=Jd r m a1 (G.at f) (Q.at f) N n L;refine cd.head (Z.trans D) ?_;rcases o with o|⟨rfl,rfl,rfl,O⟩
   .exact .now o
   rw[Zm];refine b5 _ (q.at f) r b R y ⟨a2,by simp,?_,?_⟩ (G.at f) (Q.at f) (by rw[Wq (Wh.1 n).1]) N ?_
   .exact⟨λg c h W=>m.each g c h (by rwa [Wr (by omega)]at W),by simpa using m.one,by simpa using m.above,by simpa using m.wg,by simpa using m.ops⟩
   .obtain⟨q1,e0,e1,e2⟩:=a1;exact⟨q1,by simpa using e0,e1,e2⟩
   exact O
  obtain⟨c7,k,z,b9,U,D,o,H,d1,d2,d3,d4⟩:=(aj a (C (d,e,i))).step r (mR f s) (G.at f) (Q.at f) n L.1 t h X;refine cd.head (Z.trans D) ?_;exact(a7 c7 o).1 k z r _ U y v d1 d2 d3 H (d4.trans N) L
end
end
variable{P:VS}{m:E->Prop}{w:K}{z:VE Oper}{o:Oper}{a:VQ}{l:VQ}{v:Vx}{b:VM}{k:VD Item}{cs:VD VM}{c:E}{rest:VD E}
structure Goal(P:VS)(f:Set)(main:VI)(m:E->Prop) where
 G:Ren->K->VO->Prop
 Po:∀{h:Ren}{w:K}{g:VO},g.status=.running->wu P f main m (λh w g=>g.status=.running/\G h w g) h w g->G h w g
 tape:∀{h:Ren}{w:K}{t:E->Question->E}{g:VO},G h {w with tape:=t} g->G h w g
structure Inv(P:VS)(f:Set)(m:E->Prop)(h:Ren)(w:K):Prop where
 base:Base P h
 cY:ma f m w
 kC:ko f m w
section
variable{main:VI}
theorem Inv.keep{g:Ren}{e:K}(d:Inv P f m h w)(i:Base P g)(c:∀a,m a->e.heap[a]?=w.heap[a]?):Inv P f m g e:=⟨i,d.cY.keep c,d.kC.keep c⟩
theorem ga{c g:VE Vx}(d:ax f h c g):yielded z c=yielded z g:=by
 funext j
 unfold yielded;cases q:(z[j]?).bind (·.dst)with
 |none=>rfl
 |some i=>
  dsimp only[Option.bind_some];cases e:c[i]? with
  |none=>rw[d.none e]
  |some r=>
   obtain⟨p,l,n⟩:=d.get e;rw[l];cases n with
   |bU m=>cases p<;>first|exact m.elim|rfl
   |_=>rfl
theorem ln(n:Base P h){d e:VE Vx}(m:ax f h d e)(g i:VD Deferred):lf P f h (Act.eval ⟨d,g⟩) (Act.eval ⟨e,i⟩):=by
 intro q c;cases q with
 |tmp p=>exact m.getD p aY
 |const v=>exact im 8 v c
 |global r=>simp only[dG,WH,Xs]at c;exact .ptr ⟨n.at c.1 (G_ c.2),A,A⟩
 |func l=>exact .func (.func l c) A rfl (by simp) (by simp)
theorem xv(G:Good P f){g:Wc}{m r:VE Vx}{c:Ending->K->Prop}(S:Tp (λw=>Calls P g m w c) w)(X:∀w,¬c .outgrown w)(s:∀e w,c e w->∃v,e=VN v)
 (T:f.fn g=J)(R:Base P h)(O:aU f h w q)(Q:ax f h m r):
 ∃d v p l U,Base P d/\aU f d l U/\h.le d/\an f d v p/\Tp (c (VN v)) l/\kK f w l:=by
 have W:=nY S X s
 have Y:cO P f Vz h [Frame.enter P g m .normal] [Frame.enter P g r .normal]:=⟨.cons (bG.enter G T Q .normal (VA A)) .nil,λa7 t=>by simp only[v_,Wz]at t;subst t;exact⟨A,A⟩⟩
 obtain⟨d,a3,a4,l,U,n,y,i,z,D,H,L⟩:=Bm G W R O Y
 obtain⟨fn,v,p,a8,a1,x,new,a6,_,_,Z,u,rfl,a5,N,_⟩:=nC (v:=λv w=>c (VN v) w) G i y z (H.mono λw a0=>by
  obtain⟨e,_,n,_,i⟩:=a0;obtain⟨v,rfl⟩:=s e w n
  exact⟨v,n,i⟩)
 exact⟨_,v,p,a1,x,i,u.rel,D,Z,N,L.trans u.later⟩
theorem zE(G:Good P f)(a3:Base P h){a0 a1:Wd->Vx}(b0:lf P f h a0 a1)(a6:iW P f.fn f.bi f.cj o.op=J){D:Result Next->Prop}(a9:∀L w,¬D (.halt L w))
 (L:Tp (λw=>D ((execOp a0 o).run P w)) w)(T:aU f h w q):
 ∃H n x g U new y,(execOp a1 o).runT P q #[]=(.ok x U,y.toArray)/\Al f H n x/\bD f h H w g q U new y/\Tp (λw=>D (.ok n w)) g:=by
 obtain⟨b,O,b3,t⟩:=L.low;obtain⟨R,N,⟨hd,a8⟩,a5⟩:=sound G.tW (uO G a3 T.QZ b0 o a6) w q #[] #[] T
 have Z:∀(p:Result Next)(s:VE Wa)(g:K),N=(p,s)->(∃n,p=.ok n g)\/(∃t,p=.halt t g)->∀r:E->Question->E,(∀c i,b<=c->c<g.drawn->r c i=if c<w.drawn then O c i else R c i)->
  D (iK r (p,s)).1:=by
  intro p s g Y a7 r u;have b4:dr N=g.drawn:=by rw[Y];rcases a7 with⟨n,rfl⟩|⟨n,rfl⟩<;>rfl
  have a2:=a8 r (λc i W X=>by
   have:=u c i (by omega) (by omega)
   rw[VK (by omega)]at this;exact this)
  have S:=t r (λc i W X=>by
   have:=u c i W (by omega)
   rw[VV X]at this;exact this)
  rw[<-H_ P _ _ #[],a2,Y]at S;exact S
 obtain⟨p,s⟩:=N;cases p with
 |halt t g=>exact(a9 _ _ (Z _ s g A (VC ⟨_,A⟩) (λc i=>if c<w.drawn then O c i else R c i) λ_ _ _ _=>rfl)).elim
 |ok n g=>obtain⟨H,x,U,new,y,Q,b2,a4,b1⟩:=a5;rw[Yf]at Q;exact⟨H,n,x,g,U,new,y,Q,a4,b1,b,_,λr u=>Z _ s g A (VA ⟨_,A⟩) r u⟩
def gL(c:VQ->K->Prop):Exit->VQ->K->Prop
 |.normal,a,w=>c a w
 |_,_,_=>False
theorem eR{c:VQ->K->Prop}:¬LetsOut (gL c):=λ⟨_,_,d⟩=>d
structure Rt where
 d0:VD Deferred
 kn:VD (E×Vx)
def Rt.free(e:Rt)(c:VL Tmp):VI:=e.kn.all λd=>c !=C d.1
structure aw(f:Set)(h:Ren)(g:Rt)(a l:VQ):Prop where
 tmps:ax f h a.tmps l.tmps
 defers:∃i,l.defers=i++g.d0/\aZ (ra f h) a.defers i
 kn:∀n∈g.kn,l.tmps[n.1]?=C n.2
theorem aw.mono{β₁:Ren}{i:Rt}(g:aw f h i a l)(n:h.le β₁):aw f β₁ i a l:=
 ⟨g.tmps.mono n,by obtain⟨p,r,hd⟩:=g.defers;exact⟨p,r,hd.mono λ_ _ s=>s.mono n⟩,g.kn⟩
theorem aw.put{p:Rt}(n:aw f h p a l)(i:VL Tmp)(r:p.free i=J){x:Vx}(D:an f h v x):aw f h p (a.put i v) (l.put i x):=by
 cases i with
 |none=>exact n
 |some t=>
  refine⟨n.tmps.set t D,n.defers,λs u=>?_⟩;have y:t≠s.1:=by unfold Rt.free at r;rw[Xn]at r;have:=r s u;simpa using this
  simp only[Act.put];rw[Wr y];exact n.kn s u
theorem aw.less{d0 d1:Rt}(i:aw f h d1 a l)(hd:d1.d0=d0.d0)(n:∀g∈d0.kn,g∈d1.kn):aw f h d0 a l:=
 ⟨i.tmps,by rw[<-hd];exact i.defers,λg p=>i.kn g (n g p)⟩
theorem aw.more{d0:Rt}(g:aw f h d0 a l)(n:l.tmps[j]?=C v):aw f h ⟨d0.d0,(j,v)::d0.kn⟩ a l:=
 ⟨g.tmps,g.defers,λp i=>by
   rcases Wo.1 i with rfl|i
   .exact n
   exact g.kn p i⟩
section frame
variable{e:VD Deferred}{d:VE Vx}
theorem ji(g:z[c]?=C o)(h:Region.wanted o (yielded z d)=J):
 stepG P main (rg (b.at ⟨d,e⟩ (VP z (c::rest)::k)) cs) q=stepG.apply P J (b.at ⟨d,e⟩ (VP z (c::rest)::k)) cs I (execOp (Act.eval ⟨d,e⟩) o) q:=by
 have f:=VM.eval_at' b ⟨d,e⟩ (VP z (c::rest)::k);simp only[Frame.at]at f;rw[be A];simp[stepG.exec,stepG.oper,VM.oper?,Frame.at,g,h,f]
theorem stepG_value(G:Good P f)(p:f.fr b.fn=J)(r:b.kind≠.early){y:Ren}{new n:VD Wa}(s:aZ (lP f y) new n)(u:z[c]?=C o)(x:Region.wanted o (yielded z d)=J)
 (g:(execOp (Act.eval ⟨d,e⟩) o).runT P q #[]=(.ok (.value v) U,n.toArray)\/((execOp (Act.eval ⟨d,e⟩) o).runT P q #[]=(.ok .skip U,n.toArray)/\v=F)):
 stepG P main (rg (b.at ⟨d,e⟩ (VP z (c::rest)::k)) cs) q=.go (rg ((b.at ⟨d,e⟩ (VP z (c::rest)::k)).finish v) cs) U (kept n).toArray:=by
 obtain⟨D,t,i⟩:=fL (c:=P) (b.at ⟨d,e⟩ (VP z (c::rest)::k)) cs (execOp (Act.eval ⟨d,e⟩) o) q;rw[ji u x,t];rcases g with g|⟨g,rfl⟩
 .rw[g]at i⊢
  rw[i r trivial];simp only[eN,stepG.apply,VR.runT,Wv,Xy,aX,aN,rg,GStep.after];rw[seen_eq G (show f.fr (b.at ⟨d,e⟩ (VP z (c::rest)::k)).fn=J from p) s];simp
 rw[g]at i⊢
 rw[i r trivial];simp only[eN,stepG.apply,VR.runT,Wv,Xy,aX,aN,rg,GStep.after];rw[seen_eq G (show f.fr (b.at ⟨d,e⟩ (VP z (c::rest)::k)).fn=J from p) s];simp
theorem stepG_enter(G:Good P f)(p:f.fr b.fn=J)(r:b.kind≠.early){x:Ren}{new g:VD Wa}(s:aZ (lP f x) new g)(t:z[c]?=C o)(u:Region.wanted o (yielded z d)=J){i:Wc}{h:VE Vx}
 (n:(execOp (Act.eval ⟨d,e⟩) o).runT P q #[]=(.ok (.enter i h) U,g.toArray)):
 stepG P main (rg (b.at ⟨d,e⟩ (VP z (c::rest)::k)) cs) q=.go (rg (Frame.enter P i h .normal) (b.at ⟨d,e⟩ (VP z (c::rest)::k)::cs)) U (kept g).toArray:=by
 obtain⟨y,m,l⟩:=fL (c:=P) (b.at ⟨d,e⟩ (VP z (c::rest)::k)) cs (execOp (Act.eval ⟨d,e⟩) o) q;rw[ji t u,m];rw[n]at l⊢
 rw[l r trivial];simp only[eN,stepG.apply,VR.runT,Wv,Xy,aX,aN,rg,GStep.after,Frame.at];rw[seen_eq G p s];simp
theorem stepG_defer(G:Good P f)(s:f.fr b.fn=J)(t:b.kind≠.early){D:Ren}{new g:VD Wa}(u:aZ (lP f D) new g)(x:z[c]?=C o)(y:Region.wanted o (yielded z d)=J){i:Deferred}
 (r:(execOp (Act.eval ⟨d,e⟩) o).runT P q #[]=(.ok (.defer i) U,g.toArray)):
 stepG P main (rg (b.at ⟨d,e⟩ (VP z (c::rest)::k)) cs) q=.go (rg ((b.at ⟨d,i::e⟩ (VP z (c::rest)::k)).finish F) cs) U (kept g).toArray:=by
 obtain⟨H,p,n⟩:=fL (c:=P) (b.at ⟨d,e⟩ (VP z (c::rest)::k)) cs (execOp (Act.eval ⟨d,e⟩) o) q;rw[ji x y,p];rw[r]at n⊢
 rw[n t trivial];simp only[eN,stepG.apply,VR.runT,Wv,Xy,aX,aN,rg,GStep.after];rw[seen_eq G (show f.fr (b.at ⟨d,e⟩ (VP z (c::rest)::k)).fn=J from s) u];simp[Frame.at]
theorem FW(N:Good P f)(a1:Goal P f main m){X:Rt}(a4:f.fr b.fn=J)(a5:b.kind≠.early)(Z:z[c]?=C o)(e9:Region.wanted o (yielded z a.tmps)=J)(e8:iW P f.fn f.bi f.cj o.op=J)(S:X.free o.dst=J)
 (t:Inv P f m h w)(b3:aw f h X a l){T:VQ->K->Prop}{a2:VQ->K->Prop}(r:Tp (λw=>o.wp P a w T (gL a2)) w)
 (Y:∀i W a3 n U,Base P i->aU f i n U->h.le i->aw f i X W a3->Tp (T W) n->gJ f m w n)
 (next:∀i W a3 n,Inv P f m i n->h.le i->(∀p u,i p u->h p u\/w.heap.size<=p)->w.heap.size<=n.heap.size->(∀p,m p->n.heap[p]?=w.heap[p]?)->aw f i X W a3->Tp (T W) n->
   a1.G i n (rg (b.at a3 (VP z rest::k)) cs)):
 a1.G h w (rg (b.at l (VP z (c::rest)::k)) cs):=by
 obtain⟨d,e⟩:=l;have a8:Region.wanted o (yielded z d)=J:=by rw[<-ga b3.tmps];exact e9
 have a6:(z[c]?).bind (·.dst)=o.dst:=by rw[Z];rfl
 refine a1.Po A (.step A (λ_ i n e4=>wu P f main m (λh w c9=>c9.status=.running/\a1.G h w c9) i n e4) (λq d1=>?_) (λ_ _ _ _ r=>r));obtain⟨i,g7,g8,n,U,new,a9,x,e7,g,y⟩:=zE N t.base (ln t.base b3.tmps a.defers e) e8 (D:=o.upon P a T (gL a2)) (by intro r w e6;cases r<;>exact e6) r d1;have D:=t.base.jK d1 g;have L:=b3.mono g.le;cases e7 with
 |@value v f8 a7=>have H:=L.put o.dst S a7;obtain⟨s,R⟩:=iz t.cY t.kC g (Y i _ _ n U D g.rel g.le H y);refine⟨_,i,n,U,new,a9,stepG_value N a4 a5 g.la Z a8 (VA x),g,s,R,A,.stop ⟨A,?_⟩⟩;rw[Xl,a6];exact next i _ _ n (t.keep D s) g.le (λp u Q=>(g.fresh p u Q).imp id (·.1)) g.size s H y
 |skip=>have H:=L.put o.dst S aY;obtain⟨s,R⟩:=iz t.cY t.kC g (Y i _ _ n U D g.rel g.le H y);refine⟨_,i,n,U,new,a9,stepG_value N a4 a5 g.la Z a8 (VC ⟨x,A⟩),g,s,R,A,.stop ⟨A,?_⟩⟩;rw[Xl,a6];exact next i _ _ n (t.keep D s) g.le (λp u Q=>(g.fresh p u Q).imp id (·.1)) g.size s H y
 |@defer e0 c7 hd=>
  have e5:aw f i X {a with defers:=e0::a.defers} ⟨d,c7::e⟩:=by obtain⟨e1,c8,e2⟩:=L.defers;dsimp only at c8;exact⟨L.tmps,⟨c7::e1,by rw[c8];rfl,.cons hd e2⟩,L.kn⟩
  have H:=e5.put o.dst S aY;obtain⟨s,R⟩:=iz t.cY t.kC g (Y i _ _ n U D g.rel g.le H y);refine⟨_,i,n,U,new,a9,stepG_defer N a4 a5 g.la Z a8 x,g,s,R,A,.stop ⟨A,?_⟩⟩;rw[Xl,a6];exact next i _ _ n (t.keep D s) g.le (λp u Q=>(g.fresh p u Q).imp id (·.1)) g.size s H y
 |@enter e3 d2 d8 g3 a7=>
  let b2:Ending->K->Prop:=λ
   |VN v,b9=>T (a.put o.dst v) b9
   |.panicked d9,b9=>gL a2 (.panic d9) a b9
   |.outgrown,_=>LetsOut (gL a2)
  have d0:Tp (λw=>Calls P e3 d8 w b2) n:=y;have d3:∀w,¬b2 .outgrown w:=λw r=>eR r;have d4:∀x w,b2 x w->∃v,x=VN v:=by
   intro x w r;cases x with
   |returned v=>exact⟨v,A⟩
   |panicked g4=>exact r.elim
   |outgrown=>exact(eR r).elim
  obtain⟨g2,v,f8,f9,d6,q1,f0,d5,f1,f2,f3⟩:=xv N d0 d3 d4 d2 D g.rel a7;obtain⟨g0,f4,f5⟩:=Y g2 _ _ f9 d6 q1 f0 (Ren.le_trans g.le d5) ((L.mono d5).put o.dst S f1) f2;obtain⟨s,R⟩:=iz t.cY t.kC g ⟨g0,f3.trans f4,f5⟩;have b1:=t.keep D s;refine⟨_,i,n,U,new,a9,stepG_enter N a4 a5 g.la Z a8 x,g,s,R,A,?_⟩;refine(Jw N d0 d3 d4 d2 D a7 b1.cY b1.kC (λc6 f6 f7 c0 d7 b4 b5 a0 b6 b7=>?_)).bind λc6 c0 g6 O=>?_
  .obtain⟨g1,b0,b8⟩:=Y c6 _ _ c0 d7 b4 b5 (Ren.le_trans g.le a0) ((L.mono a0).put o.dst S b6) b7;exact⟨g1,b0,λp O=>by rw[b8 p O,s p O]⟩
  obtain⟨f6,f7,rfl,b4,b5,a0,b6,b7,b0,b8⟩:=O;refine .stop ⟨A,?_⟩;rw[Xl,a6];refine next c6 _ _ c0 (b1.keep b5 b0) (Ren.le_trans g.le a0) (λp u Q=>?_) (Wu g.size b7) (λp O=>by rw[b0 p O,s p O]) ((L.mono a0).put o.dst S b4) b8
  rcases b6 p u Q with r|r
  .exact(g.fresh p u r).imp id (·.1)
  exact VC (Wu g.size r)
 |round=>exact(y.one).elim λ_ r=>r.elim
 |recover=>exact(y.one).elim λ_ r=>r.elim
end frame
end
variable{p:VS}{c:K}{L:E}{x:Oper}{d:VQ}{e:VQ}{u:VM}{s:VD Item}{v:VD VM}{N:VD E}{H:VO}{S:Exit->VQ->K->Prop}{id:E}
structure cW(m:E->Prop)(h:Ren)(c:K)(β₁:Ren)(w₁:K):Prop where
 le:h.le β₁
 fresh:∀a b,β₁ a b->h a b\/c.heap.size<=a
 size:c.heap.size<=w₁.heap.size
 keep:∀a,m a->w₁.heap[a]?=c.heap[a]?
section
variable{main:VI}{β₁ D:Ren}{w₁ y:K}
theorem cW.refl(h:Ren)(c:K):cW m h c h c:=⟨Ren.le_refl _,λ_ _ a=>VA a,Wl _,λ_ _=>rfl⟩
theorem cW.trans(a:cW m h c β₁ w₁)(g:cW m β₁ w₁ D y):cW m h c D y:=
 ⟨Ren.le_trans a.le g.le,λb l o=>by
   rcases g.fresh b l o with i|i
   .exact a.fresh b l i
   exact VC (Wu a.size i),Wu a.size g.size,λb k=>by rw[g.keep b k,a.keep b k]⟩
theorem cW.tape(a:cW m h c β₁ w₁)(t:E->Question->E):cW m h c β₁ {w₁ with tape:=t}:=⟨a.le,a.fresh,a.size,a.keep⟩
theorem Inv.tape(a:Inv p f m h c)(t:E->Question->E):Inv p f m h {c with tape:=t}:=⟨a.base,a.cY,a.kC⟩
theorem Inv.grow(a:Inv p f m h c)(b:Base p β₁)(H:cW m h c β₁ w₁):Inv p f m β₁ w₁:=a.keep b H.keep
def oe(p:VS)(f:Set)(r:Rt)(z:VE Oper):VI:=z.toList.all λx=>iW p f.fn f.bi f.cj x.op&&r.free x.dst
theorem jv{r:Rt}(a:oe p f r z=J)(b:z[L]?=C x):iW p f.fn f.bi f.cj x.op=J/\r.free x.dst=J:=by grind [oe]
theorem Mz(G:Good p f){r:Rt}{n o:VQ->K->Prop}(v:Base p h)(P:aU f h c q)(Q:aw f h r d e)(a7:iW p f.fn f.bi f.cj x.op=J)(t:r.free x.dst=J)(b:Tp (λc=>x.wp p d c n (gL o)) c):
 ∃β₁ H U w₁ l,Base p β₁/\aU f β₁ w₁ l/\h.le β₁/\aw f β₁ r H U/\Tp (n H) w₁/\kK f c w₁:=by
 obtain⟨b3,N⟩:=e;obtain⟨β₁,b8,b9,w₁,l,new,c0,m,a5,a,g⟩:=zE G v (ln v Q.tmps d.defers N) a7 (D:=x.upon p d n (gL o)) (by intro b c a4;cases b<;>exact a4) b P;have s:=v.jK P a;have i:=Q.mono a.le;cases a5 with
 |@value k b4 w=>exact⟨β₁,_,_,w₁,l,s,a.rel,a.le,i.put x.dst t w,g,a.later⟩
 |skip=>exact⟨β₁,_,_,w₁,l,s,a.rel,a.le,i.put x.dst t aY,g,a.later⟩
 |@defer X L hd=>
  have a2:aw f β₁ r {d with defers:=X::d.defers} ⟨b3,L::N⟩:=by obtain⟨Y,O,Z⟩:=i.defers;dsimp only at O;exact⟨i.tmps,⟨L::Y,by rw[O];rfl,.cons hd Z⟩,i.kn⟩
  exact⟨β₁,_,_,w₁,l,s,a.rel,a.le,a2.put x.dst t aY,g,a.later⟩
 |@enter a0 a3 T b5 w=>
  let u:Ending->K->Prop:=λ
   |VN k,z=>n (d.put x.dst k) z
   |.panicked W,z=>gL o (.panic W) d z
   |.outgrown,_=>LetsOut (gL o)
  have a1:Tp (λc=>Calls p a0 T c u) w₁:=g;have a6:∀c,¬u .outgrown c:=λc b=>eR b;have a8:∀m c,u m c->∃k,m=VN k:=by
   intro m c b;cases m with
   |returned k=>simp
   |panicked b6=>exact b.elim
   |outgrown=>simp_all
  obtain⟨D,k,b4,y,S,q1,a9,R,b0,b1,b2⟩:=xv G a1 a6 a8 a3 s a.rel w;exact⟨D,_,_,y,S,q1,a9,Ren.le_trans a.le R,(i.mono R).put x.dst t b0,b1,a.later.trans b2⟩
 |round=>exact(g.one).elim λ_ b=>b.elim
 |recover=>exact(g.one).elim λ_ b=>b.elim
theorem tX(G:Good p f){r:Rt}(b:oe p f r z=J){o:VQ->K->Prop}:∀(H:VD E){h:Ren}{c q:K}{d e:VQ},Base p h->aU f h c q->aw f h r d e->Tp (λc=>wpOps p z (gL o) H d c) c->
 ∃β₁ n t w₁ s,Base p β₁/\aU f β₁ w₁ s/\h.le β₁/\aw f β₁ r n t/\Tp (o n) w₁/\kK f c w₁
 |[],h,c,q,d,e,i,g,l,a=>⟨h,d,e,c,q,i,g,Ren.le_refl _,l,a,.refl _⟩
 |L::N,h,c,q,d,e,i,g,l,a=>by
  cases k:z[L]? with
  |none=>simp only[wpOps,k]at a;exact tX G b N i g l a
  |some x=>
   simp only[wpOps,k]at a;by_cases m:Region.wanted x (yielded z d.tmps)=J
   .simp only[m,Wv]at a;obtain⟨β₁,n,t,w₁,s,q1,O,P,Q,R,S⟩:=Mz G i g l (jv b k).1 (jv b k).2 (a.mono λc m=>m.resolve_right λa0=>eR a0.2);obtain⟨D,v,w,y,u,T,U,W,X,Y,Z⟩:=tX G b N q1 O Q R;exact⟨D,v,w,y,u,T,U,Ren.le_trans P W,X,Y,S.trans Z⟩
   simp only[m]at a;exact tX G b N i g (l.put x.dst (jv b k).2 aY) a
section frame
variable{r:Rt}
theorem stepG_unwanted(a:((z[L]?).map (Region.wanted · (yielded z d.tmps))).getD Vz=Vz):
 stepG p main (rg (u.at d (VP z (L::N)::s)) v) q=.go (rg (u.at (d.put ((z[L]?).bind (·.dst)) F) (VP z N::s)) v) q:=by
 rw[<-Xl,be A];simp_all [Frame.at,stepG.exec,rg]
theorem iM:stepG p main (rg (u.at d (VP z []::s)) v) q=.go (rg (u.at d s) v) q:=by rfl
theorem Goal.pure(n:Goal p f main m){g₁:VO}(a:H.status=.running)(b:g₁.status=.running)(g:∀q,stepG p main H q=.go g₁ q)(i:n.G h c g₁):n.G h c H:=
 n.Po a (.pure a b g (.stop ⟨b,i⟩))
def qW(n:Goal p f main m)(u:VM)(v:VD VM)(s:VD Item)(h:Ren)(e:VQ)(c:K):Exit->Prop
 |.normal=>n.G h c (rg (u.at e s) v)
 |.exit id=>∃a,exitTo id s=C a/\n.G h c (rg (u.at e a) v)
 |.ret=>∀b,n.G h c (rg {u.at e b with mode:=.returning} v)
 |_=>False
theorem qW.push{n:Goal p f main m}{g:Item}{b:Exit}(w:g.plain=J)(o:b≠.normal)(a:qW n u v s h e c b):qW n u v (g::s) h e c b:=by
 cases b with
 |normal=>simp_all
 |exit id=>obtain⟨k,t,i⟩:=a;exact⟨k,by cases g<;>simp_all [exitTo,Item.plain],i⟩
 |ret=>exact a
 |goto O=>exact a
 |panic l=>exact a
 |outgrown=>exact a
def kl(p:VS)(f:Set)(main:VI)(m:E->Prop)(n:Goal p f main m)(u:VM)(r:Rt)(v:VD VM)(s:VD Item)(S:Exit->VQ->K->Prop)(h:Ren)(c:K):Prop:=
 ∀d β₁ a b w₁,Inv p f m β₁ w₁->cW m h c β₁ w₁->aw f β₁ r a b->S d a w₁->qW n u v s β₁ b w₁ d
def CW(n:Goal p f main m)(u:VM)(r:Rt)(v:VD VM)(a:Code)(S:Exit->VQ->K->Prop)(d:VQ)(c:K):Prop:=
 ∀(h:Ren)(s:VD Item)(e:VQ),Inv p f m h c->aw f h r d e->kl p f main m n u r v s S h c->n.G h c (rg (u.at e (.code a::s)) v)
variable{n:Goal p f main m}
theorem kl.grow(i:kl p f main m n u r v s S h c)(H:cW m h c β₁ w₁):kl p f main m n u r v s S β₁ w₁:=
 λe D b d y a g k l=>i e D b d y a (H.trans g) k l
theorem ej(b:S .normal d c):CW n u r v .skip S d c:=λh s e a g f=>n.pure A rfl (λq=>by rfl) (f .normal h d e c a (.refl _ _) g b)
theorem tR(b:S (.exit id) d c):CW n u r v (.exit id) S d c:=λh s e a k f=>by obtain⟨l,i,g⟩:=f (.exit id) h d e c a (.refl _ _) k b;exact n.pure A rfl (λq=>by rw[be A];simp[stepG.exec,Frame.at,rg,i]) g
theorem mA(b:S .ret d c):CW n u r v .ret S d c:=λh s e a g f=>n.pure A rfl (λq=>by rfl) (f .ret h d e c a (.refl _ _) g b (.code .ret::s))
theorem aO{o m:Code}(x:CW n u r v o (Exit.then (CW n u r v m S) S) d c):CW n u r v (.seq o m) S d c:=λh s e p y g=>by
 refine n.pure A rfl (λq=>by rfl) (x h (.code m::s) e p y λw β₁ l b w₁ a f i k=>?_);cases w with
 |normal=>exact k β₁ s b a i (g.grow f)
 |exit id=>exact qW.push A (by simp) (g (.exit id) β₁ l b w₁ a f i k)
 |ret=>exact g .ret β₁ l b w₁ a f i k
 |goto z=>exact g (.goto z) β₁ l b w₁ a f i k
 |panic t=>exact g (.panic t) β₁ l b w₁ a f i k
 |outgrown=>exact g .outgrown β₁ l b w₁ a f i k
theorem cI{a:Wd}{i k:Code}{g:VI}(P:dG p f.fn a=J)(O:d.eval a=.bool g)(t:CW n u r v (if g then i else k) S d c):CW n u r v (.cond a i k) S d c:=λh s e l o w=>by
 have Q:e.eval a=.bool g:=by have b:=ln l.base o.tmps d.defers e.defers a P;rw[O]at b;generalize e.eval a=T at b;cases b;rfl
 refine n.pure A rfl (λq=>?_) (t h s e l o w);have R:=VM.eval_at u e (.code (.cond a i k)::s) a;rw[be A];simp_all [stepG.exec,Frame.at,rg]
theorem kQ{m:Code}(w:CW n u r v m (Exit.inBlock id S) d c):CW n u r v (.block id m) S d c:=λh s e p y k=>by
 refine n.pure A rfl (λq=>by rfl) (w h (.inBlock id::s) e p y λt β₁ f g w₁ b i l a=>?_);cases t with
 |normal=>exact n.pure A rfl (λq=>by rfl) (k .normal β₁ f g w₁ b i l a)
 |exit o=>
  by_cases hid:o=id
  .simp only[Exit.inBlock,hid,Wv]at a;exact⟨s,by grind [exitTo],k .normal β₁ f g w₁ b i l a⟩
  simp only[Exit.inBlock,hid,Wy]at a;obtain⟨z,H,x⟩:=k (.exit o) β₁ f g w₁ b i l a;have:(id==o)=Vz:=by grind
  exact⟨z,by simp_all [exitTo],x⟩
 |ret=>exact k .ret β₁ f g w₁ b i l a
 |goto D=>exact k (.goto D) β₁ f g w₁ b i l a
 |panic m=>exact k (.panic m) β₁ f g w₁ b i l a
 |outgrown=>exact k .outgrown β₁ f g w₁ b i l a
theorem yV{g:Code}(w:VQ->K->Prop)(P:VQ->K->E)(a0:w d c)
 (round:∀d c,w d c->CW n u r v g (Exit.then (λe T=>w e T/\P e T<P d c) S) d c):CW n u r v (.loop g) S d c:=λh s e Q R a=>by
 have a2:∀O(d:VQ)(c:K)(h:Ren)(e:VQ),P d c=O->w d c->Inv p f m h c->aw f h r d e->kl p f main m n u r v s S h c->n.G h c (rg (u.at e (.code g::.inLoop g::s)) v):=by
  intro O
  induction O using E.strongRecOn with
  |_ O a1=>
   intro d c h e Z W Q R a;refine round d c W h (.inLoop g::s) e Q R λU β₁ b k w₁ i l o t=>?_;cases U with
   |normal=>obtain⟨X,Y⟩:=t;exact n.pure A rfl (λq=>by rfl) (a1 (P b w₁) (Z▸Y) b w₁ β₁ k A X i o (a.grow l))
   |exit id=>exact qW.push A (by simp) (a (.exit id) β₁ b k w₁ i l o t)
   |ret=>exact a .ret β₁ b k w₁ i l o t
   |goto a3=>exact a (.goto a3) β₁ b k w₁ i l o t
   |panic g=>exact a (.panic g) β₁ b k w₁ i l o t
   |outgrown=>exact a .outgrown β₁ b k w₁ i l o t
 exact n.pure A rfl (λq=>by rfl) (a2 _ d c h e A a0 Q R a)
end frame
end
variable{c:VS}{f:E}{b:VO}{a:VY}{u:E}
section
variable[Inhabited aV]
abbrev eX:=VE VO->K->VL (E×E)->VY->Prop
section
variable{e:dc}{D:eX}
theorem ry{i:VD Ms}(d:dJ (aj c e) f i T q a R y b)(n:b.status=.running):∀h∈T,Go.Conc.awake h:=by
 intro h m;obtain⟨g,k,rfl⟩:=Xt.1 m;rcases WA g with rfl|l
 .have:T[0]=b:=by have:=d.me;simp_all
  rw[this];exactλa o=>by simp_all
 exact(aj c e).awake d.ok g _ l (Wj k)
theorem dJ.at'{h:VD Ms}(d:dJ (aj c e) f h T q a R y b)(g:E):dJ (aj c e) f h T (q.at g) a R y b:=
 ⟨(aj c e).at_ g d.ok,d.bF.at g,d.bg.at g,d.me,d.hears⟩
theorem rO(i:K->Prop)(x:∀q U,(∀d,y.tag=C d->WgLive d.D.ty d.D.Wg U)->i q->i U)(o:b.status=.running)
 (a3:∀g T q h a R,dJ (aj c e) f g T q a R y b->i q->∃n U m,runT c (crowd T q h) 0=(.next (crowd n U h),m)/\cd c n U h (a++m) D):
 ∀(g:VD Ms) T q h a R,dJ (aj c e) f g T q a R y b->i q->cd c T q h a D:=by
 intro g
 induction (dU.wf Ms.wf).apply g with
 |intro g _ a5=>
  intro T q h a R k a1;obtain⟨a4,a6,p,r,Z,Y,a2⟩:=YO (P:=c) (w:=q) (sl:=h) (ry k o) ⟨0,b,k.me,o⟩;have l:=k.at' p
  have live:∀{g T q a R},dJ (aj c e) f g T q a R y b->∀d,y.tag=C d->WgLive d.D.ty d.D.Wg q:=λL d W=>by obtain⟨a7,_,X,_⟩:=L.ok;exact(X.wg d W).mode.live
  have H:i (q.at p):=x _ _ (live l) a1;rcases WA a4 with rfl|a0
  .obtain⟨n,U,m,v,w⟩:=a3 g T (q.at p) r a R l H
   grind [cd.head]
  obtain⟨t,u,U,m,s,v,w,N,O,P,Q,S⟩:=(aj c e).step r l.ok l.bF l.bg k.me o a0 Z Y;refine cd.head (a2.trans v) ?_;have z:dJ (aj c e) f t u U (a++m) s y b:=⟨O,P,Q,N,S.trans k.hears⟩;exact a5 t w u U r _ s z (x _ _ (live z) H)
theorem zD{H:VD Ms}{s:VY}{D:Loc->dw}{r:bT}{a5:VO}(a9:dJ (aj c e) f H T q a R y b)(d3:jM a q U R D 0 s)(d2:∀Y∈s,Y.g=0)(d0:r.S=y.S)(d4:y.β.le r.β)
 (d1:∀S a0 a1 a2 a3 a4 b9,q.heap[S]?=C (.chan a0 a1 a2 a3 a4 b9)->R (.obj S)=.sync->U.heap[S]?=q.heap[S]?)
 (b4:∀i,y.tag=C i->ft i.D 0 q U/\∃l,r.tag=C l/\l.D=i.D/\l.fin=i.fin)(e7:∀n,bB c T q a R y n->∀l,r.tag=C l->dV l n T.size U D):
 db c e H ((T.map (Go.Conc.woken c b a5 U)).setIfInBounds 0 a5) U (a++s) D r:=by
 obtain⟨n,rfl,w,b8⟩:=a9.ok;have e5:0<T.size:=(Wh.1 a9.me).1
 have b2:∀h k,0<h->h<T.size->(n h).chan=C k->U.heap[k]?=q.heap[k]?:=by
  intro h k P b0 o;rw[aG.cC]at o;cases b7:(n h).pd with
  |none=>simp_all
  |some Q=>rw[b7]at o;cases o;obtain⟨f4,x,cl,t,d⟩:=(w.each h _ P (Wj b0)).La b7;exact d1 _ _ _ _ _ _ _ d.heap d.own
 have b3:∀h,h≠0->Deaf (a++s) h=Deaf a h:=λh P=>Yy a (g':=0) (λH=>P H.symm) s d2
 have frame:∀g v,0<g->T[g]?=C v->cB c g v U (a++s) D r (n g):=by
  intro g v m p
  have z:cB c g v U (a++s) D {r with tag:=y.tag} (n g):=
   (w.each g v m p).frame a9.bF d3 (by omega) (b3 g (by omega)) ⟨d0,d4,A⟩ (λk o=>b2 g k m ((Wh.1 p).1) o) (λY e6 H=>by simp_all) (λi b5=>(b4 i b5).1)
  generalize n g=d8 at z;cases d8 with
  |lv d5=>exact z
  |wk Z=>obtain⟨i,L,W,d⟩:=z;obtain⟨_,l,c6,e0,e1⟩:=b4 i L;exact⟨l,c6,by simp_all,by simp_all⟩
  |pr Q u i d9=>obtain⟨L,W,⟨x,t,d⟩,a6,N,a7,a8⟩:=z;exact⟨L,W,⟨x,t,⟨d.heap,d.count,d.room,d.own,d.msgs⟩⟩,a6,N,a7,a8⟩
  |pb Q u i d9 e3 f5 f6=>obtain⟨L,W,c7,⟨x,t,d,c8⟩,a6,N,a7,a8,c9⟩:=z;exact⟨L,W,c7,⟨x,t,⟨d.heap,d.count,d.room,d.own,d.msgs⟩,c8⟩,a6,N,a7,a8,c9⟩
  |pq Q d5=>obtain⟨⟨x,t,d⟩,N⟩:=z;exact⟨⟨x,t,⟨d.heap,d.count,d.room,d.own,d.msgs⟩⟩,N⟩
 refine⟨n,by simp,⟨λg v m p=>?_,?_,λj X=>?_,λl b5=>?_,λh Y P=>?_⟩,?_⟩
 .rw[Wr (by omega),WE]at p;cases b1:T[g]? with
  |none=>simp_all
  |some Z=>rw[b1]at p;simp only[Xp,Wz]at p;rw[(w.each g Z m b1).woken b a5 λk o=>b2 g k m (Wh.1 b1).1 o]at p;simp_all
 .intro g j k c0 m X O b6;simp only[WQ,XY]at O b6;exact w.one g j k c0 m X O b6
 .simp only[WQ,XY]at X;rw[b3 j (by omega)];exact w.above j X
 .simp_all
 .simp only[WQ,XY];rcases Wp P with⟨_,b0⟩|⟨_,e4⟩
  .exact w.ops h Y b0
  simp_all
 cases e with
 |none=>intro g m O;simp only[WQ,XY]at O;exact b8 g m O
 |some Z=>
  obtain⟨e9,Q,h⟩:=Z;obtain⟨q1,d6,d7,a0,a1,a2,a3,a4,f3⟩:=b8;refine⟨q1,by simpa using d6,d7,a0,a1,a2,a3,a4,?_⟩
  grind [aG.cC]
theorem iL{d:VL (E×E)}{g:VO}(i:T[0]?=C b)(h:stepG c J b q=.go g U O):
 runT c (crowd T q d) 0=(.next (crowd ((T.map (Go.Conc.woken c b g U)).setIfInBounds 0 g) U d),VZ 0 b.frame.fn b.frame.place O):=
 Zj (P:=c) (sl:=d) (i:=0) i h
theorem uG{m:VD Ms}{i:VO}(d:dJ (aj c e) f m T q a R y b):dJ (aj c e) f m ((T.map (Go.Conc.woken c b i q)).setIfInBounds 0 i) q (a++VZ 0 b.frame.fn b.frame.place #[]) R y i:=by
 have o:VZ 0 b.frame.fn b.frame.place #[]=#[]:=by rfl
 rw[o];have l:jM a q q R R 0 #[]:=mB (λn g=>by simp at g) (λn g=>by simp at g);refine⟨zD d l (λn g=>by simp at g) A (Ren.le_refl _) (λ_ _ _ _ _ _ _ _ _=>rfl) (λh k=>⟨ft.same A rfl,h,k,A,A⟩) (λr p h k=>p.wg h k),d.bF.step l,d.bg.stay l (λ_ _ _=>rfl),?_,?_⟩
 .rw[Wq (by simpa using(Wh.1 d.me).1)]
 rw[Zm];exact d.hears
theorem cG{d:dm}{Stop:VO->K->Prop}(b0:y.tag=C d)(b5:∀b q,Stop b q->b.status=.running)
 (b9:∀r p k v n S o,dJ (aj c e) f p k v S o y r->(∀U,Go.SimW.RL d.D.ty d.D.Wg v U->Stop r U)->cd c k v n S D):
 ∀(i:E×VD Ms)(b:VO) T q t a R,dJ (aj c e) f i.2 T q a R y b->(∀U,Go.SimW.RL d.D.ty d.D.Wg q U->Go.Conc.Goes c J (Go.SimW.RL d.D.ty d.D.Wg) DC0 Stop i.1 b U)->cd c T q t a D:=by
 have wf:=NS.wf E.lt_wfRel.wf (dU.wf Ms.wf);intro i
 induction wf.apply i with
 |intro i _ Q=>
  obtain⟨u,w⟩:=i;intro b T q t a R h s;by_cases N:∀U,Go.SimW.RL d.D.ty d.D.Wg q U->Stop b U
  .grind
  have live:∀{w T q a R b},dJ (aj c e) f w T q a R y b->WgLive d.D.ty d.D.Wg q:=λg=>by obtain⟨c0,_,b1,_⟩:=g.ok;exact(b1.wg d b0).mode.live
  have x:b.status=.running:=by
   have g:=s q (Go.SimW.RL.refl q);cases u with
   |zero=>exact b5 b q (g q (Go.SimW.RL.refl q))
   |succ u=>
    rcases g with g|⟨g,_⟩
    .simp_all
    exact g
  obtain⟨b7,a2,z,n,L,b2,P⟩:=YO (P:=c) (w:=q) (sl:=t) (ry h x) ⟨0,b,h.me,x⟩;have l:=h.at' z;rcases WA b7 with rfl|b4
  .obtain rfl:a2=b:=by have:=h.me;simp_all
   have b3:=s (q.at z) (λ_=>live l);cases u with
   |zero=>exact absurd (λU m=>s q (Go.SimW.RL.refl q) U m) N
   |succ u=>
    rcases b3 with g|⟨_,g⟩
    .exact absurd (λU m=>g U λ_=>m (live h)) N
    obtain⟨r,c7,O,a0,⟨rfl,rfl⟩,a1⟩:=x_ (g (q.at z) (Go.SimW.RL.refl _));exact cd.head (P.trans (iL L a0)) (Q (u,w) (.left (Yd u)) r _ _ n _ R (uG l) (λU m=>a1.rely (λX Y Z=>Go.SimW.RL.trans X Y Z) m))
  obtain⟨p,k,U,b8,o,a3,a4,a5,a6,a7,a8,a9⟩:=(aj c e).step n l.ok l.bF l.bg h.me x b4 L b2;refine cd.head (P.trans a3) ?_;have H:dJ (aj c e) f p k U (a++b8) o y b:=⟨a6,a7,a8,a5,a9.trans h.hears⟩;exact Q (u,p) (.right a4) b k U n _ o H λW b6=>s W λ_=>b6 (live H)
def AL(c:E)(b:Wa):Prop:=((Wf b).touch?=I\/(∃a wr,b=⟨.cell a,wr,J⟩/\a.block=c)\/∃a,(b=Go.ConcR.mk (.read a)\/b=Go.ConcR.mk (.write a))/\a.block=c)/\∀d,b.loc≠.mark (.release d)
theorem KT{d n:dm}{g:VD Ms}{P:VO}{a9:E}(p:dJ (aj c e) f g T q a R y b)(b0:y.tag=C d)(c6:n.D=d.D)(f2:n.fin=d.fin)(d3:n.lo=d.lo)(d0:n.hi=d.hi)
 (x:U=q\/∃v w,U=q.setCell ⟨d.D.Wg,v,I⟩ w)(X:∀g∈O,AL d.D.Wg g)(b5:∀o,bB c T q a R y o->ef n o T.size U (sumTo T.size λZ=>(o Z).cnt))(hd:deafBehind f O=a9)(d8:∀o,bB c T q a R y o->(sumTo T.size λZ=>(o Z).cnt)<=n.vb):
 dJ (aj c e) a9 g ((T.map (Go.Conc.woken c b P U)).setIfInBounds 0 P) U (a++VZ 0 b.frame.fn b.frame.place O) R {y with tag:=C n} P:=by
 obtain⟨o,_,b2,_⟩:=p.ok;have h:=b2.wg d b0;have d2:WgLive d.D.ty d.D.Wg U:=by have:=(b5 o b2).live;simp_all
 have H:∀i,i≠d.D.Wg->U.heap[i]?=q.heap[i]?:=by
  intro i W;rcases x with rfl|⟨v,w,rfl⟩
  .rfl
  simp_all [Go.RowKit.Below.heap_setCell]
 have b6:U.heap.size=q.heap.size:=by
  rcases x with rfl|⟨v,w,rfl⟩
  .rfl
  simp
 have d5:U.os=q.os:=by rcases x with rfl|⟨v,w,rfl⟩<;>rfl
 have d6:U.output=q.output:=by rcases x with rfl|⟨v,w,rfl⟩<;>rfl
 have t:jM a q U R R 0 (VZ 0 b.frame.fn b.frame.place O):=by
  refine⟨by omega,d5,λi W=>?_,λ_ _ _ _=>rfl,λf4 i _ k r=>by omega,λd9 Y e0 m d4=>?_,dX λg s L=>(X g s).2 L,VA λd9 Y e0 m d4=>?_,d6⟩
  rotate_right
  .obtain⟨g,s,rfl⟩:=Go.Conc.mem_ofEvents Y;rcases(X g s).1 with k|⟨l,wr,rfl,k⟩|⟨l,k,r⟩
   .simp_all
   .simp[Wf,MemAct.touch?]at m;subst m;exact h.qU _ (VC ⟨l,A,k⟩)
   rcases k with rfl|rfl<;>
   .simp[Go.ConcR.mk,Wf,MemAct.touch?]at m;subst m;exact h.qU _ (VC ⟨l,A,r⟩)
  .by_cases c8:i=d.D.Wg
   .subst c8;exact VC (VA (VA (h.qU _ (VA A))))
   grind
  obtain⟨g,s,rfl⟩:=Go.Conc.mem_ofEvents Y;rcases(X g s).1 with k|⟨l,wr,rfl,k⟩|⟨l,k,r⟩
  .simp_all
  .simp[Wf,MemAct.touch?]at m;subst m;exact⟨A,d.D.Wg,VC ⟨l,A,k⟩,by rw[b6];exact h.pD,VC ⟨h.pD,VC (VC ⟨h.qU _ (VC ⟨l,A,k⟩),VA A⟩)⟩⟩
  rcases k with rfl|rfl<;>
  .simp[Go.ConcR.mk,Wf,MemAct.touch?]at m;subst m;exact⟨A,d.D.Wg,VC ⟨l,A,r⟩,by rw[b6];exact h.pD,VC ⟨h.pD,VC (VC ⟨h.qU _ (VC ⟨l,A,r⟩),VC ⟨A,A⟩⟩)⟩⟩
 have f3:ft d.D 0 q U:=⟨λ_=>d2,λc0 f5 f1 c9=>⟨c0,(H _ h.ne).trans c9,A,λ_ _ _ _=>rfl⟩⟩
 have d7:aH c (a++VZ 0 b.frame.fn b.frame.place O) U R 0 {y with tag:=C n}:=by
  have:=p.bg.stay t λL i c7=>H i λg=>by subst g;rcases p.bg.dv L _ c7 _ (VA A)with Q|⟨Q,_⟩<;>(rw[h.qU _ (.inl A)]at Q;cases Q)
  exact⟨this.base,this.rel,this.cY,this.dv,this.dY,this.low⟩
 refine⟨zD p t (sY _ _ _ _) A (Ren.le_refl _) (λi e1 e2 e3 e4 e5 e6 W _=>H i λg=>?_) (λb8 b1=>?_) (λb7 S b8 b1=>?_),p.bF.step t,d7,?_,?_⟩
 .subst g;obtain⟨_,_,d1⟩:=h.mode.live;have:q.heap[d.D.Wg]?=_:=d1;rw[W]at this;cases this
 .simp_all
 .cases b1;have z:=S.wg d b0;have b4:=z.gv.step t z.JP;have b3:=z.gh.step t;obtain⟨b9,e9,a3,a4,a5,a6,f0,a7,a8,a0,e7,e8,a1,a2,_,N⟩:=z;rw[<-c6]at a3 a4 a5 a6 a7 a8 a0 N b4 b3;rw[<-d3,<-d0]at a1 a2 N;exact⟨b9,b5 b7 S,a3,a4,a5,a6.same (H _ (by grind)),b4,a7,a8,a0,(by omega),d8 b7 S,a1,a2,b3,N⟩
 .rw[Wq (by simpa using(Wh.1 p.me).1)]
 rw[Yt,p.hears];exact hd
theorem pW{c:E}:∀a∈#[Go.ConcR.mk .disable],AL c a:=by intro a b;simp[Go.ConcR.mk]at b;subst b;exact⟨VA A,λe d=>by cases d⟩
theorem sJ{c:E}:∀a∈#[Go.ConcR.mk .enable],AL c a:=by intro a b;simp[Go.ConcR.mk]at b;subst b;exact⟨VA A,λe d=>by cases d⟩
theorem FY{a:E}:∀b∈#[Go.ConcR.rd (stA a),Go.ConcR.wr (stA a)],AL a b:=by intro b c;simp[Go.ConcR.rd,Go.ConcR.wr]at c;rcases c with rfl|rfl<;>exact⟨VC (VA ⟨_,_,A,A⟩),λe d=>by cases d⟩
theorem tS{a:E}:∀b∈#[Go.ConcR.rd (stA a)],AL a b:=by intro b c;simp[Go.ConcR.rd]at c;subst c;exact⟨VC (VA ⟨_,_,A,A⟩),λe d=>by cases d⟩
theorem Ic{a:E}:∀b∈#[Go.ConcR.mk (.read (smA a))],AL a b:=by intro b c;simp at c;subst c;exact⟨VC (VC ⟨_,VA A,A⟩),λe d=>by cases d⟩
theorem DC{a:E}:∀b∈#[Go.ConcR.mk (.write (smA a))],AL a b:=by intro b c;simp at c;subst c;exact⟨VC (VC ⟨_,VC A,A⟩),λe d=>by cases d⟩
theorem ie{d:dm}(s:y.tag=C d){Stop:VO->K->Prop}(a2:∀b q,Stop b q->b.status=.running){g:VD Ms}{k:VL (E×E)}(l:dJ (aj c e) f g T q a R y b)
 (t:∀U,Go.SimW.RL d.D.ty d.D.Wg q U->Stop b U)
 (a0:∀g T q k a R,dJ (aj c e) f g T q a R y b->Stop b q->∃n U O h m,stepG c J b q=.go n U O/\h.D=d.D/\h.fin=d.fin/\h.lo=d.lo/\h.hi=d.hi/\(U=q\/∃a4 a5,U=q.setCell ⟨d.D.Wg,a4,I⟩ a5)/\(∀g∈O,AL d.D.Wg g)/\
   (∀i,bB c T q a R y i->ef h i T.size U (sumTo T.size λp=>(i p).cnt))/\deafBehind f O=m/\(∀i,bB c T q a R y i->(sumTo T.size λp=>(i p).cnt)<=h.vb)/\
   ∀r v,dJ (aj c e) m g r U v R {y with tag:=C h} n->cd c r U k v D):cd c T q k a D:=by
 refine rO (λw=>∀U,Go.SimW.RL d.D.ty d.D.Wg w U->Stop b U) (λq U a1 o x a3=>o x λ_=>a3 (a1 d s)) (a2 b q (t q (Go.SimW.RL.refl q))) ?_ g T q k a R l t;intro g T q k a R l o;obtain⟨n,U,O,h,m,z,L,N,P,Q,S,W,X,Y,Z,H⟩:=a0 g T q k a R l (o q (Go.SimW.RL.refl q));exact⟨_,_,_,iL l.me z,H _ _ (KT l s L N P Q S W X Y Z)⟩
theorem bZ{d:dm}{m:VD Ms}{T:VE VO}{a:VY}{R:Loc->dw}{Stop:VO->K->Prop}(k:Go.Conc.Goes c J (Go.SimW.RL d.D.ty d.D.Wg) DC0 Stop u b q):
 ∀U,Go.SimW.RL d.D.ty d.D.Wg q U->Go.Conc.Goes c J (Go.SimW.RL d.D.ty d.D.Wg) DC0 Stop u b U:=λU l=>k.rely (λg h i=>Go.SimW.RL.trans g h i) l
theorem Mg{d:dm}{w:VO}(l:y.tag=C d)(d9:d.wt=0)(b3:d.pend=0)(c8:w.status=.running)(c9:∀q,WgLive d.D.ty d.D.Wg q->Go.Conc.Goes c J (Go.SimW.RL d.D.ty d.D.Wg) DC0 (Go.SimW.UA c d.D.ty d.D.Wg w) u b q)
 (d1:∀h T q i a R,dJ (aj c e) 0 h T q a R {y with tag:=C {d with pend:=1}} w->cd c T q i a D){h:VD Ms}{i:VL (E×E)}(o:dJ (aj c e) 0 h T q a R y b):cd c T q i a D:=by
 have live:∀{f h T q a R y b}{d:dm},dJ (aj c e) f h T q a R y b->y.tag=C d->WgLive d.D.ty d.D.Wg q:=λg l=>by obtain⟨t,_,c0,_⟩:=g.ok;exact(c0.wg _ l).mode.live
 refine cG l (λb q g=>g.1) (λH S X v Y Z P p r=>?_) (u,h) b T q i a R o (bZ (T:=T) (a:=a) (R:=R) (m:=h) (c9 q (live o l)));refine ie l (λb q g=>g.1) p r λh T q i a R o s=>?_;obtain⟨_,a8,d2,d7,d0⟩:=s;refine⟨a8,q,_,d,1,d2,A,A,A,A,VA A,pW,λt g=>(g.wg d l).mode,A,λt g=>(g.wg d l).bound,λx z b0=>?_⟩;have b8:({y with tag:=C d}:bT)=y:=by rw[<-l]
 rw[b8]at b0;refine cG l (λb q g=>g.1) (λH S X v Y Z P p r=>?_) (d7,h) a8 x q i z R b0 (bZ (T:=T) (a:=a) (R:=R) (m:=h) d0);refine ie l (λb q g=>g.1) p r λh T q i a R o s=>?_;obtain⟨_,s⟩:=s;obtain⟨b4,_,c6,_⟩:=o.ok;have a0:=c6.wg d l;have e2:=a0.yO;have e1:=a0.xC;obtain⟨V,b9⟩:∃V,V=sumTo T.size λa6=>(b4 a6).cnt:=⟨_,A⟩;have b2:=a0.mode;rw[<-b9]at b2
 have a5:WgAt d.D.ty d.D.Wg q ((V:VB)*KK) 0/\∀j,0<j->j<T.size->(b4 j).lE=0:=by
  cases b2 with
  |opn n d8 m k=>rw[b3]at k;exact⟨by simpa using k,m⟩
  |reg n b5 m k=>omega
  |last d6 n m k f h b7=>omega
  |fin n m k=>omega
  |AE n m k=>omega
 obtain⟨a9,d3,d5,e3⟩:=s V (by omega) a5.1;refine⟨a9,_,_,{d with pend:=1},1,d3,A,A,A,A,VC ⟨0,_,A⟩,FY,λt g=>?_,A,λt g=>(g.wg d l).bound,λx z c7=>?_⟩
 .have b1:=(g.wg d l).mode;generalize e0:(sumTo T.size λa6=>(t a6).cnt)=Q at b1;cases b1 with
  |opn n d8 m k=>
   rw[b3]at k;have:Q=V:=by have:=(WgAt.unique (by simpa using k) a5.1).1;simp only[KK]at this;omega
   subst this;refine .opn n (Wl _) m ?_;have b6:((Q+1:E):VB)=(Q:VB)+1:=by omega
   show WgAt _ _ _ (((Q+1:E):VB)*KK) 0;rw[b6];exact a5.1.setSt _
  |reg n b5 m k=>omega
  |last d6 n m k f h b7=>omega
  |fin n m k=>omega
  |AE n m k=>omega
 have tail:∀(W:VO)(N:E) h T q i a R,dJ (aj c e) 1 h T q a R {y with tag:=C {d with pend:=1}} W->Go.Conc.Goes c J (Go.SimW.RL d.D.ty d.D.Wg) DC0 (Go.SimW.TR c d.D.ty d.D.Wg w) N W q->cd c T q i a D:=by intro W N h T q i a R o a2;refine cG (d:={d with pend:=1}) A (λb q g=>g.1) (λH S X v Y Z P p r=>?_) (N,h) W T q i a R o (bZ (d:={d with pend:=1}) (T:=T) (a:=a) (R:=R) (m:=h) a2);refine ie (d:={d with pend:=1}) A (λb q g=>g.1) p r λh T q i a R o s=>?_;obtain⟨_,L,a4,a7,a3⟩:=s;refine⟨L,q,_,{d with pend:=1},0,a4,A,A,A,A,VA A,sJ,λt g=>(g.wg _ A).mode,A,λt g=>(g.wg _ A).bound,λx z a1=>?_⟩;refine cG (d:={d with pend:=1}) A (λb q g=>by rw[show b=w from g];exact c8) (λH S X v Y Z P p r=>?_) (a7,h) L x q i z R a1 (bZ (d:={d with pend:=1}) (T:=T) (a:=a) (R:=R) (m:=h) a3);have:H=w:=r v (Go.SimW.RL.refl v);subst this;exact d1 _ _ _ _ _ _ p
 by_cases d4:V=0
 .obtain⟨N,a2⟩:=d5 d4;refine cG (d:={d with pend:=1}) A (λb q g=>g.1) (λH S X v Y Z P p r=>?_) (N,h) a9 x _ i z R c7 (bZ (d:={d with pend:=1}) (T:=T) (a:=a) (R:=R) (m:=h) a2);refine ie (d:={d with pend:=1}) A (λb q g=>g.1) p r λh T q i a R o s=>?_;obtain⟨_,L,a4,a7,a3⟩:=s;exact⟨L,q,_,{d with pend:=1},1,a4,A,A,A,A,VA A,Ic,λt g=>(g.wg _ A).mode,A,λt g=>(g.wg _ A).bound,λx z a1=>tail L a7 _ _ _ _ _ _ a1 a3⟩
 grind
end
end
variable{h:E}{D:eX}
section
variable[Inhabited aV]
section
variable{e:dc}
theorem qn{a:dm}{e:E->aG}{g:E}(i:ef a e f q g)(n:a.wt=0)(o:a.pend=0):WgAt a.D.ty a.D.Wg q ((g:VB)*KK) 0/\∀j,0<j->j<f->(e j).lE=0:=by
 cases i with
 |opn b r c d=>simp_all
 |reg b k c d=>omega
 |last p b c d h l m=>omega
 |fin b c d=>omega
 |AE b c d=>omega
theorem KD{e:dm}{a:E->aG}(p:dV e a f q R)(r:sumTo f (λg=>(a g).cnt)=0)(n:∀j,0<j->j<f->(a j).lE=0):∀j c,0<j->j<f->a j=.wk c->∃h d cl b,c=.quit h d cl b:=by
 intro j c l m o
 have i:(a j).cnt=0:=by grind [Go.ConcN.le_sumTo]
 have k:=n j l m;rw[o]at i k;cases c with
 |work u cl e b=>grind [aG.cnt,nj.cnt]
 |done g u d cl b=>grind [aG.cnt,aG.lE,nj.cnt,nj.lE]
 |quit h d cl b=>simp
structure Legacy(c:VS)(g:dm)(a:VY)(q:K)(R:Loc->dw)(i:E)(cl:bE)(d:bT):Prop where
 bg:aH c a q R i d
 own:ug g.D i cl
 Ld:di g.D d.S d.β cl q
 fin:g.fin i cl d.w
structure rf(c:VS)(e:dc)(d:dm)(o:VD Ms)(T:VE VO)(q:K)(a:VY)(R:Loc->dw)(y:bT):Prop where
 ok:db c e o T q a R y
 left:∀g,d.lo<=g->g<d.hi->g<T.size/\Told a R g/\∃cl r,Legacy c d a q R g cl r
 qU:∀i,aA i d.D.Wg->R i=.sync
 yZ:R (.obj d.D.gb)=.void
 own:∀g,d.lo<=g->g<d.hi->∀k m,d.D.own g k->R (.cell ⟨d.D.gb,k,m⟩)=.iG g
 gb:tv d.D q
 pos:0<d.lo
 gh:Hd d.D q R
 JO:∀i,aA i d.D.gb->i=.obj d.D.gb\/R i=.iG 0\/∃g k m,d.lo<=g/\g<d.hi/\i=.cell ⟨d.D.gb,k,m⟩/\d.D.own g k/\R i=.iG g
 Rj:∀l n p,e=C (l,n,p)->0<l/\¬(d.lo<=l/\l<d.hi)
theorem yE{t:dm}{a7:VD Ms}{f1:VL (E×E)}{Z:VO}(b5:y.tag=C t)(w:dJ (aj c e) 0 a7 T q a R y b)(g8:stepG c J b q=.go Z q #[Go.ConcR.mk (.acquire (stA t.D.Wg))])
 (g6:∀x,bB c T q a R y x->∀j k,0<j->j<T.size->x j=.wk k->∃z g cl X,k=.quit z g cl X):
 ∃b1 i c8,runT c (crowd T q f1) 0=(.next (crowd b1 q f1),i)/\dJ (aj c e) 0 c8 b1 q (a++i) R {y with tag:=I} Z/\rf c e t c8 b1 q (a++i) R {y with tag:=I}:=by
 obtain⟨x,rfl,H,b7⟩:=w.ok;have p:=H.wg t b5;have e0:=g6 x H;obtain⟨i,e2⟩:∃i,i=VZ 0 b.frame.fn b.frame.place #[Go.ConcR.mk (.acquire (stA t.D.Wg))]:=⟨_,A⟩;have i3:i=#[({g:=0,fn:=b.frame.fn,pos:=b.frame.place,act:=.mark (.acquire (stA t.D.Wg))}:MemOp)]:=by simp_all [VZ,Go.ConcR.mk,Wf]
 have g5:∀v∈i,∀k,v.act.touch?=C k->False:=by grind [MemAct.touch?]
 have d6:∀v∈i,∀f3,v.act≠.mark (.release f3):=by grind
 have g2:∀v∈i,v.g=0:=by grind
 have a8:jM a q q R R 0 i:=mB g5 d6;have d2:∀l,l≠0->Deaf (a++i) l=Deaf a l:=λl Q=>Yy a (g':=0) (λa7=>Q a7.symm) i g2
 have g7:(a++i).act? a.size=C (.mark (.acquire (stA t.D.Wg))):=by
  have:(a++i)[a.size]?=C {g:=0,fn:=b.frame.fn,pos:=b.frame.place,act:=.mark (.acquire (stA t.D.Wg))}:=by grind
  rw[act?_of this]
 have d9:(a++i).g? a.size=C 0:=by
  have:(a++i)[a.size]?=C {g:=0,fn:=b.frame.fn,pos:=b.frame.place,act:=.mark (.acquire (stA t.D.Wg))}:=by grind
  rw[fy this]
 have told:∀d g,RelBy (stA t.D.Wg) a d g->0<d->Told (a++i) R d:=by
  intro d g a3 r l v k Q d3 s d5 b6;rcases Wp Q with⟨g4,a2⟩|⟨_,g3⟩
  .have b0:g<a.size:=YP a3.act;have d0:HappensBefore (a++i) g a.size:=.single (VC ⟨.marked b0 (VC (by rw[T_ b0];exact a3.act)) g7 (λl _ _=>(w.bF.norel _).app (λv d8=>d6 v d8 _) l),(Yg b0).2 a3.heard,⟨0,d9,by rw[deaf_old (Wl _)];exact w.hears⟩⟩);have i1:l<=g:=E.le_of_not_lt λS=>
    a3.after l S (by simp[VY.g?,a2,d3]) ⟨k,by rw[<-Xm a2]at s;exact s,d5,VC (b6.elim (w.bF.iU l k (by rw[Xm a2];exact s) d5) (Yg g4).1)⟩
   have g1:(a++i).g? g=C d:=by rw[g?_old b0];exact a3.g
   obtain⟨c6,e3,e4⟩:=Xf.1 d9;rcases D_ l g with d1|d1
   .exact⟨a.size,c6,e3,e4,VC (.trans (.single (VA ⟨d1,d,(by simp[VY.g?,Q,d3]),g1⟩)) d0)⟩
   obtain rfl:l=g:=by omega
   exact⟨a.size,c6,e3,e4,VC d0⟩
  simp_all
 have i2:0<T.size:=(Wh.1 w.me).1
 let O:aG->aG:=λg=>match g with
  |.wk (.quit z _ _ _)=>.lv z
  |.wk _=>.lv 0
  |g=>g
 have upd:∀g,O g=(match g with
  |.wk (.quit z _ _ _)=>.lv z
  |.wk _=>.lv 0
  |g=>g):=λ_=>rfl
 have h4:∀g,(O g).pd=g.pd:=by intro g;rw[upd];cases g with
  |wk k=>cases k<;>rfl
  |_=>rfl
 have h3:∀g,(O g).chan=g.chan:=by simp_all [aG.cC]
 have i8:∀g k,O g≠.wk k:=by grind
 have h6:∀l L,0<l->l<T.size->(x l).chan=C L->q.heap[L]?=q.heap[L]?:=λ_ _ _ _ _=>rfl
 have h7:∀d P,0<d->T[d]?=C P->cB c d P q (a++i) R {y with tag:=I} (O (x d)):=by
  intro d P r N;have S:=(Wh.1 N).1;have U:=H.each d P r N;have a5:cB c d P q (a++i) R y (x d):=U.frame w.bF a8 (by omega) (d2 d (by omega)) (iP.refl y) (λL i0=>rfl) (λv d8 a7=>by simp_all) (λ_ _=>ft.same A rfl);obtain⟨c0,e1⟩:∃c0,x d=c0:=⟨_,A⟩;rw[e1]at a5 U⊢
  cases c0 with
  |lv z=>exact a5
  |wk k=>obtain⟨z,g,cl,X,rfl⟩:=e0 d k r S e1;obtain⟨f2,n,o,m⟩:=U;rw[b5]at n;cases n;obtain⟨b8,e5,e6,e7,g9⟩:=m;exact⟨by grind,told d g b8 r⟩
  |pr a6 u t X=>obtain⟨n,o,⟨a4,Y,m⟩,b2,a0,b3,b4⟩:=a5;exact⟨n,o,⟨a4,Y,⟨m.heap,m.count,m.room,m.own,m.msgs⟩⟩,b2,a0,b3,b4⟩
  |pb a6 u t X h9 i9 c6=>obtain⟨n,o,f7,⟨a4,Y,m,f8⟩,b2,a0,b3,b4,f9⟩:=a5;exact⟨n,o,f7,⟨a4,Y,⟨m.heap,m.count,m.room,m.own,m.msgs⟩,f8⟩,b2,a0,b3,b4,f9⟩
  |pq a6 z=>obtain⟨⟨a4,Y,m⟩,a0⟩:=a5;exact⟨⟨a4,Y,⟨m.heap,m.count,m.room,m.own,m.msgs⟩⟩,a0⟩
 have d7:db c e (tE (λd=>O (x d)) T.size) ((T.map (Go.Conc.woken c b Z q)).setIfInBounds 0 Z) q (a++i) R {y with tag:=I}:=by
  refine⟨λd=>O (x d),by simp,⟨λd P r N=>?_,?_,λj a9=>?_,λh5 g0=>(by cases g0),λl v Q=>?_⟩,?_⟩
  .rw[Wr (by omega),WE]at N;cases s:T[d]? with
   |none=>simp_all
   |some k=>rw[s]at N;simp only[Xp,Wz]at N;rw[(H.each d k r s).woken b Z λL _=>rfl]at N;simp_all
  .intro d j L f4 r a9 a1 d4 n o;simp only[WQ,XY]at a1 d4;rw[h3]at n o;exact H.one d j L f4 r a9 a1 d4 n o
  .simp only[WQ,XY]at a9;rw[d2 j (by omega)];exact H.above j a9
  .simp only[WQ,XY];rcases Wp Q with⟨_,a2⟩|⟨_,g3⟩
   .exact H.ops l v a2
   simp_all
  cases e with
  |none=>intro d r a1;simp only[WQ,XY]at a1;rw[h4];exact b7 d r a1
  |some k=>obtain⟨e8,a6,l⟩:=k;obtain⟨q1,h1,b9,f0⟩:=b7;exact⟨q1,by simp_all,by simp_all,f0⟩
 have W:=w.bg.stay a8 λ_ _ _=>rfl;refine⟨_,i,_,by rw[e2];exact iL w.me g8,⟨d7,w.bF.step a8,⟨W.base,W.rel,W.cY,W.dv,W.dY,W.low⟩,?_,?_⟩,⟨d7,λd n o=>?_,p.qU,p.yZ,λd n o h0 h2 b6=>?_,p.gb,p.tu.1,p.gh,p.JO,?_⟩⟩
 .simp_all
 .rw[e2,Yt,w.hears];rfl
 .have r:0<d:=Ws p.tu.1 n;have S:d<T.size:=E.lt_of_lt_of_eq o p.tu.2.2.1;obtain⟨k,s⟩:=p.tu.2.2.2 d n o;obtain⟨z,g,cl,X,rfl⟩:=e0 d k r S s;have U:=H.each d _ r (Wj S);rw[s]at U;obtain⟨f2,c9,f5,f6⟩:=U;rw[b5]at c9;cases c9;obtain⟨b8,e5,e6,e7,g9⟩:=f6;exact⟨by simp_all,told d g b8 r,cl,X,⟨e5.other (i:=0) (by omega) a8,f5,e6,e7⟩⟩
 .obtain⟨k,s⟩:=p.tu.2.2.2 d n o;exact p.own d k (Ws p.tu.1 n) (E.lt_of_lt_of_eq o p.tu.2.2.1) s h0 h2 b6
 rintro e8 a6 l rfl;obtain⟨q1,h1,b9,f0⟩:=b7;refine⟨q1,λ⟨n,o⟩=>?_⟩;obtain⟨k,s⟩:=p.tu.2.2.2 e8 n o;rw[s]at b9;cases b9
theorem IG{Stop:VO->K->Prop}(O:∀b q,Stop b q->b.status=.running)
 (x:∀m t p o L r s,dJ (aj c e) h t p o r s y m->(∀d,Stop m d)->cd c p o L r D):
 ∀(u:E)(b:VO)(g:VD Ms) T q i a R,dJ (aj c e) h g T q a R y b->Go.SimW.GT c J Stop u b->cd c T q i a D:=by
 intro u
 induction u with
 |zero=>intro b g T q i a R k n;exact x b g T q i a R k λd=>n d d trivial
 |succ u H=>
  intro b g T q i a R k n;by_cases P:∀d,Stop b d
  .grind
  have z:b.status=.running:=by
   rcases n q with l|⟨l,_⟩
   .simp_all
   exact l
  refine rO (λ_=>True) (λ_ _ _ _=>trivial) z ?_ g T q i a R k trivial;intro g T q i a R k _;rcases n q with l|⟨_,l⟩
  .simp_all
  obtain⟨m,Q,N,v,⟨rfl,rfl⟩,w⟩:=x_ (l q trivial);exact⟨_,_,_,iL k.me v,(H m g _ _ i _ R (uG k) λd=>w.rely (λ_ _ _ _ _=>trivial) trivial)⟩
theorem Mh{d:dm}{d8:VO}(P:y.tag=C d)(b2:d.wt=1)(j9:d.pend=0)(b3:∀q,WgLive d.D.ty d.D.Wg q->Go.SimW.TV c d.D.ty d.D.Wg d8 b q)
 (g8:∀c0 d5 o T q s a R,dJ (aj c e) h o T q a R {y with tag:=C {d with wt:=2}} c0->Go.Conc.Goes c J (Go.SimW.RL d.D.ty d.D.Wg) DC0 (Go.SimW.UM c d.D.ty d.D.Wg d8) d5 c0 q->cd c T q s a D):
 ∀(o:VD Ms),
  (∀T q s a R,dJ (aj c e) h o T q a R y {b with status:=.blocked}->(∃g,WgAt d.D.ty d.D.Wg q g 0)->cd c T q s a D)/\(∀T q s a R,dJ (aj c e) h o T q a R y b->cd c T q s a D):=by
 intro o
 induction (dU.wf Ms.wf).apply o with
 |intro o _ d4=>
  have live:∀{o T q a R b},dJ (aj c e) h o T q a R y b->WgLive d.D.ty d.D.Wg q:=λp=>by obtain⟨x,_,Z,_⟩:=p.ok;exact(Z.wg d P).mode.live
  have j8:∀{o T q a R},dJ (aj c e) h o T q a R y b->b.offers=I:=λp=>(b3 _ (live p)).2.1
  have d9:∀T q s a R,dJ (aj c e) h o T q a R y {b with status:=.blocked}->(∃g,WgAt d.D.ty d.D.Wg q g 0)->cd c T q s a D:=by
   intro T q s a R n b5;have c8:b.offers=I:=(b3 _ (live n)).2.1;have a2:b.status=.running:=(b3 _ (live n)).1
   have g5:∀d1,({b with status:=.blocked}:VO).again d1=b:=by intro d1;obtain⟨i9,j0,j1,j2,j3⟩:=b;simp only at c8 a2;subst c8 a2;rfl
   obtain⟨x,g9,Z,h3⟩:=n.ok;have Y:=Z.wg d P;have g3:∀t∈T,Go.Conc.awake t:=by
    intro t S;obtain⟨k,Q,rfl⟩:=Xt.1 S;rcases WA k with rfl|a0
    .have:T[0]={b with status:=.blocked}:=by have:=n.me;simp_all
     rw[this];exactλa h1=>by cases h1
    exact(aj c e).awake n.ok k _ a0 (Wj Q)
   have h0:∃(k:E)(b:VO),T[k]?=C b/\b.status=.running:=by
    have f2:∀j t,0<j->j<T.size->x j=.wk t->(t.cnt=1\/t.lE=1)->∃(k:E)(b:VO),T[k]?=C b/\b.status=.running:=by
     intro j t c7 e2 S j5;have e7:=Z.each j _ c7 (Wj e2);rw[S]at e7;obtain⟨i3,i7,i8,d7⟩:=e7;refine⟨j,_,Wj e2,?_⟩;cases t with
     |work u cl i4 a9=>exact d7.1
     |done m u N cl a9=>exact Go.SimW.qd d7.2.2.2.2.2.2
     |quit c9 N cl a9=>grind [nj.cnt,nj.lE]
    have b4:=Y.mode;generalize g2:(sumTo T.size λm=>(x m).cnt)=V at b4;cases b4 with
    |opn g d6 l i=>omega
    |fin g l i=>obtain⟨t,S⟩:=b5;have:=(i.unique S).2;omega
    |AE g l i=>omega
    |last k g l i h o b1=>
     have L:(x k).lE=1:=o;cases a1:x k with
     |wk t=>exact f2 k t l i a1 (VC (by rw[a1]at L;exact L))
     |lv c9=>rw[a1]at L;cases L
     |pr b0 u d a9=>rw[a1]at L;cases L
     |pb b0 u d a9 b h9 i1=>rw[a1]at L;cases L
     |pq b0 c9=>rw[a1]at L;cases L
    |reg g b8 l i=>
     have:∃j,j<T.size/\1<=(x j).cnt:=by
      refine Classical.byContradiction λj7=>?_
      have k1:(sumTo T.size λm=>(x m).cnt)<=0*T.size:=Go.ConcN.sumTo_le (f:=λm=>(x m).cnt) (c:=0) λj c7=>by simp_all
      omega
     obtain⟨j,c7,b2⟩:=this;have g7:0<j:=by
      rcases WA j with rfl|p
      .have:=Y.zero;omega
      exact p
     cases e6:x j with
     |wk t=>
      refine f2 j t g7 c7 e6 (VA ?_);rw[e6]at b2;have W:1<=t.cnt:=b2;cases t<;>simp only[nj.cnt]at W⊢
      .grind
      omega
     |lv c9=>simp_all [aG.cnt]
     |pr b0 u d a9=>simp_all [aG.cnt]
     |pb b0 u d a9 b h9 i1=>simp_all [aG.cnt]
     |pq b0 c9=>simp_all [aG.cnt]
   obtain⟨k,d2,f,z,Q,c6,b6⟩:=YO (P:=c) (w:=q) (sl:=s) g3 h0;have a0:0<k:=by
    rcases WA k with rfl|p
    .have:=n.me;grind
    exact p
   have w:=n.at' f;obtain⟨a8,k0,e0,e8⟩:=w.ok
   have fin:∀{N r v O H},runT c (crowd T (q.at f) z) k=(.next (crowd r v z),O)->Ms.lt (aG.ms N) (a8 k).ms->r.size=T.size->(r[0]?=C {b with status:=.blocked}\/r[0]?=C b)->bB c r v (a++O) H y (λm=>if m=k then N else a8 m)->cR (a++O) v H->aH c (a++O) v H 0 y->Deaf (a++O) 0=Deaf a 0->
    ee e r v (λm=>if m=k then N else a8 m)->((∃g,WgAt d.D.ty d.D.Wg (q.at f) g 0)->(∃l,WgAt d.D.ty d.D.Wg v l 1)->r[0]?=C b)->cd c T q s a D:=by
    intro N r v O H q1 d0 a3 U X a4 a5 a6 a7 b7;refine cd.head (b6.trans q1) ?_
    have e4:dU Ms.lt (tE (λm=>if m=k then N else a8 m) r.size) o:=by grind [kU]
    have e3:=(X.wg d P).mode;generalize (sumTo r.size λj=>(if j=k then N else a8 j:aG).cnt)=V at e3;rcases U with U|U
    .refine(d4 _ e4).1 r v z _ H ⟨⟨_,A,X,a7⟩,a4,a5,U,a6.trans n.hears⟩ ?_;cases e3 with
     |opn g d6 l i=>omega
     |reg g b8 l i=>grind
     |last k g l i h o b1=>grind
     |AE g l i=>omega
     |fin g l i=>
      have:=b7 b5 ⟨_,i⟩
      grind
    exact(d4 _ e4).2 r v z _ H ⟨⟨_,A,X,a7⟩,a4,a5,U,a6.trans n.hears⟩
   by_cases hd:uy c d2 (a8 k)
   .obtain⟨N,r,v,O,H,q1,d0,a3,U,X,a4,a5,a6,a7,b7,f0⟩:=xz z e0 w.bF w.bg n.me (VC c8) a0 Q c6 hd;refine fin q1 d0 a3 ?_ X a4 a5 a6 (iD e8 a3 a7 b7) λS e9=>?_
    .grind [Go.Conc.woken]
    obtain⟨g,Y⟩:=S;obtain⟨l,g4⟩:=e9;have:=((Y.of_block (f0 d P)).unique g4).2;omega
   obtain⟨N,r,v,O,H,q1,d0,a3,⟨g,b8,U⟩,X,a4,a5,a6,a7,b7,f0⟩:=quiet_step z e0 w.bF w.bg n.me a0 Q c6 hd;refine fin q1 d0 a3 ?_ X a4 a5 a6 (iD e8 a3 a7 λm i f f4 b9 f5=>(b7 m i f f4 b9 f5).2) λS e9=>?_
   .rw[U];unfold Go.Conc.woken;split
    .right;rw[g5]
    left;rfl
   grind
  refine⟨d9,?_⟩;intro T q s a R n;have a2:=(λp=>(b3 _ (live p)).1) n;obtain⟨k,d2,f,z,Q,c6,b6⟩:=YO (P:=c) (w:=q) (sl:=s) (ry n a2) ⟨0,b,n.me,a2⟩;have w:=n.at' f;rcases WA k with rfl|a0
  .obtain rfl:d2=b:=by have:=n.me;simp_all
   obtain⟨_,c8,h4,h2⟩:=b3 (q.at f) (live w);obtain⟨x,g9,Z,h3⟩:=w.ok;have Y:=Z.wg d P;have b4:=Y.mode;have j6:0<T.size:=(Wh.1 n.me).1
   have block:(∃g,WgAt d.D.ty d.D.Wg (q.at f) g 0)->cd c T q s a D:=by intro b5;have d3:=h4 b5;exact cd.head (b6.trans (iL Q d3)) (d9 _ _ z _ R (uG w) b5)
   generalize g2:(sumTo T.size λm=>(x m).cnt)=V at b4;cases b4 with
   |opn g d6 l i=>omega
   |reg g b8 l i=>grind
   |last k g l i h o b1=>grind
   |AE g l i=>omega
   |fin g l i=>
    obtain⟨c0,d3,d5,g6⟩:=h2 i;refine cd.head (b6.trans (iL Q d3)) ?_;refine g8 c0 d5 _ _ _ z _ R (KT w P (n:={d with wt:=2}) A rfl rfl rfl (VC ⟨1,_,A⟩) (λo e1=>?_) (λf1 W=>?_) (a9:=h) ?_ (λf1 W=>(W.wg d P).bound)) g6
    .simp[semEvents]at e1;rcases e1 with rfl|rfl|rfl|rfl
     .exact⟨VA A,λg p=>by cases p⟩
     .exact⟨VC (VA ⟨_,_,A,A⟩),λg p=>by cases p⟩
     .exact⟨VC (VA ⟨_,_,A,A⟩),λg p=>by cases p⟩
     exact⟨VA A,λg p=>by cases p⟩
    .have e5:=(W.wg d P).mode;generalize j4:(sumTo T.size λm=>(f1 m).cnt)=i5 at e5;cases e5 with
     |opn g d6 l i=>omega
     |reg g b8 l c2=>have:=(i.unique c2).2;omega
     |last k g l c2 h o b1=>have:=(i.unique b1).2;omega
     |AE f3 b9 c2=>omega
     |fin f3 b9 c2=>exact .AE A b9 (i.setSm 0)
    rfl
  obtain⟨f6,r,v,O,H,b2,W,f7,f8,f9,g0,g1⟩:=(aj c e).step z w.ok w.bF w.bg n.me a2 a0 Q c6;exact cd.head (b6.trans b2) ((d4 f6 W).2 r v z _ H ⟨f8,f9,g0,f7,g1.trans n.hears⟩)
theorem IJ{d:dm}{S:VO}{a4:VO->K->Prop}(Z:y.tag=C d)(a2:d.wt=0)(a9:d.pend=0)(g5:S.status=.running)(e5:∀b a3,a4 b a3->b.status=.running)
 (d7:∀q,WgLive d.D.ty d.D.Wg q->Go.Conc.Goes c J (Go.SimW.RL d.D.ty d.D.Wg) DC0 (Go.SimW.UK c d.D.ty d.D.Wg a4) u b q)(f7:∀b a3,a4 b a3->∃u,Go.SimW.GL c J d.D.ty d.D.Wg (Go.SimW.UL c d.D.ty d.D.Wg S a4) u b)
 (h1:∀k T q a R e4,dJ (aj c e) 0 k T q a R {y with tag:=I} e4->rf c e d k T q a R {y with tag:=I}->∃d1 e1,dJ (aj c e) 0 k T q a d1 e1 e4/\∀k T q m a R,dJ (aj c e) 0 k T q a R e1 S->cd c T q m a D)
 {k:VD Ms}{m:VL (E×E)}(o:dJ (aj c e) 0 k T q a R y b):cd c T q m a D:=by
 have live:∀{h k T q a R y b}{d:dm},dJ (aj c e) h k T q a R y b->y.tag=C d->WgLive d.D.ty d.D.Wg q:=λg Z=>by obtain⟨l,_,e7,_⟩:=g.ok;exact(e7.wg _ Z).mode.live
 have f2:∀(i:E)(b4:bT){h k T q a R b},b4.tag=C {d with wt:=2,vb:=i}->dJ (aj c e) h k T q a R b4 b->WgAt d.D.ty d.D.Wg q 0 0/\∀l,bB c T q a R b4 l->(sumTo T.size λH=>(l H).cnt)=0/\∀j,0<j->j<T.size->(l j).lE=0:=by
  intro i b4 h k T q a R b f6 o
  have k7:∀l,bB c T q a R b4 l->(sumTo T.size λH=>(l H).cnt)=0/\(∀j,0<j->j<T.size->(l j).lE=0)/\WgAt d.D.ty d.D.Wg q 0 0:=by
   intro l g;have a0:=(g.wg _ f6).mode;generalize (sumTo T.size λH=>(l H).cnt)=V at a0;cases a0 with
   |opn U k8 a1 a5=>cases U
   |reg U j9 a1 a5=>cases U
   |last f1 U a1 a5 h k k1=>cases U
   |fin U a1 a5=>cases U
   |AE U a1 a5=>exact⟨A,a1,a5⟩
  obtain⟨l,_,e7,_⟩:=o.ok
  grind
 have tail:∀(i:E)(W:VO)(b1:E) k T q m a R,dJ (aj c e) 1 k T q a R {y with tag:=C {d with wt:=2,vb:=i}} W->Go.Conc.Goes c J (Go.SimW.RL d.D.ty d.D.Wg) DC0 (Go.SimW.TW c d.D.ty d.D.Wg S) b1 W q->cd c T q m a D:=by
  intro i W b1 k T q m a R o g7;refine cG (d:={d with wt:=2,vb:=i}) A (λb q g=>g.1) (λP w z p L O v s r=>?_) (b1,k) W T q m a R o (bZ (d:={d with wt:=2,vb:=i}) (T:=T) (a:=a) (R:=R) (m:=k) g7);refine ie (d:={d with wt:=2,vb:=i}) A (λb q g=>g.1) s r λk T q m a R o t=>?_;obtain⟨_,e2,h8,b2,a7⟩:=t;refine⟨e2,q,_,{d with wt:=2,vb:=i},0,h8,A,A,A,A,VA A,sJ,λl g=>(g.wg _ A).mode,A,λl g=>(g.wg _ A).bound,λx N g3=>?_⟩;refine cG (d:={d with wt:=2,vb:=i}) A (λb q g=>g.1) (λP w z p L O v s r=>?_) (b2,k) e2 x q m N R g3 (bZ (d:={d with wt:=2,vb:=i}) (T:=T) (a:=a) (R:=R) (m:=k) a7);refine rO (λf3=>∀d2,Go.SimW.RL d.D.ty d.D.Wg f3 d2->Go.SimW.UN c d.D.Wg S P d2) (λq d2 h2 d9 f5 i2=>d9 f5 λ_=>i2 (h2 {d with wt:=2,vb:=i} A)) (r p (Go.SimW.RL.refl p)).1 ?_ w z p L O v s r;intro k T q m a R o d9;obtain⟨_,Y,b0,b3,a8⟩:=d9 q (Go.SimW.RL.refl q);obtain⟨_,c8⟩:=f2 i _ A o;obtain⟨c0,c9,d3,i8,i9,X⟩:=yE (t:={d with wt:=2,vb:=i}) (f1:=m) A o b0 λl g=>KD (g.wg _ A) (c8 l g).1 (c8 l g).2;refine⟨c0,q,c9,i8,?_⟩
  have j0:rf c e d d3 c0 q (a++c9) R {y with tag:=I}:=⟨X.ok,λf1 U a1=>by
   obtain⟨j6,j7,cl,j5,d0⟩:=X.left f1 U a1
   exact⟨j6,j7,cl,j5,⟨d0.bg,d0.own,d0.Ld,d0.fin⟩⟩,X.qU,X.yZ,X.own,X.gb,X.pos,X.gh,X.JO,X.Rj⟩
  obtain⟨d1,e1,j1,k9⟩:=h1 d3 c0 q (a++c9) R Y i9 j0;refine IG (Stop:=Go.SimW.TS S) (λb q g=>by rw[show b=S from g];exact g5) (λb9 k0 k2 f4 l0 l1 j8 k4 h6=>?_) b3 Y d3 c0 q m (a++c9) d1 j1 a8;have:b9=S:=h6 f4
  grind
 have j4:∀(f i:E),i<=f->∀(W:VO) k T q m a R,dJ (aj c e) 1 k T q a R {y with tag:=C {d with vb:=i}} W->a4 W q->cd c T q m a D:=by
  intro f
  induction f using E.strongRecOn with
  |_ f i3=>
   intro i k6 W k T q m a R o g2;obtain⟨b1,Aj⟩:=f7 W q g2;refine cG (d:={d with vb:=i}) A (λb q g=>g.1) (λP w z p L O v s r=>?_) (b1,k) W T q m a R o (bZ (d:={d with vb:=i}) (T:=T) (a:=a) (R:=R) (m:=k) (Aj q (live (d:={d with vb:=i}) o A)));refine ie (d:={d with vb:=i}) A (λb q g=>g.1) s r λk T q m a R o t=>?_;obtain⟨_,t⟩:=t;obtain⟨j2,_,g0,_⟩:=o.ok;have c6:=g0.wg _ A;obtain⟨V,f8⟩:∃V,V=sumTo T.size λH=>(j2 H).cnt:=⟨_,A⟩;have d8:=qn c6.mode a2 a9;have h3:=c6.yO;have k5:=c6.xC;have d4:=c6.bound;rw[<-f8]at d8 h3 d4;have d4:V<=i:=d4
   have b5:∀l,bB c T q a R {y with tag:=C {d with vb:=i}} l->(sumTo T.size λH=>(l H).cnt)=V/\∀j,0<j->j<T.size->(l j).lE=0:=by intro l g;have a0:=qn (g.wg _ A).mode a2 a9;refine⟨?_,a0.2⟩;have:=(a0.1.unique d8.1).1;simp only[KK]at this;omega
   obtain⟨b8,e9,c8,h5⟩:=t V (by omega) d8.1;by_cases e0:V=0
   .obtain⟨b2,a7⟩:=c8 e0;refine⟨b8,q,_,{d with wt:=2,vb:=i},1,e9,A,A,A,A,VA A,tS,λl g=>?_,A,λl g=>(g.wg _ A).bound,λx N a6=>tail i b8 b2 _ _ _ _ _ _ a6 a7⟩;rw[(b5 l g).1,e0];refine .AE A (b5 l g).2 ?_;simp_all
   obtain⟨b2,a7⟩:=h5 e0;refine⟨b8,q,_,{d with vb:=V},1,e9,A,A,A,A,VA A,tS,λl g=>?_,A,λl g=>YF (b5 l g).1,λx N a6=>?_⟩
   .rw[(b5 l g).1];exact .opn a2 (by simp_all) (b5 l g).2 (by simp_all)
   refine cG (d:={d with vb:=V}) A (λb q g=>g.1) (λP w z p L O v s r=>?_) (b2,k) b8 x q m N R a6 (bZ (d:={d with vb:=V}) (T:=T) (a:=a) (R:=R) (m:=k) a7);refine ie (d:={d with vb:=V}) A (λb q g=>g.1) s r λk T q m a R o t=>?_;obtain⟨_,t⟩:=t;obtain⟨j3,_,g1,_⟩:=o.ok;have e6:=g1.wg _ A;obtain⟨Q,f9⟩:∃Q,Q=sumTo T.size λH=>(j3 H).cnt:=⟨_,A⟩;have c7:=qn e6.mode a2 a9;have d5:=e6.bound;rw[<-f9]at c7 d5;have d5:Q<=V:=d5
   have b6:∀l,bB c T q a R {y with tag:=C {d with vb:=V}} l->(sumTo T.size λH=>(l H).cnt)=Q/\∀j,0<j->j<T.size->(l j).lE=0:=by
    intro l g;have a0:=qn (g.wg _ A).mode a2 a9;refine⟨?_,a0.2⟩;have:=(a0.1.unique c7.1).1
    grind [KK]
   obtain⟨h0,h4⟩:=t Q (by omega) c7.1;by_cases f0:Q=V
   .obtain⟨Y,b0,b3,a8⟩:=h0 f0;refine⟨Y,_,_,{d with wt:=1,vb:=V},1,b0,A,A,A,A,VC ⟨0,_,A⟩,FY,λl g=>?_,A,λl g=>(g.wg _ A).bound,λx N d6=>?_⟩
    .rw[(b6 l g).1];exact .reg A (by omega) (b6 l g).2 (c7.1.setSt _)
    refine cG (d:={d with wt:=1,vb:=V}) A (λb q g=>g.1) (λP w z p L O v s r=>?_) (b3,k) Y x _ m N R d6 (bZ (d:={d with wt:=1,vb:=V}) (T:=T) (a:=a) (R:=R) (m:=k) a8);refine ie (d:={d with wt:=1,vb:=V}) A (λb q g=>g.1) s r λk T q m a R o t=>?_;obtain⟨_,b9,h9,i6,g8⟩:=t;refine⟨b9,q,_,{d with wt:=1,vb:=V},1,h9,A,A,A,A,VA A,DC,λl g=>(g.wg _ A).mode,A,λl g=>(g.wg _ A).bound,λx N e8=>?_⟩;refine cG (d:={d with wt:=1,vb:=V}) (Stop:=λb _=>∀a3,WgLive d.D.ty d.D.Wg a3->Go.SimW.TV c d.D.ty d.D.Wg S b a3) A (λb q g=>((g _ (live (d:={d with wt:=1,vb:=V}) e8 A)).1)) (λP w z p L O v s r=>?_) (i6,k) b9 x q m N R e8 (bZ (d:={d with wt:=1,vb:=V}) (T:=T) (a:=a) (R:=R) (m:=k) g8);refine(Mh (d:={d with wt:=1,vb:=V}) (y:={y with tag:=C {d with wt:=1,vb:=V}}) (d8:=S) A rfl a9 (r p (Go.SimW.RL.refl p)) (λb7 i4 k T q m a R o d7=>?_) w).2 z p L O v s;refine cG (d:={d with wt:=2,vb:=V}) A (λb q g=>g.1) (λP w z p L O v s r=>?_) (i4,k) b7 T q m a R o (bZ (d:={d with wt:=2,vb:=V}) (T:=T) (a:=a) (R:=R) (m:=k) d7);refine ie (d:={d with wt:=2,vb:=V}) A (λb q g=>g.1) s r λk T q m a R o t=>?_;obtain⟨i1,_⟩:=f2 V _ A o;obtain⟨_,t⟩:=t;obtain⟨e3,i0,i7,g9⟩:=t i1;exact⟨e3,q,_,{d with wt:=2,vb:=V},1,i0,A,A,A,A,VA A,tS,λl g=>(g.wg _ A).mode,A,λl g=>(g.wg _ A).bound,λx N g4=>tail V e3 i7 _ _ _ _ _ _ g4 g9⟩
   obtain⟨Y,b0,b3,a8⟩:=h4 f0;refine⟨Y,q,_,{d with vb:=Q},1,b0,A,A,A,A,VA A,tS,λl g=>?_,A,λl g=>YF (b6 l g).1,λx N d6=>?_⟩
   .rw[(b6 l g).1];exact .opn a2 (by simp_all) (b6 l g).2 (by simp_all)
   exact cG (d:={d with vb:=Q}) A (λb q g=>e5 b q g) (λP w z p L O v s r=>(i3 Q (by omega) Q (Wl _) P w z p L O v s (r p (Go.SimW.RL.refl p)))) (b3,k) Y x q m N R d6 (bZ (d:={d with vb:=Q}) (T:=T) (a:=a) (R:=R) (m:=k) a8)
 have k3:({y with tag:=C {d with vb:=d.vb}}:bT)=y:=by rw[show({d with vb:=d.vb}:dm)=d from A,<-Z]
 refine cG Z (λb q g=>g.1) (λP w z p L O v s r=>?_) (u,k) b T q m a R o (bZ (T:=T) (a:=a) (R:=R) (m:=k) (d7 q (live o Z)));refine ie Z (λb q g=>g.1) s r λk T q m a R o t=>?_;obtain⟨_,b7,h7,i5,g6⟩:=t;exact⟨b7,q,_,d,1,h7,A,A,A,A,VA A,pW,λl g=>(g.wg d Z).mode,A,λl g=>(g.wg d Z).bound,λx N a6=>(cG (d:=d) A (λb q g=>e5 b q g) (λP w z p L O v s r=>(j4 d.vb d.vb (Wl _) P w z p L O v s (r p (Go.SimW.RL.refl p)))) (i5,k) b7 x q m N R a6 (bZ (T:=T) (a:=a) (R:=R) (m:=k) g6))⟩
end
end
variable{h:VS}{o:E}{l:VO}{b:VY}{e:E}{n:E}{k:E}
section
variable[Inhabited aV]
section
variable{m:dc}{f:bT}{c:VY}{a:Loc->dw}
structure oC(c:VY):Prop where
 touch:∀d∈c,∀p,d.act.touch?=C p->False
 norel:∀d∈c,∀i,d.act≠.mark (.release i)
 still:∀b g,Deaf (b++c) g=Deaf b g
theorem oC.nil:oC #[]:=⟨by simp,by simp,λb a=>by simp⟩
def iO(R a:Loc->dw):Prop:=∀b,b.isMemory=J->a b=R b\/R b=.iG 0
theorem iO.keep(c:iO R a){b:Loc}(d:b.isMemory=J)(e:R b≠.iG 0):a b=R b:=(c b d).resolve_right e
theorem iO.sync(e:iO R a){c:Loc}(f:c.isMemory=J)(g:a c≠.sync):R c≠.sync:=λd=>by
 rcases e c f with b|b
 .exact g (b.trans d)
 rw[d]at b;cases b
theorem Told.jq(r:Told b R e)(s:iO R a)(H:oC c):Told (b++c) a e:=by
 intro L i p u t g d z;rcases Wp u with⟨x,v⟩|⟨_,w⟩
 .exact(r L i p v t g d (z.imp (s.sync d) (Yg x).1)).app c
 exact(H.touch i w p g).elim
theorem ky.jq(r:ky b R e k)(s:iO R a)(H:oC c):ky (b++c) a e k:=by
 intro L i p u t g d z;rcases Wp u with⟨x,v⟩|⟨_,w⟩
 .exact(r L i p v t g d (z.imp (s.sync d) (Yg x).1)).app c
 exact(H.touch i w p g).elim
theorem aH.jq{H:bT}(g:aH h b q R e H)(x:e≠0)(v:iO R a)(P:oC c):aH h (b++c) q a e H where
 low:=g.low
 base:=g.base
 rel:=g.rel
 cY:=g.cY
 dv:=by
  intro s i t r p;have u:=bP p;rcases g.dv s i t r p with d|⟨d,w⟩
  .rw[v.keep u (by rw[d];simp[x])];exact VA d
  rw[v.keep u (by rw[d];simp)];exact VC ⟨d,w⟩
 dY:=by
  intro s i t r p z;have u:=bP p;have L:R r=.ro:=by
   rcases g.dv s i t r p with d|⟨d,w⟩
   .rw[v.keep u (by rw[d];simp[x]),d]at z;cases z
   exact d
  exact(g.dY s i t r p L).app λQ O i N _ _=>(P.touch Q O i N).elim
theorem tN.jq{t:PD}(d:tN t b q R e)(z:e≠0)(i:iO R a)(P:oC c):tN t (b++c) q a e where
 JG:=by
  intro Q v w H x u r O;rcases Wp H with⟨_,L⟩|⟨_,N⟩
  .rcases d.JG Q v w L x u r (i.sync r O)with g|g
   .rw[i.keep r (by rw[g];simp[z])];exact VA g
   exact VC g
  exact(P.touch v N w u).elim
 ro:=λs p=>by rw[i.keep (d.low s p).1 (by rw[d.ro s p];simp)];exact d.ro s p
 low:=d.low
 kn:=d.kn
 JN:=d.JN
def Holds(e:aG)(y f:bT):Prop:=∀a,e.pd=C a->(∀d,fg a.sh (a.τ d))/\∀b c,a.sh b->y.β b c->f.β b c
theorem km.jq{g:PD}{t s:E}{cl:VI}{r:VE Vx}(d:km g q R y t s cl r)(u:iO R a)(v:∀z,fg g.sh (g.τ z))(w:∀i p,g.sh i->y.β i p->f.β i p):km g q a f t s cl r where
 heap:=d.heap
 count:=d.count
 room:=d.room
 own:=by rw[u.keep A (by rw[d.own];simp)];exact d.own
 msgs:=λe H x=>an.to w (v _) (d.msgs e H x)
theorem cB.jq{r:aG}(H:cB h e l q b R y r)(x:e≠0)(p:iO R a)(d:oC c)(b6:∀a3∈c,a3.g≠e)(a1:Holds r y f)(b4:∀u,y.tag=C u->∃O,f.tag=C O/\O.D=u.D/\O.fin=u.fin):cB h e l q (b++c) a f r:=by
 cases r with
 |lv a6=>exact⟨by rw[d.still];exact H.1,H.2.jq p d⟩
 |wk c7=>
  obtain⟨u,v,s,g⟩:=H;obtain⟨O,a8,a4,a9⟩:=b4 u v;refine⟨O,a8,by rw[a4];exact s,?_⟩;rw[a4,a9]
  have a7:∀r,RelBy (stA u.D.Wg) b e r->RelBy (stA u.D.Wg) (b++c) e r:=λr c0=>c0.app λc6 a5 b5=>by
   obtain⟨a3,b7,b8⟩:=Xf.1 b5;rcases Wp b7 with⟨c9,_⟩|⟨_,b9⟩
   .omega
   exact absurd b8 (b6 a3 b9)
  cases c7 with
  |work a2 cl u Z=>obtain⟨v,s,g,w,t⟩:=g;exact⟨v,by rw[d.still];exact s,g.jq x p d,w,t⟩
  |done c6 a2 r cl Z=>obtain⟨b0,v,s,g,w,t,i⟩:=g;exact⟨b0,by rw[d.still];exact v,λa5=>a7 r (s a5),g.jq x p d,w,t,i⟩
  |quit a6 r cl Z=>obtain⟨s,g,w,t,i⟩:=g;exact⟨a7 r s,g.jq x p d,w,t,by rw[d.still];exact i⟩
 |pr N a2 u Z=>obtain⟨v,s,⟨Y,S,g⟩,w,t,⟨i,T,U⟩,W⟩:=H;obtain⟨L,z⟩:=a1 N A;exact⟨v,s,⟨Y,S,g.jq p L z⟩,w.jq x p d,by rw[d.still];exact t,⟨⟨λP Q X a0=>z P Q X (i.1 P Q X a0),i.2⟩,T.jq x p d,U⟩,W⟩
 |pb N a2 u Z c8 d4 d5=>obtain⟨v,s,b2,⟨Y,S,g,b3⟩,w,t,⟨i,T,U⟩,W,b1⟩:=H;obtain⟨L,z⟩:=a1 N A;exact⟨v,s,b2,⟨Y,S,g.jq p L z,b3⟩,w.jq x p d,by rw[d.still];exact t,⟨⟨λP Q X a0=>z P Q X (i.1 P Q X a0),i.2⟩,T.jq x p d,U⟩,an.to z (L _) W,b1⟩
 |pq N a6=>
  obtain⟨⟨Y,S,g⟩,t,k,i,T,U,W⟩:=H;obtain⟨L,z⟩:=a1 N A;refine⟨⟨Y,S,g.jq p L z⟩,by rw[d.still];exact t,k,?_,?_,U.jq p d,W.jq x p d⟩
  .rw[T_ (YP i)];exact i
  exact(Yg (YP i)).2 T
theorem cR.jq(G:cR b q R)(Q:iO R a)(x:oC c)(a1:∀i,i.isMemory=J->a i≠R i->(∃j,a i=.iG j/\j=n)\/a i=.ro\/a i=.void\/(a i=.sync/\∀g r,touchAt b g=C r->r.loc≠i))(a4:∀g,Knows b 0 g->Knows (b++c) n g):cR (b++c) q a where
 jH:=⟨λi W P Y=>by
  have U:=G.jH.ro i W P Y
  rw[Q.keep (bP P) (by rw[U];intro a2;cases a2)];exact U,G.jH.heap,G.jH.size,G.jH.os,G.jH.out⟩
 clean:=λa9=>sW (r:=0) (G.clean a9) (λL T r t _=>(x.touch L T r t).elim) (λ_ _ _ L T W Y _=>(x.touch L T W Y).elim)
 mine:=by
  intro i j s P;intro g d w S;obtain⟨r,t,u⟩:=Ys w;rcases Wp t with⟨_,z⟩|⟨_,H⟩
  .have N:touchAt b g=C d:=by rw[Xm z];exact u
   by_cases v:a i=R i
   .exact(G.mine i j s (v▸P) g d N S).app c
   have X:=(Q i s).resolve_left v;rcases a1 i s v with⟨a8,p,a3⟩|p|p|⟨p,_⟩<;>rw[P]at p<;>cases p
   subst a3;exact a4 g (G.mine i 0 s X g d N S)
  exact(x.touch r H d u).elim
 row:=by
  intro i s P g d w S a7;obtain⟨r,t,u⟩:=Ys w;rcases Wp t with⟨_,z⟩|⟨_,H⟩
  .have N:touchAt b g=C d:=by rw[Xm z];exact u
   by_cases v:a i=R i
   .exact(G.row i s (v▸P) g d N S a7).app c
   exact(G.mine i 0 s ((Q i s).resolve_left v) g d N S).app c
  exact(x.touch r H d u).elim
 low:=by
  intro g d w;obtain⟨r,t,u⟩:=Ys w;rcases Wp t with⟨_,z⟩|⟨_,H⟩
  .exact G.low g d (by rw[Xm z];exact u)
  exact(x.touch r H d u).elim
 NJ:=by
  intro g d w s O;obtain⟨r,t,u⟩:=Ys w;rcases Wp t with⟨a0,z⟩|⟨_,H⟩
  .have N:touchAt b g=C d:=by rw[Xm z];exact u
   have gk:(b++c).g? g=b.g? g:=by simp only[VY.g?,getElem?_append_old a0]
   rw[gk];by_cases v:a d.loc=R d.loc
   .exact G.NJ g d N s (v▸O)
   rcases a1 d.loc s v with⟨a8,p,_⟩|p|p|⟨_,p⟩
   .rw[O]at p;cases p
   .rw[O]at p;cases p
   .rw[O]at p;cases p
   exact absurd A (p g d N)
  exact(x.touch r H d u).elim
 norel:=λd=>(G.norel d).app λL T=>x.norel L T d
 OH:=by
  intro g L r j a5 t s O;rcases Wp a5 with⟨_,Z⟩|⟨_,a6⟩
  .by_cases v:a r.loc=R r.loc
   .exact(G.OH g L r j Z t s (v▸O)).imp id λU=>U.app c
   have X:=(Q _ s).resolve_left v;right;rcases G.OH g L r 0 Z t s X with p|p
   .have:=(X_ Z).app c;rw[p]at this;exact this
   exact p.app c
  exact(x.touch L a6 r t).elim
 iU:=by
  intro g d w s O;obtain⟨r,t,u⟩:=Ys w;rcases Wp t with⟨a0,z⟩|⟨_,H⟩
  .exact(Yg a0).2 (G.iU g d (by rw[Xm z];exact u) s (Q.sync s O))
  exact(x.touch r H d u).elim
def PV(R a:Loc->dw):Prop:=∀b,b.isMemory=J->a b=R b\/(a b=.iG 0/\R b≠.sync/\¬PS b)
theorem cR.take(G:cR b q R)(l:PV R a)(v:∀c,c.isMemory=J->a c≠R c->Perm b 0 c):cR b q a where
 jH:=⟨λc r f u=>by
  rcases l c (bP f)with o|⟨_,_,o⟩
  .rw[o];exact G.jH.ro c r f u
  exact absurd ⟨r,f,u⟩ o,G.jH.heap,G.jH.size,G.jH.os,G.jH.out⟩
 clean:=G.clean
 mine:=by
  intro c j d f;by_cases e:a c=R c
  .exact G.mine c j d (e▸f)
  have g:=((l c d).resolve_left e).1;rw[f]at g;cases g;exact v c d e
 row:=by
  intro c d f;by_cases e:a c=R c
  .exact G.row c d (e▸f)
  have g:=((l c d).resolve_left e).1;rw[f]at g;cases g
 low:=G.low
 NJ:=by
  intro i k p d h;by_cases e:a k.loc=R k.loc
  .exact G.NJ i k p d (e▸h)
  have g:=((l _ d).resolve_left e).1;rw[h]at g;cases g
 norel:=G.norel
 OH:=by
  intro i z m j w x d h;by_cases e:a m.loc=R m.loc
  .exact G.OH i z m j w x d (e▸h)
  right;exact v m.loc d e i m (by rw[Xm w];exact x) A
 iU:=by
  intro i k p d h;refine G.iU i k p d λs=>?_;rcases l _ d with t|⟨t,y⟩
  .exact h (t.trans s)
  exact y.1 s
end
end
variable{b:VS}{d:VO}{k:K}
section
variable[Inhabited aV]
section
variable{f l:dc}{e:bT}{i h:VO}{c:Loc->dw}
theorem vk{P:VD Ms}{a4:VL (E×E)}(S:dJ (aj b f) 0 P T q a R y d)(e2:stepG b J d q=.spawn i h q #[])(b4:iO R c){a3:aG}
 (d8:∀H,H.isMemory=J->c H≠R H->(∃j,c H=.iG j/\j=T.size)\/c H=.ro\/c H=.void\/(c H=.sync/\∀m o,touchAt a m=C o->o.loc≠H))
 (e1:∀r,oC r->aH b (a++r) q c 0 e)
 (e0:∀r,oC r->(∀m,Knows a 0 m->Knows (a++r) T.size m)->Deaf (a++r) T.size=0->(∀(m:E) g o,(a++r)[m]?=C g->g.g=T.size->g.act.touch?=C o->False)->cB b T.size h q (a++r) c e a3)
 (d2:∀a6,y.tag=C a6->∃u,e.tag=C u/\u.D=a6.D/\u.fin=a6.fin)(d5:∀p,bB b T q a R y p->ee f T q p->∀n,0<n->n<T.size->Holds (p n) y e)
 (e4:∀p,bB b T q a R y p->∀u,e.tag=C u->dV u (λm=>if m=T.size then a3 else p m) (T.size+1) q c)
 (b9:a3.chan=I\/f=I)(e3:∀p,bB b T q a R y p->ee f T q p->ee l ((T.setIfInBounds 0 i).push h) q (λm=>if m=T.size then a3 else p m)):
 ∃b2 r c8,runT b (crowd T q a4) 0=(.next (crowd b2 q a4),r)/\dJ (aj b l) 0 c8 b2 q (a++r) c e i:=by
 obtain⟨p,rfl,t,a2⟩:=S.ok;have b3:=S.me;have d7:0<T.size:=(Wh.1 b3).1;have c0:=runT_crowd_spawn (P:=b) (sl:=a4) (i:=0) b3 e2;obtain⟨o,z⟩:∃o:MemOp,o={g:=0,fn:=d.frame.fn,pos:=d.frame.place,act:=.go T.size}:=⟨_,A⟩;obtain⟨s,D⟩:∃s:MemOp,s={g:=T.size,fn:=h.frame.fn,pos:=d.frame.place,act:=.start}:=⟨_,A⟩
 have d0:((VZ 0 d.frame.fn d.frame.place #[]).push {g:=0,fn:=d.frame.fn,pos:=d.frame.place,act:=.go T.size} |>.push {g:=T.size,fn:=h.frame.fn,pos:=d.frame.place,act:=.start})=#[o,s]:=by rw[z,D];simp[VZ]
 rw[d0]at c0;have a0:∀g∈#[o,s],g=o\/g=s:=by intro g O;simpa using O
 have x:oC #[o,s]:=by
  refine⟨λg O a5 Q=>?_,λg O e5=>?_,λa m=>?_⟩
  .rcases a0 g O with rfl|rfl
   .rw[z]at Q;simp[MemAct.touch?]at Q
   rw[D]at Q;simp[MemAct.touch?]at Q
  .rcases a0 g O with rfl|rfl
   .rw[z];simp
   rw[D];simp
  have c9:(#[o,s]:VY)=[o,s].toArray:=A;rw[c9,ZL];simp[deafStep,z,D]
 have b5:Deaf a T.size=0:=t.above _ (Wl _);have b7:∀m,Knows a 0 m->Knows (a++#[o,s]) T.size m:=λm W=>fork_knows (k:=T.size) ⟨by rw[z],by rw[z]⟩ ⟨by rw[D],by rw[D]⟩ S.hears b5 W;have d4:∀n,0<n->n<T.size->∀g∈#[o,s],g.g≠n:=by
  intro n L b6 g O P;rcases a0 g O with rfl|rfl
  .rw[z]at P;simp only at P;omega
  rw[D]at P;simp only at P;omega
 have a1:((T.setIfInBounds 0 i).push h).size=T.size+1:=by simp
 have d9:∀(m:E) g a5,(a++#[o,s])[m]?=C g->g.g=T.size->g.act.touch?=C a5->False:=by
  intro m g a5 W e6 Q;rcases Wp W with⟨_,a9⟩|⟨_,b0⟩
  .have:=t.ops m g a9;omega
  exact x.touch g b0 a5 Q
 refine⟨_,_,_,c0,⟨⟨_,A,⟨λn d1 L U=>?_,λn j c6 c7 L Y b6 d6 v w=>?_,λj Y=>?_,λu d3=>?_,λm g W=>?_⟩,e3 p t a2⟩,S.bF.jq b4 x d8 b7,e1 _ x,?_,by rw[x.still];exact S.hears⟩⟩
 .by_cases a8:n=T.size
  .subst a8;simp only[Wv];rw[Xv,VV (by simp)]at U;cases U;exact e0 _ x b7 (by rw[x.still];exact b5) d9
  simp only[a8,Wy];rw[Xv,VK (by simpa using a8),Wr (by omega)]at U;have b8:=(Wh.1 U).1;exact(t.each n d1 L U).jq (by omega) b4 x (d4 n L b8) (d5 p t a2 n L b8) d2
 .rw[a1]at b6 d6;by_cases X:n=T.size<;>by_cases Z:j=T.size
  .exact X.trans Z.symm
  .simp only[X,Wv]at v;simp only[Z,Wy]at w;rcases b9 with N|N
   .rw[N]at v;cases v
   subst N;have:=a2 j Y (by omega);rw[aG.cC,this]at w;cases w
  .simp only[Z,Wv]at w;simp only[X,Wy]at v;rcases b9 with N|N
   .rw[N]at w;cases w
   subst N;have:=a2 n L (by omega);rw[aG.cC,this]at v;cases v
  simp only[X,Wy]at v;simp only[Z,Wy]at w;exact t.one n j c6 c7 L Y (by omega) (by omega) v w
 .rw[a1]at Y;rw[x.still];exact t.above j (by omega)
 .rw[a1];exact e4 p t u d3
 .rw[a1];rcases Wp W with⟨_,a9⟩|⟨_,b0⟩
  .have:=t.ops m g a9;omega
  rcases a0 g b0 with rfl|rfl
  .rw[z];simp
  rw[D];simp
 rw[Xv,VK (by simp;omega),Wq d7]
theorem II{L:VD Ms}(w:dJ (aj b f) 0 L T q a R y d)(c0:PV R c)(d7:∀h,h.isMemory=J->c h≠R h->Perm a 0 h)(f0:∀h,R h=.iG 0->c h=.iG 0)
 (e0:∀g,0<g->g<T.size->∀h,h.isMemory=J->R h=.iG g->c h≠R h->∀l,bB b T q a R y l->ee f T q l->(l g).pd=I)
 (d9:∀l,bB b T q a R y l->ee f T q l->∀g i,0<g->g<T.size->(l g).pd=C i->∀h,i.mine h->c h=R h)
 (e2:aH b a q c 0 e)(d5:y.tag=I)(d6:e.tag=I)(b5:∀l,bB b T q a R y l->ee f T q l->∀g,0<g->g<T.size->Holds (l g) y e):dJ (aj b f) 0 L T q a c e d:=by
 obtain⟨l,rfl,u,a9⟩:=w.ok
 have b0:∀h,h.isMemory=J->(c h=.sync↔R h=.sync):=by
  intro h t;rcases c0 h t with s|⟨s,O,_⟩
  .rw[s]
  constructor
  .intro v;rw[s]at v;cases v
  intro v;exact absurd v O
 have b1:∀g i,0<g->g<T.size->(l g).pd=C i->∀h,h.isMemory=J->(R h=.iG g\/i.mine h)->c h=R h:=by
  intro g i p r k h t m;rcases m with m|m
  .refine Classical.byContradiction λd8=>?_;have:=e0 g p r h t m d8 l u a9;rw[k]at this;cases this
  exact d9 l u a9 g i p r k h m
 have bg:∀g i D,0<g->g<T.size->(l g).pd=C i->uk i D->aH b a q R g D->aH b a q c g D:=by
  intro g i D p r k e1 X;have c8:∀o n,D.β o n->∀h,aA h n->c h=R h:=by
   intro o n N h m;rcases X.dv o n N h m with s|⟨s,O⟩
   .exact b1 g i p r k h (bP m) (VA s)
   exact b1 g i p r k h (bP m) (VC (e1 o n N O h m))
  exact⟨X.base,X.rel,X.cY,λo n N h m=>by rw[c8 o n N h m];exact X.dv o n N h m,λo n N h m U=>X.dY o n N h m (by rw[<-c8 o n N h m];exact U),X.low⟩
 have JG:∀g i,0<g->g<T.size->(l g).pd=C i->tN i a q R g->tN i a q c g:=by
  intro g i p r k Z;refine⟨λa6 a7 H a5 a4 Y t U=>?_,λh m=>?_,Z.low,Z.kn,Z.JN⟩
  .have:=Z.JG a6 a7 H a5 a4 Y t (λL=>U ((b0 _ t).2 L));rw[b1 g i p r k H.loc t this];exact this
  rw[b1 g i p r k h (Z.low h m).1 (.inr m)];exact Z.ro h m
 have d0:∀{i b7 z cl x g},Holds (l g) y e->(l g).pd=C i->km i q R y b7 z cl x->km i q c e b7 z cl x:=by intro i b7 z cl x g b5 k w;obtain⟨e3,e4⟩:=b5 i k;exact⟨w.heap,w.count,w.room,(b0 _ A).2 w.own,λg H Y=>an.to e4 (e3 _) (w.msgs g H Y)⟩
 refine⟨⟨l,A,⟨λg d1 p c7=>?_,u.one,u.above,λe8 c6=>(by rw[d6]at c6;cases c6),u.ops⟩,a9⟩,w.bF.take c0 d7,e2,w.me,w.hears⟩;have r:=(Wh.1 c7).1;have W:=u.each g d1 p c7;have S:=b5 l u a9 g p r;have c9:=bg g;have b8:=JG g;have b2:=@d0;obtain⟨b6,a8⟩:∃b6,l g=b6:=⟨_,A⟩;rw[a8]at W⊢
 cases b6 with
 |lv e7=>exact⟨W.1,λa6 a7 H a5 a4 Y t U=>W.2 a6 a7 H a5 a4 Y t (U.imp (λu L=>u ((b0 _ t).2 L)) id)⟩
 |wk H=>obtain⟨b9,s,_⟩:=W;rw[d5]at s;cases s
 |pr i e5 b9 D=>
  have k:(l g).pd=C i:=by rw[a8];rfl
  obtain⟨s,O,⟨z,x,v⟩,b3,a0,⟨P,a1,Q⟩,a2⟩:=W;exact⟨s,O,⟨z,x,b2 S k v⟩,c9 i D p r k Q b3,a0,⟨⟨λo n a3 b4=>(S i k).2 o n a3 (P.1 o n a3 b4),P.2⟩,b8 i p r k a1,Q⟩,a2⟩
 |pb i e5 b9 D e9 f5 f6=>
  have k:(l g).pd=C i:=by rw[a8];rfl
  obtain⟨s,O,d3,⟨z,x,v,d4⟩,b3,a0,⟨P,a1,Q⟩,a2,d2⟩:=W;exact⟨s,O,d3,⟨z,x,b2 S k v,d4⟩,c9 i D p r k Q b3,a0,⟨⟨λo n a3 b4=>(S i k).2 o n a3 (P.1 o n a3 b4),P.2⟩,b8 i p r k a1,Q⟩,an.to (S i k).2 ((S i k).1 _) a2,d2⟩
 |pq i e7=>
  have k:(l g).pd=C i:=by rw[a8];rfl
  obtain⟨⟨z,x,v⟩,a0,e6,P,a1,Q,a2⟩:=W;exact⟨⟨z,x,b2 S k v⟩,a0,e6,P,a1,λa6 a7 H a5 a4 Y t U=>Q a6 a7 H a5 a4 Y t (U.imp (λu L=>u ((b0 _ t).2 L)) id),b8 i p r k a2⟩
open Classical in
noncomputable def dj(R:Loc->dw):Loc->dw:=λa=>if R a=.sync\/PS a then R a else .iG 0
theorem xn{r:VD Ms}(t:dJ (aj b I) 0 r T q a R y d)(s:y.tag=I):∀(f:E) c e,a[f]?=C c->c.act.touch?=C e->e.loc.isMemory=J->R e.loc≠.sync->Knows a 0 f:=by
 intro f c e i x u v;obtain⟨L,_,n,w⟩:=t.ok;have p:=n.ops f c i;rcases WA c.g with g|g
 .have:=X_ i;rw[g]at this;exact this
 have k:=n.each c.g _ g (Wj p);have h:=w c.g g p;generalize L c.g=H at k h;cases H with
 |lv D=>exact k.2 f c e i A x u (VA v)
 |wk e=>obtain⟨m,o,_⟩:=k;rw[s]at o;cases o
 |pr l z m N=>cases h
 |pb l z m N O W X=>cases h
 |pq l D=>cases h
theorem Bv{g:VD Ms}(r:dJ (aj b I) 0 g T q a R y d)(O:y.tag=I)(Z:e.tag=I)(a6:aH b a q (dj R) 0 e):dJ (aj b I) 0 g T q a (dj R) e d:=by
 have I:∀p,ee I T q p->∀m,0<m->m<T.size->(p m).pd=I:=λp n m s x=>n m s x;have a3:=xn r O;obtain⟨p,rfl,n,U⟩:=r.ok
 have Y:cR a q (dj R):=by
  refine r.bF.take (λH t=>?_) (λH t a4 D W a0 Q=>?_)
  .unfold dj;by_cases o:R H=.sync\/PS H
   .rw[VV o];exact VA A
   rw[VK o];exact VC ⟨A,λg=>o (VA g),λg=>o (VC g)⟩
  obtain⟨w,z,a7⟩:=Ys a0;refine a3 D w W z a7 (Q▸t) λg=>a4 ?_;rw[Q]at g;unfold dj;rw[VV (.inl g)]
 refine⟨⟨p,A,⟨λm X s S=>?_,n.one,n.above,λb3 P=>(by rw[Z]at P;cases P),n.ops⟩,U⟩,Y,a6,r.me,r.hears⟩;have x:=(Wh.1 S).1;have v:=n.each m X s S;have u:=U m s x;generalize p m=b1 at v u⊢
 cases b1 with
 |lv b0=>exact⟨v.1,λD a9 w a2 a1 z t a5=>v.2 D a9 w a2 a1 z t (a5.imp (λn g=>n (by unfold dj;rw[VV (.inl g)];exact g)) id)⟩
 |wk w=>obtain⟨N,o,_⟩:=v;rw[O]at o;cases o
 |pr L a8 N b2=>cases u
 |pb L a8 N b2 b4 b9 c0=>cases u
 |pq L b0=>cases u
theorem vK{u:bT}(n:aH b a q R 0 u){i:Ren}{p:E->Prop}{m:Set}{z:VL dm}(o:Base b i)(w:aU m i k q)(x:ma m p k)(y:∀c d,i c d->∀e,aA e d->R e≠.sync)(G:cR a q R)(t:∀c d,i c d->u.β c d)(v:∀c,GD c->p c):aH b a q (dj R) 0 ⟨m,i,k,p,z⟩ where
 base:=o
 low:=⟨n.low.1,λc d g o=>n.low.2 c d (t c d g) o⟩
 rel:=w
 cY:=x
 dv:=λc d g e l=>by
  unfold dj;by_cases f:R e=.sync\/PS e
  .rw[VV f];obtain⟨D,s,r⟩:=f.resolve_left (y c d g e l);have:=df s l;subst this;exact VC ⟨G.jH.ro e _ s r,v c (n.low.2 c _ (t c _ g) r)⟩
  rw[VK f];exact VA A
 dY:=λc d g e l h=>by
  unfold dj at h;by_cases f:R e=.sync\/PS e
  .rw[VV f]at h;exact G.row e (bP l) h
  rw[VK f]at h;cases h
end
end
variable{e:VO}{b:VY}{f:K}
section
variable[Inhabited aV]
def mi(a:dc)(R:Loc->dw)(b:Loc):Prop:=
 PS b\/match a with
 |none=>False
 |some (d,c,_)=>R b=.iG d\/c.mine b
open Classical in
noncomputable def gD(a:dc)(R:Loc->dw):Loc->dw:=λb=>if R b=.sync\/mi a R b then R b else .iG 0
section
variable{a:dc}{d:bT}
theorem LW{Q:VD Ms}(W:dJ (aj c a) 0 Q T q b R y e)(U:y.tag=I):∀(k:E) d g,b[k]?=C d->d.act.touch?=C g->g.loc.isMemory=J->R g.loc≠.sync->¬mi a R g.loc->Knows b 0 k:=by
 intro k d g m H v x w;obtain⟨N,_,p,D⟩:=W.ok;have r:=p.ops k d m;rcases WA d.g with l|l
 .have:=X_ m;rw[l]at this;exact this
 have i:=p.each d.g _ l (Wj r)
 have o:∀f,(N d.g).pd=C f->tN f b q R d.g->False:=by
  intro f n Y;cases a with
  |none=>have:=D d.g l r;rw[n]at this;cases this
  |some O=>
   obtain⟨s,P,a4⟩:=O;obtain⟨q1,a1,L,a9⟩:=D;have z:d.g=s:=p.one d.g s f.rc P.rc l q1 r a1 (by rw[aG.cC,n];rfl) (by rw[aG.cC,L];rfl);rw[z,L]at n;cases n;rcases Y.JG k d g m A H v x with h|h
   .exact w (VC (VA (by rw[z]at h;exact h)))
   exact w (VC (VC h))
 obtain⟨t,X⟩:∃t,N d.g=t:=⟨_,A⟩;rw[X]at i o;cases t with
 |lv a0=>exact i.2 k d g m A H v (VA x)
 |wk g=>obtain⟨u,h,_⟩:=i;rw[U]at h;cases h
 |pr f Z u a2=>exact(o f A i.2.2.2.2.2.1.2.1).elim
 |pb f Z u a2 a3 b0 O=>exact(o f A i.2.2.2.2.2.2.1.2.1).elim
 |pq f a0=>obtain⟨_,_,s,_,_,_,S⟩:=i;exact(o f A S).elim
theorem zu{l:VD Ms}(x:dJ (aj c a) 0 l T q b R y e)(w:y.tag=I)(Q:d.tag=I)(W:aH c b q (gD a R) 0 d)
 (U:∀i,bB c T q b R y i->ee a T q i->∀h,0<h->h<T.size->Holds (i h) y d):dJ (aj c a) 0 l T q b (gD a R) d e:=by
 have ne:∀f,gD a R f≠R f->gD a R f=.iG 0/\R f≠.sync/\¬mi a R f:=by
  intro f n;unfold gD at n⊢
  by_cases g:R f=.sync\/mi a R f
  .rw[VV g]at n;exact absurd A n
  rw[VK g];exact⟨A,λl=>g (VA l),λl=>g (VC l)⟩
 have one:∀i,bB c T q b R y i->ee a T q i->∀h k,0<h->h<T.size->(i h).pd=C k->∃t,a=C (h,k,t):=by
  intro i g r h k o p m;cases a with
  |none=>have:=r h o p;rw[m]at this;cases this
  |some a2=>obtain⟨D,L,Z⟩:=a2;obtain⟨q1,a0,H,a3⟩:=r;have z:h=D:=g.one h D k.rc L.rc o q1 p a0 (by rw[aG.cC,m];rfl) (by rw[aG.cC,H];rfl);rw[z,H]at m;cases m;exact⟨Z,by rw[z]⟩
 refine II x (λf v=>?_) (λf v n t N S u=>?_) (λf s=>?_) (λh o p f v s n i g r=>?_) (λi g r h k o p m f s=>?_) W w Q U
 .by_cases g:gD a R f=R f
  .exact VA g
  exact VC ⟨(ne f g).1,(ne f g).2.1,λl=>(ne f g).2.2 (VA l)⟩
 .obtain⟨a1,X,Y⟩:=Ys S;obtain⟨_,O,P⟩:=ne f n;exact LW x w t a1 N X Y (u▸v) (u▸O) (u▸P)
 .unfold gD;by_cases g:R f=.sync\/mi a R f
  .rw[VV g];exact s
  rw[VK g]
 .cases m:(i h).pd with
  |none=>rfl
  |some k=>exfalso;obtain⟨t,rfl⟩:=one i g r h k o p m;exact(ne f n).2.2 (VC (VA s))
 obtain⟨t,rfl⟩:=one i g r h k o p m;unfold gD;rw[VV (.inr (.inr (.inr s)))]
theorem vL{z:bT}(w:aH c b q R 0 z){o:Ren}{v:E->Prop}{s:Set}{O:VL dm}(D:Base c o)(L:aU s o f q)(N:ma s v f)
 (x:∀i h,o i h->∀g,aA g h->(R g≠.sync/\¬mi a R g)\/(R g=.ro/\v i/\∃t,z.β t h))(H:∀i h,o i h->h<dq.heap.size->GD i):aH c b q (gD a R) 0 ⟨s,o,f,v,O⟩ where
 base:=D
 low:=⟨w.low.1,H⟩
 rel:=L
 cY:=N
 dv:=λi h u g p=>by
  unfold gD;by_cases m:R g=.sync\/mi a R g
  .rw[VV m];rcases x i h u g p with⟨l,n⟩|⟨l,n,_⟩
   .rcases m with k|k
    .exact absurd k l
    exact absurd k n
   exact VC ⟨l,n⟩
  rw[VK m];exact VA A
 dY:=λi h u g p r=>by
  unfold gD at r;by_cases m:R g=.sync\/mi a R g
  .rw[VV m]at r;rcases x i h u g p with⟨l,n⟩|⟨l,n,t,k⟩
   .rcases m with k|k
    .exact absurd k l
    exact absurd k n
   exact w.dY t h k g p l
  rw[VK m]at r;cases r
end
end
variable{v:VO}{r:VY}{x:E}{f:Set}{h:Ren}{d:K}{l:VM}{N:VD Item}{n:VD VM}{O:VD E}{H:Oper}{s:VQ}{p:VQ}
section
variable[Inhabited aV]
section
variable{e:dc}{D:bT}
theorem cB.bg{z:aG}(a:cB c x v q r R y z)(H:D.S=y.S)(w:D.β=y.β)(W:D.tag=y.tag):cB c x v q r R D z:=by
 have n:∀{b N e cl d},km b q R y N e cl d->km b q R D N e cl d:=λa=>⟨a.heap,a.count,a.room,a.own,λx O X=>by rw[H,w];exact a.msgs x O X⟩;have L:∀{b k},kr b k y->kr b k D:=λa=>⟨λs l T U=>by rw[w];exact a.1 s l T U,a.2⟩;cases z with
 |lv Z=>exact a
 |wk O=>obtain⟨m,f,g⟩:=a;exact⟨m,by rw[W];exact f,g⟩
 |pr b Y m k=>obtain⟨f,g,⟨e,d,h⟩,o,i,⟨p,t⟩,u⟩:=a;exact⟨f,g,⟨e,d,n h⟩,o,i,⟨L p,t⟩,u⟩
 |pb b Y m k a0 a5 a6=>obtain⟨f,g,Q,⟨e,d,h,S⟩,o,i,⟨p,t⟩,u,P⟩:=a;exact⟨f,g,Q,⟨e,d,n h,S⟩,o,i,⟨L p,t⟩,by rw[H,w];exact u,P⟩
 |pq b Z=>obtain⟨⟨e,d,h⟩,i⟩:=a;exact⟨⟨e,d,n h⟩,i⟩
theorem db.bg{b:VD Ms}(g:db c e b T q r R y)(k:D.S=y.S)(o:D.β=y.β)(d:D.tag=y.tag):db c e b T q r R D:=by obtain⟨p,h,a,i⟩:=g;exact⟨p,h,⟨λx v n m=>(a.each x v n m).bg k o d,a.one,a.above,λf l=>a.wg f (by rw[<-d];exact l),a.ops⟩,i⟩
def sG(c:VS)(e:dc)(i:VL dm)(a:eX)(f:Set)(m:E->Prop)(h:Ren)(d:K)(v:VO):Prop:=
 ∀b T q g r R,dJ (aj c e) 0 b T q r R ⟨f,h,d,m,i⟩ v->cd c T q g r a
def goalAt(c:VS)(e:dc)(n:VL dm)(o:eX)(f:Set)(m:E->Prop):Goal c f J m where
 G:=sG c e n o f m
 Po:=by intro h d v H L b T q g r R a;obtain⟨s,D⟩:=L.tree;refine(xS s b T q g r R ⟨f,h,d,m,n⟩ v a D H).bind λw t O P N=>?_;obtain⟨u,p,⟨Q,Z,Y,U,W⟩,S,y,⟨_,z⟩,i,k,l⟩:=N;simp only at i k l;subst i k l;exact z u w t O P p y
 tape:=by intro h d X v x b T q g r R a;refine x b T q g r R ⟨a.ok.bg A rfl rfl,a.bF,?_,a.me,a.hears⟩;have:=a.bg;exact⟨this.base,⟨this.rel.inj,this.rel.obj,this.rel.os⟩,this.cY,this.dv,this.dY,this.low⟩
end
section
variable{e:Goal c f J m}
def Co(e:Goal c f J m)(p:Wc)(o:VE Vx)(d:K)(l:Vx->K->Prop):Prop:=
 ∀(h:Ren)(g:VE Vx)(u:VM)(n:VD VM),Inv c f m h d->ax f h o g->
  (∀b i k a,Inv c f m b a->cW m h d b a->an f b i k->l i a->e.G b a (rg (u.finish k) n))->e.G h d (rg (Frame.enter c p g .normal) (u::n))
section frame
variable{L:VD Item}{u:VM}
theorem pP(a3:Good c f)(a7:f.fr l.fn=J)(c0:l.kind=.normal){fn:Func}(P:c.funcs[l.fn]?=C fn)(w:Inv c f m h d){a4:Rt}(c7:a4.d0=[])(b0:aw f h a4 s p)(hd:s.defers=[]){W:Vx->K->Prop}(d2:Tp (λd=>∃a,(results fn s.tmps).run c d=.ok a d/\W a d) d)
 (next:∀a o t,Inv c f m h t->cW m h d h t->an f h a o->W a t->e.G h t (rg (u.finish o) n)):e.G h d (rg {l.at p L with mode:=.returning} (u::n)):=by
 have c6:p.defers=[]:=by obtain⟨e2,i,a5⟩:=b0.defers;rw[hd]at a5;cases a5;rw[c7]at i;simpa using i
 refine e.Po A (.step A (λ_ b1 t a6=>a6.status=.running/\e.G b1 t a6) (λq b9=>?_) (λ_ _ _ _ Y=>.stop Y))
 let b5:VM:={fn:=l.fn,tmps:=s.tmps,todo:=[],defers:=[],mode:=.returning,kind:=.normal}
 let b6:VM:={fn:=l.fn,tmps:=p.tmps,todo:=[],defers:=[],mode:=.returning,kind:=.normal}
 have c9:bG c f Vz h b5 b6:=⟨A,a7,b0.tmps,.nil,.nil,.returning,A,VA A,.none⟩;obtain⟨b4,a,o,b1,U,X,new,a0,k,i,d5,a2,rfl,a8,b8,_⟩:=nC a3 (v:=W) w.base c9 b9 (d2.mono λd⟨a,k,b7⟩=>⟨a,b7,A,A,A,fn,P,k⟩);have k:c.funcs[l.fn]?=C b4:=k;rw[P]at k;cases k
 have d7:stepG c J (rg {l.at p L with mode:=.returning} (u::n)) q=.go (rg (u.finish o) n) X (kept a0).toArray:=by
  obtain⟨b,g⟩:∃b,b=({l.at p L with mode:=.returning}:VM):=⟨_,A⟩;have a9:b.mode=.returning:=by rw[g]
  have c8:b.defers=[]:=by rw[g];exact c6
  have e3:c.funcs[b.fn]?=C fn:=by rw[g];exact P
  have d0:b.kind=.normal:=by rw[g];exact c0
  have d4:b.tmps=p.tmps:=by rw[g];rfl
  have d1:b.fn=l.fn:=by rw[g];rfl
  have i:(results fn p.tmps).runT c q #[]=(.ok o X,a0.toArray):=i;rw[<-g,hY (by rw[a9];simp)];simp only[unwind,a9,c8,d1,P,d4,i,doReturn,d0,GStep.after];rw[seen_eq a3 (show f.fr l.fn=J from a7) a2.la];simp[rg]
 obtain⟨Z,d6⟩:=iz w.cY w.kC a2 ⟨U,.refl _,λe0 _=>by rw[a8]⟩;obtain⟨a1,d3⟩:=b8.one;refine⟨_,_,U,X,new,a0,d7,a2,Z,d6,A,A,e.tape (t:=a1) ?_⟩;have b2:Inv c f m _ {U with tape:=a1}:=(w.keep w.base Z).tape a1;exact next a o _ b2 ⟨Ren.le_refl _,λe0 e4 Y=>VA Y,by show d.heap.size<=U.heap.size;rw[a8];exact Wl _,Z⟩ d5 d3
theorem Az{i:Wc}{a:VE Wd}{Y:VE VJ}{fn:Func}{Z:Code}(a5:l.kind≠.early)(T:z[x]?=C H)(b1:Region.wanted H (yielded z s.tmps)=J)(a8:H.op=.call {callee:=.value (.func i),args:=a,argTypes:=Y})
 (S:c.funcs[i]?=C fn)(a6:(fn.name== "runtime.NumGoroutine")=Vz)(R:fn.body=C Z)(U:a.toList.all (dG c f.fn)=J)(y:Inv c f m h d){r:Rt}(a4:r.free H.dst=J)(u:aw f h r s p)
 {D:Vx->K->Prop}(a3:Co e i (a.map s.eval) d D)
 (next:∀g L o b,Inv c f m g b->cW m h d g b->aw f g r (s.put H.dst o) L->D o b->e.G g b (rg (l.at L (VP z O::N)) n)):e.G h d (rg (l.at p (VP z (x::O)::N)) n):=by
 have b2:Region.wanted H (yielded z p.tmps)=J:=by rw[<-ga u.tmps];exact b1
 have a7:(z[x]?).bind (·.dst)=H.dst:=by rw[T];rfl
 have a9:∀q,stepG c J (rg (l.at p (VP z (x::O)::N)) n) q=.go (rg (Frame.enter c i (a.map p.eval) .normal) (l.at p (VP z (x::O)::N)::n)) q:=by
  intro q
  have:=goes_call (P:=c) (main:=J) (w:=q) (cs:=n) (k:=N) (rest:=O) (K:=λv d P=>v=rg (Frame.enter c i (a.map p.eval) .normal) (l.at p (VP z (x::O)::N)::n)/\d=q/\P=#[]) T b2 a5 a8 S a6 R ⟨by simp[G,rg,Frame.enter,Frame.at,base,S,R],A,A⟩
  obtain⟨v,d,P,a0,rfl,rfl,rfl⟩:=x_ this;exact a0
 have a2:ax f h (a.map s.eval) (a.map p.eval):=by
  refine⟨by simp,λj b7 b8 k w=>?_⟩;rw[WE]at k w;cases t:a[j]? with
  |none=>rw[t]at k;cases k
  |some W=>rw[t]at k w;cases k;cases w;refine ln y.base u.tmps s.defers p.defers W ?_;rw[Xn]at U;exact U W (by rw[WW];exact WN t)
 refine e.pure A rfl a9 (a3 h _ _ _ y a2 λg o b6 b X Q b0 a1=>?_);rw[Xl,a7];exact next g _ o b X Q ((u.mono Q.le).put H.dst a4 b0) a1
theorem FQ(W:Good c f){a:Wc}{k:VE Vx}{fn:Func}{t:Code}(b0:f.fr a=J)(P:c.funcs[a]?=C fn)(a8:fn.body=C t){g:Vx->K->Prop}
 (a5:∀u n,CW e (base a) ⟨[],[]⟩ (u::n) t S ⟨k++Array.replicate (fn.ntmps-k.size) F,[]⟩ d)
 (a6:∀b s d,S b s d->(b=.normal\/b=.ret)/\s.defers=[]/\∀r,∃i,(results fn s.tmps).run c {d with tape:=r}=.ok i {d with tape:=r}/\g i {d with tape:=r}):Co e a k d g:=by
 intro h o u n X w next
 have a2:Frame.enter c a o .normal=(base a).at ⟨o++Array.replicate (fn.ntmps-o.size) F,[]⟩ [.code t]:=by simp[Frame.enter,Frame.at,base,P,a8]
 rw[a2];refine a5 u n h [] _ X ⟨by rw[<-w.1];exact w.append (ax.replicate _ aY),⟨[],A,.nil⟩,by simp⟩ λb U a0 a1 Q Y a3 b2 b4=>?_;obtain⟨a9,hd,b1⟩:=a6 b a0 Q b4
 have fin:∀L,e.G U Q (rg {(base a).at a1 L with mode:=.returning} (u::n)):=λL=>pP W b0 A P Y A b2 hd (W:=g) (Tp.all λr=>b1 r) λi b5 b6 Z a4 b3 a7=>next U i b5 b6 Z (a3.trans a4) b3 a7
 rcases a9 with rfl|rfl
 .exact e.pure A rfl (λq=>by rw[be A];simp[stepG.exec,Frame.at,rg]) (fin [])
 exact fin
end frame
end
end
variable{l:VS}{c:K}{d:VM}{p:VD VM}{g:VQ}{s:E}{r:Oper}{q:VD Item}
section
variable[Inhabited aV]
section
variable{main:VI}{e:Goal l f main m}
variable{n:Rt}
def CO(e:Goal l f main m)(d:VM)(n:Rt)(p:VD VM)(z:VE Oper)(b:VD E)(S:Exit->VQ->K->Prop)(g:VQ)(c:K):Prop:=
 ∀(h:Ren)(q:VD Item)(a:VQ),Inv l f m h c->aw f h n g a->kl l f main m e d n p q S h c->e.G h c (rg (d.at a (VP z b::q)) p)
theorem dF(f:S .normal g c):CO e d n p z [] S g c:=λh q b a k i=>e.pure A rfl (λl=>iM) (i .normal h g b c a (.refl _ _) k f)
theorem FR{i:VD E}(b:∃f,CO e d n p z i S g {c with tape:=f}):CO e d n p z i S g c:=λh q m k u t=>by obtain⟨f,b⟩:=b;exact e.tape (b h q m (k.tape f) u λs y o r x l a v w=>t s y o r x l ⟨a.le,a.fresh,a.size,a.keep⟩ v w)
theorem nk(u:Good l f)(w:f.fr d.fn=J)(x:d.kind≠.early)(i:oe l f n z=J){O:VQ->K->Prop}{more:VD E}:∀(a2:VD E){g:VQ}{c:K},Tp (λc=>wpOps l z (gL O) a2 g c) c->
 (∀o k,Tp (O o) k->gJ f m c k)->(∀o k,Tp (O o) k->CO e d n p z more S o k)->CO e d n p z (a2++more) S g c
 |[],g,c,b,v,next=>next g c b
 |s::H,g,c,b,v,next=>by
  intro h q a6 N y Q;rw[Xe];cases a:z[s]? with
  |none=>simp only[wpOps,a]at b;refine e.pure A rfl (λa5=>stepG_unwanted (by rw[a];rfl)) ?_;rw[a];exact nk u w x i H b v next h q a6 N y Q
  |some r=>
   simp only[wpOps,a]at b;by_cases t:Region.wanted r (yielded z g.tmps)=J
   .simp only[t,Wv]at b;refine FW u e w x a t (jv i a).1 (jv i a).2 N y (b.mono λc t=>t.resolve_right λL=>eR L.2) (λa4 o a0 k b0 q1 R a3 T D=>?_) λa4 o a0 k q1 R a3 T D a7 a8=>?_
    .obtain⟨b7,P,b2,Y,b1,b3,b4,b5,b6,U,a9⟩:=tX u i H q1 R T D;obtain⟨Z,W,X⟩:=v P Y U;exact⟨Z,a9.trans W,X⟩
    refine nk u w x i H a8 (λP Y U=>?_) next a4 q a0 q1 a7 (Q.grow ⟨R,a3,T,D⟩)
    obtain⟨Z,W,X⟩:=v P Y U;exact⟨Z,W,λL a1=>by rw[X L a1,D L a1]⟩
   simp only[t]at b;refine e.pure A rfl (λa5=>stepG_unwanted ?_) ?_
   .rw[a];simp only[Xp,Xw];rw[<-ga y.tmps];simpa using t
   rw[a];exact nk u w x i H b v next h q _ N (y.put r.dst (jv i a).2 aY) Q
theorem Le(w:Good l f)(x:f.fr d.fn=J)(y:d.kind≠.early)(H:oe l f n z=J){t:VQ->K->Prop}{v more:VD E}(i:∀o,wpOps l z (gL t) v g {c with tape:=o})
 (D:∀b a,t b a->∀k,m k->a.heap[k]?=c.heap[k]?)(next:∀b a,t b a->CO e d n p z more S b a):CO e d n p z (v++more) S g c:=
 nk w x y H v (.all i) (λb a i=>⟨a,.refl _,by
  obtain⟨o,u⟩:=i.one
  exactλk L=>D _ _ u k L⟩) λb a i=>FR (by
  obtain⟨o,u⟩:=i.one
  exact⟨o,next _ _ u⟩)
theorem Oi{e:Goal l f J m}{more:VD E}{k:Wc}{i:VE Wd}{v:VE VJ}{fn:Func}{x:Code}(P:d.kind≠.early)(N:n.free r.dst=J)(R:z[s]?=C r)(Y:Region.wanted r (yielded z g.tmps)=J)(T:r.op=.call {callee:=.value (.func k),args:=i,argTypes:=v})
 (O:l.funcs[k]?=C fn)(Q:(fn.name== "runtime.NumGoroutine")=Vz)(D:fn.body=C x)(U:i.toList.all (dG l f.fn)=J){o:Vx->K->Prop}(L:Co e k (i.map g.eval) c o)
 (next:∀a b,o a b->CO e d n p z more S (g.put r.dst a) b):CO e d n p z (s::more) S g c:=λh q a1 t W H=>
 Az P R Y T O Q D U t N W L λa0 w a b u y X Z=>next a b Z a0 q w u X (H.grow y)
theorem kl.known{a:Rt}(r:kl l f main m e d n p q S h c)(hd:a.d0=n.d0)(s:∀u∈n.kn,u∈a.kn):kl l f main m e d a p q S h c:=
 λk x g i w b o t v=>r k x g i w b o (t.less hd s) v
theorem xy(f:CO e d n p z (VD.range z.size) S g c):CW e d n p (.region id z Vz) S g c:=λh q b a k i=>e.pure A rfl (λl=>by rw[be A];simp[stepG.exec,Frame.at,rg]) (f h q b a k i)
theorem uK(k:∀w,CO e d n p z (Region.schedule (l.follows .mixedOrders) z w) S g c):CW e d n p (.region id z J) S g c:=λh q i r v u=>by
 refine e.Po A (.step A (λ_ y x t=>wu l f main m (λh c o=>o.status=.running/\e.G h c o) y x t) (λa b=>?_) (λ_ _ _ _ k=>k))
 have s:stepG l main (rg (d.at i (.code (.region id z J)::q)) p) a=.go (rg (d.at i (.inRegion z (Region.schedule (l.follows .mixedOrders) z (a.tape a.drawn (.order d.fn id)))::q)) p) {a with drawn:=a.drawn+1}:=by rw[be A];simp[stepG.exec,Frame.at,rg,choose,Sem.run];rfl
 refine⟨_,h,c,_,[],[],s,?_,λ_ _=>rfl,by simp,A,.stop ⟨A,k _ h q i r v u⟩⟩;exact{bD.refl b with rel:=⟨b.inj,b.obj,b.os⟩}
theorem wC(u:Good l f)(v:f.fr d.fn=J)(w:d.kind≠.early)(D:oe l f n z=J)(y:l.follows .mixedOrders=J){i:VQ->K->Prop}
 (k:∀o,wpAny l .any z (gL i) z.size (Array.replicate z.size Vz) g {c with tape:=o})(x:∀b a,i b a->∀t,m t->a.heap[t]?=c.heap[t]?)(next:∀b a,i b a->S .normal b a):CW e d n p (.region id z J) S g c:=
 uK λo=>by rw[<-Yp (Region.schedule _ _ _)];refine Le (more:=[]) u v w D (t:=i) (λH=>?_) x λb a k=>dF (next b a k);simp only[Region.schedule,y,VI.true_or,Wv];exact wpAny_sound z.size o _ g _ (k H)
theorem uL(o:Good l f)(q:f.fr d.fn=J)(r:d.kind≠.early)(t:oe l f n z=J){h:VQ->K->Prop}
 (i:∀u,wpOps l z (gL h) (VD.range z.size) g {c with tape:=u})(s:∀b a,h b a->∀k,m k->a.heap[k]?=c.heap[k]?)(next:∀b a,h b a->S .normal b a):CW e d n p (.region id z Vz) S g c:=
 xy (by
  rw[<-Yp (VD.range z.size)]
  exact Le (more:=[]) o q r t (t:=h) i s λb a i=>dF (next b a i))
end
end
variable{e:VS}{n:E}{k:VO}{q:K}{o:K}{b:E}
section
variable[Inhabited aV]
section
variable{s:Type}{p:ui e s}{l:VY}{r:Loc->dw}{c:E}{m:Obj}
theorem kN(L:k.status=.running)(a4:∀g T q i a R,dJ p n g T q a R y k->∃w U l,runT e (crowd T q i) 0=(.next (crowd w U i),l)/\cd e w U i (a++l) D):
 ∀(g:s) T q i a R,dJ p n g T q a R y k->cd e T q i a D:=by
 intro g
 induction p.wf.apply g with
 |intro g _ a6=>
  intro T q i a R d;have a2:∀Q∈T,Go.Conc.awake Q:=by
   intro Q a5;obtain⟨b,v,rfl⟩:=Xt.1 a5;rcases WA b with rfl|H
   .have:T[0]=k:=by have:=d.me;simpa[Wj v]using this
    rw[this];exactλa P=>by rw[L]at P;cases P
   exact p.awake d.ok b _ H (Wj v)
  obtain⟨b,a7,t,N,v,a3,O⟩:=YO (P:=e) (w:=q) (sl:=i) a2 ⟨0,k,d.me,L⟩;have u:dJ p n g T (q.at t) a R y k:=⟨p.at_ t d.ok,d.bF.at t,d.bg.at t,d.me,d.hears⟩;rcases WA b with rfl|H
  .obtain⟨w,U,l,x,z⟩:=a4 g T (q.at t) N a R u;exact cd.head (O.trans x) z
  obtain⟨S,W,U,l,r,x,z,X,Y,Z,a0,a1⟩:=p.step N u.ok u.bF u.bg d.me L H v a3;exact cd.head (O.trans x) (a6 S z W U N _ r ⟨Y,Z,a0,X,a1.trans d.hears⟩)
structure Hid(c:E)(m:Obj)(q:K)(a:VY)(R:Loc->dw)(y:bT):Prop where
 heap:q.heap[c]?=C m
 free:∀i,¬y.β i c
 none:∀(t:E) g,touchAt a t=C g->¬aA g.loc c
 own:∀d,aA d c->R d=.iG 0
theorem Hid.at(b:Hid c m q a R y)(d:E):Hid c m (q.at d) a R y:=⟨b.heap,b.free,b.none,b.own⟩
theorem Hid.lt(b:Hid c m q a R y):c<q.heap.size:=(Wh.1 b.heap).1
theorem Nq{p:Ren}{H:K}{new k:VD Wa}(n:bD f h p o H q U new k)(y:c<q.heap.size)(t:∀a,¬h a c):
 U.heap[c]?=q.heap[c]?/\(∀a,¬p a c)/\∀d∈k,¬aA d.loc c:=by
 have m:∀a,p a c->False:=λa e=>by
  rcases n.fresh a c e with s|⟨_,s⟩
  .exact t a s
  omega
 have l:∀d∈k,¬aA d.loc c:=by
  intro d i g;obtain⟨r,L,hrel⟩:=iv n.la i;have b:=hrel.1;rcases g with g|⟨N,g,D⟩
  .rw[g]at b;cases e:r.loc<;>rw[e]at b<;>simp only[ed]at b;exact m _ b
  rw[g]at b;subst D;cases e:r.loc<;>rw[e]at b<;>simp only[ed]at b;exact m _ b.1
 refine⟨?_,m,l⟩;rcases n.same c y λd i _=>⟨λe=>l d i (VA e),λa v w=>l d i (VC ⟨a,v,w⟩)⟩with x|⟨⟨u,z,_⟩,_⟩
 .exact x
 exact(t u z).elim
theorem Gm{D:E->aG}{v:VO}{X:E}(t:VL (E×E))(r:bB e T q a R y D)(G:cR a q R)(a7:aH e a q R 0 y)(a0:T[0]?=C v)(a6:v.status=.running)(a2:0<b)(w:T[b]?=C k)(a5:k.status=.running)(x:D b=.lv X):
 ∃n p l,runT e (crowd T q t) b=(.next (crowd p q t),l)/\X=n+1/\p.size=T.size/\p[0]?=C v/\bB e p q (a++l) R y (λc=>if c=b then .lv n else D c)/\cR (a++l) q R/\aH e (a++l) q R 0 y/\Deaf (a++l) 0=Deaf a 0/\∀g∈l,g.act.touch?=I:=by
 have z:=r.each b k a2 w;rw[x]at z;obtain⟨n,Z,o,rfl,q1,b0,b1⟩:=lJ z.1 a5;have U:∀d∈o,(Wf d).touch?=I:=λd h=>touch_mute (q1 d h)
 have s:jM a q q R R b (VZ b k.frame.fn k.frame.place o):=np U λd h b2 N=>by rcases qs (q1 d h)with Q|Q<;>(rw[Q]at N;cases N)
 obtain⟨a8,a9⟩:=fD (x:=.lv n) r s (λ_ _ _ _=>rfl) (by rw[x];exact⟨A,A,A⟩) ⟨λu f=>(by cases f),λu f=>by rw[x]at f;cases f⟩;have S:b<T.size:=(Wh.1 w).1;have a3:(b==0)=Vz:=by simp;omega
 have L:∀c,c≠b->Deaf (a++VZ b k.frame.fn k.frame.place o) c=Deaf a c:=λc i=>Yy a (g':=b) (λd=>i d.symm) _ (sY _ _ _ _);have W:∀g∈VZ b k.frame.fn k.frame.place o,g.act.touch?=I:=by intro g m;obtain⟨d,h,rfl⟩:=Go.Conc.mem_ofEvents m;exact U d h
 refine⟨n,_,_,Zj (P:=e) (sl:=t) (i:=b) w (by rw[a3];exact b0 q),A,by simp,?_,?_,G.step s,a7.other (by omega) s,L 0 (by omega),W⟩
 .rw[Wr (by omega),WE,a0];simp only[Xp];rw[woken_run a6]
 refine r.jK G s (iP.refl y) (by simp) (λc i a4=>mI c i λu f=>(r.each c u a4 f).woken k Z λH O=>rfl) L (λc H b5 b6 _ b7=>rfl) S (λb4 _ P=>?_) (λH O=>by cases O)
  (λc i _ g m=>by rw[sY _ _ _ _ g m];exactλd=>i d.symm) a8 (λY a1=>by simpa using a9 Y a1)
 rw[Wq (by simpa using S)]at P;cases P;exact⟨by rw[Yt];exact b1,z.2.mine G λg m u f=>by rw[W g m]at f;cases f⟩
theorem vd(g:Hid c m q a R y)(v:∀f∈l,∀d,f.act.touch?=C d->¬aA d.loc c)(p:U.heap[c]?=q.heap[c]?){k:bT}(u:∀n,¬k.β n c)(o:∀i,aA i c->r i=.iG 0):Hid c m U (a++l) r k where
 heap:=by rw[p];exact g.heap
 free:=u
 none:=by
  intro h d b;unfold touchAt VY.act? at b;cases e:(a++l)[h]? with
  |none=>rw[e]at b;cases b
  |some f=>
   rw[e]at b;rcases Wp e with⟨_,s⟩|⟨_,t⟩
   .exact g.none h d (by rw[Xm s];exact b)
   exact v f t d b
 own:=o
def cX(e:VS)(c:E)(m:Obj):ui e (VD Ms) where
 lt:=dU Ms.lt
 wf:=dU.wf Ms.wf
 Ok:=λd T q a R y=>db e I d T q a R y/\y.tag=I/\Hid c m q a R y
 awake:=λ⟨⟨Q,_,D,_⟩,_⟩ b k p o=>(D.each b k p o).awake
 at_:=λn⟨h,t,u⟩=>⟨(aj e I).at_ n h,t,u.at n⟩
 step:=by
  rintro d T q a R y a5 b k c7⟨⟨Q,rfl,t,u⟩,v,f⟩ G N s L p o b0;have Y:=(Wh.1 o).1;obtain⟨z,Z⟩:∃z,Q b=.lv z:=by
   have x:=t.each b k p o;have w:=u b p Y;generalize Q b=c6 at x w;cases c6 with
   |lv z=>exact⟨z,A⟩
   |wk a3=>obtain⟨c8,h,_⟩:=x;rw[v]at h;cases h
   |pr=>cases w
   |pb=>cases w
   |pq=>cases w
  obtain⟨d9,a6,l,O,rfl,P,b4,b5,b6,b7,b8,b9⟩:=Gm c7 t G N s L p o b0 Z;refine⟨_,a6,q,l,R,O,?_,b4,⟨⟨_,by rw[P],b5,?_⟩,v,vd f (λa2 H a3 i=>by rw[b9 a2 H]at i;cases i) A f.free f.own⟩,b6,b7,b8⟩
  .exact kU Y (by rw[Z];exact .right _ (.left _ _ (Yd _)))
  intro a0 a9 d3;by_cases X:a0=b
  .subst X;simp only[Wv];rfl
  simp only[X,Wy];exact u a0 a9 (by omega)
 main:=by
  rintro d T q a R y a5 d2 e1 e0 U new a1⟨h,v,f⟩ G N s a7 L b1 S b2 x;obtain⟨O,b3,P⟩:=Nq S f.lt f.free;refine⟨(aj e I).main h G N s a7 L b1 S b2 x,v,vd f (λa2 H a3 i=>?_) O b3 λc0 g=>?_⟩
  .obtain⟨d,a8,rfl⟩:=Go.Conc.mem_ofEvents H;have W:d∈a1:=by
    have:d∈kept a1:=by simpa using a8
    exact(YB.1 this).1
   rcases vU i with⟨r,d0,d1⟩|⟨d5,r⟩
   .rw[r];exact P d W
   obtain⟨a4,s,hrel⟩:=iv S.la W;have g:=hrel.1;rw[r]at g;cases D:a4.loc<;>rw[D]at g<;>simp only[ed]at g;rw[vV (a:=d) (g.1▸g.2) r]at i;cases i
  rw[qp g f.lt];exact f.own c0 g
theorem LL{s:VD Ms}{h:VO}(r:VL (E×E))(S:dJ (cX e c m) n s T q a R y k)(Y:k.status=.running)(p:0<b)(i:T[b]?=C h)(X:h.status=.running):
 ∃t d l,runT e (crowd T q r) b=(.next (crowd d q r),l)/\dU Ms.lt t s/\dJ (cX e c m) n t d q (a++l) R y k:=by
 obtain⟨⟨⟨P,rfl,v,w⟩,x,o⟩,G,Z,Q,hd⟩:=S;have D:=(Wh.1 i).1;obtain⟨g,H⟩:∃g,P b=.lv g:=by
  have L:=v.each b h p i;have f:=w b p D;generalize P b=a9 at L f;cases a9 with
  |lv g=>exact⟨g,A⟩
  |wk b0=>obtain⟨b1,u,_⟩:=L;rw[x]at u;cases u
  |pr=>cases f
  |pb=>cases f
  |pq=>cases f
 obtain⟨b7,d,l,a0,rfl,a1,a2,a3,a4,a5,a6,a7⟩:=Gm r v G Z Q Y p i X H;refine⟨_,d,l,a0,?_,⟨⟨_,by rw[a1],a3,?_⟩,x,vd o (λa8 W b0 N=>by rw[a7 a8 W]at N;cases N) A o.free o.own⟩,a4,a5,a2,a6.trans hd⟩
 .exact kU D (by rw[H];exact .right _ (.left _ _ (Yd _)))
 intro O U b2;by_cases z:O=b
 .subst z;simp only[Wv];rfl
 simp only[z,Wy];exact w O U (by omega)
theorem It{i:VD Ms}(d:dJ (cX e c m) n i T q a R y k)(o:k.status=.running):∀h∈T,Go.Conc.awake h:=by
 intro h p;obtain⟨b,f,rfl⟩:=Xt.1 p;rcases WA b with rfl|l
 .have:T[0]=k:=by have:=d.me;simpa[Wj f]using this
  rw[this];exactλa g=>by rw[o]at g;cases g
 exact(cX e c m).awake d.ok b _ l (Wj f)
theorem vg{i:K->Prop}(v:∀(q:K) d,i q->i (q.at d))(t:k.status=.running)(S:∀f T q g a R,dJ (cX e c m) n f T q a R y k->i q->∃p U l,runT e (crowd T q g) 0=(.next (crowd p U g),l)/\cd e p U g (a++l) D):
 ∀(f:VD Ms) T q g a R,dJ (cX e c m) n f T q a R y k->i q->cd e T q g a D:=by
 intro f
 induction (dU.wf Ms.wf).apply f with
 |intro f _ W=>
  intro T q g a R h x;obtain⟨b,X,d,u,P,O,z⟩:=YO (P:=e) (w:=q) (sl:=g) (It h t) ⟨0,k,h.me,t⟩;have w:dJ (cX e c m) n f T (q.at d) a R y k:=⟨(cX e c m).at_ d h.ok,h.bF.at d,h.bg.at d,h.me,h.hears⟩;rcases WA b with rfl|Q
  .obtain⟨p,U,l,r,s⟩:=S f T (q.at d) u a R w (v q d x);exact cd.head (z.trans r) s
  obtain⟨H,L,l,r,s,N⟩:=LL u w t Q P O;exact cd.head (z.trans r) (W H s L (q.at d) u _ R N (v q d x))
def Qp(e:VS)(c:E)(m:Obj)(D:eX)(f:Set)(d:E->Prop)(h:Ren)(o:K)(k:VO):Prop:=
 ∀b T q g a R,dJ (cX e c m) 0 b T q a R ⟨f,h,o,d,I⟩ k->cd e T q g a D
def Oy(e:VS)(c:E)(m:Obj)(D:eX)(f:Set)(g:E->Prop):Goal e f J g where
 G:=Qp e c m D f g
 Po:=by intro h o k H L d T q i a R b;obtain⟨s,z⟩:=L.tree;refine(xS s d T q i a R ⟨f,h,o,g,I⟩ k b z H).bind λv t O P N=>?_;obtain⟨u,r,⟨Q,Z,Y,U,W⟩,S,x,⟨_,y⟩,l,n,p⟩:=N;simp only at l n p;subst l n p;exact y u v t O P r x
 tape:=by intro h o X k w d T q i a R b;refine w d T q i a R ⟨⟨b.ok.1.bg A rfl rfl,A,⟨b.ok.2.2.heap,b.ok.2.2.free,b.ok.2.2.none,b.ok.2.2.own⟩⟩,b.bF,?_,b.me,b.hears⟩;have:=b.bg;exact⟨this.base,⟨this.rel.inj,this.rel.obj,this.rel.os⟩,this.cY,this.dv,this.dY,this.low⟩
end
end
variable{v:Vx}{X:E->Prop}{a:K}{d:E}{b:VS}{c:VO}
section
variable[Inhabited aV]
inductive aR(g:E->Prop):Vx->Prop
 |bU:aR g (.tuple #[])
 |bool (p:VI):aR g (.bool p)
 |int (s:IntKind) (d:VB):aR g (.int s d)
 |string (t:VX):aR g (.string t)
 |cH:aR g (VW I)
 |ptr {k:VT} (l:g k.block):aR g (VW (C k))
 |aP (d i:E):aR g (VG I d i)
 |slice {k:VT} (l:g k.block) (d i:E):aR g (VG (C k) d i)
 |iface (u:VJ) {v:Vx} (l:aR g v):aR g (.iface u v)
 |nilIface:aR g .nilIface
 |agg {i:VE Vx} (l:∀(r:E) o,i[r]?=C o->aR g o):aR g (.agg i)
 |map {n:E} (l:g n):aR g (.map (C n))
 |fq:aR g (.map I)
 |eh:aR g (.chan I)
 |nilFunc:aR g .nilFunc
theorem an.RZ{t:Set}{s:Ren}{o:E->Prop}(i:∀e g,o e->h e g->s e g){m:Vx}(x:aR o v)(a:an f h v m):an t s v m:=by
 induction x generalizing m with
 |bU=>
  cases a with
  |bU a=>exact .bU a
  |tuple p q=>exact .tuple p λk n r c _=>by simp at c
 |bool g=>cases a;exact .bool _
 |int D d=>cases a;exact .int _ _
 |string H=>cases a;exact .string _
 |cH=>cases a;exact .cH
 |ptr b=>cases a with|ptr a=>exact .ptr ⟨i _ _ b a.1,a.2⟩
 |aP d u=>cases a;exact .aP _ _
 |slice b d u=>cases a with|slice a=>exact .slice ⟨i _ _ b a.1,a.2⟩ _ _
 |iface z _ l=>cases a with|iface _ a=>exact .iface z (l a)
 |nilIface=>cases a;exact .nilIface
 |agg p l=>cases a with|agg w q=>exact .agg w λk n r c y=>l k n c (q k n r c y)
 |map b=>cases a with|map a=>exact .map (i _ _ b a)
 |fq=>cases a;exact .fq
 |eh=>cases a;exact .eh
 |nilFunc=>cases a;exact .nilFunc
def Obj.whole:Obj->Obj
 |.cells a c _=>.cells a c (0,a.size)
 |b=>b
open Classical in
noncomputable def jI(X:E->Prop)(a:K):K:={a with heap:=a.heap.mapIdx λc b=>if X c then Obj.whole b else b}
theorem pZ(X:E->Prop)(a:K):(jI X a).heap.size=a.heap.size:=by simp[jI]
theorem iH{b:E}(c:X b):(jI X a).heap[b]?=(a.heap[b]?).map Obj.whole:=by simp_all [jI]
theorem tT{b:E}(c:¬X b):(jI X a).heap[b]?=a.heap[b]?:=by simp[jI,Zz,c]
def Closed(X:E->Prop)(a:K):Prop:=∀c,X c->∃b g d,a.heap[c]?=C (VH b g d)/\0<b.size/\d.2<=b.size/\(∀(f:E) e,b[f]?=C e->aR X e)/\¬aT b
theorem uV{b c:E×E}(a:kJ b c)(f:0<d)(e:b.2<=d):kJ (0,d) c:=by
 rcases a with a|⟨_,_,a⟩
 .exact VA a
 exact VC ⟨by omega,Xg _,Wu a e⟩
section
variable{Sp:Set}
theorem aU.jI(c:aU f h a q)(m:Closed X a):aU f h (Sim.jI X a) q where
 inj:=c.inj
 os:=c.os
 obj:=by
  intro b i n;obtain⟨y,r,d,k,l⟩:=c.obj b i n;by_cases e:X b
  .obtain⟨u,g,w,q1,s,t,_⟩:=m b e;rw[d]at q1;cases q1;refine⟨_,r,by rw[iH e,d];rfl,k,?_⟩;cases l with
   |cells g p o=>exact .cells g p (uV o s t)
  simp_all [tT]
theorem aU.part(k:aU f h a q)(N:Closed X a):aU Sp (λg i=>X g/\h g i) (Sim.jI X a) q where
 inj:=λg w i x H L=>k.inj g w i x H.2 L.2
 os:=k.os
 obj:=by
  rintro g i⟨p,l⟩;obtain⟨a1,R,n,y,z⟩:=k.obj g i l;obtain⟨Y,t,Z,q1,S,T,U,_⟩:=N g p;rw[n]at q1;cases q1;refine⟨_,R,by rw[iH p,n];rfl,y,?_⟩;cases z with
  |cells t o P=>exact .cells t ⟨o.1,λs u W r Q=>an.RZ (λg i O l=>⟨O,l⟩) (U s u r) (o.2 s u W r Q)⟩ (uV P S T)
theorem qJ(e:Closed X a):ma f X (Sim.jI X a):=λd c=>by obtain⟨b,i,k,q1,g,l,_,h⟩:=e d c;exact⟨.cells b i (0,b.size),by rw[iH c,q1];rfl,A,g,h⟩
theorem vt(e:Closed X a):ko f X (Sim.jI X a):=VC λd c h k b=>by obtain⟨g,n,i,q1,l,m,_⟩:=e d c;rw[iH c,q1]at b;cases b
theorem kO(e:Base b h)(i:∀c,(0<c\/c=b.globals.size)->c<=b.globals.size->X c):Base b (λa d=>X a/\h a d):=
 ⟨λc f g=>⟨i c f g,e.1 c f g⟩,λa d k=>e.2 a d k.2⟩
def dz(X:E->Prop)(h:Ren)(c:Loc):Prop:=∃a b,X a/\h a b/\aA c b
end
section
variable{e:Obj}
theorem Mi{l:E->VO}(y:c.status=.running)(U:∀n,(l n).status=.running)(W:∀q,stepG b J c q=.go (l q.heap.size) {q with heap:=q.heap.push e})(next:∀n,Qp b n e D f m h a (l n)):sG b I I D f m h a c:=by
 intro s u q z H r g;refine kN (p:=aj b I) y (λs u q z H r g=>?_) s u q z H r g;refine⟨_,_,_,iL (c:=b) g.me (W q),?_⟩;have lt:∀k i,h k i->i<q.heap.size:=λk i O=>g.bg.rel.right O
 have p:bD f h h a a q {q with heap:=q.heap.push e} [] []:=by
  refine{bD.refl g.bg.rel with rel:=⟨g.bg.rel.inj,λk i o=>?_,g.bg.rel.os⟩,um:=by simp,same:=λi w _=>?_}
  .obtain⟨a0,a1,L,t,N⟩:=g.bg.rel.obj k i o;exact⟨a0,a1,L,by rw[Yv (lt k i o)];rw[Wj (lt k i o)]at t;exact t,N⟩
  grind
 have x:=fu g.bg p (λ_ _=>rfl) (by simp) g.hears c.frame.fn c.frame.place;have T:=(Wh.1 g.me).1;have P:=(aj b I).main (g₁:=l q.heap.size) g.ok g.bF g.bg g.me g.hears y (U _) p (λ_ _=>rfl) (by simp);have Q:=g.bF.step x;have R:=g.bg.own p (λ_ _=>rfl) x;refine next q.heap.size _ _ _ _ _ _ ⟨⟨P,A,?_,λk o=>?_,λZ a2 Y w=>?_,λa4 S=>?_⟩,Q,R,by simp[T],g.hears⟩
 .simp
 .grind
 .have:=g.bF.low Z a2 Y;rw[bj w]at this;omega
 rw[qo S (Wl _) (by simp)]
def FF(b:VS)(i:E)(e:Obj)(k:K->Prop)(D:eX)(f:Set)(m:E->Prop)(h:Ren)(a:K)(c:VO):Prop:=
 ∀n d q o g l,dJ (cX b i e) 0 n d q g l ⟨f,h,a,m,I⟩ c->k q->cd b d q o g D
theorem Iu{l:E}{w:K->Prop}(L:c.status=.running)(Q:∀q,aU f h a q->∃o u r n new t,stepG b J c q=.go o n (kept t).toArray/\bD f h u a r q n new t/\(∀i,m i->r.heap[i]?=a.heap[i]?)/\
 (∀k∈new,k.write=J->∀i,m i->k.loc≠.obj i/\∀P,k.loc=.cell P->P.block≠i)/\o.status=.running/\w n/\FF b l e w D f m u r o):Qp b l e D f m h a c:=by
 intro k y q N O x g;refine kN (p:=cX b l e) L (λk y q N O x g=>?_) k y q N O x g;obtain⟨o,u,r,n,new,t,R,p,s,z,S,T,U⟩:=Q q g.bg.rel;have H:=fu g.bg p s z g.hears c.frame.fn c.frame.place;have W:=(Wh.1 g.me).1;exact⟨_,_,_,iL (c:=b) g.me R,U _ _ _ _ _ _ ⟨(cX b l e).main g.ok g.bF g.bg g.me g.hears L S p s z,g.bF.step H,g.bg.own p s H,by simp[W],by rw[jc p.la];exact g.hears⟩ T⟩
theorem ny{l:E}{i:K->Prop}{k:VO}(H:∀(q:K) d,i q->i (q.at d))(u:c.status=.running)(N:k.status=.running)(y:∀q,stepG b J c q=.go k q)(next:FF b l e i D f m h a k):FF b l e i D f m h a c:=by
 intro r s q w x p g o;refine vg H u (λr s q w x p g o=>?_) r s q w x p g o;have n:=bD.refl g.bg.rel;have t:=fu g.bg n (λ_ _=>rfl) (by simp) g.hears c.frame.fn c.frame.place;have L:=(Wh.1 g.me).1;have z:stepG b J c q=.go k q (kept []).toArray:=by rw[y q];rfl
 exact⟨_,_,_,iL (c:=b) g.me z,next _ _ _ _ _ _ ⟨(cX b l e).main g.ok g.bF g.bg g.me g.hears u N n (λ_ _=>rfl) (by simp),g.bF.step t,g.bg.own n (λ_ _=>rfl) t,by simp[L],by exact g.hears⟩ o⟩
def yt(B a:E)(q:K):Prop:=∃c b,q.heap[B]?=C (VH #[.chan (C a)] c b)
theorem Iv{s B a7:E}{a6:E->Vx}{Z:E->Prop}{Sp:Set}{b1 a8:VO}(f6:c.status=.running)(g1:∀q,stepG b J c q=.spawn b1 a8 q #[])(e3:a8.status=.running)
 (S:Closed X a)(d8:∀c,(0<c\/c=b.globals.size)->c<=b.globals.size->X c)(g0:∀i,Z i->X i)(d5:h a7 B)(e1:X a7)(i5:∀i,m i->X i)(f7:∀i,GD i->m i)
 (f9:jl b Sp X (Hf ⟨s,d,a6,Z,dz X h,B⟩) (iQ b ⟨s,d,a6,Z,dz X h,B⟩ Sp X d) (λi k=>X i/\h i k) (jI X a) a8)
 (next:∀g9,sG b (C (g9,⟨s,d,a6,Z,dz X h,B⟩,0)) I D f X h (jI X a) b1):FF b s (.chan 4 #[] Vz 0 0 Vz) (yt B s) D f m h a c:=by
 classical
 intro a9 z q N O w b4 b5;refine vg (λ_ _ p=>p) f6 (λa9 z q N O w b4 b5=>?_) a9 z q N O w b4 b5;obtain⟨⟨d4,_,U⟩,a2,r,c7,e4⟩:=b4;have c6:dJ (aj b I) 0 a9 z q O w ⟨f,h,a,m,I⟩ c:=⟨d4,a2,r,c7,e4⟩
 have f1:∀i k,h i k->∀g,aA g k->PS g->m i:=λi k l g n⟨Q,H,a3⟩=>by
  have x:=a2.jH.ro g Q H a3;rcases r.dv i k l g n with p|⟨_,p⟩
  .simp_all
  exact p
 have e2:=Bv (e:=⟨f,h,a,m,I⟩) c6 A rfl (vK r r.base r.rel r.cY (λi k l g n T=>by rcases r.dv i k l g n with p|⟨p,_⟩<;>(simp_all)) a2 (λ_ _ p=>p) f7)
 have c8:∀{g:Loc}{k:E},aA g k->g.isMemory=J:=λp=>bP p
 have f3:∀{g:Loc}{i k:E},h i k->aA g k->¬aA g s:=by
  intro g i k l x o;have:k=s:=by
   rcases x with rfl|⟨u,rfl,rfl⟩
   .rcases o with o|⟨a0,o,_⟩
    .simp_all
    cases o
   rcases o with o|⟨a0,o,b2⟩
   .cases o
   simp_all
  subst this;exact U.free i l
 let y:Loc->dw:=λg=>if aA g s then .sync else if dz X h g then .ro else dj w g
 have h6:∀g,aA g s->dj w g=.iG 0:=λg n=>by unfold dj;split<;>first|exact U.own g n|rfl
 have h7:∀i k,h i k->∀g,aA g k->dj w g=.iG 0\/(dj w g=.ro/\m i):=λi k l g n=>by
  have:w g≠.sync:=λT=>by rcases r.dv i k l g n with p|⟨p,_⟩<;>(rw[T]at p;cases p)
  unfold dj;split
  .rename_i p;have f0:=p.resolve_left this;obtain⟨Q,H,a3⟩:=f0;exact VC ⟨a2.jH.ro g Q H a3,f1 i k l g n ⟨Q,H,a3⟩⟩
  simp
 have c9:∀g,aA g s->y g=.sync:=λg n=>VV n
 have d0:∀g,dz X h g->y g=.ro:=λg⟨i,k,t,l,n⟩=>by grind
 have g8:∀g,¬aA g s->¬dz X h g->y g=dj w g:=λg x o=>by grind
 have d6:iO (dj w) y:=by
  intro g f2
  grind [dz]
 have d1:∀g,dz X h g->Perm O 0 g:=λg⟨i,k,t,l,n⟩ Y a0 g4 g5=>by obtain⟨L,W,f5⟩:=Ys g4;refine xn c6 A Y L a0 W f5 (g5▸c8 n) λT=>?_;rcases r.dv i k l g n with p|⟨p,_⟩<;>(simp_all)
 let a1:PD:=⟨s,d,a6,Z,dz X h,B⟩
 have i2:∀a5,km a1 q y a5 0 0 Vz #[]:=λa5=>⟨U.heap,A,by simp,c9 _ (VA A),λa4 u t=>by simp at t⟩;obtain⟨b8,b3⟩:=f9.tree
 have h1:∃R P b0,runT b (crowd z q N) 0=(.next (crowd R q N),P)/\dJ (aj b (C (z.size,a1,0))) 0 b0 R q (O++P) y ⟨f,h,jI X a,X,I⟩ b1:=by
  refine vk (f:=I) (l:=C (z.size,a1,0)) (a4:=N) (e:=⟨f,h,jI X a,X,I⟩) (c:=y) e2 (g1 q) d6 (a3:=.pr a1 d b8 ⟨Sp,λi k=>X i/\h i k,jI X a,X,I⟩)
   (λg f2 i4=>by
     by_cases x:aA g s
     .exact VC (VC (VC ⟨c9 g x,λY u t T=>U.none Y u t (T▸x)⟩))
     grind)
   (λP b6=>{
     base:=r.base
     low:=r.low
     rel:=r.rel.jI S
     cY:=qJ S
     dv:=λi k l g n=>by
      by_cases t:X i
      .grind
      left;rw[g8 g (f3 l n) (λ⟨d3,Q,b7,d9,H⟩=>?_)]
      .grind
      have:k=Q:=by
       rcases n with rfl|⟨u,rfl,rfl⟩
       .rcases H with o|⟨a0,o,_⟩
        .simp_all
        cases o
       rcases H with o|⟨a0,o,b2⟩
       .cases o
       simp_all
      subst this;exact t ((r.rel.inj i d3 k k l d9).2 A▸b7)
     dY:=λi k l g n f4=>by
      have f8:dz X h g:=by grind [dz]
      exact(PermW.of (d1 g f8)).app λL W u t _ _=>(b6.touch L W u t).elim})
   (λP b6 e8 e5 g2=>?_)
   (λb8 b3=>by cases b3) (λd2 x o a4 e6 e7 h2 b9=>by rw[o a4 e6 e7]at b9;cases b9) (λd2 _ h5 d7=>by cases d7) (VC A) (λd2 x o=>?_)
  .refine⟨e3,Wl _,⟨0,#[],by grind⟩,?_,e5,⟨⟨λi k c0 l=>l.2,λi c0=>?_⟩,?_,λi k l _ g n=>⟨i,k,l.1,l.2,n⟩⟩,b3⟩
   .exact{
     base:=kO r.base d8
     low:=⟨r.low.1,λi k l e0=>r.low.2 i k l.2 e0⟩
     rel:=r.rel.part S
     cY:=qJ S
     dv:=λi k l g n=>VC ⟨d0 g ⟨i,k,l.1,l.2,n⟩,l.1⟩
     dY:=λi k l g n f4 a4 u t g3 i6=>by
      obtain⟨L,W,b7⟩:=Ys t;rcases Wp W with⟨_,i3⟩|⟨_,e9⟩
      .exact e8 _ (d1 g ⟨i,k,l.1,l.2,n⟩ a4 u (by simp_all [Xm]) g3)
      exact(b6.touch L e9 u b7).elim}
   .obtain⟨h8,O,h9,q1,_⟩:=S i (g0 i c0)
    grind [pZ]
   exact⟨λY L u x o b2 i0 i1=>(g2 Y L u x o b2).elim,d0,λg⟨i,k,t,l,n⟩=>⟨c8 n,(bj n).2 (r.rel.right l)⟩,b5,λg n=>⟨a7,B,e1,d5,n⟩⟩
  refine⟨(Wh.1 c7).1,by simp,by simp[aG.pd],?_⟩;exact⟨_,_,_,_,_,U.heap⟩
 obtain⟨R,P,b0,g6,g7⟩:=h1;exact⟨R,q,P,g6,next z.size b0 R q N (O++P) y g7⟩
end
end
variable{a:VS}{c:K}{b:VO}{i:E}{l:K}
section
variable[Inhabited aV]
section
variable{o:VL dm}{e:E}{d:PD}{n:Vx}
theorem Il(R:b.status=.running)(x:∀l,aU f h c l->Hf d l->∃s L u v new z,stepG a J b l=.go s v (kept z).toArray/\bD f h L c u l v new z/\(∀p,m p->u.heap[p]?=c.heap[p]?)/\
 (∀q∈new,q.write=J->∀p,m p->q.loc≠.obj p/\∀H,q.loc=.cell H->H.block≠p)/\s.status=.running/\sG a (C (i,d,e)) o D f m L u s):sG a (C (i,d,e)) o D f m h c b:=by
 intro q w l S T O g;refine kN (p:=aj a (C (i,d,e))) R (λq w l S T O g=>?_) q w l S T O g;have Z:Hf d l:=by
  obtain⟨a4,_,Y,y,r,k,_⟩:=g.ok;have t:=Y.each i _ y (Wj r);generalize a4 i=a3 at k t;cases a3 with
  |lv a2=>cases k
  |wk H=>cases k
  |pr N a1 U a5=>cases k;exact t.2.2.2.2.2.1.2.1.kn
  |pb N a1 U a5 a7 b2 n=>cases k;exact t.2.2.2.2.2.2.1.2.1.kn
  |pq N a2=>cases k;obtain⟨_,_,_,_,_,_,x⟩:=t;exact x.kn
 obtain⟨s,L,u,v,new,z,y,r,k,P,W,X⟩:=x l g.bg.rel Z;have Q:=fu g.bg r k P g.hears b.frame.fn b.frame.place;have a0:0<w.size:=(Wh.1 g.me).1;exact⟨_,_,_,iL (c:=a) g.me y,X _ _ _ _ _ _ ⟨(aj a (C (i,d,e))).main g.ok g.bF g.bg g.me g.hears R W r k P,g.bF.step Q,g.bg.own r k Q,by simp[a0],by rw[jc r.la];exact g.hears⟩⟩
theorem AY(z:AtRecv a d.rc n b b)(S:e<d.n->∀p,an f h (d.τ e) p->sG a (C (i,d,e+1)) I D f m h c (Go.Conc.served b (.tuple #[p,.bool J])))
 (R:e=d.n->sG a I I D f m h c (Go.Conc.served b (.tuple #[n,.bool Vz]))):sG a (C (i,d,e)) I D f m h c b:=by
 intro P Q O W X N g;refine((IH z P).1 Q O W X N ⟨f,h,c,m,I⟩ b g.ok g.bF g.bg g.me g.hears z).bind λv t H L T=>?_;obtain⟨u,s,w,x,y,⟨q1,p,q,r,U⟩|⟨q1,q,r⟩⟩:=T
 .exact S q1 p r u v t H L s ⟨U,w,x,q,y⟩
 exact R q1 u v t H L s ⟨r,w,x,q,y⟩
theorem Ov{s:Ren}{u:E->Prop}(v:∀g r,s g r->h g r)(H:Base a h->Base a s)(O:∀q,aU f h c q->aU f s l q)(Q:ma f u l)(P:∀g,GD g->u g)(next:sG a I I D f u s l b):sG a I I D f m h c b:=by
 intro x y q S T w p;refine next x y q S T (dj w) (Bv p A rfl (vK p.bg (H p.bg.base) (O q p.bg.rel) Q (λg r z R N L=>?_) p.bF v P))
 rcases p.bg.dv g r (v g r z) R N with t|⟨t,_⟩<;>(rw[L]at t;cases t)
end
section
variable{k:K->Prop}{Stop:Ren->K->VO->Prop}
def xF(a:VS)(f:Set)(m:E->Prop)(k:K->Prop)(Stop:Ren->K->VO->Prop)(w:∀h(c:K) i b,Stop h {c with tape:=i} b->Stop h c b):Goal a f Vz m where
 G:=jl a f m k Stop
 Po:=λl e=>(jl.Rk e).bind λ_ _ _ e=>e.2
 tape:=by
  intro h c i b e;generalize n:({c with tape:=i}:K)=L at e;cases e with
  |stop e=>subst n;exact .stop (w _ _ _ _ e)
  |step l z e x=>subst n;refine .step l z (λo g hF=>?_) x;obtain⟨q,H,D,p,new,y,r,d,s,t,u,v⟩:=e o ⟨g.inj,g.obj,g.os⟩ hF;exact⟨q,H,D,p,new,y,r,⟨d.le,d.rel,d.la,d.size,d.um,d.os,d.out,d.tape,d.same,d.wr,d.fresh,d.iB,d.nO,d.pT,d.il,d.qw,d.jI⟩,s,t,u,v⟩
theorem vJ(s:b.status=.running)(o:∀i,aU f h c i->k i->∃e l g p new q,stepG a Vz b i=.go e p (kept q).toArray/\bD f h l c g i p new q/\(∀d,m d->g.heap[d]?=c.heap[d]?)/\
 (∀n∈new,n.write=J->∀d,m d->n.loc≠.obj d/\∀r,n.loc=.cell r->r.block≠d)/\e.status=.running/\jl a f m k Stop l g e):jl a f m k Stop h c b:=
 .step s (λ_ l g e=>jl a f m k Stop l g e) o λ_ _ _ _ o=>o
end
end
variable{d:Vx}{b:VE Vx}{a:K}
section
variable[Inhabited aV]
open Classical in
noncomputable def jk(X:E->Prop)(d:Vx):Vx:=if aR X d then d else .tuple #[]
theorem cU(a:aR X d):jk X d=d:=VV a
theorem oM(a:¬aR X d):jk X d=.tuple #[]:=VK a
theorem an.Rc{h:Ren}{e:Vx}(a:an f h d e)(c:bN d):bN e:=by
 cases a<;>first|exact c|trivial|(cases c;done)|skip
 rename_i fn l m n b i g _ _ _ _;cases g with
 |func k a=>trivial
 |yield a=>trivial
theorem an.jk{Sp:Set}{h:Ren}{l:Vx}(k:an f h d l)(o:aR X d\/bN d):an Sp (λg i=>X g/\h g i) (Sim.jk X d) l:=by
 by_cases c:aR X d
 .rw[cU c];exact an.RZ (λg i m n=>⟨m,n⟩) c k
 rw[oM c];exact .bU (k.Rc (o.resolve_left c))
theorem ax.jk{Sp:Set}{h:Ren}{k:VE Vx}(l:ax f h b k)(r:∀(c:E) g,b[c]?=C g->aR X g\/bN g):ax Sp (λi p=>X i/\h i p) (b.map (Sim.jk X)) k:=by refine⟨by simpa using l.1,λc g t m s=>?_⟩;rw[WE]at m;obtain⟨o,n,rfl⟩:=Xf.1 m;exact(l.2 c o t n s).jk (r c o n)
noncomputable def Obj.part(X:E->Prop):Obj->Obj
 |.cells b g _=>.cells (b.map (jk X)) g (0,b.size)
 |c=>c
open Classical in
noncomputable def cQ(X:E->Prop)(a:K):K:={a with heap:=a.heap.mapIdx λg c=>if X g then Obj.part X c else c}
theorem dh(X:E->Prop)(a:K):(cQ X a).heap.size=a.heap.size:=by simp[cQ]
theorem nf{b:E}(c:X b):(cQ X a).heap[b]?=(a.heap[b]?).map (Obj.part X):=by simp only[cQ,Zz,c,Wv]
theorem dZ{c:E}(f:X c){d:VJ}{e:E×E}(g:a.heap[c]?=C (VH b d e)):(cQ X a).heap[c]?=C (VH (b.map (jk X)) d (0,b.size)):=by rw[nf f,g];rfl
def jj(X:E->Prop)(a:K):Prop:=∀c,X c->
 (∃b k g,a.heap[c]?=C (VH b k g)/\0<b.size/\g.2<=b.size/\(∀(h:E) d,b[h]?=C d->aR X d\/bN d)/\¬aT b)\/
 ∃f i,a.heap[c]?=C (.map f i)/\∀e∈f.toList,aR X e.key/\aR X e.val
section
variable{Sp:Set}{h:Ren}
theorem Bu{d e:Wb->Wb->Prop}{c g:VD Wb}(h:aZ d c g)(f:∀a b,a∈c->d a b->e a b):aZ e c g:=by
 induction h with
 |nil=>exact .nil
 |cons i _ l=>exact .cons (f _ _ (Yx ..) i) (l λa b k=>f a b (WU _ k))
theorem aU.cQ(m:aU f h a q)(L:jj X a):aU Sp (λc g=>X c/\h c g) (Sim.cQ X a) q where
 inj:=λc y g z D H=>m.inj c y g z D.2 H.2
 os:=m.os
 obj:=by
  rintro c g⟨o,i⟩;obtain⟨Y,w,k,s,t⟩:=m.obj c g i;rcases L c o with⟨b,x,U,q1,l,Q,R,_⟩|⟨T,v,q1,l⟩
  .rw[k]at q1;cases q1;refine⟨_,w,dZ o k,s,?_⟩;cases t with
   |cells x P N=>exact .cells x (P.jk R) (uV N l Q)
  rw[k]at q1;cases q1;refine⟨_,w,by rw[nf o,k];rfl,s,?_⟩;cases t with
  |map v O=>exact .map v (Bu O λr S u p=>⟨an.RZ (λc g n i=>⟨n,i⟩) (l r u).1 p.1,an.RZ (λc g n i=>⟨n,i⟩) (l r u).2 p.2.1,p.2.2⟩)
theorem Iz(e:¬aT b):¬aT (b.map (jk X)):=by
 rintro⟨g,h,c⟩;rw[WE]at c;obtain⟨i,f,a⟩:=Xf.1 c;refine e ⟨g,h,?_⟩;rw[f];by_cases d:aR X i
 .rw[cU d]at a;rw[a]
 rw[oM d]at a;cases a
theorem jA(k:jj X a):ma f X (Sim.cQ X a):=λg c=>by
 rcases k g c with⟨b,r,o,q1,m,p,_,n⟩|⟨i,l,q1,_⟩
 .exact⟨_,dZ c q1,by simp,by simpa using m,Iz n⟩
 exact⟨.map i l,by rw[nf c,q1];rfl,trivial⟩
theorem xK(p:Base e h)(l:jj X a)(q:∀d,(0<d\/d=e.globals.size)->d<=e.globals.size->X d)(r:f.cj=Vz\/∀c,X c->∀k m,a.heap[c]?≠C (.map k m)):Inv e f X (λc n=>X c/\h c n) (Sim.cQ X a):=
 ⟨kO p q,jA l,r.imp id λo c g k m i=>by
   rcases l c g with⟨b,v,t,q1,_⟩|⟨s,u,q1,_⟩
   .rw[dZ g q1]at i;cases i
   exact o c g _ _ q1⟩
end
noncomputable def Act.jk(X:E->Prop)(c:VQ):VQ:=⟨c.tmps.map (Sim.jk X),c.defers⟩
theorem aw.jk{Sp:Set}{h:Ren}{l:Rt}{c k:VQ}(g:aw f h l c k)(hd:c.defers=[])(p:∀(r:E) i,c.tmps[r]?=C i->aR X i\/bN i):aw Sp (λc n=>X c/\h c n) l (Act.jk X c) k:=
 ⟨g.tmps.jk p,by
   obtain⟨s,o,m⟩:=g.defers;rw[hd]at m;cases m
   exact⟨[],o,by show aZ _ c.defers [];rw[hd];exact .nil⟩,g.kn⟩
structure Sm(a g:K):Prop where
 size:g.heap.size=a.heap.size
 os:g.os=a.os
 heap:∀c:E,g.heap[c]?=a.heap[c]?\/∃b i k m,aT b/\a.heap[c]?=C (Obj.cells b i k)/\g.heap[c]?=C (Obj.cells b i m)
theorem Db{h:Ren}{l:K}(m:aU f h a l)(s:q.os=l.os)(t:∀c g i,h c g->l.heap[g]?=C i->xk i q g)(v:E->Prop):
 ∃k:K,Sm a k/\k.tape=a.tape/\aU f h k q/\∀c,v c->k.heap[c]?=a.heap[c]?:=by
 refine⟨a,⟨A,A,λ_=>VA A⟩,A,⟨m.inj,λc g n=>?_,m.os.trans s.symm⟩,λ_ _=>rfl⟩;obtain⟨i,o,p,r,u⟩:=m.obj c g n;exact⟨i,o,p,t c g o n r,u⟩
def Ren.plus(h:Ren)(e:E)(d:VD E):Ren:=λa b=>h a b\/∃c,a=e+c/\d[c]?=C b
theorem Ren.Gk(h:Ren)(b:E)(a:VD E):h.le (Ren.plus h b a):=λ_ _ c=>VA c
theorem IW{h:Ren}(p:aU f h a q){m:VD E}(L:m.Nodup)(w:∀d∈m,∀n,¬h n d){Os:VD Obj}(O:Os.length=m.length)
 (N:∀(e:E) d,m[e]?=C d->∃k l,Os[e]?=C k/\q.heap[d]?=C l/\gK f (Ren.plus h a.heap.size m) k l):
 aU f (Ren.plus h a.heap.size m) {a with heap:=a.heap++Os.toArray} q where
 inj:=by
  rintro n u d v(c|⟨e,rfl,c⟩)(i|⟨s,rfl,i⟩)
  .exact p.inj n u d v c i
  .refine⟨λg=>?_,λg=>?_⟩
   .obtain⟨k,l,b,_⟩:=p.obj n d c;have:=(Wh.1 b).1;omega
   subst g;exact absurd c (w _ (WG i) _)
  .refine⟨λg=>?_,λg=>?_⟩
   .obtain⟨k,l,b,_⟩:=p.obj u v i;have:=(Wh.1 b).1;omega
   subst g;exact absurd i (w _ (WG c) _)
  refine⟨λg=>?_,λg=>?_⟩
  .have:e=s:=by omega
   subst this;rw[c]at i;cases i;rfl
  subst g;have D:=(Xk.1 c);have H:=(Xk.1 i);obtain⟨y,b⟩:=D;obtain⟨z,o⟩:=H;have x:=g_.1 L;have:e=s:=by
   rcases E.lt_trichotomy e s with r|r|r
   .exact absurd (b.trans o.symm) (x e s y z r)
   .exact r
   exact absurd (o.trans b.symm) (x s e z y r)
  omega
 os:=p.os
 obj:=by
  rintro n d(c|⟨e,rfl,c⟩)
  .obtain⟨k,l,b,o,t⟩:=p.obj n d c;exact⟨k,l,by rw[XV (Wh.1 b).1];exact b,o,t.mono (Ren.Gk h _ m)⟩
  obtain⟨k,l,b,o,t⟩:=N e d c;exact⟨k,l,by rw[YV (by omega)];simpa using b,o,t⟩
theorem IV{Os:VD Obj}{b:E}{c:Obj}(d:Os[b]?=C c):(a.heap++Os.toArray)[a.heap.size+b]?=C c:=by rw[YV (by omega)];simpa using d
end
variable{a:VS}{c:VO}{d:VY}{k:E}{p:E->Prop}
section
variable[Inhabited aV]
section
variable{b:dc}{o:bT}{i:Loc->dw}
theorem zt{a4:VD Ms}(H:dJ (aj a b) 0 a4 T q d R y c)(U:iO R i)
 (b0:∀s,s.isMemory=J->i s≠R s->i s=.ro\/i s=.void\/(i s=.sync/\∀n N,touchAt d n=C N->N.loc≠s))
 (b2:aH a d q i 0 o)(W:y.tag=I)(a7:∀r,bB a T q d R y r->ee b T q r->∀e,0<e->e<T.size->Holds (r e) y o)
 (b3:∀r,bB a T q d R y r->r 0=.lv 0->∀x,o.tag=C x->dV x r T.size q i):∃a5,dJ (aj a b) 0 a5 T q d i o c:=by
 obtain⟨r,rfl,z,a0⟩:=H.ok
 let v:E->aG:=λn=>if n=0 then .lv 0 else r n
 have w:∀n,0<n->v n=r n:=λn Y=>VK (by omega);have u:bB a T q d R y v:=⟨λe O g L=>by rw[w e g];exact z.each e O g L,λe j a2 a3 g X P a8 Q S=>by rw[w e g]at Q;rw[w j X]at S;exact z.one e j a2 a3 g X P a8 Q S,z.above,λa1 t=>(by rw[W]at t;cases t),z.ops⟩;have Z:ee b T q v:=by
  cases b with
  |none=>intro e g P;rw[w e g];exact a0 e g P
  |some N=>obtain⟨b4,b8,n⟩:=N;obtain⟨q1,b5,b6,b7⟩:=a0;exact⟨q1,b5,by rw[w b4 q1];exact b6,b7⟩
 have b9:d++(#[]:VY)=d:=by simp
 have G:=H.bF.jq U oC.nil (n:=0) (λs a9 a6=>VC (b0 s a9 a6)) (λn Y=>by exact Y);refine⟨_,⟨v,A,⟨λe O g L=>?_,u.one,u.above,λx t=>b3 v u A x t,u.ops⟩,Z⟩,G,b2,H.me,H.hears⟩;have:=(u.each e O g L).jq (by omega) U oC.nil (λc0 b1=>by simp at b1) (a7 v u Z e g (Wh.1 L).1) (λa1 t=>by rw[W]at t;cases t);simp_all
theorem Nk{a:E->E}(d:∀b,b<k->a b=0):sumTo k a=0:=by
 have:=Go.ConcN.sumTo_le (f:=a) (c:=0) (j:=k) λf e=>by simp_all
 omega
def jS(b:dc)(p:E->Prop):Prop:=∀e a c,b=C (e,a,c)->(∀c,fg a.sh (a.τ c))/\∀d,a.sh d->p d
theorem holds_of{e:VD Ms}(N:jS b p)(S:∀s v,p s->y.β s v->o.β s v):∀n,bB a T q d R y n->ee b T q n->∀g,0<g->g<T.size->Holds (n g) y o:=by
 intro n O z g w x H r;cases b with
 |none=>rw[z g w x]at r;cases r
 |some Q=>
  obtain⟨t,L,U⟩:=Q;obtain⟨q1,P,u,Y⟩:=z;have:g=t:=by
   have c1:(n g).chan=C H.rc:=by rw[aG.cC,r];rfl
   have c2:(n t).chan=C L.rc:=by rw[aG.cC,u];rfl
   exact O.one g t _ _ w q1 x P c1 c2
  subst this;rw[r]at u;cases u;obtain⟨W,X⟩:=N _ _ _ A;simp_all
theorem Gn{p:VD Ms}(s:dJ (aj a b) 0 p T q d R y c):∀h k n,b=C (h,k,n)->∀e,k.mine e->R e=.ro:=by
 rintro h k n rfl e l;obtain⟨z,_,r,t⟩:=s.ok;obtain⟨q1,w,f,Q⟩:=t;have i:=r.each h _ q1 (Wj w);generalize z h=x at i f;cases x with
 |lv v=>cases f
 |wk U=>cases f
 |pr m u o D=>cases f;obtain⟨_,_,_,_,_,⟨_,g,_⟩,_⟩:=i;exact g.ro e l
 |pb m u o D H S W=>cases f;obtain⟨_,_,_,_,_,_,⟨_,g,_⟩,_⟩:=i;exact g.ro e l
 |pq m v=>cases f;obtain⟨_,_,h,_,_,_,g⟩:=i;exact g.ro e l
end
section
variable{b:dc}
def Qr(h:Ren):Prop:=∀a b,h a b->b<dq.heap.size->GD a
def DJ(h:Ren)(b:E)(c:K)(a:E)(e:Obj):Prop:=(∃d,h d a)/\a≠b/\c.heap[a]?=C e
theorem Iq{a1:E->VO}{N:E->Prop}{a7 a0 b7:E}{xH O k2:VJ}{g7 d2:E×E}{cl:VE Vx}{own:E->E->E->Prop}{fin:E->Fin}
 (f3:c.status=.running)(j3:∀g1,(a1 g1).status=.running)(j5:∀q,stepG a J c q=.go (a1 q.heap.size) {q with heap:=q.heap.push (Go.ConcR.wgBlock O 0 0)})
 (e8:jj N l)(l5:∀n,N n->∀g6 d9,l.heap[n]?≠C (.map g6 d9))(i2:∀c,(0<c\/c=a.globals.size)->c<=a.globals.size->N c)(f5:∀n,m n->N n)
 (g9:l.heap[a7]?=C (VH #[VG (C ⟨a0,0,I⟩) k k] k2 g7))(h1:∃U,h a7 U)(l4:¬m a7)(Aj:l.heap[a0]?=C (VH cl xH d2))(i1:d2.1=d2.2)(i4:cl.size=b7)(f0:¬N a0)(h0:a7≠a0)
 (h8:∀Z w j c8,own Z w c8->own Z j c8->w=j)(h4:jS b m)
 (next:∀(a6:K) U v Z,aU f h l a6->h a7 U->h a0 v->0<Z->(∀n g,h n g->∀e,aA e g->¬m n->¬mi b (λ_=>.ro) e)->Base a h->Qr h->
   sG a b (C ⟨⟨O,a6.heap.size,U,VG (C ⟨v,0,I⟩) k k,v,xH,b7,own Z,DJ h v a6,C a6⟩,0,0,0,Z,Z,fin Z⟩) D f N (λn g=>N n/\h n g) (cQ N l) (a1 a6.heap.size)):
 sG a b I D f m h l c:=by
 classical
 intro b3 T q g0 d R s;refine kN (p:=aj a b) f3 (λb3 T q g0 d R s=>?_) b3 T q g0 d R s;refine⟨_,_,_,iL (c:=a) s.me (j5 q),?_⟩;obtain⟨f9,l8⟩:∃f9,f9=Go.ConcR.wgBlock O 0 0:=⟨_,A⟩;have lt:∀n g,h n g->g<q.heap.size:=λn g u=>s.bg.rel.right u
 have f4:aU f h l {q with heap:=q.heap.push (Go.ConcR.wgBlock O 0 0)}:=⟨s.bg.rel.inj,λn g r=>by
  obtain⟨c6,e1,g4,e6,g5⟩:=s.bg.rel.obj n g r
  exact⟨c6,e1,g4,by rw[Yv (lt n g r)];rw[Wj (lt n g r)]at e6;exact e6,g5⟩,s.bg.rel.os⟩
 have b9:∀g,g<q.heap.size->(q.heap.push (Go.ConcR.wgBlock O 0 0))[g]?=q.heap[g]?:=λg a3=>by rw[Yv a3,Wj a3]
 have e4:bD f h h l l q {q with heap:=q.heap.push (Go.ConcR.wgBlock O 0 0)} [] []:=by refine{bD.refl s.bg.rel with rel:=f4,um:=by simp,same:=λg a3 _=>VA (b9 g a3)}
 have b5:=fu s.bg e4 (λ_ _=>rfl) (by simp) s.hears c.frame.fn c.frame.place;have i9:0<T.size:=(Wh.1 s.me).1;have i7:VZ 0 c.frame.fn c.frame.place (kept []).toArray=VZ 0 c.frame.fn c.frame.place #[]:=by simp[kept]
 have z:=(aj a b).main (g₁:=a1 q.heap.size) s.ok s.bF s.bg s.me s.hears f3 (j3 _) e4 (λ_ _=>rfl) (by simp);have H:=s.bF.step b5;have a2:=s.bg.own e4 (λ_ _=>rfl) b5;have e5:VZ 0 c.frame.fn c.frame.place #[]=#[]:=by simp[VZ]
 rw[i7,e5,Zm]at z H a2;rw[e5,Zm];have l6:=Gn s;obtain⟨Q,d3⟩:∃Q,Q=dw.more R 0 q.heap.size (q.heap.push (Go.ConcR.wgBlock O 0 0)).size:=⟨_,A⟩;simp only at z H a2;rw[<-d3]at z H a2;obtain⟨x,d7⟩:∃x,x=((T.map (Go.Conc.woken a c (a1 q.heap.size) {q with heap:=q.heap.push (Go.ConcR.wgBlock O 0 0)})).setIfInBounds 0 (a1 q.heap.size)):=⟨_,A⟩;have d5:dJ (aj a b) 0 b3 x {q with heap:=q.heap.push (Go.ConcR.wgBlock O 0 0)} d Q ⟨f,h,l,m,I⟩ (a1 q.heap.size):=⟨by rw[d7];exact z,H,a2,by rw[d7];simp[i9],s.hears⟩;rw[<-d7];obtain⟨U,JQ⟩:=h1
 have i8:∃v k1 a4,h a0 v/\q.heap[U]?=C (VH #[VG (C ⟨v,0,I⟩) k k] k1 a4):=by
  obtain⟨c6,e1,q1,S,W⟩:=s.bg.rel.obj _ _ JQ;rw[g9]at q1;cases q1;cases W with
  |cells m3 c0 _=>
   rename_i c2 _ l0;have b0:=c0.1;simp at b0;have P:=c0.2 0 (VG (C ⟨a0,0,I⟩) k k) c2[0] (by simp) (Wj (by omega));cases X:c2[0]with
   |slice m1 e b2=>
    rw[X]at P;cases P with
    |slice d4=>
     rename_i g2;obtain⟨j7,j8,j9⟩:=d4;obtain⟨v,m0,m2⟩:=g2;subst j8 j9
     have d6:c2=#[VG (C ⟨v,0,I⟩) k k]:=by
      apply ZG (by simp[b0]);intro w a8 b8;obtain rfl:w=0:=by omega
      simp[X]
     rw[d6]at S;exact⟨v,_,_,j7,S⟩
   |_=>rw[X]at P;cases P
 obtain⟨v,k3,g8,wv,h2⟩:=i8
 have i3:∃b2 a4,q.heap[v]?=C (VH b2 xH a4)/\a4.1=a4.2/\b2.size=b7:=by
  obtain⟨c6,e1,q1,S,W⟩:=s.bg.rel.obj _ _ wv;rw[Aj]at q1;cases q1;cases W with
  |cells d c0 b4=>
   refine⟨_,_,S,?_,by rw[<-c0.1];exact i4⟩;rcases b4 with b4|⟨b4,_⟩
   .exact b4
   exact absurd i1 b4
 have j1:U≠v:=λa5=>h0 ((s.bg.rel.inj _ _ _ _ JQ wv).2 a5);have h3:=lt _ _ wv;have c9:∀{e:Loc}{n g:E},h n g->aA e g->Q e=R e:=λr t=>by rw[d3];exact qp t (lt _ _ r)
 have d0:=s.bg.dv;have k4:∀e,aA e q.heap.size->Q e=.iG 0:=λe t=>by rw[d3];exact qo t (Wl _) (by simp)
 have e0:∀{e:Loc}{n g:E},h n g->aA e g->¬aA e q.heap.size:=λr z H=>by have:=df z H;have:=lt _ _ r;omega
 let b6:Loc->Prop:=λe=>∃n g,h n g/\aA e g/\g≠v/\Q e=.iG 0
 let i:Loc->dw:=λe=>if aA e q.heap.size then .sync else if e=.obj v then .void else if b6 e then .ro else Q e
 have f8:∀e,aA e q.heap.size->i e=.sync:=λe t=>VV t
 have f7:i (.obj v)=.void:=by show(if _ then _ else if _ then _ else _)=_;rw[VK (e0 wv (.inl A)),VV A]
 have c7:∀n g e,h n g->aA e g->g≠v->i e=.ro:=λn g e r t a9=>by
  show(if _ then _ else if _ then _ else if _ then _ else _)=_;rw[VK (e0 r t),VK (λu=>a9 (df t (by rw[u];exact .inl A)))];by_cases b0:b6 e
  .rw[VV b0]
  rw[VK b0];have X:Q e≠.iG 0:=λu=>b0 ⟨n,g,r,t,a9,u⟩;rcases d0 n g r e t with u|⟨u,_⟩
  .rw[c9 r t]at X;exact absurd u X
  rw[c9 r t];exact u
 have e2:∀e,¬aA e q.heap.size->e≠.obj v->¬b6 e->i e=Q e:=λe z H a2=>by show(if _ then _ else if _ then _ else if _ then _ else _)=_;rw[VK z,VK H,VK a2]
 have e9:∀e,aA e v->Q e=.iG 0:=λe t=>by
  rw[c9 wv t];rcases d0 a0 v wv e t with u|⟨_,u⟩
  .exact u
  exact absurd (f5 _ u) f0
 have h5:iO Q i:=by
  intro e j0;by_cases q1:aA e q.heap.size
  .exact VC (k4 e q1)
  by_cases S:e=.obj v
  .subst S;exact VC (e9 _ (VA A))
  by_cases W:b6 e
  .obtain⟨_,_,_,_,_,u⟩:=W;exact VC u
  exact VA (e2 e q1 S W)
 obtain⟨b1,e7⟩:∃b1:dm,b1=⟨⟨O,q.heap.size,U,VG (C ⟨v,0,I⟩) k k,v,xH,b7,own x.size,DJ h v q,C q⟩,0,0,0,x.size,x.size,fin x.size⟩:=⟨_,A⟩;have f1:0<x.size:=(Wh.1 d5.me).1
 have j4:aH a d {q with heap:=q.heap.push (Go.ConcR.wgBlock O 0 0)} i 0 ⟨f,λn g=>N n/\h n g,cQ N l,N,C b1⟩:={
  base:=kO s.bg.base i2
  low:=⟨Wu s.bg.low.1 (by simp),λn g r a3=>s.bg.low.2 n g r.2 a3⟩
  rel:=f4.cQ e8
  cY:=jA e8
  dv:=λn g r e t=>VC ⟨c7 n g e r.2 t λa5=>f0 (by have P:=r.1;rw[(s.bg.rel.inj _ _ _ _ r.2 wv).2 a5]at P;exact P),r.1⟩
  dY:=λn g r e t l7=>by
   rcases d0 n g r.2 e t with u|⟨u,_⟩
   .exact PermW.of (d5.bF.mine e 0 (bP t) (by rw[c9 r.2 t];exact u))
   exact s.bg.dY n g r.2 e t u}
 have j6:∀Y,bB a x {q with heap:=q.heap.push (Go.ConcR.wgBlock O 0 0)} d Q ⟨f,h,l,m,I⟩ Y->Y 0=.lv 0->∀d1,C b1=C d1->dV d1 Y x.size {q with heap:=q.heap.push (Go.ConcR.wgBlock O 0 0)} i:=by
  intro Y h7 X d1 h6;cases h6
  have Gs:∀w L,0<w->w<x.size->Y w≠.wk L:=λw L a8 b8 a5=>by have:=h7.each w _ a8 (Wj b8);rw[a5]at this;obtain⟨k6,u,_⟩:=this;cases u
  have i0:∀w,w<x.size->(Y w).cnt=0:=λw a8=>by
   rcases WA w with rfl|u
   .rw[X];rfl
   have:=λL=>Gs w L u a8;generalize Y w=e3 at this;cases e3 with
   |wk L=>exact absurd A (this L)
   |_=>rfl
  have f6:(sumTo x.size λw=>(Y w).cnt)=0:=Nk i0;subst e7
  exact{
   zero:=by rw[X];rfl
   mode:=by
    rw[f6];refine .opn A (Xg _) (λj i5 i6=>?_) ?_
    .have:=λL=>Gs j L i5 i6;generalize Y j=e3 at this;cases e3 with
     |wk L=>exact absurd A (this L)
     |_=>rfl
    show(q.heap.push (Go.ConcR.wgBlock O 0 0))[q.heap.size]?=_;simp
   qU:=f8
   yZ:=f7
   own:=λw L a8 b8 P=>absurd P (Gs w L a8 b8)
   gb:=by obtain⟨b2,a4,q1,S,W⟩:=i3;exact⟨b2,a4,(b9 v h3).trans q1,S,W⟩
   gv:=⟨k3,g8,(b9 U (lt _ _ JQ)).trans h2⟩
   JP:=c7 a7 U _ JQ (VA A) j1
   ne:=by show v≠q.heap.size;omega
   apart:=λw j c8 z H=>h8 _ w j c8 z H
   xC:=by show x.size<x.size+1000000;omega
   bound:=by rw[f6];exact Xg _
   tu:=⟨f1,Wl _,A,λw z H=>by
    have z:x.size<=w:=z;have H:w<x.size:=H
    omega⟩
   Gs:=λw L z H P=>absurd P (Gs w L z H)
   gh:=by refine⟨λa6 u=>by cases u;rfl,?_⟩;rintro g c6⟨⟨n,r⟩,H,a2⟩;exact⟨λe t=>c7 n g e r t H,(b9 g (lt _ _ r)).trans a2⟩
   JO:=λe t=>by
    by_cases f2:e=.obj v
    .subst f2;exact VA A
    refine VC (VA ?_);show i e=_;rw[e2 e (e0 wv t) f2 λ⟨n,g,r,d8,a9,_⟩=>a9 (df d8 t)]
    exact e9 e t}
 obtain⟨k9,d6⟩:=zt (o:=⟨f,λn g=>N n/\h n g,cQ N l,N,C b1⟩) d5 h5 (λe j0 a9=>by
  by_cases q1:aA e q.heap.size
  .refine VC (VC ⟨f8 e q1,λd9 L P a5=>?_⟩);have:=s.bF.low d9 L P;rw[a5,bj q1]at this;exact absurd this (Z' _)
  by_cases S:e=.obj v
  .subst S;exact VC (VA f7)
  by_cases W:b6 e
  .obtain⟨n,g,r,t,a3,_⟩:=W;exact VA (c7 n g e r t a3)
  exact absurd (e2 e q1 S W) a9)
  j4 A (holds_of (e:=b3) h4 λn g d4 r=>⟨f5 n d4,r⟩) j6
 subst e7;refine next q U v x.size s.bg.rel JQ wv f1 (λn g r e t j2 b5=>?_) s.bg.base s.bg.low.2 _ _ _ _ _ _ d6
 rcases b5 with⟨g3,d8,h9⟩|b5
 .have z:=s.bF.jH.ro e g3 d8 h9;rcases d0 n g r e t with u|⟨_,u⟩
  .rw[z]at u;cases u
  exact j2 u
 grind
end
end
variable{g:Vx}{W:Vx}{a:E}{k:Vx}{p:K}{D:VS}{y:VY}{e:E}
section
variable[Inhabited aV]
structure LR where
 d:VX
 st:VD VB
 names:VD VX
 ev:Vx
def gf(c:VD VX)(u:E)(g:Vx)(p:K):Prop:=
 (g=VG I 0 0/\c=[])\/
 ∃e d b h r,g=VG (C ⟨e,0,I⟩) c.length d/\u<=e/\p.heap[e]?=C (VH b h r)/\r.1=r.2/\c.length<=d/\d<=b.size/\
  ∀(a:E) f,c[a]?=C f->b[a]?=C (.string f)
def ck(a:LR)(u:E)(c:VE Vx)(p:K):Prop:=a.st.length=7/\∃b,c.toList=.string a.d::(a.st.map (.int M ·)++[b])/\gf a.names u b p
def SA(a W:Vx):Prop:=∀f h,an f h a W
def An(c b:VE Vx):Prop:=c.size=b.size/\∀(a:E) g W,c[a]?=C g->b[a]?=C W->SA g W
theorem oH{d:Vx->Vx->Prop}(v:∀(a:E) W,b[a]?=C W->∃c,d c W):∃n:VE Vx,n.size=b.size/\∀(a:E) g W,n[a]?=C g->b[a]?=C W->d g W:=by
 have w:∀a:E,∃c:Vx,∀W,b[a]?=C W->d c W:=λa=>by
  cases x:b[a]? with
  |none=>exact⟨F,λ_ z=>by cases z⟩
  |some W=>obtain⟨c,a0⟩:=v a W x;exact⟨c,λ_ z=>by cases z;exact a0⟩
 obtain⟨t,P⟩:=Classical.axiomOfChoice w;refine⟨((VD.range b.size).map t).toArray,by simp,λa g W i l=>?_⟩;have Z:a<b.size:=(Wh.1 l).1;simp[Z]at i;subst i;exact P a W l
theorem Uw(d:an f h g W):∃q,SA q W:=by
 induction d with
 |bU d=>exact⟨_,λ_ _=>.bU d⟩
 |bool s=>exact⟨_,λ_ _=>.bool s⟩
 |int v e=>exact⟨_,λ_ _=>.int v e⟩
 |string x=>exact⟨_,λ_ _=>.string x⟩
 |cH=>exact⟨_,λ_ _=>.cH⟩
 |ptr d=>exact⟨_,λ_ _=>.bU trivial⟩
 |aP e b=>exact⟨_,λ_ _=>.aP e b⟩
 |slice d e b=>exact⟨_,λ_ _=>.bU trivial⟩
 |fq=>exact⟨_,λ_ _=>.fq⟩
 |map d=>exact⟨_,λ_ _=>.bU trivial⟩
 |eh=>exact⟨_,λ_ _=>.eh⟩
 |chan d=>exact⟨_,λ_ _=>.bU trivial⟩
 |func t=>cases t with
  |func=>exact⟨_,λ_ _=>.bU trivial⟩
  |yield=>exact⟨_,λ_ _=>.bU trivial⟩
 |nilFunc=>exact⟨_,λ_ _=>.nilFunc⟩
 |iface y d i=>obtain⟨q,u⟩:=i;exact⟨_,λf h=>.iface y (u f h)⟩
 |nilIface=>exact⟨_,λ_ _=>.nilIface⟩
 |@agg b k n w i=>
  obtain⟨z,l,m⟩:=oH (b:=k) (d:=SA) λa W c=>by
   have o:a<b.size:=by rw[n];exact(Wh.1 c).1
   exact i a _ W (Wj o) c
  exact⟨_,λf h=>.agg l λa g W p c=>m a g W p c f h⟩
 |@tuple b k n w i=>
  obtain⟨z,l,m⟩:=oH (b:=k) (d:=SA) λa W c=>by
   have o:a<b.size:=by rw[n];exact(Wh.1 c).1
   exact i a _ W (Wj o) c
  exact⟨_,λf h=>.tuple l λa g W p c=>m a g W p c f h⟩
theorem Nl{c:VE Vx}(e:ax f h b c):∃d,An d c:=by
 obtain⟨d,i,k⟩:=oH (b:=c) (d:=SA) λa W g=>by
  have l:a<b.size:=by rw[e.1];exact(Wh.1 g).1
  exact Uw (e.2 a _ W (Wj l) g)
 exact⟨d,i,k⟩
theorem An.string{c d:VE Vx}(b:An c d){g:VX}(e:d[a]?=C (.string g)):c[a]?=C (.string g):=by
 have f:a<c.size:=by rw[b.1];exact(Wh.1 e).1
 have:=b.2 a _ _ (Wj f) e;rw[Wj f];generalize c[a]=l at this;have h:=this {fn:=λ_=>Vz,code:=λ_=>Vz,bi:=λ_ _=>Vz,fr:=λ_=>Vz,cj:=Vz} (λ_ _=>False);cases h with
 |bU b=>exact b.elim
 |string=>rfl
inductive Plain:Vx->Prop
 |string (d:VX):Plain (.string d)
 |int (c:IntKind) (e:VB):Plain (.int c e)
 |slice (e b:E):Plain (VG I e b)
 |nil:Plain .nilIface
 |iface (y:VJ) (c:IntKind) (e:VB):Plain (.iface y (.int c e))
theorem Plain.eq{b:Vx}(c:Plain k)(a:an f h k b):b=k:=by
 cases c with
 |iface=>cases a with|iface _ a=>cases a;rfl
 |_=>cases a;rfl
theorem Plain.refl(f:Set)(h:Ren)(a:Plain k):an f h k k:=by
 cases a with
 |string d=>exact .string _
 |int c e=>exact .int _ _
 |slice e b=>exact .aP _ _
 |nil=>exact .nilIface
 |iface y c e=>exact .iface y (.int _ _)
def PR(o:E->LR)(e L u:E)(xH:VJ)(p:K):Prop:=∃b r,p.heap[L]?=C (Obj.cells b xH r)/\b.size=e*10/\r.1=r.2/\
 ∀a,a<e->∃c,ck (o a) u c p/\(∀j,j<9->b[a*10+j]?=c[j]?)/\b[a*10+9]?=C (o a).ev
theorem Mv(c:VD E):∃b:VD E,b.Nodup/\∀g,g∈b↔g∈c:=by
 induction c with
 |nil=>exact⟨[],.nil,λg=>Iff.rfl⟩
 |cons d c i=>
  obtain⟨b,f,e⟩:=i;by_cases h:d∈c
  .refine⟨b,f,λg=>?_⟩;rw[e];refine⟨λa=>WU _ a,λa=>?_⟩;rcases Wo.1 a with rfl|a
   .exact h
   exact a
  exact⟨d::b,VD.nodup_cons.2 ⟨λa=>h ((e d).1 a),f⟩,λg=>by simp[e]⟩
theorem ck.size{t:LR}{c:VE Vx}(d:ck t u c p):c.size=9:=by obtain⟨i,v,n,_⟩:=d;have:=VU List.length n;simp[i]at this;exact this
theorem ck.at{a:LR}{d:VE Vx}(h:ck a u d p):∃b,gf a.names u b p/\d[8]?=C b/\∀j,j<8->∃k,d[j]?=C k/\Plain k/\(Value.string a.d::a.st.map (.int M ·))[j]?=C k:=by
 obtain⟨e,b,i,l⟩:=h;have g:∀j:E,d[j]?=(Value.string a.d::(a.st.map (.int M ·)++[b]))[j]?:=λj=>by rw[<-i];simp
 refine⟨b,l,?_,λj o=>?_⟩
 .rw[g];simp[e]
 have m:(Value.string a.d::(a.st.map (.int M ·)++[b]))[j]?=(Value.string a.d::a.st.map (.int M ·))[j]?:=by rw[<-Xe,Yc (by simp[e];omega)]
 have f:j<(Value.string a.d::a.st.map (.int M ·)).length:=by simp[e];omega
 refine⟨_,(g j).trans (m.trans (Xb f)),?_,Xb f⟩;have c:=YK f;rcases Wo.1 c with c|c
 .rw[c];exact .string _
 obtain⟨q,_,n⟩:=WY.1 c;rw[<-n];exact .int _ _
theorem ck.mk'{a:LR}(d:a.st.length=7){b:Vx}(c:gf a.names u b p):ck a u (Value.string a.d::(a.st.map (.int M ·)++[b])).toArray p:=⟨d,b,by simp,c⟩
section
variable{N:dc}{O:E->Prop}{S:Ren}{Q X:K}{z:VD Ms}{Y:VO}{s:dm}{o:E->LR}{L U H:E}{xH:VJ}{r:E×E}{cl:VE Vx}
theorem ID(W:rf D N s z T q y R ⟨f,S,Q,O,I⟩)(d2:s.D.gn=e*10)
 (d0:∀c,c<e->∃a,s.lo<=a/\a<s.hi/\∀cl p,s.fin a cl p->∃a2,(c*10,a2)∈cl/\(c*10+9,#[(o c).ev])∈cl/\ck (o c) H a2 p)(c8:∀c,c<e->Plain (o c).ev)(f1:D.globals.size<=H):
 ∃b v,q.heap[s.D.gb]?=C (VH b s.D.xH v)/\v.1=v.2/\b.size=e*10/\∀c,c<e->(o c).st.length=7/\(∀j,j<8->b[c*10+j]?=(Value.string (o c).d::(o c).st.map (.int M ·))[j]?)/\b[c*10+9]?=C (o c).ev/\
  ∃x,b[c*10+8]?=C x/\((x=VG I 0 0/\(o c).names=[])\/
   ∃g t u b5 r,x=VG (C ⟨g,0,I⟩) (o c).names.length t/\q.heap[g]?=C (VH u b5 r)/\r.1=r.2/\(o c).names.length<=t/\t<=u.size/\
    (∃e8,An e8 u)/\(∀(a:E) w,(o c).names[a]?=C w->u[a]?=C (.string w))/\D.globals.size<=g/\∀P,aA P g->∃a,0<a/\s.lo<=a/\a<s.hi/\R P=.iG a):=by
 obtain⟨b,v,q1,e0,e1⟩:=W.gb;refine⟨b,v,q1,e0,e1.trans d2,λc a9=>?_⟩;obtain⟨a,X,a8,c9⟩:=d0 c a9;obtain⟨_,_,cl,a1,m⟩:=W.left a X a8;obtain⟨a2,b3,d9,b1⟩:=c9 cl a1.w m.fin;obtain⟨x,d7,c6,d3⟩:=b1.at
 have put:∀(Z:E) a3,(Z,a3)∈cl->∀(j:E) k,a3[j]?=C k->∃l,b[Z+j]?=C l/\an a1.S a1.β k l:=by intro Z a3 d6 j k n;obtain⟨c2,g0,f0,l,h,i,b9⟩:=m.Ld _ d6 j k n;rw[q1]at h;cases h;exact⟨l,i,b9⟩
 refine⟨b1.1,λj d4=>?_,?_,?_⟩
 .obtain⟨k,e5,e6,e7⟩:=d3 j d4;obtain⟨l,h,i⟩:=put _ _ b3 j k e5;rw[h,e6.eq i,e7]
 .obtain⟨l,h,i⟩:=put _ _ d9 0 (o c).ev (by simp);rw[show c*10+9=c*10+9+0 from A,h,(c8 c a9).eq i]
 obtain⟨l,h,i⟩:=put _ _ b3 8 x c6;refine⟨l,h,?_⟩;rcases d7 with⟨rfl,d⟩|⟨g,t,u,b5,e9,rfl,f7,b4,a0,e2,e3,e4⟩
 .exact VA ⟨(Plain.slice 0 0).eq i,d⟩
 right;cases i with
 |slice c7=>
  rename_i b6;obtain⟨U,f4,f8⟩:=b6;obtain⟨L,a4,a5⟩:=c7;simp only at L a4 a5;subst a4 a5;obtain⟨f5,f6,a6,b7,b8⟩:=m.bg.rel.obj g U L;rw[b4]at a6;cases a6;cases b8 with
  |cells f9 n d1=>
   rename_i c2 c0;refine⟨U,t,c2,_,c0,A,b7,?_,e2,by rw[<-n.1];exact e3,Nl n,λa w d8=>?_,?_,λP d5=>⟨a,Ws W.pos X,X,a8,?_⟩⟩
   .rcases d1 with d|⟨d,_⟩
    .exact d
    exact absurd a0 d
   .have a7:=e4 a w d8;have b0:a<c2.size:=by rw[<-n.1];exact(Wh.1 a7).1
    have:=n.2 a _ _ a7 (Wj b0);rw[Wj b0,(Plain.string w).eq this]
   .have:=(m.bg.base.2 g U L).2;omega
   rcases m.bg.dv g U L P d5 with d|⟨_,d⟩
   .exact d
   exfalso;obtain⟨f3,b2,Y⟩:=m.bg.cY g d;rw[b4]at b2;cases b2;obtain⟨Y,f2⟩:=Y;rw[Y]at a0;simp at a0;omega
end
end
variable{g:VS}{c:K}{n:VM}{s:VD Item}{r:VD VM}{p:E}{t:VD E}{e:Oper}{d:VQ}{l:VQ}
section
variable{main:VI}
variable{u:Rt}
def uf(a:Vx->K->Prop):Result Next->Prop
 |.ok (.value b) c=>a b c
 |_=>False
theorem OU(P:Good g f)(Z:f.fr n.fn=J)(a1:n.kind≠.early)(R:z[p]?=C e)(a7:Region.wanted e (yielded z d.tmps)=J)(a5:iW g f.fn f.bi f.cj e.op=J)(w:Inv g f m h c)(S:aw f h u d l)
 {N:Vx->K->Prop}(b:∀T,uf N ((execOp d.eval e).run g {c with tape:=T}))(a2:∀v U,N v U->∀a,m a->U.heap[a]?=c.heap[a]?)(Q:aU f h c q):
 ∃y v L i D new H,stepG g main (rg (n.at l (VP z (p::t)::s)) r) q=.go (rg (n.at (l.put e.dst L) (VP z t::s)) r) D (kept H).toArray/\(execOp l.eval e).runT g q #[]=(.ok (.value L) D,H.toArray)/\
  bD f h y c i q D new H/\(∀a,m a->i.heap[a]?=c.heap[a]?)/\(∀x∈new,x.write=J->∀d,m d->x.loc≠.obj d/\∀a,x.loc=.cell a->a.block≠d)/\Inv g f m y i/\cW m h c y i/\an f y v L/\Tp (N v) i:=by
 obtain⟨b2,W⟩:=l;have a8:Region.wanted e (yielded z b2)=J:=by rw[<-ga S.tmps];exact a7
 have a4:(z[p]?).bind (·.dst)=e.dst:=by rw[R];rfl
 obtain⟨y,b4,b5,i,D,new,H,x,a3,o,k⟩:=zE P w.base (ln w.base S.tmps d.defers W) a5 (D:=uf N) (by intro b c a0;exact a0) (.all b) Q;have Y:=w.base.jK Q o;cases a3 with
 |@value v L a6=>obtain⟨T,X⟩:=k.one;obtain⟨O,b1⟩:=iz w.cY w.kC o ⟨i,.refl _,λa a9=>a2 v _ X a a9⟩;refine⟨y,v,L,i,D,new,H,?_,x,o,O,b1,w.keep Y O,⟨o.le,λa b3 b0=>(o.fresh a b3 b0).imp id (·.1),o.size,O⟩,a6,k⟩;rw[stepG_value P Z a1 o.la R a8 (.inl x),Xl,a4]
 |skip=>exact(k.one).elim λ_ b=>b.elim
 |defer=>exact(k.one).elim λ_ b=>b.elim
 |enter=>exact(k.one).elim λ_ b=>b.elim
 |round=>exact(k.one).elim λ_ b=>b.elim
 |recover=>exact(k.one).elim λ_ b=>b.elim
end
variable{a:VS}
section
variable[Inhabited aV]
theorem iQ.tape{c:PD}:∀(b:E)(i:Ren)(h:K)(t:E->Question->E)(d:VO),iQ a c f m b i {h with tape:=t} d->iQ a c f m b i h d
 |0,_,_,_,_,e=>e
 |b+1,i,h,t,d,e=>by obtain⟨l,r,s,n,o,p,q⟩:=e;exact⟨l,r,s,λk g=>n k ⟨g.inj,g.obj,g.os⟩,o,p,(xF a f m (Hf c) (iQ a c f m b) (iQ.tape b)).tape q⟩
def fP(a:VS)(b:PD)(f:Set)(m:E->Prop)(c:E):Goal a f Vz m:=xF a f m (Hf b) (iQ a b f m c) (iQ.tape c)
end
variable{c:VM}{d:VD VM}
section
variable{main:VI}{g:VE Vx}{e:VD Deferred}{f:VD Item}
def cE(a:VE VJ)(d:VJ)(c:E)(b:VE VI):Deferred:={target:=.builtin .close a d b,args:=#[.chan (C c)]}
theorem Dn{h:VE VJ}{i:VJ}{k:VE VI}{b m o n:E}{l:VE Vx}{p:VI}(L:∀fn,a.funcs[c.fn]?=C fn->fn.norace=Vz)(s:q.heap[b]?=C (.chan m l Vz o n p)):
 stepG a main (rg {c.at ⟨g,cE h i b k::e⟩ f with mode:=.returning} d) q=.go (rg {c.at ⟨g,e⟩ f with mode:=.returning} d) (q.setChan b m l J o n p) #[⟨.obj b,Vz,J⟩,⟨.obj b,J,J⟩]:=by
 have u:(invoke (cE h i b k).target (cE h i b k).args)=(do pure (Next.value (<-Builtin.close_ h i #[.chan (C b)])):VR Next):=A
 have r:(invoke (cE h i b k).target (cE h i b k).args).runT a q #[]=(.ok (.value (.tuple #[])) (q.setChan b m l J o n p),#[⟨.obj b,Vz,J⟩,⟨.obj b,J,J⟩]):=by
  rw[u];have t:=run_close_open (P:=a) (w:=q) h i s;have D:=events_close_open (P:=a) (w:=q) (es:=#[]) h i s;refine ZM ?_ ?_
  .simp[t,K.setChan]
  simp_all
 have x:seen a c.fn #[(⟨.obj b,Vz,J⟩:Wa),⟨.obj b,J,J⟩]=#[⟨.obj b,Vz,J⟩,⟨.obj b,J,J⟩]:=by simp[seen]
 have v:(invoke (.builtin .close h i k) #[.chan (C b)]).run a q=.ok (.value (.tuple #[])) (q.setChan b m l J o n p):=by have:=VU Prod.fst r;rw[H_]at this;exact this
 have w:(invoke (.builtin .close h i k) #[.chan (C b)]).events a q #[]=#[⟨.obj b,Vz,J⟩,⟨.obj b,J,J⟩]:=VU Prod.snd r;rw[hY (by simp)];simp[unwind,callDeferred,Frame.at,cE,v,w,x,GStep.after,rg]
end
section
variable{main:VI}{d:VE Vx}{e:VD Item}
def dx(a:VS):VM:={(default:VM)with fn:=a.funcs.size,defers:=[],mode:=.panicking [goexitEntry]}
theorem uD{c:Wc}{fn:Func}{e:Code}{b d:VE Vx}(h:a.funcs[c]?=C fn)(i:(fn.name== "runtime.NumGoroutine")=Vz)(g:fn.body=C e):
 stepG a main (born a {target:=.fn (.func c) d,args:=b}) q=.go (rg (Frame.enter a c (b++d) .deferred) [dx a]) q:=by
 have f:¬fn.name= "runtime.NumGoroutine":=by simp_all
 simp[born,stepG,unwind,callDeferred,invoke,callFunc,h,f,g,GStep.after,aX,rg,dx]
theorem xq{m:VD Deferred}{fn:Func}(l:c.kind=.deferred)(k:a.funcs[c.fn]?=C fn)(f:fn.results=#[]):QuitsD a 2 0 (rg {c.at ⟨d,[]⟩ e with mode:=.returning} [dx a]):=by
 refine .ctl A (g':=rg (dx a) []) (λb=>?_) (.ctl A (g':={rg (dx a) []with status:=.finished}) (λb=>?_) ⟨A,A⟩)
 .have g:(results fn d).run a b=.ok (.tuple #[]) b:=by simp[results,f]
  have h:(results fn d).events a b #[]=#[]:=by simp[results,f]
  simp[rg,stepG,unwind,doReturn,Frame.at,l,k,g,h,seen,GStep.after,dx,goexitEntry]
 simp[rg,stepG,unwind,dx,VM.catches,goexitEntry];rfl
end
variable{d:K}
theorem Er{b:PD}{g:VE Vx}{e:VD Item}{i:VE VJ}{n:VJ}{k:VE VI}{fn:Func}
 (q:c.kind=.deferred)(p:a.funcs[c.fn]?=C fn)(r:fn.results=#[])(z:fn.norace=Vz)(s:mayWake a (rg {c.at ⟨g,[cE i n b.rc k]⟩ e with mode:=.returning} [dx a])=J):
 iQ a b f m 0 h d (rg {c.at ⟨g,[cE i n b.rc k]⟩ e with mode:=.returning} [dx a]):=
 ⟨A,s,rg {c.at ⟨g,[]⟩ e with mode:=.returning} [dx a],A,λt v u H D L o=>Dn (λx y=>by simp_all) o,2,xq (m:=[]) q p r⟩
variable{c:VS}{d:VM}{a:VQ}{g:VD Item}{f:VD VM}{l:E}{h:VD E}
section
variable{main:VI}
theorem Fo{k i:Wd}{b:E}(o:z[l]?=C e)(r:Region.wanted e (yielded z a.tmps)=J)(n:d.kind≠.early)(t:e.op=.send k i)(u:a.eval k=.chan (C b)):
 stepG c main (rg (d.at a (VP z (l::h)::g)) f) q=.comm (rg (d.at a (VP z (l::h)::g)) f) #[scase b (a.eval i) (.tuple #[])] J .send q #[]:=by
 have p:(execOp a.eval e).run c q=.ok (.comm #[scase b (a.eval i) (.tuple #[])] J .send) q:=by simp_all [execOp,scase]
 have m:(execOp a.eval e).events c q #[]=#[]:=by simp_all [execOp]
 have:=stepG_comm (P:=c) (main:=main) (b:=d) (a:=a) (k:=g) (cs:=f) (rest:=h) o r n p;unfold listed at this;rw[m,seen_none]at this;exact this
end
noncomputable section
abbrev TP:VS:=Go.Proofs.Tryz.prog
def GN:VD E:=[15,17,19,20,21,22,26,27,29,30,32,34,35,36,40,41,42,51,52,58,60,61,62,63,64,65,66,95,96,97,98,104,105,106,107,108,109,110,111,112,113,114,128,129,130,131,132,134,135,136,137,138,139,140,141,142,143,144,145,146,147,148,149,150,151,152,153,154,155,156,157,166,167,168,169,170,171,172,173,174,175,176,177,178,179,180,181,182,183,184,185,186,187,188,189,190,200,201,202,203,204,205,206,207,208,209,210,211,212,213,214,215,216,217,218,228,229,230,231,232,233,234,235,236,237,238,239,240,246,247,248,249,250,251,252,253,254,256,257,258,259,260,261,262,263,264,265,266,267,268,269]
def JC:VD E:=[3,4,5,6,7,8,9,10,11,12,14,15,16,17,18,19,20,21,22,26,27,28,29,30,31,32,34,35,36,39,40,41,42,51,52,58,60,61,62,63,64,65,66,95,96,97,98,104,105,106,107,108,109,110,111,112,113,114,128,129,130,131,132,134,135,136,137,138,139,140,141,142,143,144,145,146,147,148,149,150,151,152,153,154,155,156,157,166,167,168,169,170,171,172,173,174,175,176,177,178,179,180,181,182,183,184,185,186,187,188,189,190,200,201,202,203,204,205,206,207,208,209,210,211,212,213,214,215,216,217,218,228,229,230,231,232,233,234,235,236,237,238,239,240,246,247,248,249,250,251,252,253,254,256,257,258,259,260,261,262,263,264,265,266,267,268,269]
def Fh:VD E:=[171,230,248,256,262,263]
def vB:VD E:=[38,53,54,81]
def vj:VD E:=[58,95,96,97,98,107,128,129,130,131,132,145,146,166,167,168,169,174,175,200,201,202,203,204,205,206,207,208,209,210,211,212,228,229,230,231,232,233,234,235,246,247,248,249,250,251,256,257]
def setOf(b c:VD E)(cj:VI):Set where
 fn:=λa=>b.contains a
 fr:=λa=>c.contains a
 bi:=Hs TP cj
 code:=codeOk TP (λa=>b.contains a) (Hs TP cj) cj
 cj:=cj
def ar:Set:=setOf GN JC J
def aL:Set:=setOf vB (37::vB) Vz
def aW:Set:=setOf vj (56::vj) Vz
def AU(b:Set)(a:E):VI:=
 match TP.funcs[a]? with
 |some fn=>!fn.norace&&!(fn.name== "runtime.NumGoroutine")&&(match fn.body with|some c=>b.code c|none=>Fh.contains a)
 |none=>Vz
theorem RU:(GN.all (AU ar))=J:=by decide+kernel
theorem Pb:(vB.all (AU aL))=J:=by rfl
theorem look_ok:(vj.all (AU aW))=J:=by decide+kernel
end
end Go.Sim
