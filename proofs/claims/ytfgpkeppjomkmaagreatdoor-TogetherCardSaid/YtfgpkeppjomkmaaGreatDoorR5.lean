/- Proved here: parts of the proof of the claimed theorem, no conditions; the last text states it -/
import Derived.Test.YtfgpkeppjomkmaaGreatDoorR4
set_option linter.all false
set_option maxRecDepth 100000
set_option maxHeartbeats 16000000
open _root_ renaming rfl->A,Nat->E,List->Xq,Int->Xt,Array->Xu,Bool->Xy,Option->Xz,if_neg->XH,ByteArray->XM,if_pos->XN
open Option renaming some->C,none->F
open Go renaming undef->I,World->K,Value->Xn,TypeId->XA,Frame->XC,Goroutine->XD,Act->XF,Addr->XG,Program->XI,Sem->XJ,Trace->XO,Event->XQ,Code->XR,MapEntry->XS,FuncId->XU,Operand->XV
open Bool renaming true->J,false->Xp
open Go.Lib renaming hid->Xv
open Go.MemOp renaming ofEvents->XP
open Go.Op renaming operands->XX
open Go.MemAct renaming ofEvent->XY
open Go.IntKind renaming i64->M
open Go.Value renaming int->Xo,slice->Xw,pointer->XK
open Or renaming inl->Xr,inr->Xs
open Go.Obj renaming cells->Xx
open Go.Ending renaming returned->XB
open Go.Item renaming inRegion->XE
namespace Go.Sim
open Go.Conc Go.Proofs Go.RowKit
open Go.ConcN (PermW PermW.app PermW.of fork_knows WgLive RelBy sumTo)
open Go.ConcR (KK wgBlock WgAt stA smA rd wr mk DC0)
variable{e:E->Prop}{u:E}{t:E}{c:K}{b:E}{j:E}{D:Xu Oper}{s:E}{d:Xq Item}{Q:Xq XC}{m:Ren}{h:XF}{g:XF}
section
variable[Inhabited aN]
structure Jh(o:WD)(e:E->Prop)(l:K)(q p r u t a0 x T X N v:E)(U:Xn)(y:E->XM)(f:E->Xu Xn->Xn->K->Prop):Prop where
 x3:e q
 h3:∃k a,l.heap[q]?=C (Xx #[Xw (C ⟨T,X,F⟩) t a0] k a)
 x2:e p
 h2:∃k a,l.heap[p]?=C (Xx #[pt u 0] k a)
 xc:e u
 hc:∃w k a,l.heap[u]?=C (Xx w k a)/\w[1]?=C (Xo M x)/\w[2]?=C U
 Xh:∃a1,U=pt a1 0
 x4:e r
 h4:∃k a,l.heap[r]?=C (Xx #[I] k a)
 xl:e T
 elem:∃w k a,l.heap[T]?=C (Xx w k a)/\∀d,d<t->w[X+d*9+3]?=C (.string (y d))
 look:∀d,d<t->∀c:K,(∀R,e R->c.heap[R]?=l.heap[R]?)->l.heap.size<=c.heap.size->Calls TP 58 #[U,.string (y d)] c λZ Y=>∃i n,Z=XB (.tuple #[.agg i,n])/\f d i n Y/\Below c.heap.size c Y
 VW:∀d i n(c W:K),f d i n c->(∀S,S<c.heap.size->W.heap[S]?=c.heap[S]?)->c.heap.size<=W.heap.size->f d i n W
 Vs:∀d i n c,f d i n c->i.size=9/\(∀R∈i,wC R=J)/\wC n=J
 gs:o.gs=Xw (C ⟨o.gb,0,F⟩) t t
 gn:o.gn=t*10
 own:∀d,d<t->d%x=N->∀j,j<10->o.own v (d*10+j)
 small:t<2^40
 VL:1<=x
 WE:x<2^20
theorem Jh.Vq{o:WD}{l:K}{q p r T x w U N v:E}{W:Xn}{y:E->XM}{f:E->Xu Xn->Xn->K->Prop}(n:Jh o e l q p r u t T x w U N v W y f){d:E}{i:Xu Xn}{a:Xn}{k:K}(S:k.heap=c.heap)(R:f d i a c):f d i a k:=
 n.VW d i a c k R (λ_ _=>by rw[S]) (by simp_all)
theorem QF(a:K)(b:Xu XQ):(Go.sizeOf 154).runT TP a b=(.ok 9 a,b):=by rfl
theorem Tt(a:K)(b:Xu XQ):(Go.sizeOf 65).runT TP a b=(.ok 1 a,b):=by rfl
def WJ(e:E->Prop)(l:K)(V:WV)(H:Xq Deferred)(z q p r:E)(L:K)(f:Xu Xn->Xn->K->Prop)(s:E)(cl:bD)(a:Xu Xy)(i:E×bD)(m:Ren)(c:K)(h g:XF):Prop:=
 ∃b d,WR e l V H z q p r L f a b d m c h g/\(a.getD 22 Xp=J->a.getD 16 Xp=J)/\(a.getD 25 Xp=J->a.getD 22 Xp=J)/\
  i=if a.getD 25 Xp then(s,cl++[(V.c*10,b)]++[(V.c*10+9,#[d])])else if a.getD 22 Xp then(s+1,cl++[(V.c*10,b)])else(s+2,cl)
theorem ep{a:Xu Xy}(c:j≠b):(a.setIfInBounds b J).getD j Xp=a.getD j Xp:=by simp_all [Zh]
theorem getD_eq{a:Xu Xy}(c:b<a.size):(a.setIfInBounds b J).getD b Xp=J:=by simp_all
section
variable{o:WD}{l:K}{z q p r x N v:E}{V:WV}{y:E->XM}{f:E->Xu Xn->Xn->K->Prop}{H:Xq Deferred}{L:K}
variable{fin:bD->K->Prop}{O:∀cl(c:K) R,fin cl {c with tape:=R}->fin cl c}
theorem ON(Z:Jh o e l q p r V.cb V.n V.nc x V.bl V.off N v V.tp y f)(c7:V.c<V.n)(e5:V.c%x=N)(g7:V.path=y V.c)(c8:V.gb=o.gb)(e6:V.gv=o.gv)
 (f0:D.size=26)(g3:Cp D=J)(g2:∀{a4:Xu Xy}{b:E},b∈Region.ready .any D a4->∀j∈dx b,a4.getD j Xp=J)
 (g9:bM D 0 (C 18) (.load 141 (.tmp 4)))(h0:bM D 1 (C 19) (.move (.tmp 5)))(i1:bM D 2 (C 20) (.load 141 (.tmp 4)))(i8:bM D 3 (C 21) (.move (.tmp 5)))(i9:bM D 4 (C 22) (.load 76 (.tmp 3)))(j0:bM D 5 (C 23) (.nilCheck (.tmp 22)))(j1:bM D 6 (C 24) (.fieldAddr 98 (.tmp 23) 2))(j2:bM D 7 (C 25) (.load 94 (.tmp 24)))(j3:bM D 8 (C 26) (.load 103 (.tmp 2)))(j4:bM D 9 (C 27) (.move (.tmp 5)))(h1:bM D 10 (C 28) (.indexAddr 103 (.tmp 26) (.tmp 27)))(h2:bM D 11 (C 29) (.fieldAddr 107 (.tmp 28) 0))(h3:bM D 12 (C 30) (.fieldAddr 105 (.tmp 29) 1))(h4:bM D 13 (C 31) (.fieldAddr 31 (.tmp 30) 1))(h5:bM D 14 (C 32) (.fieldAddr 28 (.tmp 31) 1))(h6:bM D 15 (C 33) (.load 9 (.tmp 32)))(h7:bM D 16 (C 34) (.call {callee:=.value (.func 58),args:=#[.tmp 25,.tmp 33],argTypes:=#[94,9]}))(h8:bM D 17 (C 17) (.move (.tmp 34)))(h9:bM D 18 (C 35) (.extract (.tmp 17) 0))(i0:bM D 19 (C 36) (.extract (.tmp 17) 1))(i2:bM D 20 (C 37) (.indexAddr 141 (.tmp 18) (.tmp 19)))(i3:bM D 21 (C 38) (.fieldAddr 158 (.tmp 37) 0))(i4:bM D 22 F (.store 154 (.tmp 38) (.tmp 35)))(i5:bM D 23 (C 39) (.indexAddr 141 (.tmp 20) (.tmp 21)))(i6:bM D 24 (C 40) (.fieldAddr 158 (.tmp 39) 1))(i7:bM D 25 F (.store 65 (.tmp 40) (.tmp 36)))
 {cl:bD}(g1:∀W∈cl,W.1+W.2.size<=V.c*10){id:E}{f3:Xu Xn}{e1:Xn}(d3:WR e l V H z q p r L (f V.c) (Array.replicate 26 Xp) f3 e1 m c h g)
 (next:∀S k m c h g a4,WR e l V H z q p r L (f V.c) a4 S k m c h g->f V.c S k c->(jg TP o fin O v aV e (s,cl++[(V.c*10,S)]++[(V.c*10+9,#[k])])).G m c (rg ((baseD 56).at g (XE D []::d)) Q)):
 (jg TP o fin O v aV e (s+2,cl)).G m c (rg ((baseD 56).at g (.code (.region id D J)::d)) Q):=by
 refine Ia (c:=λb6=>jg TP o fin O v aV e b6) rR g3 (WJ e l V H z q p r L (f V.c) s cl) ?_ ?_ (b:=(s+2,cl)) (s:=h) ?_
 .intro a4 b j6 k2 e7 c9 b6 m c h g f8;have U:=g2 e7;obtain⟨e8,g6,-⟩:=lC.1 e7;rw[f0]at e8;have a1:∀S k,∀c n:K,n.heap=c.heap->f V.c S k c->f V.c S k n:=λS k c n w d3=>Z.Vq w d3;have b4:b<a4.size:=by omega
  have b2:a4.getD b Xp=Xp:=by simp_all
  obtain⟨S,k,a,f6,e3,b5⟩:=f8
  have a0:b≠22->b≠25->b≠16->∀m c h g,WR e l V H z q p r L (f V.c) (a4.setIfInBounds b J) S k m c h g->(jg TP o fin O v aV e b6).G m c (rg ((baseD 56).at g (XE D j6::d)) Q):=by
   intro e2 f5 f7 m c h g d4;refine c9 b6 m c h g ⟨S,k,d4,?_,?_,?_⟩
   .rw[ep (Zh e2),ep (Zh f7)];exact f6
   .rw[ep (Zh e2),ep (Zh f5)];exact e3
   simp_all
  have c6:∀{b0:E}{b7:Xu Xn}{b3:XA}{b1:E×E}{j:E}{T:Xn},e b0->l.heap[b0]?=C (Xx b7 b3 b1)->b7[j]?=C T->∀X:K,X.heap=c.heap->X.cell? ⟨b0,j,F⟩=C T:=by
   intro b0 b7 b3 b1 j T f9 a3 c0 X g8;have:X.heap[b0]?=C (Xx b7 b3 b1):=by rw[g8,a.keep b0 f9,a3]
   simp_all [K.cell?]
  have k3:=Z.small;have g0:b=0\/b=1\/b=2\/b=3\/b=4\/b=5\/b=6\/b=7\/b=8\/b=9\/b=10\/b=11\/b=12\/b=13\/b=14\/b=15\/b=16\/b=17\/b=18\/b=19\/b=20\/b=21\/b=22\/b=23\/b=24\/b=25:=by omega
  clear g6 e8;rcases g0 with rfl|rfl|rfl|rfl|rfl|rfl|rfl|rfl|rfl|rfl|rfl|rfl|rfl|rfl|rfl|rfl|rfl|rfl|rfl|rfl|rfl|rfl|rfl|rfl|rfl|rfl
  ·
   obtain⟨b3,b1,a3⟩:=Z.h4;exact OM (λn w=>a1 S k _ n w) g9 b4 b2 (by omega) (by simp[wT]) (by simp[wK]) (by omega) e6.symm (by rw[Z.gs,c8]) a3 Z.x4 a (a0 (by decide) (by decide) (by decide))
  ·
   obtain⟨d0,d1,d2⟩:=cE a.t5;refine eZ (λn w=>a1 S k _ n w) h0 (by rfl) (by decide) (by decide) (v:=Xo M V.c) (by simp[wT]) (by omega) a (λX i R W Y=>?_) (a0 (by decide) (by decide) (by decide))
   go_wp2
   first|exact⟨rfl,i⟩|exact i|skip
  ·
   obtain⟨b3,b1,a3⟩:=Z.h4;exact OM (λn w=>a1 S k _ n w) i1 b4 b2 (by omega) (by simp[wT]) (by simp[wK]) (by omega) e6.symm (by rw[Z.gs,c8]) a3 Z.x4 a (a0 (by decide) (by decide) (by decide))
  ·
   obtain⟨d0,d1,d2⟩:=cE a.t5;refine eZ (λn w=>a1 S k _ n w) i8 (by rfl) (by decide) (by decide) (v:=Xo M V.c) (by simp[wT]) (by omega) a (λX i R W Y=>?_) (a0 (by decide) (by decide) (by decide))
   go_wp2
   first|exact⟨rfl,i⟩|exact i|skip
  ·
   obtain⟨d0,d1,d2⟩:=cE a.t3;obtain⟨b3,b1,a3⟩:=Z.h2;have a5:=c6 (j:=0) Z.x2 a3 A;refine eZ (λn w=>a1 S k _ n w) i9 (by rfl) (by decide) (by decide) (v:=pt V.cb 0) (by simp[wT]) (by omega) a (λX i R W Y=>?_) (a0 (by decide) (by decide) (by decide));replace a5:=a5 X i
   go_wp2
   first|exact⟨rfl,i⟩|exact i|skip
  ·
   obtain⟨a6,a7,a8⟩:=a.eval (i:=4) (d:=22) (v:=pt V.cb 0) (by simp[wT]) (U 4 (by simp[dx]));refine eZ (λn w=>a1 S k _ n w) j0 (by rfl) (by decide) (by decide) (v:=pt V.cb 0) (by simp[wT]) (by omega) a (λX i R W Y=>?_) (a0 (by decide) (by decide) (by decide))
   go_wp2
   first|exact⟨rfl,i⟩|exact i|skip
  ·
   obtain⟨a6,a7,a8⟩:=a.eval (i:=5) (d:=23) (v:=pt V.cb 0) (by simp[wT]) (U 5 (by simp[dx]));refine eZ (λn w=>a1 S k _ n w) j1 (by rfl) (by decide) (by decide) (v:=pt V.cb 2) (by simp[wT]) (by omega) a (λX i R W Y=>?_) (a0 (by decide) (by decide) (by decide))
   go_wp2
   first|exact⟨rfl,i⟩|exact i|skip
  ·
   obtain⟨a6,a7,a8⟩:=a.eval (i:=6) (d:=24) (v:=pt V.cb 2) (by simp[wT]) (U 6 (by simp[dx]));obtain⟨b7,b3,b1,a3,_,c0⟩:=Z.hc;have a5:=c6 Z.xc a3 c0;refine eZ (λn w=>a1 S k _ n w) j2 (by rfl) (by decide) (by decide) (v:=V.tp) (by simp[wT]) (by omega) a (λX i R W Y=>?_) (a0 (by decide) (by decide) (by decide));replace a5:=a5 X i
   go_wp2
   first|exact⟨rfl,i⟩|exact i|skip
  ·
   obtain⟨d0,d1,d2⟩:=cE a.t2;obtain⟨b3,b1,a3⟩:=Z.h3;have a5:=c6 (j:=0) Z.x3 a3 A;refine eZ (λn w=>a1 S k _ n w) j3 (by rfl) (by decide) (by decide) (v:=Xw (C ⟨V.bl,V.off,F⟩) V.n V.nc) (by simp[wT]) (by omega) a (λX i R W Y=>?_) (a0 (by decide) (by decide) (by decide));replace a5:=a5 X i
   go_wp2
   first|exact⟨rfl,i⟩|exact i|skip
  ·
   obtain⟨d0,d1,d2⟩:=cE a.t5;refine eZ (λn w=>a1 S k _ n w) j4 (by rfl) (by decide) (by decide) (v:=Xo M V.c) (by simp[wT]) (by omega) a (λX i R W Y=>?_) (a0 (by decide) (by decide) (by decide))
   go_wp2
   first|exact⟨rfl,i⟩|exact i|skip
  ·
   obtain⟨a6,a7,a8⟩:=a.eval (i:=8) (d:=26) (v:=Xw (C ⟨V.bl,V.off,F⟩) V.n V.nc) (by simp[wT]) (U 8 (by simp[dx]));obtain⟨k4,k5,k6⟩:=a.eval (i:=9) (d:=27) (v:=Xo M V.c) (by simp[wT]) (U 9 (by simp[dx]));refine eZ (λn w=>a1 S k _ n w) h1 (by rfl) (by decide) (by decide) (v:=pt V.bl (V.off+V.c*9)) (by simp[wT]) (by omega) a (λX i R W Y=>?_) (a0 (by decide) (by decide) (by decide))
   go_wp2
   first|exact⟨rfl,i⟩|exact i|skip
  ·
   obtain⟨a6,a7,a8⟩:=a.eval (i:=10) (d:=28) (v:=pt V.bl (V.off+V.c*9)) (by simp[wT]) (U 10 (by simp[dx]));refine eZ (λn w=>a1 S k _ n w) h2 (by rfl) (by decide) (by decide) (v:=pt V.bl (V.off+V.c*9)) (by simp[wT]) (by omega) a (λX i R W Y=>?_) (a0 (by decide) (by decide) (by decide))
   go_wp2
   first|exact⟨rfl,i⟩|exact i|skip
  ·
   obtain⟨a6,a7,a8⟩:=a.eval (i:=11) (d:=29) (v:=pt V.bl (V.off+V.c*9)) (by simp[wT]) (U 11 (by simp[dx]));refine eZ (λn w=>a1 S k _ n w) h3 (by rfl) (by decide) (by decide) (v:=pt V.bl (V.off+V.c*9+1)) (by simp[wT]) (by omega) a (λX i R W Y=>?_) (a0 (by decide) (by decide) (by decide))
   go_wp2
   first|exact⟨rfl,i⟩|exact i|skip
  ·
   obtain⟨a6,a7,a8⟩:=a.eval (i:=12) (d:=30) (v:=pt V.bl (V.off+V.c*9+1)) (by simp[wT]) (U 12 (by simp[dx]));refine eZ (λn w=>a1 S k _ n w) h4 (by rfl) (by decide) (by decide) (v:=pt V.bl (V.off+V.c*9+1+1)) (by simp[wT]) (by omega) a (λX i R W Y=>?_) (a0 (by decide) (by decide) (by decide))
   go_wp2
   first|exact⟨rfl,i⟩|exact i|skip
  ·
   obtain⟨a6,a7,a8⟩:=a.eval (i:=13) (d:=31) (v:=pt V.bl (V.off+V.c*9+1+1)) (by simp[wT]) (U 13 (by simp[dx]));refine eZ (λn w=>a1 S k _ n w) h5 (by rfl) (by decide) (by decide) (v:=pt V.bl (V.off+V.c*9+1+1+1)) (by simp[wT]) (by omega) a (λX i R W Y=>?_) (a0 (by decide) (by decide) (by decide))
   go_wp2
   first|exact⟨rfl,i⟩|exact i|skip
  ·
   obtain⟨a6,a7,a8⟩:=a.eval (i:=14) (d:=32) (v:=pt V.bl (V.off+V.c*9+1+1+1)) (by simp[wT]) (U 14 (by simp[dx]));obtain⟨b7,b3,b1,a3,c0⟩:=Z.elem;have a5:=c6 Z.xl a3 (c0 V.c c7);refine eZ (λn w=>a1 S k _ n w) h6 (by rfl) (by decide) (by decide) (v:=.string V.path) (by simp[wT]) (by omega) a (λX i R W Y=>?_) (a0 (by decide) (by decide) (by decide));replace a5:=a5 X i
   go_wp2
   first|exact⟨rfl,i⟩|exact i|skip
  ·
   refine TE h7 b2 (U 7 (by simp[dx])) (U 15 (by simp[dx])) (by rw[g7];exact Z.look V.c c7) a1 a λj7 f4 m c h g d4=>c9 b6 m c h g ⟨j7,f4,d4,?_,?_,?_⟩
   .intro _;exact getD_eq b4
   .rw[ep (by decide),ep (by decide)];exact e3
   simp_all
  ·
   obtain⟨a6,a7,a8⟩:=a.eval (i:=16) (d:=34) (v:=.tuple #[.agg S,k]) (by simp[wT]) (U 16 (by simp[dx]));refine eZ (λn w=>a1 S k _ n w) h8 (by rfl) (by decide) (by decide) (v:=.tuple #[.agg S,k]) (by simp[wT]) (by simp_all [dx]) a (λX i R W Y=>?_) (a0 (by decide) (by decide) (by decide))
   go_wp2
   first|exact⟨rfl,i⟩|exact i|skip
  ·
   obtain⟨a6,a7,a8⟩:=a.eval (i:=17) (d:=17) (v:=.tuple #[.agg S,k]) (by simp[wT]) (U 17 (by simp[dx]));refine eZ (λn w=>a1 S k _ n w) h9 (by rfl) (by decide) (by decide) (v:=.agg S) (by simp[wT]) (by intro _;exact a.ord 17 (Xr A) (U 17 (by simp[dx]))) a (λX i R W Y=>?_) (a0 (by decide) (by decide) (by decide))
   go_wp2
   first|exact⟨rfl,i⟩|exact i|skip
  ·
   obtain⟨a6,a7,a8⟩:=a.eval (i:=17) (d:=17) (v:=.tuple #[.agg S,k]) (by simp[wT]) (U 17 (by simp[dx]));refine eZ (λn w=>a1 S k _ n w) i0 (by rfl) (by decide) (by decide) (v:=k) (by simp[wT]) (by intro _;exact a.ord 17 (Xr A) (U 17 (by simp[dx]))) a (λX i R W Y=>?_) (a0 (by decide) (by decide) (by decide))
   go_wp2
   first|exact⟨rfl,i⟩|exact i|skip
  ·
   refine uK i2 b4 b2 (by omega) (by simp[wT]) (c:=V.gb) (o:=V.c*10) (by simp[wK]) (by omega) a (λb8 R W Y=>?_) (a0 (by decide) (by decide) (by decide));have a9:=a.yF (i:=0) (d:=18) (v:=Xw (C ⟨V.gb,0,F⟩) V.n V.n) (by simp[wK]) (U 0 (by simp[dx]));have j5:=yN a.rel (a.tab (1,19,Xo M V.c) (by simp[wT]) (U 1 (by simp[dx])))
   grind [zh,cE]
  ·
   refine uK i3 b4 b2 (by omega) (by simp[wT]) (c:=V.gb) (o:=V.c*10+9*0) (by simp[wK]) (by omega) a (λb8 R W Y=>?_) (a0 (by decide) (by decide) (by decide));have a9:=a.yF (i:=20) (d:=37) (v:=pt V.gb (V.c*10)) (by simp[wK]) (U 20 (by simp[dx]));exact zg (by omega) (cE a9).1 b8 R W Y
  ·
   have d7:=U 18 (by simp[dx]);have b9:=a.ord 18 (Xs (Xr A)) d7;obtain⟨f1,f2,d6⟩:=Z.Vs _ _ _ _ (a.sn b9);have e0:a4.getD 25 Xp=Xp:=by simp_all
   rw[e0,b2]at b5;subst b5;have a9:=a.yF (i:=21) (d:=38) (v:=pt V.gb (V.c*10)) (by simp[wK]) (U 21 (by simp[dx]));rw[c8]at a9;refine IT (s:=s+1) i4 QF a.rel a9 (a.tab (18,35,.agg S) (by simp[wT]) d7) f1 f2 (by rw[Z.gn];omega) (λj g5=>Z.own V.c c7 e5 j (by omega)) (λW e9=>Xr (g1 W e9)) ?_;refine c9 _ m c h g ⟨S,k,a.done (Xr A),?_,?_,?_⟩
   .simp_all
   .simp_all
   rw[ep (by decide),e0,getD_eq b4];rfl
  ·
   refine uK i5 b4 b2 (by omega) (by simp[wT]) (c:=V.gb) (o:=V.c*10) (by simp[wK]) (by omega) a (λb8 R W Y=>?_) (a0 (by decide) (by decide) (by decide));have a9:=a.yF (i:=2) (d:=20) (v:=Xw (C ⟨V.gb,0,F⟩) V.n V.n) (by simp[wK]) (U 2 (by simp[dx]));have j5:=yN a.rel (a.tab (3,21,Xo M V.c) (by simp[wT]) (U 3 (by simp[dx])))
   grind [zh,cE]
  ·
   refine uK i6 b4 b2 (by omega) (by simp[wT]) (c:=V.gb) (o:=V.c*10+9*1) (by simp[wK]) (by omega) a (λb8 R W Y=>?_) (a0 (by decide) (by decide) (by decide));have a9:=a.yF (i:=23) (d:=39) (v:=pt V.gb (V.c*10)) (by simp[wK]) (U 23 (by simp[dx]));exact zg (by omega) (cE a9).1 b8 R W Y
  ·
   have d9:=U 22 (by simp[dx]);have d8:=U 19 (by simp[dx]);have b9:=a.ord 19 (Xs (Xs A)) d8;obtain⟨f1,f2,d6⟩:=Z.Vs _ _ _ _ (a.sn b9);rw[b2,d9]at b5;subst b5;have a9:=a.yF (i:=24) (d:=40) (v:=pt V.gb (V.c*10+9)) (by simp[wK]) (U 24 (by simp[dx]));rw[c8]at a9;have g4:k.cells=#[k]:=by generalize k=Y at d6;cases Y<;>first|rfl|(cases d6;done)
   refine IT (s:=s) i7 Tt a.rel a9 (a.tab (19,36,k) (by simp[wT]) d8) (by rw[g4];rfl) (by simp_all) (by rw[Z.gn];omega) (λj g5=>by have:=Z.own V.c c7 e5 (9+j) (by omega);simp_all) (λW e9=>?_) ?_
   .grind
   refine c9 _ m c h g ⟨S,k,a.done (Xs A),?_,?_,?_⟩
   .intro _;rw[ep (by decide)];exact b9
   .intro _;rw[ep (by decide)];exact d9
   simp_all
 .rintro a4 e4 b6 m c h g⟨S,k,a,_,_,b5⟩;rw[e4 25 (by omega)]at b5;subst b5;exact next S k m c h g a4 a (a.sn (e4 16 (by omega)))
 rw[f0];refine⟨f3,e1,d3,?_,?_,?_⟩
 .simp
 .simp
 rfl
end
variable{P:XI}{f:Set}{h:E->Prop}{o:K}{R:XC}{e:Xq Item}{S:Xq XC}{Z:E}{U:Xq E}{p:XF}{H:XF}{d:E}{z:E->Prop}
theorem LY{a5:Type}{p:Xu a5}(a:p.size=41):∃c d q H Y a0 a1 a2 a3 a4 e f g h i k l m n o r s t u v w x y z D L N O Q R S T U W X Z,p=#[c,d,q,H,Y,a0,a1,a2,a3,a4,e,f,g,h,i,k,l,m,n,o,r,s,t,u,v,w,x,y,z,D,L,N,O,Q,R,S,T,U,W,X,Z]:=by
 obtain⟨b⟩:=p
 iterate 41
  rcases b with _|⟨_,b⟩
  simp at a
 obtain rfl:=Za.1 (by simpa using a)
 grind
section
variable{main:Xy}
theorem FJ{a:Goal P f main h}{d:XU}{b:Xu XV}{k:Xu XA}{g:Xq (E×Xn)}(t:R.kind≠.early)(u:bM D Z F (.defer {callee:=.value (.func d),args:=b,argTypes:=k}))
 (v:ar f m ⟨[],g⟩ p H)(s:p.defers=[])
 (next:∀c,ar f m ⟨[dcall d (b.map H.eval)],g⟩ p c->a.G m o (rg (R.at c (XE D U::e)) S)):a.G m o (rg (R.at H (XE D (Z::U)::e)) S):=by
 obtain⟨⟨z,O,T,Q,L,N⟩,l,n,q,r⟩:=u;subst n q r;refine Goal.pure _ A rfl (λi=>?_) (next _ (v.MH s));exact Go.Conc.stepG_defer (P:=P) (main:=main) (a:=H) (w:=i) (k:=e) (cs:=S) (rest:=U) l A t A
end
def wH(d c a:E):E:=(d-a+c-1)/c
theorem KC{c a:E}(e:1<=c)(b:wH d c a=0):d<=a:=by unfold wH at b;apply Classical.byContradiction;intro f;rw[E.div_eq_zero_iff]at b;omega
theorem KB{c a:E}(g:1<=c)(b:wH d c a=s+1):a<d/\wH d c (a+c)=s:=by
 unfold wH at b⊢
 have f:a<d:=by apply Classical.byContradiction;intro h;rw[show d-a+c-1=c-1 by omega,aaT (by omega)]at b;cases b
 refine⟨f,?_⟩;by_cases hd:c<=d-a
 .have e:d-a+c-1=(d-(a+c)+c-1)+c:=by omega
  rw[e,E.add_div_right _ (by omega)]at b;omega
 rw[show d-(a+c)+c-1=c-1 by omega,aaT (by omega)];have e:d-a+c-1=(d-a-1)+c:=by omega
 rw[e,E.add_div_right _ (by omega),aaT (by omega)]at b;omega
section
variable{g:WD}{L:K}{t r v x O c N Q q T:E}{Y:Xn}{W:E->XM}{y:E->Xu Xn->Xn->K->Prop}
def EG(d c q:E)(y:E->Xu Xn->Xn->K->Prop)(cl:bD)(o:K):Prop:=∀e,e<d->e%c=q->∃b a,(e*10,b)∈cl/\(e*10+9,#[a])∈cl/\y e b a o
theorem zu(b:Jh g z L r v x u d O c N Q q T Y W y):∀cl(o:K) a,EG d c q y cl {o with tape:=a}->EG d c q y cl o:=λcl o a h e m n=>by obtain⟨p,f,i,k,l⟩:=h e m n;exact⟨p,f,i,k,b.Vq (c:={o with tape:=a}) (k:=o) A l⟩
structure TY(g:WD)(z:E->Prop)(L:K)(t r v x d c q:E)(y:E->Xu Xn->Xn->K->Prop)(n:E)(b:E×bD)(a:E)(cl:bD)(m:Ren)(o:K)(p H:XF):Prop where
 inv:Inv TP aV z m o
 keep:∀b,z b->o.heap[b]?=L.heap[b]?
 size:L.heap.size<=o.heap.size
 len:p.tmps.size=41
 defs:p.defers=[]
 t1:p.tmps[1]?=C (pt t 0)
 t2:p.tmps[2]?=C (pt r 0)
 t3:p.tmps[3]?=C (pt v 0)
 t4:p.tmps[4]?=C (pt x 0)
 t5:p.tmps[5]?=C (Xo M a)
 rel:ar aV m ⟨[dcall 57 #[pt g.Wg 0]],[(4,pt g.gv 0)]⟩ p H
 hx:b=(2*n,cl)
 hr:n=wH d c a
 mod:a%c=q
 small:a<2^41
 cls:∀k∈cl,k.1+k.2.size<=a*10
 Uo:∀e,e<d->e%c=q->e<a->∃w i,(e*10,w)∈cl/\(e*10+9,#[i])∈cl/\y e w i o
theorem Dq{e a c:E}(d:e%c=a%c)(f:a<=e)(g:e<a+c):e=a:=by obtain⟨b,rfl⟩:∃b,e=a+b:=⟨e-a,by omega⟩;have h:=E.sub_mod_eq_zero_of_mod_eq d;simp_all [Z_]
theorem EK(i:Jh g z L r v x u d O c N Q q T Y W y)(m2:q<c)(p2:z t)(k5:∃i7 k1,L.heap[t]?=C (Xx #[Xo M q] i7 k1))(h0:Inv TP aV z m L)(h4:m x g.gv)(l9:g.ty=151)
 {g1 g0 f9:Xn}(i6:an aV m (pt t 0) g1)(i5:an aV m (pt r 0) g0)(i4:an aV m (pt v 0) f9):
 jE TP aV z (ud g) (kZ TP g (EG d c q y) T aV z (2*wH d c q) []) m L (born TP {target:=.fn (.func 56) #[pt g.Wg 0,g1,g0,f9,pt g.gv 0],args:=#[]}):=by
 show(jg TP g (EG d c q y) (zu i) T aV z (2*wH d c q,[])).G m L _;refine Goal.pure _ A rfl (λg2=>vm Tryz.func56 (by decide) A) ?_;rw[enter_atD _ Tryz.func56 A]
 simp only[Tryz.ntmps56,YF,Yv,Zp,E.reduceAdd,E.reduceSub,Zu,
  Zv,ZE,Zy,Zw,Yz]
 have i2:=aX (f:=aV) (m:=m)
 have f3:ar aV m ⟨[],[(0,pt g.Wg 0),(4,pt g.gv 0)]⟩ ⟨#[I,pt t 0,pt r 0,pt v 0,pt x 0,I,I,I,I,I,I,I,I,I,I,I,I,I,I,I,I,I,I,I,I,I,I,I,I,I,I,I,I,I,I,I,I,I,I,I,I],[]⟩ ⟨#[pt g.Wg 0,g1,g0,f9,pt g.gv 0,I,I,I,I,I,I,I,I,I,I,I,I,I,I,I,I,I,I,I,I,I,I,I,I,I,I,I,I,I,I,I,I,I,I,I,I],[]⟩:=by
  refine⟨?_,⟨[],A,.nil⟩,by simp⟩;refine aY.arr (.cons (.bS trivial) (.cons i6 (.cons i5 (.cons i4 (.cons (.ptr ⟨h4,A,A⟩) ?_)))))
  repeat (first|exact .nil|refine .cons i2 ?_)
 generalize (⟨#[pt g.Wg 0,g1,g0,f9,pt g.gv 0,I,I,I,I,I,I,I,I,I,I,I,I,I,I,I,I,I,I,I,I,I,I,I,I,I,I,I,I,I,I,I,I,I,I,I,I],[]⟩:XF)=H at f3⊢
 have p0:=i.WE;have p1:=i.small;refine bu (eE ?_);refine FJ (by decide) ⟨_,A,A,A,A⟩ f3 A λj5 e6=>bO (bu ?_)
 have h3:H.eval (.tmp 0)=pt g.Wg 0:=by have:=f3.kn (0,pt g.Wg 0) (by simp);simp_all [cE]
 replace e6:ar aV m ⟨[dcall 57 #[pt g.Wg 0]],[(4,pt g.gv 0)]⟩ ⟨#[I,pt t 0,pt r 0,pt v 0,pt x 0,I,I,I,I,I,I,I,I,I,I,I,I,I,I,I,I,I,I,I,I,I,I,I,I,I,I,I,I,I,I,I,I,I,I,I,I],[]⟩ j5:=by simp only[Zl,Zj,Zs,h3]at e6;exact e6.less A (by simp)
 obtain⟨p6,o3,k9⟩:=k5;refine bW gU (by decide) (by decide) (z:=[4]) A (by rfl) h0 e6 (λX a2=>X=⟨#[I,pt t 0,pt r 0,pt v 0,pt x 0,Xo M q,Xo M q,I,I,I,I,I,I,I,I,I,I,I,I,I,I,I,I,I,I,I,I,I,I,I,I,I,I,I,I,I,I,I,I,I,I],[]⟩/\a2.heap=L.heap) (λa6 a0 _ _ _=>?_) (λX a2 a1 l _=>by rw[a1.2]) ?_
 .have h6:a6.cell? ⟨t,0,F⟩=C (Xo M q):=by simp_all [K.cell?]
  go_wp2
  exact⟨A,a0⟩
 rintro q0 _ n9 p9 h1 k3 i1⟨rfl,h8⟩;refine ik ?_
 refine qD (c:=λl=>jg TP g (EG d c q y) (zu i) T aV z l) (λm5 l m o H=>∃p b cl,TY g z L t r v x d c q y m5 l b cl m o p H) ?_ ?_ (wH d c q) (a:=(2*wH d c q,[]))
  ⟨_,q,[],⟨h1,λl _=>by rw[h8],by simp_all,A,A,A,A,A,A,A,i1,A,A,Z_ m2,by omega,by simp,λe f2 g6 i0=>by rw[Z_ (by omega)]at g6;omega⟩⟩
 .clear i1 h1 h8 k3 e6 f3 h3 k9 i2 i6 i5 i4 h4 h0;rintro s m3 l m o H⟨p,b,cl,a⟩;obtain⟨h7,l7⟩:=KB i.VL a.hr.symm;obtain⟨e8,g3⟩:=p;have a3:=a.len;simp only at a3;obtain⟨a8,i8,i9,j0,j1,j2,d8,f6,f7,f8,f5,d9,e0,e1,e2,e3,e4,a9,b0,b1,b2,b3,b4,b5,b6,b7,b8,b9,c0,c6,c7,c8,c9,d0,d1,d2,d3,d4,d5,d6,d7,rfl⟩:=LY a3;have hd:=a.defs;simp only at hd;subst hd;have q1:=a.t1;have n:=a.t2;have w:=a.t3;have a4:=a.t4;have a5:=a.t5;simp only[Yy,YI,YB,Yr]at q1 n w a4 a5;subst q1 n w a4 a5;have o9:(b:Xt)<d:=by omega
  obtain⟨m8,k2,g5⟩:=i.h3;refine bu (bu (bW gU (by decide) (by decide) (z:=[4]) A (by rfl) a.inv a.rel (λX a2=>X=⟨#[a8,pt t 0,pt r 0,pt v 0,pt x 0,Xo M b,d8,Xo M b,Xw (C ⟨N,Q,F⟩) d O,Xo M d,.bool J,d9,e0,e1,e2,e3,e4,a9,b0,b1,b2,b3,b4,b5,b6,b7,b8,b9,c0,c6,c7,c8,c9,d0,d1,d2,d3,d4,d5,d6,d7],[]⟩/\a2.heap=o.heap) (λa6 a0 _ _ _=>?_) (λX a2 a1 l _=>by rw[a1.2]) ?_))
  .have h6:a6.cell? ⟨r,0,F⟩=C (Xw (C ⟨N,Q,F⟩) d O):=by simp[K.cell?,a0,a.keep r i.x3,g5]
   go_wp2
   exact⟨A,a0⟩
  rintro n2 _ h2 g9 e9 k4 e7⟨rfl,e5⟩;refine iT (k:=J) (iU e9.base e7 (by decide) A) (sI (bu (ik ?_)));obtain rfl:=a.hx
  refine ON (V:=⟨u,Y,N,Q,d,O,b,g.gb,g.gv,W b⟩) i h7 a.mod A rfl rfl rfl (by decide+kernel) (λl3=>Hv (R:=26) A (by decide+kernel) l3) ⟨_,A,A,A,A⟩ ⟨_,A,A,A,A⟩ ⟨_,A,A,A,A⟩ ⟨_,A,A,A,A⟩ ⟨_,A,A,A,A⟩ ⟨_,A,A,A,A⟩ ⟨_,A,A,A,A⟩ ⟨_,A,A,A,A⟩ ⟨_,A,A,A,A⟩ ⟨_,A,A,A,A⟩ ⟨_,A,A,A,A⟩ ⟨_,A,A,A,A⟩ ⟨_,A,A,A,A⟩ ⟨_,A,A,A,A⟩ ⟨_,A,A,A,A⟩ ⟨_,A,A,A,A⟩ ⟨_,A,A,A,A⟩ ⟨_,A,A,A,A⟩ ⟨_,A,A,A,A⟩ ⟨_,A,A,A,A⟩ ⟨_,A,A,A,A⟩ ⟨_,A,A,A,A⟩ ⟨_,A,A,A,A⟩ ⟨_,A,A,A,A⟩ ⟨_,A,A,A,A⟩ ⟨_,A,A,A,A⟩ (s:=2*s) a.cls (f3:=#[]) (e1:=I) (L:=g9) (c:=g9) (h:=⟨#[a8,pt t 0,pt r 0,pt v 0,pt x 0,Xo M b,d8,Xo M b,Xw (C ⟨N,Q,F⟩) d O,Xo M d,.bool J,d9,e0,e1,e2,e3,e4,a9,b0,b1,b2,b3,b4,b5,b6,b7,b8,b9,c0,c6,c7,c8,c9,d0,d1,d2,d3,d4,d5,d6,d7],[]⟩) (z:=t)
   ⟨e9,λl g7=>by rw[e5,a.keep l g7],by rw[e5];exact a.size,A,A,A,A,A,A,A,λg4 l2 hd=>?_,e7,λa1=>absurd a1 (by decide),λj l4 a1=>?_,λ_ _=>rfl,Ye _⟩ ?_
  .exfalso;have:g4.1∈([0,1,2,3,4,5,6,7,8,9,10,11,12,13,14,15,16,17,18,19,20,21,23,24]:Xq E):=YL.2 ⟨g4,l2,A⟩;generalize g4.1=n1 at hd this
   revert hd
   revert n1
   decide
  .exfalso;rcases l4 with rfl|rfl|rfl<;>exact absurd a1 (by decide)
  intro f4 f0 n3 m9 j6 j7 j9 k h5;obtain⟨e8,g3⟩:=j6;have a3:=k.len;simp only at a3;obtain⟨a8,i8,i9,j0,j1,j2,d8,f6,f7,f8,f5,d9,e0,e1,e2,e3,e4,a9,b0,b1,b2,b3,b4,b5,b6,b7,b8,b9,c0,c6,c7,c8,c9,d0,d1,d2,d3,d4,d5,d6,d7,rfl⟩:=LY a3;have hd:=k.defs;simp only at hd;subst hd;have q1:=k.t1;have n:=k.t2;have w:=k.t3;have a4:=k.t4;have a5:=k.t5;simp only[Yy,YI,YB,Yr]at q1 n w a4 a5;subst q1 n w a4 a5
  have m0:ar aV n3 ⟨[dcall 57 #[pt g.Wg 0]],[(4,pt g.gv 0)]⟩ ⟨#[a8,pt t 0,pt r 0,pt v 0,pt x 0,Xo M b,d8,f6,f7,f8,f5,d9,e0,e1,e2,e3,e4,a9,b0,b1,b2,b3,b4,b5,b6,b7,b8,b9,c0,c6,c7,c8,c9,d0,d1,d2,d3,d4,d5,d6,d7],[]⟩ j7:=k.rel.less A (by
   intro i3 a7;simp only[YS]at a7;subst a7
   exact y_ _ (by simp))
  refine bO (CL ?_);obtain⟨p5,o2,k8⟩:=i.h2;obtain⟨n5,p7,o4,l0,k6,_⟩:=i.hc;refine bW gU (by decide) (by decide) (z:=[4]) A (by rfl) k.inv m0 (λX a2=>X=⟨#[a8,pt t 0,pt r 0,pt v 0,pt x 0,Xo M ((b+c:E):Xt),d8,f6,f7,f8,f5,Xo M b,pt u 0,pt u 0,pt u 1,Xo M c,Xo M ((b+c:E):Xt),a9,b0,b1,b2,b3,b4,b5,b6,b7,b8,b9,c0,c6,c7,c8,c9,d0,d1,d2,d3,d4,d5,d6,d7],[]⟩/\a2.heap=m9.heap) (λa6 a0 _ _ _=>?_) (λX a2 a1 l _=>by rw[a1.2]) ?_
  .have o7:a6.cell? ⟨v,0,F⟩=C (pt u 0):=by simp[K.cell?,a0,k.keep v i.x2,k8]
   have o8:a6.cell? ⟨u,1,F⟩=C (Xo M c):=by simp[K.cell?,a0,k.keep u i.xc,l0,k6]
   go_wp2
   exact⟨A,a0⟩
  rintro n4 _ j8 n0 j3 o5 m1⟨rfl,f1⟩;refine m3 _ n4 n0 j8 ⟨_,b+c,cl++[(b*10,f4)]++[(b*10+9,#[f0])],⟨j3,λl g7=>by rw[f1,k.keep l g7],by rw[f1];exact k.size,A,A,A,A,A,A,A,m1,A,l7.symm,by rw[E.add_mod_right];exact a.mod,by omega,?_,?_⟩⟩
  .intro i3 a7;have l8:=(i.Vs _ _ _ _ h5).1;simp only[YC,YS]at a7;rcases a7 with(a7|rfl)|rfl
   .have:=a.cls i3 a7;omega
   .simp only[l8];omega
   grind
  intro e f2 h9 l5;by_cases i0:e<b
  .obtain⟨m6,k0,q1,n,w⟩:=a.Uo e f2 h9 i0;refine⟨m6,k0,by simp[q1],by simp[n],i.VW _ _ _ _ _ w (λR o6=>?_) ?_⟩
   .rw[f1,k.Up R (by simp_all),e5]
   have:=k.TL;simp_all
  have:=Dq (by rw[h9,a.mod]) (by omega) l5;subst this;exact⟨f4,f0,by simp,by simp,i.Vq f1 h5⟩
 rintro l m o H⟨p,b,cl,a⟩;have h7:=KC i.VL a.hr.symm;obtain⟨e8,g3⟩:=p;have a3:=a.len;simp only at a3;obtain⟨a8,i8,i9,j0,j1,j2,d8,f6,f7,f8,f5,d9,e0,e1,e2,e3,e4,a9,b0,b1,b2,b3,b4,b5,b6,b7,b8,b9,c0,c6,c7,c8,c9,d0,d1,d2,d3,d4,d5,d6,d7,rfl⟩:=LY a3;have hd:=a.defs;simp only at hd;subst hd;have q1:=a.t1;have n:=a.t2;have w:=a.t3;have a4:=a.t4;have a5:=a.t5;simp only[Yy,YI,YB,Yr]at q1 n w a4 a5;subst q1 n w a4 a5;obtain⟨m8,k2,g5⟩:=i.h3;refine bu (bu (bW gU (by decide) (by decide) (z:=[4]) A (by rfl) a.inv a.rel (λX a2=>X=⟨#[a8,pt t 0,pt r 0,pt v 0,pt x 0,Xo M b,d8,Xo M b,Xw (C ⟨N,Q,F⟩) d O,Xo M d,.bool Xp,d9,e0,e1,e2,e3,e4,a9,b0,b1,b2,b3,b4,b5,b6,b7,b8,b9,c0,c6,c7,c8,c9,d0,d1,d2,d3,d4,d5,d6,d7],[]⟩/\a2.heap=o.heap) (λa6 a0 _ _ _=>?_) (λX a2 a1 l _=>by rw[a1.2]) ?_))
 .have h6:a6.cell? ⟨r,0,F⟩=C (Xw (C ⟨N,Q,F⟩) d O):=by simp[K.cell?,a0,a.keep r i.x3,g5]
  go_wp2
  exact⟨by simp_all,a0⟩
 rintro n2 _ h2 g9 e9 k4 e7⟨rfl,e5⟩;refine iT (k:=Xp) (iU e9.base e7 (by decide) A) (sH A ?_);refine Goal.pure _ A rfl (λg2=>by rw[bm A];simp[stepG.exec,Frame.at,rg];rfl) ?_;obtain⟨e8,o0⟩:=h2;obtain⟨j9,l1,l6⟩:=e7.defers;cases l6;subst l1;obtain rfl:=a.hx;refine .stop ⟨A,⟨24,λg2 k=>?_⟩,?_⟩
 .have k7:QuitsD TP 2 0 (rg {(baseD 56).at ⟨e8,[]⟩ []with mode:=.returning} [dB TP]):=yu (l:=[]) A Tryz.func56 A;have hd:=Go.SimW.QM (P:=TP) (L:=kU) IV (f:=g.Wg) (l:={(baseD 56).at ⟨e8,[]⟩ []with mode:=.returning}) (d:=[dB TP]) A k7;rw[l9]at k⊢
  refine Go.SimW.ew (P:=TP) (main:=Xp) (i:=151) (f:=g.Wg) (e:=23) A (λo _=>?_) hd g2 k;rfl
 intro e f2 g6;obtain⟨f4,f0,q1,n,w⟩:=a.Uo e f2 g6 (by omega);exact⟨f4,f0,q1,n,i.Vq e5 w⟩
end
variable{d:XC}{a:XF}{f:Xq Item}{e:Xq XC}{l:E}{g:Xq E}{h:Xu Xn}
theorem QT(a:K)(b:Xu XQ):(zeroValue 151).runT TP a b=(.ok (.agg #[.int .u64 0,.int .u32 0]) a,b):=by
 refine aag ?_ ?_
 .go_simp
 simp[go_sem]
theorem LX(a:K):(Instr.alloc 151 J (.tuple #[])).runT TP a #[]=(.ok (XK (C ⟨a.heap.size,0,F⟩)) {a with heap:=a.heap.push (Go.ConcR.wgBlock 151 0 0)},#[]):=by show XJ.runT TP ((zeroValue 151).bind _) a #[]=_;rw[Go.Sem.runT_bind',QT];rfl
section
variable{main:Xy}
theorem EZ(q:d.kind≠.early)(s:bM D l (C j) (.alloc 151))(r:∀fn,TP.funcs[d.fn]?=C fn->fn.norace=Xp)(b:K):
 stepG TP main (rg (d.at a (XE D (l::g)::f)) e) b=.go (rg (d.at (a.put (C j) (pt b.heap.size 0)) (XE D g::f)) e) {b with heap:=b.heap.push (Go.ConcR.wgBlock 151 0 0)}:=by
 obtain⟨⟨u,w,n,m,h,v⟩,o,i,k,p⟩:=s;subst i k p
 have c:(execOp a.eval ⟨C j,.alloc 151,n,m,h,F⟩).runT TP b #[]=(.ok (.value (pt b.heap.size 0)) {b with heap:=b.heap.push (Go.ConcR.wgBlock 151 0 0)},#[]):=by show XJ.runT TP ((Instr.alloc 151 J (.tuple #[])).bind _) b #[]=_;rw[Go.Sem.runT_bind',LX];rfl
 have i:(execOp a.eval ⟨C j,.alloc 151,n,m,h,F⟩).run TP b=.ok (.value (pt b.heap.size 0)) {b with heap:=b.heap.push (Go.ConcR.wgBlock 151 0 0)}:=by rw[D_]at c;exact(E_ c).1
 have k:(execOp a.eval ⟨C j,.alloc 151,n,m,h,F⟩).events TP b #[]=#[]:=by rw[D_]at c;exact(E_ c).2
 have:=Go.Conc.stepG_value (P:=TP) (main:=main) (a:=a) (b:=d) (k:=f) (cs:=e) (rest:=g) o A q i;refine abC this ?_;rw[listed,k,seen_cells r (by simp)];rfl
theorem go_step{c:XU}(u:d.kind≠.early)(w:bM D l F (.go {callee:=.value (.tmp j),args:=#[],argTypes:=#[]}))(v:∀fn,P.funcs[d.fn]?=C fn->fn.norace=Xp)(t:a.tmps[j]?=C (.func (.func c) #[] h))(b:K):
 stepG P main (rg (d.at a (XE D (l::g)::f)) e) b=.spawn (rg (d.at a (XE D g::f)) e) (born P {target:=.fn (.func c) h,args:=#[]}) b #[]:=by
 obtain⟨⟨L,Q,y,x,q,N⟩,r,k,m,s⟩:=w;subst k m s;have O:a.eval (.tmp j)=.func (.func c) #[] h:=by simp[Act.eval,t]
 have n:(execOp a.eval ⟨F,.go {callee:=.value (.tmp j),args:=#[],argTypes:=#[]},y,x,q,F⟩).runT P b #[]=(.ok (.spawn {target:=.fn (.func c) h,args:=#[]}) b,#[]):=by simp_all [execOp,resolve,Deferred.ofValue]
 rw[D_]at n;have k:=(E_ n).1;have m:=(E_ n).2;have:=Go.Conc.stepG_spawn (P:=P) (main:=main) (a:=a) (b:=d) (k:=f) (cs:=e) (rest:=g) r A u k A;refine abC this ?_;rw[listed,m,seen_cells v (by simp)];rfl
end
variable{f:Set}{h:E->Prop}{b:K}{a:E}{O:Xz XG}{c:Xq XC}
def tl:XR->XR
 |.seq _ b=>b
 |a=>a
def hd:XR->XR
 |.seq b _=>b
 |a=>a
noncomputable def lM:XR:=(Tryz.f39.body).getD .skip
def tq(u c d e f a b:E)(O:Xz XG):XF:=⟨#[pt u 0,.slice O a b,pt c 0,pt d 0,pt e 0,I,I,I,I,.slice O a b,Xo M a,Xw (C ⟨f,0,F⟩) a a,I,I,I,I,I,I,I,I,I,I,I,I,I,I,I,I,I,I,I,I,I,I,I,I,I,I,I,I,I,I,I],[]⟩
theorem cf{a:Xu Obj}{d:Obj}{b:E}(c:b<a.size):(a.push d)[b]?=a[b]?:=by rw[R_ c,Yb c]
theorem zf(c:Inv P f h m b){a:E}(e:h a):a<b.heap.size:=by obtain⟨g,d,_⟩:=c.cQ a e;exact(XZ.1 d).1
theorem Qe(a:E)(k:a<2^30)(b:K):∃cl:Xu Xn,cl.size=a*10/\(Instr.makeSlice 141 (Xo M a) (Xo M a)).run TP b=.ok (Xw (C ⟨b.heap.size,0,F⟩) a a) (b.alloc (.cells cl 158)):=by
 obtain⟨c,f,i,g,d,h⟩:∃c,TP.info? 158=C c/\c.bytes<=1000/\c.size=10/\∃d,c.zero=C d:=by refine⟨_,A,by decide,A,_,A⟩
 have e:=Go.run_make (P:=TP) b 141 158 c d A f h M M a a (by omega) (Int.le_refl _) (by
  have:(c.bytes:Xt)*a<=1000*a:=Xt.mul_le_mul_of_nonneg_right (by omega) (by omega)
  omega) (by omega)
 simp only[Xt.toNat_natCast]at e;exact⟨_,by rw[size_madeCells,g],e⟩
theorem Ts{R:Goal TP al J h}{e:E}{g:Xu Xn}{S:XC}(a3:a<2^30)
 (k:Inv TP al h m b)(n:aw al m #[pt u 0,.slice O a e] g)
 (next:∀q d w,Inv TP al h q d->cX h m b q d->ar al q ⟨[],[]⟩ (tq u b.heap.size (b.heap.size+1) (b.heap.size+3) (b.heap.size+2) a e O) w->
   (∃cl:Xu Xn,cl.size=a*10/\d.heap=(((b.heap.push (.cells #[pt u 0] 76)).push (.cells #[.slice O a e] 103)).push (.cells cl 158)).push (.cells #[Xw (C ⟨b.heap.size+2,0,F⟩) a a] 141))->
   R.G q d (rg ((base 39).at w [.code (tl (tl lM))]) (S::c))):R.G m b (rg (Frame.enter TP 39 g .normal) (S::c)):=by
 have x:Frame.enter TP 39 g .normal=(base 39).at ⟨g++Array.replicate (43-g.size) I,[]⟩ [.code lM]:=by simp[Frame.enter,Frame.at,base,Tryz.func39];rfl
 rw[x];obtain⟨o,p,rfl⟩:∃o p,g=#[o,p]:=by have:=n.1;simp at this;exact⟨g[0],g[1],by apply aas (by simp[<-this]);intro W b1 a1;simp at a1;rcases(by omega:W=0\/W=1)with rfl|rfl<;>simp⟩
 have L:an al m (pt u 0) o:=n.2 0 _ _ A rfl;have N:an al m (.slice O a e) p:=n.2 1 _ _ A rfl;have D:=aX (f:=al) (m:=m)
 simp only[YF,Yv,Zp,E.reduceAdd,E.reduceSub,Zu,
  Zv,ZE,Zy,Zw,Yz]
 have s:ar al m ⟨[],[]⟩ ⟨#[pt u 0,.slice O a e,I,I,I,I,I,I,I,I,I,I,I,I,I,I,I,I,I,I,I,I,I,I,I,I,I,I,I,I,I,I,I,I,I,I,I,I,I,I,I,I,I],[]⟩ ⟨#[o,p,I,I,I,I,I,I,I,I,I,I,I,I,I,I,I,I,I,I,I,I,I,I,I,I,I,I,I,I,I,I,I,I,I,I,I,I,I,I,I,I,I],[]⟩:=by
  refine⟨?_,⟨[],A,.nil⟩,by simp⟩;refine aY.arr (.cons L (.cons N ?_))
  repeat (first|exact .nil|refine .cons D ?_)
 generalize (⟨#[o,p,I,I,I,I,I,I,I,I,I,I,I,I,I,I,I,I,I,I,I,I,I,I,I,I,I,I,I,I,I,I,I,I,I,I,I,I,I,I,I,I,I],[]⟩:XF)=w at s⊢
 refine bu (bW aC (by decide) (by decide) (z:=[]) A (by decide+kernel) k s (λl d=>l=⟨#[pt u 0,.slice O a e,pt b.heap.size 0,pt (b.heap.size+1) 0,I,I,I,I,I,I,I,I,I,I,I,I,I,I,I,I,I,I,I,I,I,I,I,I,I,I,I,I,I,I,I,I,I,I,I,I,I,I,I],[]⟩/\d.heap=(b.heap.push (.cells #[pt u 0] 76)).push (.cells #[.slice O a e] 103)) (λt i _ _ _=>?_) ?_ ?_)
 .clear next n x s L N D k
  go_wp2
  exact⟨by simp[i],by simp[World.alloc,i]⟩
 .rintro l d⟨_,y⟩ a7 H;have:=zf k H;rw[y,cf (by simp;omega),cf this]
 rintro q _ a9 d Q T U⟨rfl,r⟩;refine bu (bW aC (by decide) (by decide) (z:=[]) A (by decide+kernel) Q U (λl v=>l=tq u b.heap.size (b.heap.size+1) (b.heap.size+3) (b.heap.size+2) a e O/\∃cl:Xu Xn,cl.size=a*10/\v.heap=((d.heap.push (.cells cl 158)).push (.cells #[Xw (C ⟨b.heap.size+2,0,F⟩) a a] 141))) (λt i _ _ _=>?_) ?_ ?_)
 .have b0:t.cell? ⟨b.heap.size+1,0,F⟩=C (.slice O a e):=by simp[K.cell?,i,r,Xu.getElem_push]
  have a4:t.heap.size=b.heap.size+2:=by rw[i,r];simp
  clear next n x s U L N D k Q T
  go_wp2
  obtain⟨cl,z,a2⟩:=Qe a a3 t;rw[a2]
  go_wp2
  exact⟨A,cl,z,by simp[World.alloc,i]⟩
 .rintro l v⟨_,cl,_,y⟩ a7 H;have a4:d.heap.size=b.heap.size+2:=by rw[r];simp
  have:=zf k H;rw[y,cf (by simp;omega),cf (by omega)]
 rintro a8 _ Y v X Z a5⟨rfl,cl,z,a0⟩;exact next a8 v Y X (T.trans Z) a5 ⟨cl,z,by rw[a0,r]⟩
end
end Go.Sim
namespace Go.Sim
open Go.Conc Go.Proofs Go.RowKit
open Go.ConcN (PermW PermW.app PermW.of fork_knows WgLive RelBy sumTo)
open Go.ConcR (KK wgBlock WgAt stA smA rd wr mk DC0)
open Go.ConcR.Gen Go.ConcN.Gen Go.Conc.Lib
variable{P:XI}{f:Set}{h:E->Prop}{m:Ren}{l:K}{d:XC}{n:Xq XC}{r:XF}{c:XF}{g:Xq Item}{p:E}{q:Xq E}{D:Xu Oper}{j:E}{s:Xn}{X:E->Prop}{z:eA}
section
variable[Inhabited aN]
section
variable{Sp:Set}{main:Xy}{t:Goal P f main h}{β':Ren}
variable{u:Rt}
theorem PK(T:Good P f)(a0:f.fr d.fn=J)(a1:d.kind≠.early){k:Xq Oper}{O:Xq E}(a2:u.kn.map (·.1)=O)(a4:nl P f O k.toArray=J)(a3:P.follows .mixedOrders=J)(L:Region.lexB .any k.toArray=J){id:E}(U:Inv P f h m l)(a5:ar f m u r c)(y:XF->Prop)
 (i:∀Q:K,Q.heap=l.heap->wpQuiet P k.toArray (λw=>∃v,w=Q.drewN v) y k r)
 (next:∀x b H a,Inv P f h x a->cX h m l x a->ar f x u b H->y b->a.heap=l.heap->t.G x a (rg (d.at H g) n)):t.G m l (rg (d.at c (.code (.region id k.toArray J)::g)) n):=by
 refine MW (o:=λb a=>y b/\a.heap=l.heap) (xF T a0 a1 (rm a2 a4) a3 (i:=λb a=>y b/\a.heap=l.heap) (λN=>?_) (λb a i o _=>by rw[i.2]) λb a i=>i) U a5 λx b H a W Z a6 i=>next x b H a W Z a6 i.1 i.2
 simp only[Region.lexB,Ys]at L;refine wpAny_of_quiet (C:=λw=>∃v,w=({l with tape:=N}:K).drewN v) (Q:=y) (λr w a7 i=>?_) _ _ _ _ ⟨0,A⟩ ?_
 .obtain⟨v,rfl⟩:=a7;exact⟨i,A⟩
 have:=wpAnyQ_lex (C:=λw=>∃v,w=({l with tape:=N}:K).drewN v) (md:=.any) L.1 k 0 (Array.replicate k.toArray.size Xp) r (by simp) (by simpa using L.2) (i {l with tape:=N} A);simpa using this
theorem vD{w:Xz Tmp}{b:XU}{e:Xu XV}{u:Xu XA}{fn:Func}{v:XR}(z:d.kind≠.early)(L:bM D p w (.call {callee:=.value (.func b),args:=e,argTypes:=u}))
 (s:P.funcs[b]?=C fn)(H:(fn.name== "runtime.NumGoroutine")=Xp)(o:fn.body=C v)(a:K):
 stepG P main (rg (d.at c (XE D (p::q)::g)) n) a=.go (rg (Frame.enter P b (e.map c.eval) .normal) (d.at c (XE D (p::q)::g)::n)) a:=by
 obtain⟨⟨R,T,W,U,S,f⟩,y,i,k,m⟩:=L;simp only at i k m;subst i k m
 have:=goes_call (P:=P) (main:=main) (w:=a) (cs:=n) (k:=g) (rest:=q) (a:=c) (b:=d) (K:=λf l h=>f=rg (Frame.enter P b (e.map c.eval) .normal) (d.at c (XE D (p::q)::g)::n)/\l=a/\h=#[]) y A z A s H o ⟨by simp[G,rg,Frame.enter,Frame.at,base,s,o],A,A⟩
 obtain⟨f,l,h,x,rfl,rfl,rfl⟩:=aaR this;exact x
theorem ar.Nt{k:Xn}(b:ar f m u r c)(v:c.tmps[j]?=C k)(x:an f m s k):ar f m u (r.put (C j) s) c:=by
 have H:=(XZ.1 v).1;refine⟨⟨by simp[Act.put,b.tmps.1],λp o y a i=>?_⟩,b.defers,b.kn⟩;simp only[Act.put]at a;rw[Zb]at a;by_cases w:j=p
 .subst w;rw[XN A]at a;split at a
  .cases a;rw[v]at i;cases i;exact x
  cases a
 rw[XH w]at a;exact b.tmps.2 p o y a i
theorem ar.part(a:ar f m u r c)(hd:r.defers=[])(i:∀(p:E) o,r.tmps[p]?=C o->aQ X o\/bN o)(b:∀o S,X o->m o S->β' o S):ar Sp β' u (Act.jk X r) c:=by have:=(a.jk (Sp:=Sp) hd i).mono (β₁:=β') λo S a=>b o S a.1 a.2;exact this
theorem aQ.mono{w:E->Prop}(k:∀r,X r->w r)(a:aQ X s):aQ w s:=by
 induction a with
 |bS=>exact .bS
 |bool d=>exact .bool d
 |int g b=>exact .int g b
 |string x=>exact .string x
 |cJ=>exact .cJ
 |ptr a=>exact .ptr (k _ a)
 |aO b i=>exact .aO b i
 |slice a b i=>exact .slice (k _ a) b i
 |iface y _ v=>exact .iface y v
 |nilIface=>exact .nilIface
 |agg _ v=>exact .agg v
 |map a=>exact .map (k _ a)
 |fw=>exact .fw
 |eg=>exact .eg
 |nilFunc=>exact .nilFunc
end
section
variable{t:dc}{e:dv}{u:Rt}{o S:XV}
theorem PC(s:Xn):Frame.enter TP 55 #[s,Xo M 1] .normal=(base 55).at ⟨#[s,Xo M 1,I,I,I,I,I,I,I,I,I,I,I,I,I,I,I,I,I,I,I,I,I,I,I,I,I,I,I,I,I,I,I,I,I,I,I,I,I,I,I,I,I,I,I,I,I,I,I,I,I,I,I,I,I,I,I,I,I,I,I,I,I,I,I,I,I,I,I,I,I,I,I,I,I,I,I,I,I,I,I,I,I,I,I,I,I,I,I,I,I,I,I,I,I,I,I,I,I,I,I,I,I,I,I,I,I,I,I,I,I,I,I,I,I,I,I],[]⟩ [.code (body_add kU)]:=by
 have a:Frame.enter TP 55 #[s,Xo M 1] .normal=(base 55).at ⟨#[s,Xo M 1]++Array.replicate (117-2) I,[]⟩ [.code (body_add kU)]:=by simp[Frame.enter,Frame.at,base,Tryz.func55];rfl
 rw[a];simp only[E.reduceSub,Zu,Zv,ZE,Zy,Zw,Yz]
theorem PE(s:Xn):Frame.enter TP 59 #[s] .normal=(base 59).at ⟨#[s,I,I,I,I,I,I,I,I,I,I,I,I,I,I,I,I,I,I,I,I,I,I,I,I,I,I,I,I,I,I,I,I,I,I,I,I,I,I,I,I,I,I,I,I,I,I,I,I,I,I,I,I,I,I,I,I,I,I,I,I,I,I,I,I,I,I,I,I,I,I,I,I,I,I,I,I,I,I,I,I,I,I,I],[]⟩ [.code (body_wait kU)]:=by
 have a:Frame.enter TP 59 #[s] .normal=(base 59).at ⟨#[s]++Array.replicate (84-1) I,[]⟩ [.code (body_wait kU)]:=by simp[Frame.enter,Frame.at,base,Tryz.func59];rfl
 rw[a];simp only[E.reduceSub,Zu,Zv,ZE,Zy,Zw,Yz]
theorem LP(U:d.kind≠.early)(H:bM D p (C j) (.call {callee:=.value (.func 55),args:=#[o,S],argTypes:=#[151,3]}))(i:c.eval o=pt e.D.Wg 0)(a1:c.eval S=Xo M 1)(a0:e.wt=0)(W:e.pend=0)(Z:e.D.ty=151)
 (R:u.free (C j)=J)(Y:ar f m u r c)
 (next:∀v,ar f m u (r.put (C j) (.tuple #[])) v->(goalAt TP t (C {e with pend:=1}) z f h).G m l (rg (d.at v (XE D q::g)) n)):
 (goalAt TP t (C e) z f h).G m l (rg (d.at c (XE D (p::q)::g)) n):=by
 refine Goal.pure _ A rfl (λa=>vD U H Tryz.func55 (by decide) A a) ?_;have N:#[o,S].map c.eval=#[pt e.D.Wg 0,Xo M 1]:=by simp[i,a1]
 rw[N,PC];obtain⟨b1,O,Q,a8,a9⟩:=H;intro w x a sl L k b;have T:G (d.at (c.put ((D[p]?).bind (·.dst)) (.tuple #[])) (XE D q::g)) n=rg (d.at (c.put (C j) (.tuple #[])) (XE D q::g)) n:=by rw[O];simp only[d_,Q];rfl
 refine Nz (d:=e) (u:=rg (d.at (c.put (C j) (.tuple #[])) (XE D q::g)) n) (s:=20) A a0 W A (λa y=>?_) (λw x a sl L k b=>next _ (Y.put _ R (.tuple A λp o b2 i _=>by simp at i)) w x a sl L k b) b;have:=Go.SimW.TF (P:=TP) (L:=kU) (a:=e.D.Wg) IV T;rw[Z]at y⊢
 exact this a y
theorem Le(a4:d.kind≠.early)(O:bM D p (C j) (.call {callee:=.value (.func 59),args:=#[o],argTypes:=#[151]}))(a7:c.eval o=pt e.D.Wg 0)(a6:e.wt=0)(a5:e.pend=0)(Q:e.D.ty=151)
 (a1:∀b i a k v x,dJ (aj TP t) 0 b i a k v ⟨f,m,l,h,F⟩ x->sc TP t e b i a k v ⟨f,m,l,h,F⟩->∃y β' L H,dJ (aj TP t) 0 b i a k y ⟨f,β',L,H,F⟩ x/\
   (goalAt TP t F z f H).G β' L (rg (d.at (c.put (C j) (.tuple #[])) (XE D q::g)) n)):
 (goalAt TP t (C e) z f h).G m l (rg (d.at c (XE D (p::q)::g)) n):=by
 refine Goal.pure _ A rfl (λa=>vD a4 O Tryz.func59 (by decide) A a) ?_;have U:#[o].map c.eval=#[pt e.D.Wg 0]:=by simp[a7]
 rw[U,PE];obtain⟨c7,Y,Z,b7,b8⟩:=O;intro b i a sl k v w;have a3:G (d.at (c.put ((D[p]?).bind (·.dst)) (.tuple #[])) (XE D q::g)) n=rg (d.at (c.put (C j) (.tuple #[])) (XE D q::g)) n:=by rw[Y];simp only[d_,Z];rfl
 refine Ki (d:=e) (Q:=rg (d.at (c.put (C j) (.tuple #[])) (XE D q::g)) n) (s:=6) (a3:=Go.SimW.Ha kU e.D.Wg (d.at c (XE D (p::q)::g)) n) A a6 a5 A ?_ (λa N=>?_) (λW l a2=>⟨30,?_⟩) (λb i a k v x w a0=>?_) w
 .rintro W l⟨e,rfl,_⟩;rfl
 .have:=Go.SimW.QN (P:=TP) (L:=kU) (h:=e.D.Wg) (l:=d) (k:=c) (r:=D) (s:=p) (u:=q) (t:=g) (a:=n) IV;rw[Q]at N⊢
  exact this a N
 .have:=Go.SimW.OO (P:=TP) (L:=kU) (h:=e.D.Wg) IV a3 a2;rw[Q];exact this
 obtain⟨y,β',L,H,a8,a9⟩:=a1 b i a k v x w a0;exact⟨y,_,a8,λb i a sl k v w=>a9 b i a sl k v w⟩
end
end
end Go.Sim
namespace Go.Sim
open Go.Conc Go.Proofs Go.RowKit
open Go.ConcN (PermW PermW.app PermW.of fork_knows WgLive RelBy sumTo)
open Go.ConcR (KK wgBlock WgAt stA smA rd wr mk DC0)
variable{R:E->Prop}{b:XF}{H:Xn}{z:eA}{h:E->Prop}{m:Ren}{d:K}{i:E}{T:Xq XC}{y:Xq Item}{x:XF}
section
variable[Inhabited aN]
theorem va{a7:Type}{b:Xu a7}(a:b.size=43):∃d e q H Y a2 a3 a4 a5 a6 f g h i k l m n o p r s t u v w x y z D L N O Q R S T U W X Z a0 a1,b=#[d,e,q,H,Y,a2,a3,a4,a5,a6,f,g,h,i,k,l,m,n,o,p,r,s,t,u,v,w,x,y,z,D,L,N,O,Q,R,S,T,U,W,X,Z,a0,a1]:=by
 obtain⟨c⟩:=b
 iterate 43
  rcases c with _|⟨_,c⟩
  simp at a
 obtain rfl:=Za.1 (by simpa using a)
 grind
def RU(p:E->LR)(a:E)(y:E)(c:Xu Xn)(b:Xn)(d:K):Prop:=cm (p y) a c d/\b=(p y).ev
def Is(i o f a b:E):Prop:=f<=a/\b<i*10/\b/10%o=a-f
def CC(p:E->LR)(a i o f:E):Fin:=λb cl d=>EG i o (b-f) (RU p a) cl d
def Rw(p:E->LR)(b:E)(e:WD)(i o f a:E):dv:=⟨e,0,0,a,f,f+a,CC p b i o f⟩
structure Ph(u:dc)(h c t:E->Prop)(m:Ren)(d O:K)(e:WD)(p:E->LR)(D q Q r S s L N i o f:E):Prop where
 h0:aU al m d O
 inv:Inv TP al h m d
 x0:jD c d
 WQ:∀b,c b->∀U y,d.heap[b]?≠C (.map U y)
 xw:jD t d
 xg:∀k,(0<k\/k=TP.globals.size)->k<=TP.globals.size->c k/\t k
 nb:zC (λb=>t b/\¬c b) d
 VT:∀b,h b->c b
 hK:kq u h
 lb:RN m
 VE:e.ty=151
 Wz:e.gv=s
 VC:e.gb=N
 Ug:e.yL=158
 Wy:e.gn=i*10
 VD:e.gh=FK m N O
 VB:e.g0=C O
 xv:m L N
 BK:∃cl n,d.heap[L]?=C (Xx cl 158 n)/\n.1=n.2
 Um:¬c L
 WA:¬t L
 Lk:m S s
 Xm:t S
 Xk:c D/\t D
 Xl:c Q/\t Q
 mine:∀b v,m b v->∀w,az w v->¬h b->¬tj u (λ_=>.ro) w
 small:i<2^20
 Ip:1<=o/\o<2^16
 ev:∀y,y<i->Plain (p y).ev
 SF:m D q
 SG:m Q r
 walk:∀a l,a<o->a<i->Base TP (nF t m d.heap.size l)->
  jE TP aV (Lm t d.heap.size) (ud e) (kZ TP e (CC p d.heap.size i o f (f+a)) (f+a) aV (Lm t d.heap.size) (2*wH i o a) []) (nF t m d.heap.size l) (dM t d (Xo M a) 3)
   (born TP {target:=.fn (.func 56) #[pt e.Wg 0,pt l 0,pt r 0,pt q 0,pt e.gv 0],args:=#[]})
structure WX(c:E->Prop)(D g k:E)(b:XF):Prop where
 size:b.tmps.size=43
 defs:b.defers=[]
 WI:b.tmps[18]?=C (Xo M g)
 WK:b.tmps[19]?=C (Xo M k)
 all:∀(j:E) a,b.tmps[j]?=C a->aQ c a\/bN a
def qN(e:WD)(s r q:E):Xq (E×Xn):=[(5,pt e.Wg 0),(4,pt s 0),(3,pt r 0),(2,pt q 0)]
theorem iy{k:Xz Tmp}(l:∀(j:E) a,b.tmps[j]?=C a->aQ R a\/bN a)(v:aQ R H\/bN H):∀(j:E) a,(b.put k H).tmps[j]?=C a->aQ R a\/bN a:=by
 intro j a n;cases k with
 |none=>exact l j a n
 |some w=>grind [Act.put]
theorem wx:∀fn,TP.funcs[(base 39).fn]?=C fn->fn.norace=Xp:=λfn a=>by have:TP.funcs[39]?=C fn:=a;cases this;rfl
noncomputable def Ny:XR:=hd (tl (tl (tl lM)))
section
variable{u:dc}{c t:E->Prop}{O:K}{e:WD}{p:E->LR}{D q Q r S s L N o f g:E}
noncomputable abbrev Rk(u:dc)(z:eA)(c:E->Prop)(p:E->LR)(d:K)(e:WD)(i o f a:E):Goal TP al J c:=goalAt TP u (C (Rw p d.heap.size e i o f a)) z al c
structure Lw(h c:E->Prop)(m:Ren)(d:K)(e:WD)(q r s D g n:E)(a:Ren)(k:K)(b x:XF):Prop where
 inv:Inv TP al c a k
 grow:cX c (λb l=>c b/\m b l) (cR c d) a k
 Iu:WX c D g n b
 rel:ar al a ⟨[],qN e s r q⟩ b x
theorem KJ(k:Ph u h c t m d O e p D q Q r S s L N i o f)(n1:g<=o/\g<=i){j5:XR}(k3:(.block 0 (.loop j5):XR)=tl Ny)
 (last:∀e0 d7 b x,Lw h c m d e q r s D g g e0 d7 b x->(Rk u z c p d e i o f g).G e0 d7 (rg ((base 39).at x y) T)){e0:Ren}{d7:K}(l:Lw h c m d e q r s D g 0 e0 d7 b x):
 (Rk u z c p d e i o f 0).G e0 d7 (rg ((base 39).at x (.code (tl Ny)::y)) T):=by
 show(Rk u z c p d e i o f 0).G e0 d7 (rg ((base 39).at x (.code (.block 0 (.loop _))::y)) T);refine ik ?_;refine qD (c:=λa=>Rk u z c p d e i o f a) (λh9 a e0 d7 x=>h9+a=g/\∃b,Lw h c m d e q r s D g a e0 d7 b x) ?_ ?_ g (a:=0) ⟨by omega,b,l⟩
 .clear l;rintro h9 h8 a e0 d7 x⟨k5,b,l⟩;obtain⟨i4,h0⟩:=b;have f6:=l.Iu.size;simp only at f6;obtain⟨w,U,a4,b2,c8,d2,f2,d3,d4,d5,W,X,Y,Z,a0,a1,a2,a3,i5,i6,g6,f1,a5,a6,d6,a7,a8,a9,b0,b1,b3,b4,b5,b6,b7,b8,b9,c0,c6,c7,c9,d0,d1,rfl⟩:=va f6;have hd:=l.Iu.defs;have e9:=l.Iu.WI;have f0:=l.Iu.WK;simp only[Yy,YI,YB,Yr]at e9 f0 hd;subst e9 f0;have hd:=hd;subst hd;have f5:=l.Iu.all;have k6:(a:Xt)<g:=by omega
  refine bu (bW aC (by decide) (by decide) (z:=[5,4,3,2]) A (by rfl) l.inv l.rel (λd9 n=>d9=⟨#[w,U,a4,b2,c8,d2,f2,d3,d4,d5,W,X,Y,Z,a0,a1,a2,a3,Xo M g,Xo M a,.bool J,f1,a5,a6,d6,a7,a8,a9,b0,b1,b3,b4,b5,b6,b7,b8,b9,c0,c6,c7,c9,d0,d1],[]⟩/\n.heap=d7.heap) (λg7 e3 _ _ _=>?_) (λd9 n l v _=>by rw[l.2]) ?_)
  .go_wp2
   exact⟨by simp[k6],e3⟩
  rintro i8 _ g9 n e4 e7 e5⟨rfl,h3⟩;refine bu (iT (k:=J) (iU e4.base e5 (by decide) A) (sI (bu (ik (bu ?_)))));refine bW aC (by decide) (by decide) (z:=[5,4,3,2]) A (by rfl) e4 e5 (λd9 i7=>d9=⟨#[w,U,a4,b2,c8,d2,pt n.heap.size 0,d3,d4,d5,W,X,Y,Z,a0,a1,a2,a3,Xo M g,Xo M a,.bool J,Xo M a,a5,a6,d6,a7,a8,a9,b0,b1,b3,b4,b5,b6,b7,b8,b9,c0,c6,c7,c9,d0,d1],[]⟩/\i7.heap=n.heap.push (.cells #[Xo M a] 3 (0,0))) (λg7 e3 _ _ _=>?_) ?_ ?_
  .clear h8 l f5 last k3 k hd h3 e5 e4 e7
   go_wp2
   exact⟨A,by simp[World.alloc,e3]⟩
  .grind [zf]
  rintro i9 _ l5 i7 j0 j7 h5⟨rfl,m9⟩;refine bu (eE ?_)
  have m5:∀{v:E},c v->v<d.heap.size:=λe6=>by rcases k.x0 _ e6 with⟨_,_,_,i2,_⟩|⟨_,_,i2,_⟩<;>exact(XZ.1 i2).1
  have h1:=(l.grow.trans e7).trans j7;have n3:d.heap.size<=n.heap.size:=by have:=(l.grow.trans e7).size;simp_all [dp]
  have k1:∀(j:E) v,(⟨#[w,U,a4,b2,c8,d2,pt n.heap.size 0,d3,d4,d5,W,X,Y,Z,a0,a1,a2,a3,Xo M g,Xo M a,.bool J,Xo M a,a5,a6,d6,a7,a8,a9,b0,b1,b3,b4,b5,b6,b7,b8,b9,c0,c6,c7,c9,d0,d1],[]⟩:XF).tmps[j]?=C v->aQ c v\/bN v:=
   iy (k:=C 6) (H:=pt n.heap.size 0) (iy (k:=C 21) (H:=Xo M a) (iy (k:=C 20) (H:=.bool J) f5 (Xr (.bool J))) (Xr (.int _ _))) (Xs (show bN (pt n.heap.size 0)from trivial))
  refine LP (e:=Rw p d.heap.size e i o f a) (by decide) ⟨_,A,A,A,A⟩ (by simp[Act.eval,(h5.kn (5,pt e.Wg 0) (by simp[qN])),Rw]) A rfl rfl k.VE A h5 λf9 f7=>?_;refine bO (eE ?_);have f8:=f7.kn
  obtain⟨d8,h2,j9⟩:∃d8,i9 n.heap.size d8/\f9.tmps[6]?=C (pt d8 0):=by
   have h4:6<f9.tmps.size:=by rw[<-f7.tmps.1];simp[Act.put]
   have:=f7.tmps.2 6 _ _ A (Yb h4);rw[Yb h4];generalize f9.tmps[6]=o0 at this;cases this with
   |ptr k0=>
    rename_i j4;obtain⟨d8,l1,n8⟩:=j4;obtain⟨n5,n6,n7⟩:=k0
    grind
  refine Hz (o:=goalAt TP u (C {Rw p d.heap.size e i o f a with pend:=1}) z al c) (a:=.func (.func 56) #[] #[pt e.Wg 0,pt d8 0,pt r 0,pt q 0,pt s 0]) (by decide) wx ⟨_,A,A,A,A⟩ A f7 (by simp[Act.put]) trivial (λg8 i3 l2 m0=>?_) λg0 h6=>?_
  .simp[execOp,Act.eval,(f8 (5,pt e.Wg 0) (by simp[qN])),(f8 (4,pt s 0) (by simp[qN])),(f8 (3,pt r 0) (by simp[qN])),(f8 (2,pt q 0) (by simp[qN])),j9];constructor<;>rfl
  have j6:g0.tmps[23]?=C (.func (.func 56) #[] #[pt e.Wg 0,pt d8 0,pt r 0,pt q 0,pt s 0]):=h6.kn (23,_) (by simp)
  have k2:Base TP (nF t m d.heap.size d8):=by
   have m8:TP.globals.size<d.heap.size:=by
    obtain⟨l1,_,e8,_⟩:=k.h0.obj _ _ k.inv.base.types
    grind
   have m4:=(j0.base.2 _ d8 h2).2;refine⟨λf3 f4 e8=>Xr ⟨(k.xg f3 f4 e8).2,k.inv.base.1 f3 f4 e8⟩,?_⟩;rintro v e1(g2|⟨rfl,rfl⟩)
   .exact k.inv.base.2 v e1 g2.2
   omega
  obtain⟨l8,m2,m7,m6⟩:=k.BK
  refine JN (c:={Rw p d.heap.size e i o f a with pend:=1}) (o:=n.heap.size) (T:=d8) (a7:=a) (b3:=3) (f2:=(0,0)) (x:=rg ((base 39).at g0 _) T) A (λg8=>go_step (j:=23) (by decide) ⟨_,A,A,A,A⟩ wx j6 g8) A
   k.h0 k.inv.base k.x0 k.xw k.xg k.nb h1 k.VD k.VB k.VC k.xv k.Um k.WA k.VT k.hK (by grind) A h2 (λe6=>by grind) A rfl (by show a=f+a-f;omega) (by have:=k.Ip;show f+a+1<f+1000000;omega) k.lb
   (by
     have:=k.walk a d8 (by omega) (by omega) k2;rw[k.Wz]at this
     exact this) ?_
  show(Rk u z c p d e i o f (a+1)).G _ _ _
  have k4:∀v e1,c v->i9 v e1->(λb g1=>c b/\m b g1) v e1:=λv e1 e6 g2=>by
   rcases h1.fresh v e1 g2 with l|l
   .exact l
   grind [dp]
  have h7:ar al (λb g1=>c b/\m b g1) ⟨[],qN e s r q⟩ _ g0:=(ar.less (d0:=⟨[],qN e s r q⟩) h6 A (λl2 k7=>Yw _ k7)).part (X:=c) A (iy (k:=C 23) (H:=I) (iy (k:=C 22) (H:=.tuple #[]) k1 (Xr .bS)) (Xr .bS)) k4
  have g4:(Act.jk c (((⟨#[w,U,a4,b2,c8,d2,pt n.heap.size 0,d3,d4,d5,W,X,Y,Z,a0,a1,a2,a3,Xo M g,Xo M a,.bool J,Xo M a,a5,a6,d6,a7,a8,a9,b0,b1,b3,b4,b5,b6,b7,b8,b9,c0,c6,c7,c9,d0,d1],[]⟩:XF).put (C 22) (.tuple #[])).put (C 23) I)).tmps[18]?=C (Xo M g):=by simp only[Act.jk,Yu];exact Zc C (cV (.int _ _))
  have g5:(Act.jk c (((⟨#[w,U,a4,b2,c8,d2,pt n.heap.size 0,d3,d4,d5,W,X,Y,Z,a0,a1,a2,a3,Xo M g,Xo M a,.bool J,Xo M a,a5,a6,d6,a7,a8,a9,b0,b1,b3,b4,b5,b6,b7,b8,b9,c0,c6,c7,c9,d0,d1],[]⟩:XF).put (C 22) (.tuple #[])).put (C 23) I)).tmps[19]?=C (Xo M a):=by simp only[Act.jk,Yu];exact Zc C (cV (.int _ _))
  have i1:(Act.jk c (((⟨#[w,U,a4,b2,c8,d2,pt n.heap.size 0,d3,d4,d5,W,X,Y,Z,a0,a1,a2,a3,Xo M g,Xo M a,.bool J,Xo M a,a5,a6,d6,a7,a8,a9,b0,b1,b3,b4,b5,b6,b7,b8,b9,c0,c6,c7,c9,d0,d1],[]⟩:XF).put (C 22) (.tuple #[])).put (C 23) I)).tmps.size=43:=by simp[Act.jk,Act.put]
  have i0:∀(j:E) v,(Act.jk c (((⟨#[w,U,a4,b2,c8,d2,pt n.heap.size 0,d3,d4,d5,W,X,Y,Z,a0,a1,a2,a3,Xo M g,Xo M a,.bool J,Xo M a,a5,a6,d6,a7,a8,a9,b0,b1,b3,b4,b5,b6,b7,b8,b9,c0,c6,c7,c9,d0,d1],[]⟩:XF).put (C 22) (.tuple #[])).put (C 23) I)).tmps[j]?=C v->aQ c v\/bN v:=λj v e6=>by
   simp only[Act.jk,Yu]at e6;obtain⟨e1,_,rfl⟩:=YP.1 e6;left;by_cases k9:aQ c e1
   .grind [cV]
   rw[pF k9];exact .bS
  have l0:(Act.jk c (((⟨#[w,U,a4,b2,c8,d2,pt n.heap.size 0,d3,d4,d5,W,X,Y,Z,a0,a1,a2,a3,Xo M g,Xo M a,.bool J,Xo M a,a5,a6,d6,a7,a8,a9,b0,b1,b3,b4,b5,b6,b7,b8,b9,c0,c6,c7,c9,d0,d1],[]⟩:XF).put (C 22) (.tuple #[])).put (C 23) I)).defers=[]:=A;generalize Act.jk c (((⟨#[w,U,a4,b2,c8,d2,pt n.heap.size 0,d3,d4,d5,W,X,Y,Z,a0,a1,a2,a3,Xo M g,Xo M a,.bool J,Xo M a,a5,a6,d6,a7,a8,a9,b0,b1,b3,b4,b5,b6,b7,b8,b9,c0,c6,c7,c9,d0,d1],[]⟩:XF).put (C 22) (.tuple #[])).put (C 23) I)=j3 at h7 g4 g5 i1 i0 l0;obtain⟨i4,h0⟩:=j3;obtain⟨w,U,a4,b2,c8,d2,f2,d3,d4,d5,W,X,Y,Z,a0,a1,a2,a3,i5,i6,g6,f1,a5,a6,d6,a7,a8,a9,b0,b1,b3,b4,b5,b6,b7,b8,b9,c0,c6,c7,c9,d0,d1,rfl⟩:=va i1;simp only[Yy,YI,YB,Yr]at g4 g5;subst g4 g5;refine bO (CL (bW aC (by decide) (by decide) (z:=[5,4,3,2]) A (by rfl) (yO k.inv.base k.x0 (λf3 f4 e8=>(k.xg f3 f4 e8).1) (Xs k.WQ)) h7 (λd9 n=>d9=⟨#[w,U,a4,b2,c8,d2,f2,d3,d4,d5,W,X,Y,Z,a0,a1,a2,a3,Xo M g,Xo M ((a+1:E):Xt),g6,f1,a5,a6,Xo M ((a+1:E):Xt),a7,a8,a9,b0,b1,b3,b4,b5,b6,b7,b8,b9,c0,c6,c7,c9,d0,d1],[]⟩/\n.heap=(cR c d).heap) (λg7 e3 _ _ _=>?_) (λd9 n l v _=>by rw[l.2]) ?_))
  .have n2:=k.small
   go_wp2
   exact⟨A,e3⟩
  rintro o3 _ l6 o2 j1 j8 k8⟨rfl,n0⟩;refine h8 (a+1) _ _ _ ⟨by omega,_,j1,j8,⟨A,A,A,A,?_⟩,k8⟩;exact iy (k:=C 19) (H:=Xo M ((a+1:E):Xt)) (iy (k:=C 24) (H:=Xo M ((a+1:E):Xt)) i0 (Xr (.int _ _))) (Xr (.int _ _))
 clear l;rintro a e0 d7 x⟨k5,b,l⟩;obtain rfl:g=a:=by omega
 obtain⟨i4,h0⟩:=b;have f6:=l.Iu.size;obtain⟨w,U,a4,b2,c8,d2,f2,d3,d4,d5,W,X,Y,Z,a0,a1,a2,a3,i5,i6,g6,f1,a5,a6,d6,a7,a8,a9,b0,b1,b3,b4,b5,b6,b7,b8,b9,c0,c6,c7,c9,d0,d1,rfl⟩:=va f6;have hd:=l.Iu.defs;have e9:=l.Iu.WI;have f0:=l.Iu.WK;simp only[Yy,YI,YB,Yr]at e9 f0 hd;subst e9 f0;subst hd;have f5:=l.Iu.all;refine bu (bW aC (by decide) (by decide) (z:=[5,4,3,2]) A (by rfl) l.inv l.rel (λd9 n=>d9=⟨#[w,U,a4,b2,c8,d2,f2,d3,d4,d5,W,X,Y,Z,a0,a1,a2,a3,Xo M g,Xo M g,.bool Xp,f1,a5,a6,d6,a7,a8,a9,b0,b1,b3,b4,b5,b6,b7,b8,b9,c0,c6,c7,c9,d0,d1],[]⟩/\n.heap=d7.heap) (λg7 e3 _ _ _=>?_) (λd9 n l v _=>by rw[l.2]) ?_)
 .go_wp2
  exact⟨by simp,e3⟩
 rintro i8 _ g9 n e4 e7 e5⟨rfl,h3⟩;refine bu (iT (k:=Xp) (iU e4.base e5 (by decide) A) (sH (a:=y) A ?_));exact last i8 n _ g9 ⟨e4,l.grow.trans e7,⟨A,A,A,A,iy (k:=C 20) (H:=.bool Xp) f5 (Xr (.bool Xp))⟩,e5⟩
end
variable{s:E}{e:K}{o:K}{p:Xn}{d:Xu Xn}{q:E->Prop}{a:Xn}{u:E}{g:E}{O:Xz XG}
theorem gy.mono{v:Xq XM}{t:E}{sl:Xn}(n:gy v s sl e)(L:t<=s)(Q:∀c,c<e.heap.size->o.heap[c]?=e.heap[c]?):gy v t sl o:=by
 rcases n with n|⟨w,x,d,R,y,z,D,r,H⟩
 .exact Xr n
 exact Xs ⟨w,x,d,R,y,z,Yi L D,(Q w (XZ.1 r).1).trans r,H⟩
theorem cm.mono{r:LR}{n:E}{t:Xu Xn}(v:cm r s t e)(z:n<=s)(D:∀c,c<e.heap.size->o.heap[c]?=e.heap[c]?):cm r n t o:=by obtain⟨w,sl,x,y⟩:=v;exact⟨w,sl,x,y.mono z D⟩
theorem Plain.one(a:Plain p):wC p=J:=by cases a<;>rfl
theorem cm.VM{h:LR}{c:Xu Xn}(d:cm h s c e):∀a∈c,wC a=J:=by
 obtain⟨_,sl,f,g⟩:=d;intro a b;have b:a∈c.toList:=by simpa using b
 rw[f]at b;rcases Yg.1 b with rfl|b
 .rfl
 rcases YC.1 b with b|b
 .obtain⟨i,_,rfl⟩:=YL.1 b;rfl
 have:a=sl:=by simpa using b
 subst this;rcases g with⟨rfl,_⟩|⟨_,_,_,_,_,rfl,_⟩<;>rfl
def Ja(a:Xn):Prop:=aQ (λ_=>False) a\/bN a
def Calm(a:Xn):Prop:=Ja a/\∀g,a≠.int .u8 g
theorem Po(b:∀(e:E) a,d[e]?=C a->Calm a):¬aS d:=λ⟨f,g,c⟩=>(b f _ c).2 g A
theorem nk(c:∀g,p≠.int .u8 g):¬aS #[p]:=by
 rintro⟨b,g,a⟩;rcases b with _|b
 .simp at a;exact c g a
 simp at a
structure km(h f:E->Prop)(e:K)(l:E->LR)(m:E->XM)(u N b g k i:E)(O:Xz XG):Prop where
 Ll:∀c,h c->∃d H,e.heap[c]?=C (Xx d H (0,d.size))/\0<d.size/\(∀(t:E) a,d[t]?=C a->aQ h a)/\¬aS d
 IB:∀z,(0<z\/z=TP.globals.size)->z<=TP.globals.size->h z
 xt:∀c,f c->(∃d H r,e.heap[c]?=C (Xx d H r)/\0<d.size/\r.2<=d.size/\¬aS d/\∀(t:E) a,d[t]?=C a->aQ f a)\/∃Q n,e.heap[c]?=C (.map Q n)/\∀y∈Q.toList,aQ f y.key/\aQ f y.val
 TI:f N
 hc:∃v L r,e.heap[u]?=C (Xx v L r)/\r.2<=v.size/\v[1]?=C (Xo M i)/\v[2]?=C (pt N 0)/\¬aS v/\∀(t:E) a,v[t]?=C a->Ja a
 hA:O=F/\g=0\/∃D R x L r,O=C ⟨D,R,F⟩/\D<b/\e.heap[D]?=C (Xx x L r)/\0<x.size/\r.2<=x.size/\(∀(t:E) a,x[t]?=C a->Calm a)/\∀n,n<g->x[R+n*9+3]?=C (.string (m n))
 h2:e.heap[b]?=C (Xx #[pt u 0] 76 (0,0))
 h3:e.heap[b+1]?=C (Xx #[.slice O g k] 103 (0,0))
 h4:e.heap[b+3]?=C (Xx #[Xw (C ⟨b+2,0,F⟩) g g] 141 (0,0))
 BK:∃cl,cl.size=g*10/\e.heap[b+2]?=C (Xx cl 158 (0,0))
 low:(∀c,h c\/f c->c<b)/\u<b
 small:g<2^20
 Ip:1<=i/\i<2^16
 ev:∀n,Plain (l n).ev
 look:∀n,n<g->∀w:K,(∀c,f c\/h c->w.heap[c]?=(e.heap[c]?).map Obj.whole)->e.heap.size<=w.heap.size->Calls TP 58 #[pt N 0,.string (m n)] w λy o=>∃S,y=XB (.tuple #[.agg S,(l n).ev])/\cm (l n) w.heap.size S o/\Below w.heap.size w o
def od(h:E->Prop)(u b:E)(O:Xz XG):E->Prop:=λa=>h a\/a=b\/a=b+1\/a=u\/∃c,O=C ⟨a,c,F⟩
def tW(h f:E->Prop)(u b:E)(O:Xz XG):E->Prop:=λa=>od h u b O a\/f a\/a=b+3
theorem Ja.to(b:Ja a):aQ q a\/bN a:=b.imp (aQ.mono λ_ b=>b.elim) id
section
variable{f:E->Prop}{l:E->LR}{m:E->XM}{N b k i:E}
theorem km.slice(a:km h f e l m u N b g k i O):aQ (od h u b O) (.slice O g k):=by
 rcases a.hA with⟨rfl,_⟩|⟨d,c,_,_,_,rfl,_⟩
 .exact .aO _ _
 exact .slice (Xs (Xs (Xs (Xs ⟨c,A⟩)))) _ _
theorem one_cell{P:Xn->Prop}(r:P p):∀(n:E) a,(#[p]:Xu Xn)[n]?=C a->P a:=by
 intro n a c;have:n=0:=by have:=(XZ.1 c).1;simp at this;exact this
 subst this;simp at c;subst c;exact r
theorem km.zN(o:km h f e l m u N b g k i O):∀w,od h u b O w->∃d y p,e.heap[w]?=C (Xx d y p)/\0<d.size/\p.2<=d.size/\(∀(n:E) a,d[n]?=C a->aQ (od h u b O) a\/bN a)/\¬aS d:=by
 rintro w(q|rfl|rfl|rfl|⟨S,q⟩)
 .obtain⟨d,y,r,s,t,x⟩:=o.Ll w q;exact⟨d,y,_,r,s,Ye _,λn a v=>Xr ((t n a v).mono λ_ c=>Xr c),x⟩
 .exact⟨_,_,_,o.h2,by simp,by simp,one_cell (P:=λa=>aQ _ a\/bN a) (Xr (.ptr (Xs (Xs (Xs (Xr A)))))),nk (by intro g c;cases c)⟩
 .exact⟨_,_,_,o.h3,by simp,by simp,one_cell (P:=λa=>aQ _ a\/bN a) (Xr o.slice),nk (by intro g c;cases c)⟩
 .obtain⟨D,z,p,r,s,t,_,L,Q⟩:=o.hc;exact⟨D,z,p,r,by have:=(XZ.1 t).1;omega,s,λn a v=>(Q n a v).to,L⟩
 rcases o.hA with⟨c,_⟩|⟨R,T,H,z,p,c,_,r,s,t,x,_⟩
 .rw[c]at q;cases q
 rw[c]at q;cases q;exact⟨H,z,p,r,s,t,λn a v=>(x n a v).1.to,Po x⟩
theorem km.It(p:km h f e l m u N b g k i O):jD (tW h f u b O) e:=by
 rintro z(v|v|rfl)
 .obtain⟨d,y,q,o,n,r,s,t⟩:=p.zN z v;exact Xr ⟨d,y,q,o,n,r,λx a w=>(s x a w).imp (aQ.mono λ_ c=>Xr c) id,t⟩
 .rcases p.xt z v with⟨d,y,q,o,n,r,t,s⟩|⟨L,Q,o,n⟩
  .exact Xr ⟨d,y,q,o,n,r,λx a w=>Xr ((s x a w).mono λ_ c=>Xs (Xr c)),t⟩
  exact Xs ⟨L,Q,o,λD H=>⟨(n D H).1.mono λ_ c=>Xs (Xr c),(n D H).2.mono λ_ c=>Xs (Xr c)⟩⟩
 exact Xr ⟨_,_,_,p.h4,by simp,by simp,one_cell (P:=λa=>aQ _ a\/bN a) (Xs trivial),nk (by intro g c;cases c)⟩
theorem km.Um(d:km h f e l m u N b g k i O):¬tW h f u b O (b+2):=by
 have n:=d.low;rintro((a|a|a|a|⟨s,a⟩)|a|a)
 .have:=n.1 _ (Xr a);omega
 .omega
 .omega
 .omega
 .rcases d.hA with⟨c,_⟩|⟨p,t,o,v,q,c,r,_⟩
  .rw[c]at a;cases a
  rw[c]at a;cases a;omega
 .have:=n.1 _ (Xs a);omega
 omega
theorem km.EO(q:km h f e l m u N b g k i O):zC (λc=>tW h f u b O c/\¬od h u b O c) e:=by
 rintro c⟨p|p|rfl,D⟩ d U Q o r
 .exact D p
 .rcases q.xt c p with⟨H,W,R,n,x,S,y,T⟩|⟨L,t,n,x⟩
  .rw[o]at n;cases n;exact y r
  rw[o]at n;cases n
 rw[q.h4]at o;cases o;obtain⟨t,s,z⟩:=r;have:=one_cell (P:=λa=>∃c v d,a=Value.slice c v d) ⟨_,_,_,A⟩ t _ z;obtain⟨_,_,_,w⟩:=this;cases w
theorem km.Wh(n:km h f e l m u N b g k i O){Q:WD}{X Z D a6 a5:E}(L:O=C ⟨X,Z,F⟩)(b6:Q.gs=Xw (C ⟨a5,0,F⟩) g g)(b4:Q.gb=a5)(b5:Q.gn=g*10)(b7:Q.own=Is g i a6)(e1:D<i):
 Jh Q (Lm (tW h f u b O) e.heap.size) (dM (tW h f u b O) e (Xo M D) 3) (b+1) b (b+3) u g k i X Z D (a6+D) (pt N 0) m (RU l e.heap.size):=by
 have b3:=n.It
 have lt:∀{r:E},tW h f u b O r->r<e.heap.size:=λv=>by rcases b3 _ v with⟨_,_,_,a9,_⟩|⟨_,_,a9,_⟩<;>exact(XZ.1 a9).1
 have rd:∀{r:E}{d:Xu Xn}{x:XA}{y:E×E},tW h f u b O r->e.heap[r]?=C (Xx d x y)->(dM (tW h f u b O) e (Xo M D) 3).heap[r]?=C (Xx (d.map (jk (tW h f u b O))) x (0,d.size)):=λv c=>by rw[xo (lt v)];exact dZ v c
 have a2:tW h f u b O (b+1):=Xr (Xs (Xs (Xr A)));have a1:tW h f u b O b:=Xr (Xs (Xr A));have W:tW h f u b O u:=Xr (Xs (Xs (Xs (Xr A))));have a4:tW h f u b O X:=Xr (Xs (Xs (Xs (Xs ⟨Z,L⟩))));have a3:tW h f u b O (b+3):=Xs (Xs A);have b9:aQ (tW h f u b O) (.slice O g k):=n.slice.mono λ_ c=>Xr c
 exact{
  x3:=Xr a2
  h3:=⟨_,_,by rw[rd a2 n.h3];simp only[Zl,Zj,Zs,cV b9];rw[L]⟩
  x2:=Xr a1
  h2:=⟨_,_,by rw[rd a1 n.h2];simp only[Zl,Zj,Zs];rw[show jk (tW h f u b O) (pt u 0)=pt u 0 from cV (.ptr W)]⟩
  xc:=Xr W
  hc:=by
   obtain⟨c9,c7,y,t,H,R,S,_,d8⟩:=n.hc;refine⟨_,_,_,rd W t,?_,?_⟩
   .rw[Yu,R];exact Zc C (cV (.int _ _))
   rw[Yu,S];exact Zc C (cV (.ptr (Xs (Xr n.TI))))
  Xh:=⟨N,A⟩
  x4:=Xr a3
  h4:=⟨_,_,by
   rw[rd a3 n.h4];simp only[Zl,Zj,Zs]
   rw[pF (λc=>by cases c with|slice c=>exact n.Um c)];rfl⟩
  xl:=Xr a4
  elem:=by
   rcases n.hA with⟨c,_⟩|⟨d1,e2,d0,c7,y,c,_,t,_,_,_,b2⟩
   .rw[c]at L;cases L
   rw[c]at L;cases L;refine⟨_,_,_,rd a4 t,λw T=>?_⟩;rw[Yu,b2 w T];exact Zc C (cV (.string _))
  look:=λw T c8 c6 b8=>by
   have d7:(dM (tW h f u b O) e (Xo M D) 3).heap.size=e.heap.size+1:=by show((cR _ e).heap.push _).size=_;rw[abb,dp]
   refine(n.look w T c8 (λr v=>?_) (by omega)).mono ?_
   .have U:tW h f u b O r:=v.elim (λc=>Xs (Xr c)) λc=>Xr (Xr c);rw[c6 r (.inl U)]
    have a8:∀d x y,e.heap[r]?=C (Xx d x y)->(∀(z:E) a,d[z]?=C a->aQ (tW h f u b O) a)->(dM (tW h f u b O) e (Xo M D) 3).heap[r]?=(e.heap[r]?).map Obj.whole:=by
     intro d x y c a7;rw[rd U c,c]
     have:d.map (jk (tW h f u b O))=d:=by apply aas (by simp);intro z t H;rw[Xu.getElem_map];exact cV (a7 z _ (Yb H))
     rw[this];rfl
    rcases v with v|v
    .rcases n.xt r v with⟨d,x,y,t,_,_,_,S⟩|⟨d4,w,t,H⟩
     .exact a8 d x y t λz a Y=>(S z a Y).mono λ_ c=>Xs (Xr c)
     rw[xo (lt U),nG U,t];rfl
    obtain⟨d,x,t,_,R⟩:=n.Ll r v;exact a8 d x _ t λz a Y=>(R.1 z a Y).mono λ_ c=>Xr (Xr c)
   rintro d2 o⟨a0,rfl,t,H⟩;exact⟨a0,_,A,⟨t.mono (by omega) λ_ _=>rfl,A⟩,H⟩
  VW:=λw a0 b0 e e4 c c0 b8=>⟨c.1.mono (Ye _) c0,c.2⟩
  Vs:=λw a0 b0 e c=>⟨c.1.size,c.1.VM,by rw[c.2];exact(n.ev w).one⟩
  gs:=by rw[b4];exact b6
  gn:=b5
  own:=λw T e0 j d9=>by
   rw[b7];refine⟨by omega,by omega,?_⟩;have b1:(w*10+j)/10=w:=by omega
   rw[b1];omega
  small:=by have:=n.small;omega
  VL:=n.Ip.1
  WE:=by have:=n.Ip.2;omega}
end
variable{g:K}{c:E}{k:XF}{p:Xq XC}{f:Set}{d:XF}{j:E}
section
variable{o:dc}{q:E->Prop}{l:E->LR}{r:E->XM}{N b i e:E}
theorem lB{v:Rt}{a:E}(s:ar f m v d k)(x:d.tmps[j]?=C (pt a 0)):∃B,m a B/\k.tmps[j]?=C (pt B 0):=by
 have n:j<k.tmps.size:=by rw[<-s.tmps.1];grind
 have:=s.tmps.2 j _ _ x (Yb n);rw[Yb n];generalize k.tmps[j]=R at this;cases this with
 |ptr w=>rename_i t;obtain⟨B,L,Q⟩:=t;obtain⟨y,D,H⟩:=w;simp_all
def Lo(h:E)(g c:K):Prop:=∀d,d<g.heap.size->d≠h->c.heap[d]?=g.heap[d]?\/∃a b e f,aS a/\g.heap[d]?=C (Obj.cells a b e)/\c.heap[d]?=C (Obj.cells a b f)
theorem Nh(a:E->Prop):jk a I=I:=cV .bS
theorem Ox(a:km h q g l r u N b c i e O)(b8:kq o h)(b5:Inv TP al h m g)(a8:ar al m ⟨[],[]⟩ (tq u b (b+1) (b+3) (b+2) c i O) k)
 (next:∀U R d k,Inv TP al h U R->cX h m g U R->Lo (b+2) g R->QZ l c (b+2) g.heap.size 158 R->ar al U ⟨[],[]⟩ d k->d.tmps.size=43->d.defers=[]->d.tmps[2]?=C (pt b 0)->d.tmps[3]?=C (pt (b+1) 0)->d.tmps[4]?=C (pt (b+3) 0)->
   (goalAt TP o F z al h).G U R (rg ((base 39).at k [.code (tl (tl (tl (tl (tl lM)))))]) p)):
 (goalAt TP o F z al h).G m g (rg ((base 39).at k [.code (tl (tl lM))]) p):=by
 have n5:=a.low;obtain⟨g7,i2,b9⟩:=a.BK;obtain⟨a3,SF,j9⟩:=lB (j:=2) a8 A;obtain⟨a4,SG,k0⟩:=lB (j:=3) a8 A;obtain⟨a5,e0,k1⟩:=lB (j:=4) a8 A;have e5:=a.Um;have b1:=λn=>e5 (Xr n);have b2:jD (od h u b O) g:=λd D=>Xr (a.zN d D)
 have c0:∀d,od h u b O d->∀d7 Q,g.heap[d]?≠C (.map d7 Q):=λd D d7 Q m8=>by obtain⟨b6,k2,d8,y,_⟩:=a.zN d D;simp_all
 show(goalAt TP o F z al h).G m g (rg ((base 39).at k [.code (.seq _ _)]) p);refine bu (eE ?_)
 refine JO (N:=od h u b O) (a8:=b+3) (a1:=b+2) (i:=c) (b7:=c*10) (yL:=158) (O:=151) (own:=λs h0 X=>Is c e s h0 X) (fin:=CC l g.heap.size c e)
  (a2:=λt=>rg ((base 39).at (k.put (C 5) (pt t 0)) (XE _ []::[.code (tl (tl (tl lM)))])) p) A (λ_=>rfl) (λd5=>EZ (by decide) ⟨_,A,A,A,A⟩ wx d5)
  b2 c0 (λa2 y L=>Xr (a.IB a2 y L)) (λd D=>Xr D) a.h4 ⟨_,e0⟩ (λn=>by grind) b9 A i2 b1 (by omega) (λs j5 j X y L=>?_) b8 ?_
 .obtain⟨o1,o2,o3⟩:=y;obtain⟨o5,o6,o7⟩:=L;omega
 intro T d2 H s hrel Lk xv m1 j3 m4 j2;obtain⟨t,w⟩:∃t:WD,t=⟨151,T.heap.size,d2,Xw (C ⟨H,0,F⟩) c c,H,158,c*10,Is c e s,FK m H T,C T⟩:=⟨_,A⟩;show ti TP o (C ⟨⟨151,T.heap.size,d2,Xw (C ⟨H,0,F⟩) c c,H,158,c*10,Is c e s,FK m H T,C T⟩,0,0,0,s,s,CC l g.heap.size c e s⟩) z al _ _ _ (rg ((base 39).at (k.put (C 5) (pt T.heap.size 0)) (XE _ []::[.code (tl (tl (tl lM)))])) p);rw[<-w];have h6:T.heap.size=t.Wg:=by rw[w]
 rw[h6];show(Rk o z (od h u b O) l g t c e s 0).G _ _ _;have h3:=(hrel.inj _ _ _ _ e0 Lk).1 A;subst h3
 have x:Ph o h (od h u b O) (tW h q u b O) m g T t l b a3 (b+1) a4 (b+3) a5 (b+2) H c e s:={
  h0:=hrel
  inv:=b5
  x0:=b2
  WQ:=c0
  xw:=a.It
  xg:=λa2 y L=>⟨Xr (a.IB a2 y L),Xr (Xr (a.IB a2 y L))⟩
  nb:=a.EO
  VT:=λd D=>Xr D
  hK:=b8
  lb:=j2
  VE:=by rw[w]
  Wz:=by rw[w]
  VC:=by rw[w]
  Ug:=by rw[w]
  Wy:=by rw[w]
  VD:=by rw[w]
  VB:=by rw[w]
  xv:=xv
  BK:=⟨g7,_,b9,A⟩
  Um:=b1
  WA:=e5
  Lk:=Lk
  Xm:=Xs (Xs A)
  Xk:=⟨Xs (Xr A),Xr (Xs (Xr A))⟩
  Xl:=⟨Xs (Xs (Xr A)),Xr (Xs (Xs (Xr A)))⟩
  mine:=j3
  small:=a.small
  Ip:=a.Ip
  ev:=λQ _=>a.ev Q
  SF:=SF
  SG:=SG
  walk:=λY d3 y L h8=>by
   have h9:∃a6 X,O=C ⟨a6,X,F⟩:=by
    rcases a.hA with⟨_,n⟩|⟨a6,X,_,_,_,n,_⟩
    .omega
    exact⟨a6,X,n⟩
   obtain⟨a6,X,h2⟩:=h9;have z:=a.Wh (Q:=t) (D:=Y) (a6:=s) (a5:=H) h2 (by rw[w]) (by rw[w]) (by rw[w]) (by rw[w]) y
   have lt:∀{d:E},tW h q u b O d->d<g.heap.size:=λD=>by rcases a.It _ D with⟨_,_,_,d0,_⟩|⟨_,_,d0,_⟩<;>exact(XZ.1 d0).1
   have g1:Inv TP aV (Lm (tW h q u b O) g.heap.size) (nF (tW h q u b O) m g.heap.size d3) (dM (tW h q u b O) g (Xo M Y) 3):=by
    refine⟨h8,?_,Xr A⟩;rintro d(D|rfl)
    .obtain⟨f1,c9,f0⟩:=jP (f:=aV) a.It d D;exact⟨f1,by rw[xo (lt D)];exact c9,f0⟩
    exact⟨_,BH,A,by simp,nk (by intro c n;cases n)⟩
   have i6:t.gv=a5:=by rw[w]
   have:=EK z y (t:=g.heap.size) (Xs A) ⟨_,_,BH⟩ g1 (by rw[i6];exact Xr ⟨Xs (Xs A),Lk⟩) (by rw[w])
    (g1:=pt d3 0) (g0:=pt a4 0) (f9:=pt a3 0) (.ptr ⟨Xs ⟨A,A⟩,A,A⟩) (.ptr ⟨Xr ⟨Xr (Xs (Xs (Xr A))),SG⟩,A,A⟩) (.ptr ⟨Xr ⟨Xr (Xs (Xr A)),SF⟩,A,A⟩)
   have e4:CC l g.heap.size c e s (s+Y)=EG c e Y (RU l g.heap.size):=by
    funext cl R
    show EG c e (s+Y-s) _ cl R=_;rw[show s+Y-s=Y by omega]
   simp_all}
 have e6:=a.slice;have f6:od h u b O u:=Xs (Xs (Xs (Xr A)));have f7:od h u b O b:=Xs (Xr A);have f8:od h u b O (b+1):=Xs (Xs (Xr A))
 have j4:¬od h u b O (b+3):=by
  rintro(n|n|n|n|⟨X,n⟩)
  .grind
  .omega
  .omega
  .omega
  rcases a.hA with⟨d9,_⟩|⟨a6,p2,k6,k3,d8,d9,m3,_⟩
  .rw[d9]at n;cases n
  simp_all
 have e2:∀(j:E) v,(tq u b (b+1) (b+3) (b+2) c i O).tmps[j]?=C v->aQ (od h u b O) v\/bN v:=by
  intro j v a0
  have S:v∈(tq u b (b+1) (b+3) (b+2) c i O).tmps.toList:=by grind
  simp only[tq,Yg,Yo,Ze]at S;have i8:∀b6 g8:E,bN (pt b6 g8):=λ_ _=>trivial;rcases S with rfl|rfl|rfl|rfl|rfl|S
  .simp_all
  .simp_all
  .simp_all
  .simp_all
  .simp_all
  rcases S with rfl|rfl|rfl|rfl|rfl|rfl|rfl|S
  .exact Xr .bS
  .exact Xr .bS
  .exact Xr .bS
  .exact Xr .bS
  .simp_all
  .exact Xr (.int _ _)
  .exact Xs trivial
  have:v=I:=by simp_all
  rw[this];exact Xr .bS
 have c6:=(a8.part (Sp:=al) (X:=od h u b O) (β':=λd Z=>od h u b O d/\m d Z) A e2 λv a9 a0 c8=>⟨a0,c8⟩);have n4:=Nh (od h u b O);have i9:jk (od h u b O) (pt u 0)=pt u 0:=cV (.ptr f6);have j0:=cV e6;have m9:jk (od h u b O) (pt b 0)=pt b 0:=cV (.ptr f7);have n0:jk (od h u b O) (pt (b+1) 0)=pt (b+1) 0:=cV (.ptr f8);have n1:jk (od h u b O) (pt (b+3) 0)=I:=pF λn=>by cases n with|ptr n=>exact j4 n
 have n2:jk (od h u b O) (Xo M c)=Xo M c:=cV (.int _ _);have n3:jk (od h u b O) (Xw (C ⟨b+2,0,F⟩) c c)=I:=pF λn=>by cases n with|slice n=>exact b1 n
 have e1:Act.jk (od h u b O) (tq u b (b+1) (b+3) (b+2) c i O)=⟨#[pt u 0,.slice O c i,pt b 0,pt (b+1) 0,I,I,I,I,I,.slice O c i,Xo M c,I,I,I,I,I,I,I,I,I,I,I,I,I,I,I,I,I,I,I,I,I,I,I,I,I,I,I,I,I,I,I,I],[]⟩:=by simp_all [Act.jk,tq]
 rw[e1]at c6;have e7:=c6.put (C 5) A (.bS (v:=pt t.Wg 0) trivial)
 have f5:(k.put (C 5) (pt t.Wg 0)).tmps[5]?=C (pt t.Wg 0):=by
  have:k.tmps.size=43:=by rw[<-a8.tmps.1];rfl
  grind [Act.put]
 have b4:∀j a1,j≠5->k.tmps[j]?=C a1->(k.put (C 5) (pt t.Wg 0)).tmps[j]?=C a1:=λj a1 i8 o0=>by simp_all [Act.put,Zh]
 have c7:ar al (λd Z=>od h u b O d/\m d Z) ⟨[],qN t a5 a4 a3⟩ _ _:=(((e7.more (b4 2 _ (by decide) j9)).more (b4 3 _ (by decide) k0)).more (b4 4 _ (by decide) k1)).more f5;generalize k.put (C 5) (pt t.Wg 0)=d6 at c7⊢
 have e8:ar al (λd Z=>od h u b O d/\m d Z) ⟨[],qN t a5 a4 a3⟩ ⟨#[pt u 0,.slice O c i,pt b 0,pt (b+1) 0,I,I,I,I,I,.slice O c i,Xo M c,I,I,I,I,I,I,I,I,I,I,I,I,I,I,I,I,I,I,I,I,I,I,I,I,I,I,I,I,I,I,I,I],[]⟩ d6:=c7;clear c7 e7 c6 e1 e2 f5 b4;have g0:Inv TP al (od h u b O) (λd Z=>od h u b O d/\m d Z) (cR (od h u b O) g):=yO b5.base b2 (λa2 y L=>Xr (a.IB a2 y L)) (Xs c0);refine bO ?_;show(Rk o z (od h u b O) l g t c e s 0).G _ _ (rg ((base 39).at d6 [.code (.seq (.seq _ _) _)]) p);refine bu (bu ?_);refine PK aC (by decide) (by decide) (O:=[5,4,3,2]) A (by rfl) rR (by decide+kernel) g0 e8 (λg6=>g6=⟨#[pt u 0,.slice O c i,pt b 0,pt (b+1) 0,I,I,I,I,I,.slice O c i,Xo M c,I,pt u 0,pt u 0,pt u 1,Xo M e,.slice O c i,Xo M c,Xo M (min e c:E),Xo M (0:E),I,I,I,I,I,I,I,I,I,I,I,I,I,I,I,I,I,I,I,I,I,I,I],[]⟩) (λd1 b7=>?_) ?_
 .have m5:d1.cell? ⟨b,0,F⟩=C (pt u 0):=by
   simp only[K.cell?,b7,dZ f7 a.h2,Zl,Zj,Zs,i9];rfl
  have m6:d1.cell? ⟨b+1,0,F⟩=C (.slice O c i):=by simp only[K.cell?,b7,dZ f8 a.h3,Zl,Zj,Zs,j0];rfl
  have m7:d1.cell? ⟨u,1,F⟩=C (Xo M e):=by obtain⟨k5,k3,d8,c9,f0,j6,_⟩:=a.hc;simp only[K.cell?,b7,dZ f6 c9,Yu,j6,ZA];exact Zc C (cV (.int _ _))
  repeat (quiet_step (fail))
  grind [wpQuiet_nil]
 rintro q6 _ l1 q0 d4 b0 e9 rfl i7
 have e3:∀(j:E) v,(⟨#[pt u 0,.slice O c i,pt b 0,pt (b+1) 0,I,I,I,I,I,.slice O c i,Xo M c,I,pt u 0,pt u 0,pt u 1,Xo M e,.slice O c i,Xo M c,Xo M (min e c:E),Xo M (0:E),I,I,I,I,I,I,I,I,I,I,I,I,I,I,I,I,I,I,I,I,I,I,I],[]⟩:XF).tmps[j]?=C v->aQ (od h u b O) v\/bN v:=by
  intro j v a0
  have S:v∈(⟨#[pt u 0,.slice O c i,pt b 0,pt (b+1) 0,I,I,I,I,I,.slice O c i,Xo M c,I,pt u 0,pt u 0,pt u 1,Xo M e,.slice O c i,Xo M c,Xo M (min e c:E),Xo M (0:E),I,I,I,I,I,I,I,I,I,I,I,I,I,I,I,I,I,I,I,I,I,I,I],[]⟩:XF).tmps.toList:=by grind
  simp only[Yg,Yo,Ze]at S
  repeat (first
   |exact m2 _ S
   |(rcases S with rfl|S
     first
      |exact Xr .bS
      |exact Xr e6
      |exact Xr (.int _ _)
      |exact Xs (show bN (pt _ _)from trivial)))
 have n9:=a.small;have n8:=a.Ip;refine KJ x (g:=min e c) ⟨E.min_le_left _ _,E.min_le_right _ _⟩ (y:=[.code (tl (tl (tl (tl lM))))]) A ?_ ⟨d4,b0,⟨A,A,A,A,e3⟩,e9⟩;clear e3 e9 b0 i7 d4 e8;intro f9 k4 d g5 W;show(Rk o z (od h u b O) l g t c e s (min e c)).G f9 k4 (rg ((base 39).at g5 [.code (.seq _ _)]) p);have j7:=W.rel.kn (5,pt t.Wg 0) (by simp[qN]);refine bu (eE (Le (e:=Rw l g.heap.size t c e s (min e c)) (j:=25) (by decide) ⟨_,A,A,A,A⟩ (by simp[Act.eval,j7,Rw]) A rfl x.VE λl5 l7 d5 k2 k8 b0 i0 h5=>?_));have i4:TP.globals.size<=g.heap.size:=by
  obtain⟨f1,_,L,_⟩:=hrel.obj _ _ b5.base.types
  grind
 obtain⟨g2,U,R,i1,h4,a7,h7,i5⟩:=PQ (g:=Rw l g.heap.size t c e s (min e c)) (x:=g.heap.size) (p:=b+2) (k:=H) (d:=c) (a:=l) i0 h5 W.grow b2 x.VT x.inv x.VD x.VB x.VC x.Ug x.Wy x.h0 x.xv b9 A b1 x.hK x.mine (λQ j1=>by
  have n7:Q%e<e:=abx _ (by omega);have n6:Q%e<=Q:=E.mod_le _ _;refine⟨s+Q%e,by show s<=_;omega,by show _<s+min e c;omega,λcl R e4=>?_⟩;obtain⟨p4,g9,y,L,l9,m0⟩:=e4 Q j1 (by omega)
  grind) x.ev i4
 refine⟨g2,U,R,h,i1,bO ?_⟩
 have i3:∀v a9,od h u b O v->f9 v a9->U v a9:=λv a9 a0 c8=>by
  rcases W.grow.fresh v a9 c8 with n|n
  .exact a7.le _ _ n.2
  rw[dp]at n;obtain⟨_,_,_,d0,_⟩:=a.zN v a0;simp_all
 have f2:=((W.rel.part (Sp:=al) W.Iu.defs W.Iu.all i3).put (C 25) A (.tuple (c:=#[]) (c':=#[]) A λj5 v q2 a0 _=>by simp at a0));have f3:=f2.Nt (j:=2) (s:=pt b 0) (f2.kn (2,pt a3 0) (by simp[qN])) (.ptr ⟨a7.le _ _ SF,A,A⟩);have f4:=f3.Nt (j:=3) (s:=pt (b+1) 0) (f3.kn (3,pt a4 0) (by simp[qN])) (.ptr ⟨a7.le _ _ SG,A,A⟩);have j8:=f4.Nt (j:=4) (s:=pt (b+3) 0) (f4.kn (4,pt a5 0) (by simp[qN])) (.ptr ⟨a7.le _ _ Lk,A,A⟩);have b3:=W.Iu.size
 exact next U R _ _ h4 a7 h7 i5 (j8.less A (by simp)) (by simp[Act.put,Act.jk,b3]) W.Iu.defs
  (by simp[Act.put,Act.jk,b3]) (by simp[Act.put,Act.jk,b3]) (by simp[Act.put,Act.jk,b3])
end
variable{P:XI}{d:XC}{g:XF}{c:Xq Item}{n:Xq XC}{i:XF}
section
variable{main:Xy}
theorem FZ{p:XR}{k:XF->K->Prop}(c:Xq Item)(a:Tp (λe=>p.wp P (eB k) g e) e):
 xA P (λt e=>∃o,t=d.at o [dj c]/\k o e) (d.at g [.code p,dj c]) [] e:=by
 obtain⟨r,b,u,a⟩:=a.low;refine qO (p:=r) (x:=b) ⟨u,λy w=>?_⟩;obtain⟨s,i,z,q,arr⟩:=a y w d [dj c] [dw];cases s with
 |normal=>obtain⟨x,v⟩:=arr;exact⟨x,_,z,v,⟨i,A,q⟩,A,Xs ⟨A,c,A⟩⟩
 |_=>exact q.elim
theorem QJ{v u:Xy}{p:Xq Item}(G:Good P f)(s:jM c=J)(k:jF P f Xp u m [dj c] p):p=c:=by
 generalize b:[dj c]=y at k;cases k with
 |nil=>cases b
 |tail w t=>have:=Xq.cons.inj b;have o:=this.1;simp only[dj,Item.code.injEq,XR.cond.injEq]at o;exact(Cs s t o.2.1).symm
 |cons r x=>
  obtain⟨rfl,_⟩:=Xq.cons.inj b;cases r with
  |code _ a=>
   rcases a with a|⟨a,_⟩
   .cases a
   rw[G.code]at a;simp only[dj,codeOk,Ys]at a;have q:dy P f.fn (.const (XK (C ⟨0,0,F⟩)))=Xp:=A;rw[q]at a;cases a.1.1
end
section
variable{main:Xy}{l:Goal P f main h}
theorem g_lone(L:Good P f)(a3:f.fr d.fn=J)(R:d.kind=.normal){k:XR}(a1:f.code k=J)(T:jM c=J)(t:Inv P f h m e)(W:ar f m ⟨[],[]⟩ g i)(v:XF->K->Prop)
 (w:∀u:K,u.heap=e.heap->u.drawn=e.drawn->u.os=e.os->u.output=e.output->k.wp P (eB v) g u)(a6:∀a b,v a b->∀s,h s->b.heap[s]?=e.heap[s]?)
 (next:∀q a N b,Inv P f h q b->cX h m e q b->ar f q ⟨[],[]⟩ a N->v a b->l.G q b (rg (d.at N c) n)):l.G m e (rg (d.at i (.code k::c)) n):=by
 have a7:=FZ (d:=d) c (Tp.all λH=>w {e with tape:=H} A rfl rfl rfl);obtain⟨d2,S,a2⟩:=W.defers;simp only[Zf]at S
 have a4:bF P f Xp m (d.at g [.code k,dj c]) (d.at i (.code k::c)):=by
  refine⟨A,a3,W.tmps,?_,?_,.run,A,Xr R,?_⟩
  .refine .cons (.code k (Xs ⟨a1,λb0=>?_⟩)) (.tail ?_ T)
   .cases b0
   rfl
  .show aY (rZ f m) g.defers i.defers;rw[S];exact a2
  exact .none
 have b1:cN P f Xp m [d.at g [.code k,dj c]] [d.at i (.code k::c)]:=⟨.cons a4 .nil,λs r=>by simp only[M_,Yr]at r;subst r;exact⟨R,A⟩⟩
 have b4:=tX (main:=main) (base:=n) (h:=h) (u:=m) (k:=e) L t.cQ t.iW (v:=λO e=>∃a,O=d.at a [dj c]/\v a e) (λq d3 d4 b b7 _ x y d6 d7 Y=>by
  obtain⟨H,a,_,z⟩:=Y.one
  exact⟨b,.refl _,λs r=>a6 a _ z s r⟩) a7 t.base b1 (λ_ _=>rfl) (Ren.le_refl _) (λg d w=>Xr w) (Ye _)
 refine l.OV A (b4.bind λq b d5 r=>?_);obtain⟨O,o,rfl,d8,p,a0,a8,a5,b2,D,Z⟩:=r;refine .stop ⟨A,?_⟩;obtain⟨b5,a,rfl,z⟩:=Z.one;have b3:=p.todo;have a9:=p.mode;have U:o.todo=c:=QJ (v:=Xp) L T b3;have X:o=d.at ⟨o.tmps,o.defers⟩ c:=by
  obtain⟨fn,e1,e2,d0,e0,d9,Ol⟩:=o;simp only at U;subst U;have Q:=p.fn;have x:=p.kind;have y:=p.roundOf;cases a9;obtain⟨b9,c8,c9,b8,c6,c0,c7⟩:=d;simp only[Frame.at]at Q x y⊢
  subst Q x;cases y;rfl
 rw[X];refine l.tape (t:=b5) ?_;refine next q a ⟨o.tmps,o.defers⟩ _ ⟨a0,?_,?_⟩ ⟨a8,a5,b2,D⟩ ⟨p.tmps,⟨o.defers,by simp,p.defers⟩,by simp⟩ z
 .exact t.cQ.keep D
 exact t.iW.keep D
end
variable{c:K}{p:E}{D:Xu Oper}{R:Xq Item}{Q:Xq XC}{i:E}{d:E}{v:Xn}{S:Xq E}
structure aI(own a:E->Prop)(e c:K):Prop where
 size:e.heap.size<=c.heap.size
 keep:∀b,b<e.heap.size->¬own b->c.heap[b]?=e.heap[b]?
 more:∀b,a b->own b\/e.heap.size<=b
theorem aI.refl(own:E->Prop)(e:K):aI own own e e:=⟨Ye _,λ_ _ _=>rfl,λ_ a=>Xr a⟩
theorem aI.trans{own U W:E->Prop}{X Y:K}(a:aI own U e X)(n:aI U W X Y):aI own W e Y where
 size:=Yi a.size n.size
 keep:=λb l T=>by
  rw[n.keep b (Yk l a.size) λk=>?_,a.keep b l T];rcases a.more b k with w|w
  .exact T w
  omega
 more:=λb l=>by
  rcases n.more b l with k|k
  .exact a.more b k
  exact Xs (Yi a.size k)
theorem aI.heap{own h:E->Prop}{k:K}(g:aI own h e k)(f:c.heap=e.heap):aI own h c k:=⟨by rw[f];exact g.size,λb a l=>by rw[f]at a⊢;exact g.keep b a l,λb a=>by rw[f];exact g.more b a⟩
def aP(r:Xt)(a:RV):Xu Xn:=#[Xo M r,Xo M a.ak,Xo M a.kind,.string a.path,.string a.data,Xo M a.aE,Xo M a.flags,.bool a.watch,.slice a.oa a.on a.oc]
theorem Ua{q:Type}{b:Xu q}(a:b.size=10):∃e f g h k l m n o p,b=#[e,f,g,h,k,l,m,n,o,p]:=by
 obtain⟨c⟩:=b;simp only[YF]at a
 iterate 10
  rcases c with _|⟨_,c⟩
  simp at a
 simp_all
def rB(i:E):Xq E:=[[],[],[],[],[],[3,4],[5],[1,2,6],[0,7]].getD i []
section
variable{O:Goal TP al J h}{L:Ren}{q:K}{y:XF}{g N:E}{r:Xt}{rq:RV}{t:Xu Xn}{ez:E->Prop}
variable{H:Xn->(E->Prop)->K->Prop}{z:(E->Prop)->K->Prop}
structure Wq(h:E->Prop)(q:K)(y:XF)(u g N p s:E)(r:Xt)(rq:RV)(t:Xu Xn)(ez:E->Prop)(H:Xn->(E->Prop)->K->Prop)(z:(E->Prop)->K->Prop):Prop where
 s2:y.tmps[2]?=C (pt g 0)
 s4:y.tmps[4]?=C (pt (g+3) 0)
 s7:y.tmps[7]?=C (Xo M s)
 s8:y.tmps[8]?=C (pt N 0)
 mn:s<p
 ns:p<2^20
 c2:q.heap[g]?=C (Xx #[pt u 0] 76 (0,0))/\¬ez g
 c4:q.heap[g+3]?=C (Xx #[Xw (C ⟨g+2,0,F⟩) p p] 141 (0,0))/\¬ez (g+3)
 c8:q.heap[N]?=C (Xx (aP r rq) 107 (0,0))/\¬ez N
 cg:∃n U T,q.heap[g+2]?=C (Xx n U T)/\¬ez (g+2)/\∀j,j<10->n[s*10+j]?=t[j]?
 gs:t.size=10
 VQ:∀l,h l->l<q.heap.size/\¬ez l
 Rx:∀c,c.heap=q.heap->Calls TP 61 #[pt u 0,.agg (aP r rq),.agg t] c λk a=>∃f own,k=XB f/\H f own a/\aI ez own c a
 snd:∀f own c,H f own c->Calls TP 60 #[pt u 0,f] c λk a=>∃w,k=XB (.tuple #[])/\z w a/\aI own w c a
 mh:∀f own e c,c.heap=e.heap->H f own e->H f own c
 fh:∀own e c,c.heap=e.heap->z own e->z own c
def jN(u g p s:E)(r:Xt)(rq:RV)(t:Xu Xn)(f:Xn):Xq (E×E×Xn):=
 [(0,33,pt u 0),(1,34,pt u 0),(2,35,.agg (aP r rq)),(3,36,Xw (C ⟨g+2,0,F⟩) p p),(4,37,Xo M s),(5,38,pt (g+2) (s*10)),(6,39,.agg t),(7,40,f)]
structure RJ(h:E->Prop)(L:Ren)(q:K)(y:XF)(u g p s:E)(r:Xt)(rq:RV)(t:Xu Xn)(ez:E->Prop)(H:Xn->(E->Prop)->K->Prop)(z:(E->Prop)->K->Prop)(o:Xu Xy)(f:Xn)(own:E->Prop)(m:Ren)(e:K)(b x:XF):Prop where
 inv:Inv TP al h m e
 grow:cX h L q m e
 rel:ar al m ⟨[],[]⟩ b x
 len:b.tmps.size=43
 defs:b.defers=[]
 old:∀j,j<33->b.tmps[j]?=y.tmps[j]?
 tab:∀a∈jN u g p s r rq t f,o.getD a.1 Xp=J->b.tmps[a.2.1]?=C a.2.2
 d87:o.getD 8 Xp=J->o.getD 7 Xp=J
 Rp:aI ez own q e
 pre:o.getD 7 Xp=Xp->e.heap=q.heap
 Uz:o.getD 7 Xp=J->o.getD 8 Xp=Xp->H f own e
 fin:o.getD 8 Xp=J->z own e
variable{o:Xu Xy}{f:Xn}{own:E->Prop}
theorem DI(u g p s:E)(r:Xt)(rq:RV)(t:Xu Xn)(f:Xn):((jN u g p s r rq t f).map (·.1)).Nodup:=by show([0,1,2,3,4,5,6,7]:Xq E).Nodup;decide
theorem wG(u g p s:E)(r:Xt)(rq:RV)(t:Xu Xn)(f:Xn):((jN u g p s r rq t f).map (·.2.1)).Nodup:=by show([33,34,35,36,37,38,39,40]:Xq E).Nodup;decide
theorem RJ.eval(a:RJ h L q y u g p s r rq t ez H z o f own m e b x)(k:(i,d,v)∈jN u g p s r rq t f)(hd:o.getD i Xp=J):b.eval (.tmp d)=v/\b.tmps.getD d I=v/\b.tmps[d]?.getD I=v:=
 cE (a.tab _ k hd)
theorem Ej{k:Xq (E×E×Xn)}(l:(k.map (·.1)).Nodup)(n:(k.map (·.2.1)).Nodup){o:Xu Xy}(T:∀a∈k,o.getD a.1 Xp=J->b.tmps[a.2.1]?=C a.2.2)(w:(i,d,v)∈k)(hd:d<b.tmps.size):
 ∀a∈k,(o.setIfInBounds i J).getD a.1 Xp=J->(b.put (C d) v).tmps[a.2.1]?=C a.2.2:=by
 grind [iF,Act.put,ep]
theorem pT(X:Wq h q y u g N p s r rq t ez H z){W:Op}(a7:bM D i (C d) W)(a8:jj TP al.fn al.bi al.cj W=J)(b4:i<7)(hd:33<=d/\d<43)(a5:(i,d,v)∈jN u g p s r rq t f)
 (a:RJ h L q y u g p s r rq t ez H z o f own m e b x)(run:∀c:K,c.heap=e.heap->∀b1 b0 a0,(⟨C d,W,b1,b0,a0,F⟩:Oper).wp TP b c (λn k=>n=b.put (C d) v/\k.heap=e.heap) (eB λ_ _=>False))
 (next:∀f own m e b x,RJ h L q y u g p s r rq t ez H z (o.setIfInBounds i J) f own m e b x->O.G m e (rg ((base 39).at x (XE D S::R)) Q)):
 O.G m e (rg ((base 39).at x (XE D (i::S)::R)) Q):=by
 refine CJ aC (by decide) (by decide) a7 a8 A a.inv a.rel (λn k=>n=b.put (C d) v/\k.heap=e.heap) run (λn k a2 w _=>by rw[a2.2]) ?_;rintro b3 _ Z k Y a1 a9⟨rfl,l⟩;have T:(o.setIfInBounds i J).getD 7 Xp=o.getD 7 Xp:=ep (by omega);have U:(o.setIfInBounds i J).getD 8 Xp=o.getD 8 Xp:=ep (by omega);refine next f own b3 k _ Z ⟨Y,a.grow.trans a1,a9,by simp[Act.put,a.len],a.defs,λj a4=>?_,Ej (DI ..) (wG ..) a.tab a5 (by rw[a.len];exact hd.2),by rw[T,U];exact a.d87,⟨by rw[l];exact a.Rp.size,λb a3 a6=>by rw[l];exact a.Rp.keep b a3 a6,a.Rp.more⟩,by rw[T,l];exact a.pre,by rw[T,U];exactλw b2=>X.mh _ _ _ _ l (a.Uz w b2),by rw[U];exactλw=>X.fh _ _ _ l (a.fin w)⟩
 simp only[Act.put];rw[Yj (by omega)];exact a.old j a4
theorem Oi(l:Wq h q y u g N p s r rq t ez H z)(g1:D.size=9)(i2:Cp D=J)(h9:∀{o:Xu Xy}{i:E},i∈Region.ready .any D o->∀j∈rB i,o.getD j Xp=J)
 (b4:bM D 0 (C 33) (.load 76 (.tmp 2)))(a4:bM D 1 (C 34) (.load 76 (.tmp 2)))(b5:bM D 2 (C 35) (.load 107 (.tmp 8)))(b6:bM D 3 (C 36) (.load 141 (.tmp 4)))(b7:bM D 4 (C 37) (.move (.tmp 7)))
 (b8:bM D 5 (C 38) (.indexAddr 141 (.tmp 36) (.tmp 37)))(b9:bM D 6 (C 39) (.load 158 (.tmp 38)))(c0:bM D 7 (C 40) (.call {callee:=.value (.func 61),args:=#[.tmp 34,.tmp 35,.tmp 39],argTypes:=#[76,107,158]}))
 (c6:bM D 8 (C 41) (.call {callee:=.value (.func 60),args:=#[.tmp 33,.tmp 40],argTypes:=#[76,38]})){id:E}(g4:Inv TP al h L q)(i5:ar al L ⟨[],[]⟩ y x)(i4:y.tmps.size=43)(i0:y.defers=[])
 (next:∀own m e b x,Inv TP al h m e->cX h L q m e->ar al m ⟨[],[]⟩ b x->b.tmps.size=43->b.defers=[]->(∀j,j<33->b.tmps[j]?=y.tmps[j]?)->z own e->aI ez own q e->O.G m e (rg ((base 39).at x R) Q)):
 O.G L q (rg ((base 39).at x (.code (.region id D J)::R)) Q):=by
 refine Ia (c:=λ_:Unit=>O) rR i2 (λo _ m e b x=>∃f own,RJ h L q y u g p s r rq t ez H z o f own m e b x) ?_ ?_ (b:=()) ⟨I,ez,⟨g4,.refl _ _,i5,i4,i0,λ_ _=>rfl,λT _ hd=>?_,λhd=>?_,.refl _ _,λ_=>rfl,λhd=>?_,λhd=>?_⟩⟩
 .rintro o i S j0 f9 f6 _ m e b x⟨f,own,a⟩;have hd:=h9 f9;obtain⟨i3,j4,_⟩:=lC.1 f9;rw[g1]at i3;have d5:o.getD i Xp=Xp:=by
   simp_all
  have d1:∀W,W<q.heap.size->¬ez W->e.heap[W]?=q.heap[W]?:=a.Rp.keep
  have n:∀{W j:E}{e0:Xu Xn}{g3:XA}{f7:E×E}{v:Xn},q.heap[W]?=C (Xx e0 g3 f7)->¬ez W->e0[j]?=C v->∀c:K,c.heap=e.heap->c.cell? ⟨W,j,F⟩=C v:=by grind [World.cell?]
  have w:∀f own m e b x,RJ h L q y u g p s r rq t ez H z (o.setIfInBounds i J) f own m e b x->O.G m e (rg ((base 39).at x (XE D S::R)) Q):=λf own m e b x a=>f6 () m e b x ⟨f,own,a⟩;have a8:b.tmps[2]?=C (pt g 0):=(a.old 2 (by omega)).trans l.s2;have b0:b.tmps[4]?=C (pt (g+3) 0):=(a.old 4 (by omega)).trans l.s4;have b1:b.tmps[7]?=C (Xo M s):=(a.old 7 (by omega)).trans l.s7;have b2:b.tmps[8]?=C (pt N 0):=(a.old 8 (by omega)).trans l.s8;clear f6;rcases(by omega:i=0\/i=1\/i=2\/i=3\/i=4\/i=5\/i=6\/i=7\/i=8)with rfl|rfl|rfl|rfl|rfl|rfl|rfl|rfl|rfl
  .obtain⟨c7,c8,c9⟩:=cE a8;have b3:=n (j:=0) l.c2.1 l.c2.2 A;refine pT l (v:=pt u 0) b4 (by rfl) (by decide) (by decide) (by simp[jN]) a (λc k a6 a5 T=>?_) w;replace b3:=b3 c k;clear w a n d1 next l hd b4 a4 b5 b6 b7 b8 b9 c0 c6 a8 b0 b1 b2
   go_wp2
   all_goals first|exact⟨rfl,k⟩|exact k
  .obtain⟨c7,c8,c9⟩:=cE a8;have b3:=n (j:=0) l.c2.1 l.c2.2 A;refine pT l (v:=pt u 0) a4 (by rfl) (by decide) (by decide) (by simp[jN]) a (λc k a6 a5 T=>?_) w;replace b3:=b3 c k;clear w a n d1 next l hd b4 a4 b5 b6 b7 b8 b9 c0 c6 a8 b0 b1 b2
   go_wp2
   all_goals first|exact⟨rfl,k⟩|exact k
  .obtain⟨c7,c8,c9⟩:=cE b2;refine pT l (v:=.agg (aP r rq)) b5 (by rfl) (by decide) (by decide) (by simp[jN]) a (λc k a6 a5 T=>?_) w;obtain⟨j8,j9,k0,k1,k2,k3,k4,j5,j7,j6⟩:=rq;have a2:=l.c8.1;unfold aP at a2⊢
   have g5:=n (j:=0) a2 l.c8.2 A c k;have c1:=n (j:=1) a2 l.c8.2 A c k;have c2:=n (j:=2) a2 l.c8.2 A c k;have c3:=n (j:=3) a2 l.c8.2 A c k;have c4:=n (j:=4) a2 l.c8.2 A c k;have c5:=n (j:=5) a2 l.c8.2 A c k;have g6:=n (j:=6) a2 l.c8.2 A c k;have g7:=n (j:=7) a2 l.c8.2 A c k;have g8:=n (j:=8) a2 l.c8.2 A c k;clear w a n d1 next l hd b4 a4 b5 b6 b7 b8 b9 c0 c6 a8 b0 b1 b2 a2
   go_wp2
   all_goals first|exact⟨rfl,k⟩|exact k
  .obtain⟨c7,c8,c9⟩:=cE b0;have b3:=n (j:=0) l.c4.1 l.c4.2 A;refine pT l (v:=Xw (C ⟨g+2,0,F⟩) p p) b6 (by rfl) (by decide) (by decide) (by simp[jN]) a (λc k a6 a5 T=>?_) w;replace b3:=b3 c k;clear w a n d1 next l hd b4 a4 b5 b6 b7 b8 b9 c0 c6 a8 b0 b1 b2
   go_wp2
   all_goals first|exact⟨rfl,k⟩|exact k
  .obtain⟨c7,c8,c9⟩:=cE b1;refine pT l (v:=Xo M s) b7 (by rfl) (by decide) (by decide) (by simp[jN]) a (λc k a6 a5 T=>?_) w;clear w a n d1 next l hd b4 a4 b5 b6 b7 b8 b9 c0 c6 a8 b0 b1 b2
   go_wp2
   all_goals first|exact⟨rfl,k⟩|exact k
  .obtain⟨c7,c8,c9⟩:=a.eval (i:=3) (d:=36) (v:=Xw (C ⟨g+2,0,F⟩) p p) (by simp[jN]) (hd 3 (by simp[rB]));obtain⟨q1,f3,f4⟩:=a.eval (i:=4) (d:=37) (v:=Xo M s) (by simp[jN]) (hd 4 (by simp[rB]));have j2:=l.mn;have j3:(s:Xt)<p:=by omega
   refine pT l (v:=pt (g+2) (s*10)) b8 (by rfl) (by decide) (by decide) (by simp[jN]) a (λc k a6 a5 T=>?_) w;clear w a n d1 next l hd b4 a4 b5 b6 b7 b8 b9 c0 c6 a8 b0 b1 b2
   go_wp2
   all_goals first|exact⟨rfl,k⟩|exact k
  .obtain⟨c7,c8,c9⟩:=a.eval (i:=5) (d:=38) (v:=pt (g+2) (s*10)) (by simp[jN]) (hd 5 (by simp[rB]));obtain⟨e0,g3,f7,a0,a1,Z⟩:=l.cg;obtain⟨g9,h0,h1,h2,h3,h4,h5,h6,h7,h8,f8⟩:=Ua l.gs;refine pT l (v:=.agg t) b9 (by rfl) (by decide) (by decide) (by simp[jN]) a (λc k a6 a5 T=>?_) w;rw[f8]at Z⊢
   have g5:=n (j:=s*10) (v:=g9) a0 a1 (Z 0 (by decide)) c k;have c1:=n (j:=s*10+1) (v:=h0) a0 a1 (Z 1 (by decide)) c k;have c2:=n (j:=s*10+2) (v:=h1) a0 a1 (Z 2 (by decide)) c k;have c3:=n (j:=s*10+3) (v:=h2) a0 a1 (Z 3 (by decide)) c k;have c4:=n (j:=s*10+4) (v:=h3) a0 a1 (Z 4 (by decide)) c k;have c5:=n (j:=s*10+5) (v:=h4) a0 a1 (Z 5 (by decide)) c k;have g6:=n (j:=s*10+6) (v:=h5) a0 a1 (Z 6 (by decide)) c k;have g7:=n (j:=s*10+7) (v:=h6) a0 a1 (Z 7 (by decide)) c k;have g8:=n (j:=s*10+8) (v:=h7) a0 a1 (Z 8 (by decide)) c k;have i8:=n (j:=s*10+9) (v:=h8) a0 a1 (Z 9 (by decide)) c k;clear w a n d1 next l hd b4 a4 b5 b6 b7 b8 b9 c0 c6 a8 b0 b1 b2 Z a0 a1 f8
   go_wp2
   all_goals first|exact⟨rfl,k⟩|exact k
  ·
   obtain⟨c7,c8,c9⟩:=a.eval (i:=1) (d:=34) (v:=pt u 0) (by simp[jN]) (hd 1 (by simp[rB]));obtain⟨q1,f3,f4⟩:=a.eval (i:=2) (d:=35) (v:=.agg (aP r rq)) (by simp[jN]) (hd 2 (by simp[rB]));obtain⟨k6,k7,k8⟩:=a.eval (i:=6) (d:=39) (v:=.agg t) (by simp[jN]) (hd 6 (by simp[rB]));have e9:=a.pre d5;have i9:o.getD 8 Xp=Xp:=by
    cases X:o.getD 8 Xp with
    |false=>rfl
    |true=>rw[a.d87 X]at d5;cases d5
   refine CJ aC (by decide) (by decide) c0 (by rfl) A a.inv a.rel (λa7 U=>∃f own,a7=b.put (C 40) f/\H f own U/\aI ez own q U) (λc k a6 a5 T=>?_) ?_ ?_
   .have d6:=l.Rx c (k.trans e9);generalize d4:(λa7 U=>∃f own,a7=b.put (C 40) f/\H f own U/\aI ez own q U)=e2
    have fin:∀f own a9,H f own a9->aI ez own c a9->e2 (b.put (C 40) f) a9:=λf own a9 d0 a3=>by subst d4;exact⟨f,own,A,d0,a3.heap (k.trans e9).symm⟩
    unfold Oper.wp
    have f1:(execOp b.eval ⟨C 40,.call {callee:=.value (.func 61),args:=#[.tmp 34,.tmp 35,.tmp 39],argTypes:=#[76,107,158]},a6,a5,T,F⟩).run TP c=.ok (.enter 61 #[pt u 0,.agg (aP r rq),.agg t]) c:=by
     generalize aP r rq=k5 at q1 f3 f4⊢
     clear d6 fin d4 w a l;go_simp
    rw[f1,abc];refine d6.mono ?_
    grind
   .rintro a7 U⟨a4,g2,_,_,a3⟩ W X;obtain⟨d8,d9⟩:=l.VQ W X;rw[a3.keep W d8 d9,e9]
   rintro f5 _ e5 U e1 e8 f2⟨a4,g2,rfl,d0,a3⟩;refine w a4 g2 f5 U _ e5 ⟨e1,a.grow.trans e8,f2,by simp[Act.put,a.len],a.defs,λj f0=>?_,?_,λ_=>getD_eq (by omega),a3,λX=>?_,λ_ _=>d0,λX=>?_⟩
   .simp only[Act.put];rw[Yj (by omega)];exact a.old j f0
   .refine Ej (DI ..) (wG ..) (b:=b) (λT d3 d2=>?_) (by simp[jN]) (by rw[a.len];decide);refine a.tab T ?_ d2;simp only[jN,Yg,Yo,Ze]at d3⊢
    rcases d3 with rfl|rfl|rfl|rfl|rfl|rfl|rfl|rfl
    all_goals first|(simp;done)|(rw[d5]at d2;cases d2)
   .rw[getD_eq (by omega)]at X;cases X
   simp_all
  ·
   have d7:=hd 7 (by simp[rB]);obtain⟨c7,c8,c9⟩:=a.eval (i:=0) (d:=33) (v:=pt u 0) (by simp[jN]) (hd 0 (by simp[rB]));obtain⟨q1,f3,f4⟩:=a.eval (i:=7) (d:=40) (v:=f) (by simp[jN]) d7;refine CJ aC (by decide) (by decide) c6 (by rfl) A a.inv a.rel (λa7 U=>∃Y,a7=b.put (C 41) (.tuple #[])/\z Y U/\∃c,c.heap=e.heap/\aI own Y c U) (λc k a6 a5 T=>?_) ?_ ?_
   .have d6:=l.snd f own c (l.mh _ _ _ _ k (a.Uz d7 d5));generalize d4:(λa7 U=>∃Y,a7=b.put (C 41) (.tuple #[])/\z Y U/\∃c,c.heap=e.heap/\aI own Y c U)=e2
    have fin:∀Y a9,z Y a9->aI own Y c a9->e2 (b.put (C 41) (.tuple #[])) a9:=λY a9 d0 a3=>by subst d4;exact⟨Y,A,d0,c,k,a3⟩
    unfold Oper.wp
    have f1:(execOp b.eval ⟨C 41,.call {callee:=.value (.func 60),args:=#[.tmp 33,.tmp 40],argTypes:=#[76,38]},a6,a5,T,F⟩).run TP c=.ok (.enter 60 #[pt u 0,f]) c:=by clear d6 fin d4 w a l;go_simp
    rw[f1,abc];refine d6.mono ?_
    grind
   .rintro a7 U⟨Y,_,_,c,T,a3⟩ W X;obtain⟨d8,d9⟩:=l.VQ W X;have i6:=a.Rp.trans (a3.heap T.symm);rw[i6.keep W d8 d9,a.Rp.keep W d8 d9]
   rintro f5 _ e5 U e1 e8 f2⟨Y,rfl,d0,c,T,a3⟩;have j1:8<o.size:=by omega
   refine w f Y f5 U _ e5 ⟨e1,a.grow.trans e8,f2,by simp[Act.put,a.len],a.defs,λj f0=>?_,λe7 d3 d2=>?_,λ_=>by rw[ep (by decide)];exact d7,a.Rp.trans (a3.heap T.symm),λX=>?_,λ_ X=>?_,λ_=>d0⟩
   .simp only[Act.put];rw[Yj (by omega)];exact a.old j f0
   .have g0:e7.1≠8/\e7.2.1≠41:=by
     simp only[jN,Yg,Yo,Ze]at d3;rcases d3 with rfl|rfl|rfl|rfl|rfl|rfl|rfl|rfl<;>simp
    rw[ep g0.1]at d2;exact cA (a.tab e7 d3 d2) g0.2
   .rw[ep (by decide),d7]at X;cases X
   simp_all
 .rintro o i1 _ m e b x⟨f,own,a⟩;exact bO (next own m e b x a.inv a.grow a.rel a.len a.defs a.old (a.fin (i1 8 (by omega))) a.Rp)
 all_goals (exfalso;rw[g1]at*;revert hd;simp[YG,Xu.getElem?_replicate];try (split<;>simp))
end
variable{e:E}{t:Xq XC}{f:K}
def nJ(own:E->Prop)(d:Xu Xn):Prop:=∀b c a,d[8]?=C (Xw (C b) c a)->¬own b.block
structure LK(St:E->(E->Prop)->K->Prop)(q:E->Xn->(E->Prop)->K->Prop)(u e d:E)(m:E->Xt)(rq:E->RV)(p:E->LR):Prop where
 Rx:∀a,a<e->∀own c w,St a own c->cm (p a) d w c->nJ own w->Calls TP 61 #[pt u 0,.agg (aP (m a) (rq a)),.agg (w.push (p a).ev)] c λv f=>∃l n,v=XB l/\q a l n f/\aI own n c f
 snd:∀a,a<e->∀l own c,q a l own c->Calls TP 60 #[pt u 0,l] c λv f=>∃n,v=XB (.tuple #[])/\St (a+1) n f/\aI own n c f
 sg:∀a own(c f:K),(∀b,b<c.heap.size->f.heap[b]?=c.heap[b]?)->c.heap.size<=f.heap.size->St a own c->St a own f
 sl:∀a own c,St a own c->∀b,own b->b<c.heap.size
 mh:∀a l own(c f:K),f.heap=c.heap->q a l own c->q a l own f
section
variable{s:Goal TP al J h}{St:E->(E->Prop)->K->Prop}{q:E->Xn->(E->Prop)->K->Prop}{o d:E}{m:E->Xt}{rq:E->RV}{p:E->LR}
variable{r:Ren}{g:K}{i:E->Prop}
structure qd(h:E->Prop)(g:K)(u e o d:E)(O:Xz XG)(m:E->Xt)(rq:E->RV)(p:E->LR)(i:E->Prop):Prop where
 small:e<2^20
 h2:g.heap[d]?=C (Xx #[pt u 0] 76 (0,0))/\¬i d
 h3:g.heap[d+1]?=C (Xx #[.slice O e o] 103 (0,0))/\¬i (d+1)
 h4:g.heap[d+3]?=C (Xx #[Xw (C ⟨d+2,0,F⟩) e e] 141 (0,0))/\¬i (d+3)
 Uo:∃n v,g.heap[d+2]?=C (Xx n 158 v)/\∀a,a<e->∃z,cm (p a) d z g/\(∀j,j<9->n[a*10+j]?=z[j]?)/\n[a*10+9]?=C (p a).ev
 VI:¬i (d+2)
 nfree:∀b,d<=b->¬i b
 list:e=0\/∃l y x D v,O=C ⟨l,y,F⟩/\g.heap[l]?=C (Xx x D v)/\¬i l/\∀a,a<e->∀j,j<9->x[y+a*9+j]?=(aP (m a) (rq a))[j]?
 Ol:∀w,h w->w<g.heap.size/\¬i w
structure TW(St:E->(E->Prop)->K->Prop)(h:E->Prop)(r:Ren)(g:K)(i:E->Prop)(e o d:E)(O:Xz XG)(n:E)(a:Ren)(c:K)(b k:XF):Prop where
 inv:Inv TP al h a c
 grow:cX h r g a c
 rel:ar al a ⟨[],[]⟩ b k
 size:b.tmps.size=43
 defs:b.defers=[]
 s2:b.tmps[2]?=C (pt d 0)
 s3:b.tmps[3]?=C (pt (d+1) 0)
 s4:b.tmps[4]?=C (pt (d+3) 0)
 WL:b.tmps[26]?=C (.slice O e o)
 WM:b.tmps[27]?=C (Xo M e)
 WN:b.tmps[28]?=C (Xo M n)
 st:∃own,St n own c/\aI i own g c
theorem Gi{own d:E->Prop}(e:aI own d c f){b:E}(i:b<c.heap.size)(h:¬own b):¬d b:=λg=>by
 rcases e.more b g with a|a
 .exact h a
 omega
theorem KL(z:LK St q u e d m rq p)(w:qd h g u e o d O m rq p i)(i9:St 0 i g)(h3:Inv TP al h r g)(j2:ar al r ⟨[],[]⟩ b k)(j1:b.tmps.size=43)(i3:b.defers=[])
 (f5:b.tmps[2]?=C (pt d 0))(g9:b.tmps[3]?=C (pt (d+1) 0))(f6:b.tmps[4]?=C (pt (d+3) 0))
 (next:∀own H c b k,Inv TP al h H c->cX h r g H c->ar al H ⟨[],[]⟩ b k->b.defers=[]->St e own c->aI i own g c->s.G H c (rg ((base 39).at k []) t)):
 s.G r g (rg ((base 39).at k [.code (tl (tl (tl (tl (tl lM)))))]) t):=by
 show s.G r g (rg ((base 39).at k [.code (.seq _ _)]) t);obtain⟨h0,f8⟩:=b;simp only at j1 i3 f5 g9 f6;obtain⟨X,Y,k1,k5,k6,d0,d1,e1,e2,d2,Z,a0,a1,a2,a3,a4,a5,a6,a7,a8,a9,b0,b1,b2,b3,b4,k2,k3,k4,h1,d8,d9,e0,b5,b6,b7,b8,b9,c0,c6,c7,c8,c9,rfl⟩:=va j1;simp only[Yy,YI,YB,Yr]at f5 g9 f6;subst f5 g9 f6 i3;have g0:∀{n:E}{e8:Obj},g.heap[n]?=C e8->n<g.heap.size:=by grind
 refine bu (bW aC (by decide) (by decide) (z:=[]) A (by rfl) h3 j2 (λx v=>x=⟨#[X,Y,pt d 0,pt (d+1) 0,pt (d+3) 0,d0,d1,e1,e2,d2,Z,a0,a1,a2,a3,a4,a5,a6,a7,a8,a9,b0,b1,b2,b3,b4,.slice O e o,Xo M e,Xo M (0:E),h1,d8,d9,e0,b5,b6,b7,b8,b9,c0,c6,c7,c8,c9],[]⟩/\v.heap=g.heap) (λf y _ _ _=>?_) (λx v a n _=>by rw[a.2]) ?_)
 .have g1:f.cell? ⟨d+1,0,F⟩=C (.slice O e o):=by simp[K.cell?,y,w.h3.1]
  go_wp2
  exact⟨A,y⟩
 rintro x0 _ t4 s5 h4 h8 j3⟨rfl,g3⟩;refine ik ?_;refine qD (c:=λ_:Unit=>s) (λj _ H c k=>∃l b,l+j=e/\TW St h r g i e o d O l H c b k) ?_ ?_ e (a:=()) ⟨0,_,by omega,⟨h4,h8,j3,A,A,A,A,A,A,A,A,i,z.sg 0 i g s5 (λb _=>by rw[g3]) (by simp_all) i9,⟨by simp_all,λb _ _=>by rw[g3],λb a=>Xr a⟩⟩⟩
 .clear j3 h4 h8 g3 j2 i9 h3;rintro j j5 _ H c k⟨l,b,m9,a⟩;have W:l<e:=by omega
  obtain⟨own,d3,U⟩:=a.st;obtain⟨h0,f8⟩:=b;obtain⟨X,Y,k1,k5,k6,d0,d1,e1,e2,d2,Z,a0,a1,a2,a3,a4,a5,a6,a7,a8,a9,b0,b1,b2,b3,b4,k2,k3,k4,h1,d8,d9,e0,b5,b6,b7,b8,b9,c0,c6,c7,c8,c9,rfl⟩:=va a.size;have hd:=a.defs;subst hd;have e9:=a.s2;have f3:=a.s3;have f4:=a.s4;have f0:=a.WL;have f1:=a.WM;have f2:=a.WN;simp only[Yy,YI,YB,Yr]at e9 f3 f4 f0 f1 f2;subst e9 f3 f4 f0 f1 f2;have u9:(l:Xt)<e:=by omega
  refine bu (bW aC (by decide) (by decide) (z:=[]) A (by rfl) a.inv a.rel (λx v=>x=⟨#[X,Y,pt d 0,pt (d+1) 0,pt (d+3) 0,d0,d1,e1,e2,d2,Z,a0,a1,a2,a3,a4,a5,a6,a7,a8,a9,b0,b1,b2,b3,b4,.slice O e o,Xo M e,Xo M l,.bool J,d8,d9,e0,b5,b6,b7,b8,b9,c0,c6,c7,c8,c9],[]⟩/\v.heap=c.heap) (λf y _ _ _=>?_) (λx v a n _=>by rw[a.2]) ?_)
  .go_wp2
   exact⟨by simp[W],y⟩
  rintro k9 _ h5 v T e3 R⟨rfl,d4⟩;refine bu (iT (k:=J) (iU T.base R (by decide) A) (sI (bu (ik (bu ?_)))));obtain⟨L,d6,l3,o7,l8,rfl,f9,i0,h9⟩:=w.list.resolve_left (by omega);have i1:v.heap[L]?=C (Xx l3 o7 l8):=by rw[d4,U.keep L (g0 f9) i0,f9]
  refine bW aC (by decide) (by decide) (z:=[]) A (by rfl) T R (λx D=>x=⟨#[X,Y,pt d 0,pt (d+1) 0,pt (d+3) 0,d0,d1,Xo M l,pt v.heap.size 0,d2,Z,a0,a1,a2,a3,a4,a5,a6,a7,a8,a9,b0,b1,b2,b3,b4,Xw (C ⟨L,d6,F⟩) e o,Xo M e,Xo M l,.bool J,Xo M l,pt L (d6+l*9),.agg (aP (m l) (rq l)),b5,b6,b7,b8,b9,c0,c6,c7,c8,c9],[]⟩/\D.heap=v.heap.push (.cells (aP (m l) (rq l)) 107 (0,0))) (λf y _ _ _=>?_) ?_ ?_
  .obtain⟨⟨n9,o0,o1,o2,o3,o4,o5,n5,n7,n6⟩,i8⟩:∃n8,rq l=n8:=by simp
   have g2:=h9 l W;rw[i8]at g2⊢
   unfold aP at g2⊢
   rw[<-y]at i1;have cell:∀j k7,j<9->#[Xo M (m l),Xo M n9,Xo M o0,.string o1,.string o2,Xo M o3,Xo M o4,.bool o5,.slice n5 n7 n6][j]?=C k7->f.cell? ⟨L,d6+l*9+j,F⟩=C k7:=by simp_all [K.cell?]
   have t9:f.cell? ⟨L,d6+l*9,F⟩=C (Xo M (m l)):=cell 0 _ (by decide) A;have c1:=cell 1 _ (by decide) A;have c2:=cell 2 _ (by decide) A;have c3:=cell 3 _ (by decide) A;have c4:=cell 4 _ (by decide) A;have c5:=cell 5 _ (by decide) A;have u0:=cell 6 _ (by decide) A;have u1:=cell 7 _ (by decide) A;have l7:=cell 8 _ (by decide) A;rw[<-y];clear j5 a next z w d3 U cell g2 h9 f9 i0 i1 i8 d4 R e3 T y
   go_wp2
   exact⟨A,A⟩
  .grind [zf]
  rintro x1 _ t5 D l0 m0 j4⟨rfl,u7⟩;obtain⟨l6,l9,g1,m7⟩:=w.Uo;obtain⟨d7,j0,v2,v1⟩:=m7 l W;have v3:=j0.size;have i4:c.heap.size<=D.heap.size:=by simp_all
  have i6:∀n,n<c.heap.size->D.heap[n]?=c.heap[n]?:=by grind
  have m5:=z.sg l own c D i6 i4 d3;have i2:=U.trans ⟨i4,λn e4 _=>i6 n e4,λn a=>Xr a⟩;have N:∀{n:E}{e8:Obj},g.heap[n]?=C e8->¬i n->D.heap[n]?=C e8/\¬own n:=λa i7=>⟨by rw[i2.keep _ (g0 a) i7,a],Gi U (g0 a) i7⟩
  have g4:∀f:K,f.heap=D.heap->cm (p l) d d7 f/\nJ own d7:=by
   intro f Q;obtain⟨g7,sl,j7,d5⟩:=j0;refine⟨⟨g7,sl,j7,?_⟩,λl4 n3 f7 e4=>?_⟩
   .rcases d5 with d5|⟨j8,h6,f7,k0,h7,g5,e6,g6,j6⟩
    .exact Xr d5
    exact Xs ⟨j8,h6,f7,k0,h7,g5,e6,by rw[Q];exact(N g6 (w.nfree _ e6)).1,j6⟩
   have e5:d7.toList[8]?=C (Xw (C l4) n3 f7):=by grind
   rw[j7,<-Yz,YQ (by simp[g7])]at e5;simp[g7]at e5;rcases d5 with⟨d5,_⟩|⟨j8,h6,c3,k0,h7,g5,e6,g6,j6⟩
   .simp_all
   rw[g5]at e5;cases e5;exact(N g6 (w.nfree _ e6)).2
  have m6:¬own v.heap.size:=λn0=>by have:=z.sl l own c d3 _ n0;simp_all
  refine Oi (u:=u) (g:=d) (N:=v.heap.size) (p:=e) (s:=l) (r:=m l) (rq:=rq l) (t:=d7.push (p l).ev) (ez:=own) (H:=q l) (z:=St (l+1)) {
   s2:=A
   s4:=A
   s7:=A
   s8:=A
   mn:=W
   ns:=w.small
   c2:=N w.h2.1 w.h2.2
   c4:=N w.h4.1 w.h4.2
   c8:=⟨by simp_all,m6⟩
   cg:=⟨l6,158,l9,(N g1 w.VI).1,(N g1 w.VI).2,λj u8=>by grind⟩
   gs:=by simp_all
   VQ:=λn e4=>by
    obtain⟨w8,w9⟩:=w.Ol n e4
    grind
   Rx:=λf Q=>z.Rx l W own f d7 (z.sg l own D f (λb _=>by rw[Q]) (by simp_all) m5) (g4 f Q).1 (g4 f Q).2
   snd:=λg8 own f a=>z.snd l W g8 own f a
   mh:=λg8 own c f=>z.mh l g8 own c f
   fh:=λown c f Q=>z.sg (l+1) own c f (λb _=>by rw[Q]) (by simp_all)} A (by decide+kernel) (λm8=>Hv (R:=9) A (by decide+kernel) m8)
   ⟨_,A,A,A,A⟩ ⟨_,A,A,A,A⟩ ⟨_,A,A,A,A⟩ ⟨_,A,A,A,A⟩ ⟨_,A,A,A,A⟩ ⟨_,A,A,A,A⟩ ⟨_,A,A,A,A⟩ ⟨_,A,A,A,A⟩ ⟨_,A,A,A,A⟩ l0 j4 A rfl ?_
  intro j9 x2 k8 l5 t6 l1 m1 n1 n4 u3 S m3 m4;have s6:=S 2 (by omega);have t0:=S 3 (by omega);have t1:=S 4 (by omega);have s7:=S 26 (by omega);have s8:=S 27 (by omega);have s9:=S 28 (by omega);clear S j4 R g4 N;obtain⟨h0,f8⟩:=l5;obtain⟨o8,o9,w1,w5,w6,s0,s1,s2,s3,s4,p0,p1,p2,p3,p4,p5,p6,p7,p8,p9,q0,q2,q3,q4,q5,q6,w2,w3,w4,q7,q8,q9,r0,r1,r2,r3,r4,r5,r6,r7,r8,r9,w7,rfl⟩:=va n4;simp only[Yy,YI,YB,Yr]at s6 t0 t1 s7 s8 s9;refine CL (bW aC (by decide) (by decide) (z:=[]) A (by rfl) l1 n1 (λx h2=>x=⟨#[o8,o9,pt d 0,pt (d+1) 0,pt (d+3) 0,s0,s1,s2,s3,s4,p0,p1,p2,p3,p4,p5,p6,p7,p8,p9,q0,q2,q3,q4,q5,q6,Xw (C ⟨L,d6,F⟩) e o,Xo M e,Xo M ((l+1:E):Xt),q7,q8,q9,r0,r1,r2,r3,r4,r5,r6,r7,r8,r9,Xo M ((l+1:E):Xt)],[]⟩/\h2.heap=k8.heap) (λf y _ _ _=>?_) (λx v a n _=>by rw[a.2]) ?_)
  .have v0:=w.small
   go_wp2
   exact⟨A,y⟩
  rintro x3 _ t7 h2 l2 m2 n2⟨rfl,i5⟩;refine j5 () _ _ _ ⟨l+1,_,by omega,⟨l2,(((a.grow.trans e3).trans m0).trans m1).trans m2,n2,A,A,A,A,A,A,A,A,j9,z.sg (l+1) j9 k8 h2 (λb _=>by rw[i5]) (by simp_all) m3,?_⟩⟩;exact(i2.trans m4).trans ⟨by simp_all,λb _ _=>by rw[i5],λb a=>Xr a⟩
 rintro _ H c k⟨l,b,m9,a⟩;obtain rfl:e=l:=by omega
 obtain⟨own,d3,U⟩:=a.st;obtain⟨h0,f8⟩:=b;obtain⟨X,Y,k1,k5,k6,d0,d1,e1,e2,d2,Z,a0,a1,a2,a3,a4,a5,a6,a7,a8,a9,b0,b1,b2,b3,b4,k2,k3,k4,h1,d8,d9,e0,b5,b6,b7,b8,b9,c0,c6,c7,c8,c9,rfl⟩:=va a.size;have hd:=a.defs;have e9:=a.s2;have f3:=a.s3;have f4:=a.s4;have f0:=a.WL;have f1:=a.WM;have f2:=a.WN;simp only[Yy,YI,YB,Yr]at e9 f3 f4 f0 f1 f2;refine bu (bW aC (by decide) (by decide) (z:=[]) A (by rfl) a.inv a.rel (λx v=>x=⟨#[X,Y,pt d 0,pt (d+1) 0,pt (d+3) 0,d0,d1,e1,e2,d2,Z,a0,a1,a2,a3,a4,a5,a6,a7,a8,a9,b0,b1,b2,b3,b4,.slice O e o,Xo M e,Xo M e,.bool Xp,d8,d9,e0,b5,b6,b7,b8,b9,c0,c6,c7,c8,c9],[]⟩/\v.heap=c.heap) (λf y _ _ _=>?_) (λx v a n _=>by rw[a.2]) ?_)
 .go_wp2
  exact⟨by simp,y⟩
 rintro k9 _ h5 v T e3 R⟨rfl,d4⟩;refine bu (iT (k:=Xp) (iU T.base R (by decide) A) (sH (a:=[]) A ?_));exact next own k9 v _ h5 T (a.grow.trans e3) R A (z.sg e own c v (λb _=>by rw[d4]) (by simp_all) d3) (U.trans ⟨by simp_all,λb _ _=>by rw[d4],λb a=>Xr a⟩)
end
variable{c:Xn}{a:K}{b:E}
def nH(a d:K):Prop:=a.heap.size<=d.heap.size/\∀b,b<a.heap.size->d.heap[b]?=a.heap[b]?\/∃c e f g,aS c/\a.heap[b]?=C (Obj.cells c e f)/\d.heap[b]?=C (Obj.cells c e g)
structure Rb(St:E->(E->Prop)->K->Prop)(h m:E->Prop)(a:K)(v:E->LR)(N:E->Xt)(rq:E->RV)(ez:E->Prop)(u x b Q t:E)(O:Xz XG):Prop where
 Ll:∀d,h d->∃f w,a.heap[d]?=C (Xx f w (0,f.size))/\0<f.size/\(∀(k:E) g,f[k]?=C g->aQ h g)/\¬aS f
 IB:∀r,(0<r\/r=TP.globals.size)->r<=TP.globals.size->h r
 xt:∀d,m d->(∃f w i,a.heap[d]?=C (Xx f w i)/\0<f.size/\i.2<=f.size/\¬aS f/\∀(k:E) g,f[k]?=C g->aQ m g)\/∃D e,a.heap[d]?=C (.map D e)/\∀q∈D.toList,aQ m q.key/\aQ m q.val
 TI:m x
 hc:∃l y i,a.heap[u]?=C (Xx l y i)/\i.2<=l.size/\l[1]?=C (Xo M t)/\l[2]?=C (pt x 0)/\¬aS l/\∀(k:E) g,l[k]?=C g->Ja g
 hA:O=F/\b=0\/∃s H o y i,O=C ⟨s,H,F⟩/\a.heap[s]?=C (Xx o y i)/\0<o.size/\i.2<=o.size/\(∀(k:E) g,o[k]?=C g->Calm g)/\¬ez s/\∀e,e<b->∀j,j<9->o[H+e*9+j]?=(aP (N e) (rq e))[j]?
 small:b<2^20
 Ip:1<=t/\t<2^16
 ev:∀e,Plain (v e).ev
 look:∀e,e<b->∀n:K,(∀d,m d\/h d->n.heap[d]?=(a.heap[d]?).map Obj.whole)->a.heap.size<=n.heap.size->Calls TP 58 #[pt x 0,.string (rq e).path] n λq p=>∃L,q=XB (.tuple #[.agg L,(v e).ev])/\cm (v e) n.heap.size L p/\Below n.heap.size n p
 init:∀p,nH a p->St 0 ez p
 WG:∀d,ez d->d<a.heap.size
 WH:∀d,h d->¬ez d
theorem Gm(a:∀b,c≠.int .u8 b):¬aS #[c]:=λ⟨e,f,d⟩=>a f (one_cell (P:=λg=>c=g) A e _ d)
theorem results39(c:Xu Xn)(a:K):(results Tryz.f39 c).run TP a=.ok (.tuple #[]) a:=by have b:Tryz.f39.results=#[]:=A;unfold results;rw[b];simp[go_sem]
theorem QE{b1:dc}{St:E->(E->Prop)->K->Prop}{d4:E->Xn->(E->Prop)->K->Prop}{a1:E->Prop}{Z:E->LR}{a8:E->Xt}{rq:E->RV}{ez:E->Prop}{c0 w b9:E}
 (P:Rb St h a1 a Z a8 rq ez u c0 b w b9 O)(b0:LK St d4 u b a.heap.size a8 rq Z)(e5:kq b1 h):
 Co (goalAt TP b1 F z al h) 39 #[pt u 0,.slice O b w] a λc t=>∃own Q,c=.tuple #[]/\nH a Q/\St b own t/\aI ez own Q t:=by
 intro j2 h9 n d8 c9 e8 next
 have m:∀{f:E}{g3:Obj},a.heap[f]?=C g3->f<a.heap.size:=λe=>(XZ.1 e).1;refine Ts (a:=b) (e:=w) (O:=O) (by have:=P.small;omega) c9 e8 λj4 v h7 d1 b6 g0⟨cl,f0,y⟩=>?_;have i8:v.heap.size=a.heap.size+4:=by rw[y];simp
 have s:∀f,f<a.heap.size->v.heap[f]?=a.heap[f]?:=λf r=>by rw[y,cf (by simp;omega),cf (by simp;omega),cf (by simp;omega),cf r]
 have b2:v.heap[a.heap.size]?=C (Xx #[pt u 0] 76 (0,0)):=by rw[y,cf (by simp;omega),cf (by simp;omega),cf (by simp)];simp
 have b3:v.heap[a.heap.size+1]?=C (Xx #[.slice O b w] 103 (0,0)):=by rw[y,cf (by simp),cf (by simp),Zq,XN (by simp)]
 have e0:v.heap[a.heap.size+2]?=C (Xx cl 158 (0,0)):=by rw[y,cf (by simp),Zq,XN (by simp)]
 have b4:v.heap[a.heap.size+3]?=C (Xx #[Xw (C ⟨a.heap.size+2,0,F⟩) b b] 141 (0,0)):=by rw[y,Zq,XN (by simp)]
 have a9:∀d,h d\/a1 d->d<a.heap.size:=by
  rintro d(i|i)
  .obtain⟨_,_,e,_⟩:=P.Ll d i;exact m e
  rcases P.xt d i with⟨_,_,_,e,_⟩|⟨_,_,e,_⟩<;>exact m e
 obtain⟨c7,g9,e1,a6,e9⟩:=P.hc
 have c8:km h a1 v Z (λp=>(rq p).path) u c0 a.heap.size b w b9 O:={
  Ll:=λd i=>by obtain⟨n,l,k,g⟩:=P.Ll d i;exact⟨n,l,(s d (m k)).trans k,g⟩
  IB:=P.IB
  xt:=λd i=>by
   rcases P.xt d i with⟨n,l,o,k,g⟩|⟨d9,p,k,g⟩
   .exact Xr ⟨n,l,o,(s d (m k)).trans k,g⟩
   exact Xs ⟨d9,p,(s d (m k)).trans k,g⟩
  TI:=P.TI
  hc:=⟨c7,g9,e1,(s u (m a6)).trans a6,e9⟩
  hA:=by
   rcases P.hA with e|⟨x,Y,R,a0,o,k,g,T,U,b7,a3,W⟩
   .exact Xr e
   exact Xs ⟨x,Y,R,a0,o,k,m g,(s x (m g)).trans g,T,U,b7,λp L=>(W p L 3 (by decide)).trans A⟩
  h2:=b2
  h3:=b3
  h4:=b4
  BK:=⟨cl,f0,e0⟩
  low:=⟨a9,m a6⟩
  small:=P.small
  Ip:=P.Ip
  ev:=P.ev
  look:=λp L h1 g2 i6=>P.look p L h1 (λd i=>by rw[g2 d i,s d (a9 d i.symm)]) (by omega)}
 refine Ox c8 e5 d1 g0 λj3 t d h8 d0 b5 b8 f5 f9 f8 f1 g4 g5 g6=>?_;have i7:=b5.size
 have a4:nH a t:=⟨by omega,λd i=>by
  rcases b8 d (by omega) (by omega)with e|⟨n,l,a2,S,D,q,H⟩
  .exact Xr (e.trans (s d i))
  exact Xs ⟨n,l,a2,S,D,(s d i).symm.trans q,H⟩⟩
 have same:∀{f:E}{c:Xn}{l:XA}{o:E×E},f≠a.heap.size+2->(∀X,c≠.int .u8 X)->v.heap[f]?=C (Xx #[c] l o)->t.heap[f]?=C (Xx #[c] l o):=by
  intro f c l o f6 a7 r;rcases b8 f (XZ.1 r).1 f6 with e|⟨n,l,a2,S,D,q,H⟩
  .exact e.trans r
  rw[r]at q;cases q;exact absurd D (Gm a7)
 have N:∀d,a.heap.size<=d->¬ez d:=λd i f7=>by have:=P.WG d f7;omega
 obtain⟨d7,e2,f3,i4,i5,f4⟩:=f5
 have d5:qd h t u b w a.heap.size O a8 rq Z ez:={
  small:=P.small
  h2:=⟨same (by omega) (λX e=>by cases e) b2,N _ (Ye _)⟩
  h3:=⟨same (by omega) (λX e=>by cases e) b3,N _ (by omega)⟩
  h4:=⟨same (by omega) (λX e=>by cases e) b4,N _ (by omega)⟩
  Uo:=⟨d7,e2,f3,λp L=>by
   obtain⟨g8,D,q,H⟩:=f4 p L
   exact⟨g8,D.mono (by omega) λ_ _=>rfl,q,H⟩⟩
  VI:=N _ (by omega)
  nfree:=N
  list:=by
   rcases P.hA with⟨_,e⟩|⟨x,Y,R,a0,o,k,g,T,U,b7,a3,W⟩
   .exact Xr e
   right;rcases a4.2 x (m g)with e|⟨n,l,a2,S,D,q,H⟩
   .exact⟨x,Y,R,a0,o,k,e.trans g,a3,W⟩
   rw[g]at q;cases q;exact⟨x,Y,R,a0,S,k,H,a3,W⟩
  Ol:=λf r=>⟨by have:=a9 f (Xr r);omega,P.WH f r⟩}
 refine KL b0 d5 (P.init t a4) d0 f9 f8 f1 g4 g5 g6 λown h4 h2 i0 d6 d2 e3 g1 f2 e7 a5=>?_;refine Goal.pure _ A rfl (g₁:=rg {(base 39).at d6 []with mode:=.returning} (n::d8)) (λh6=>by rw[bm A];simp[stepG.exec,Frame.at,rg]) ?_;refine qs (S:=λc c6=>∃own Q,c=.tuple #[]/\nH a Q/\St b own c6/\aI ez own Q c6) aC (by decide) A (fn:=Tryz.f39) Tryz.func39 d2 A g1 f2 (Tp.all λl=>⟨_,results39 _ _,own,t,A,a4,?_,?_⟩) λc h0 h3 d3 e4 a7 e6=>next h4 c h0 h3 d3 (((b6.trans b5).trans e3).trans e4) a7 e6
 .exact b0.sg b own h2 _ (λ_ _=>rfl) (Ye _) e7
 exact⟨a5.size,a5.keep,a5.more⟩
variable{a:XC}{c:XF}{e:Xq Item}{d:Xq XC}{g:E}{f:Xq E}{h:Xn}{q:K}
theorem Gg(q:K):(Instr.makeChan 99 (Xo M 4)).runT TP q #[]=(.ok (.chan (C q.heap.size)) {q with heap:=q.heap.push (.chan 4 #[] Xp 0 0 Xp)},#[]):=by rfl
section
variable{main:Xy}
theorem tY{i:Xz Tmp}{r:Op}{p:K}(u:a.kind≠.early)(w:bM D g i r)(v:∀fn,TP.funcs[a.fn]?=C fn->fn.norace=Xp)(b:∀o n k,(execOp c.eval ⟨i,r,o,n,k,F⟩).runT TP q #[]=(.ok (.value h) p,#[])):
 stepG TP main (rg (a.at c (XE D (g::f)::e)) d) q=.go (rg (a.at (c.put i h) (XE D f::e)) d) p:=by
 obtain⟨⟨y,H,o,n,k,z⟩,s,l,m,t⟩:=w;subst l m t;have b:=b o n k;rw[D_]at b;have l:=(E_ b).1;have m:=(E_ b).2;have:=Go.Conc.stepG_value (P:=TP) (main:=main) (a:=c) (b:=a) (k:=e) (cs:=d) (rest:=f) s A u l;refine abC this ?_;rw[listed,m,seen_cells v (by simp)];rfl
theorem xP{b:XV}(h:a.kind≠.early)(k:bM D g (C j) (.makeChan 99 b))(l:c.eval b=Xo M 4)(i:∀fn,TP.funcs[a.fn]?=C fn->fn.norace=Xp)(q:K):
 stepG TP main (rg (a.at c (XE D (g::f)::e)) d) q=.go (rg (a.at (c.put (C j) (.chan (C q.heap.size))) (XE D f::e)) d) {q with heap:=q.heap.push (.chan 4 #[] Xp 0 0 Xp)}:=
 tY h k i λo n m=>by show XJ.runT TP ((Instr.makeChan 99 (c.eval b)).bind _) q #[]=_;rw[l,Go.Sem.runT_bind',Gg];rfl
theorem Hj{i:Tmp}{b:E}(p:a.kind≠.early)(r:bM D g (C j) (.recv 99 (.tmp i) J))(z:c.tmps[i]?=C (.chan (C b)))(y:∀fn,TP.funcs[a.fn]?=C fn->fn.norace=Xp):
 AtRecv TP b .nilIface (rg (a.at c (XE D (g::f)::e)) d) (rg (a.at c (XE D (g::f)::e)) d):=by
 refine⟨A,A,λq=>?_⟩;obtain⟨⟨w,H,u,t,k,x⟩,l,m,n,o⟩:=r;subst m n o
 have s:(execOp c.eval ⟨C j,.recv 99 (.tmp i) J,u,t,k,F⟩).run TP q=.ok (.comm #[rcase b .nilIface] J (.recv J)) q:=by go_simp;rfl
 have:=stepG_comm (P:=TP) (main:=J) (b:=a) (a:=c) (k:=e) (cs:=d) (rest:=f) l A p s;exact this
theorem zk(i:∃b,bM D g (C j) b):Go.Conc.served (rg (a.at c (XE D (g::f)::e)) d) h=rg (a.at (c.put (C j) h) (XE D f::e)) d:=by obtain⟨b,o,k,l,m,n⟩:=i;simp_all [YV,Go.Conc.served,rg]
end
variable{d:XF}{f:Xq Item}{l:Xq XC}{e:E}{g:Xq E}{h:Xu Xn}
theorem Tu(q:K)(a:Xu XQ):(Go.sizeOf 99).runT TP q a=(.ok 1 q,a):=by rfl
section
variable{main:Xy}
theorem AW{k m:Tmp}{B b:E}{Y:XA}{o:E×E}(L:a.kind≠.early)(Q:bM D e F (.store 99 (.tmp k) (.tmp m)))(S:d.tmps[k]?=C (pt B 0))(U:d.tmps[m]?=C (.chan (C b)))(O:∀fn,TP.funcs[a.fn]?=C fn->fn.norace=Xp)
 (a5:q.heap[B]?=C (Xx h Y o))(a3:0<h.size)(a7:o.1=o.2):
 stepG TP main (rg (a.at d (XE D (e::g)::f)) l) q=.go (rg (a.at d (XE D g::f)) l) (q.setCell ⟨B,0,F⟩ (.chan (C b))) #[⟨.cell ⟨B,0,F⟩,J,Xp⟩]:=by
 obtain⟨⟨a0,a8,u,t,c,a2⟩,r,i,x,y⟩:=Q;subst i x y;have T:=(cE S).1;have W:=(cE U).1;have z:q.cell? ⟨B,0,F⟩=C h[0]:=by simp_all [K.cell?]
 have H:q.frozen? ⟨B,0,F⟩=Xp:=by simp_all [K.frozen?]
 have R:(execOp d.eval ⟨F,.store 99 (.tmp k) (.tmp m),u,t,c,F⟩).runT TP q #[]=(.ok .skip (q.setCell ⟨B,0,F⟩ (.chan (C b))),#[⟨.cell ⟨B,0,F⟩,J,Xp⟩]):=by
  unfold execOp;simp only[T,W];show((Instr.storeAt 99 (pt B 0) (.chan (C b))).bind λ_=>(Sem.pure Next.skip:XJ Next)).runT TP q #[]=_;have v:(Instr.storeAt 99 (pt B 0) (.chan (C b)))=(Go.sizeOf 99).bind λX=>if(Value.chan (C b)).cells.size≠X then stuck "storeVar: the value has not the size of the variable"else storeCells ⟨B,0,F⟩ [.chan (C b)]:=A;rw[S_,v,S_,Tu];simp only;rw[XH (by simp[Value.cells])]
  have a1:(storeCells ⟨B,0,F⟩ [.chan (C b)]).runT TP q #[]=(.ok () (q.setCell ⟨B,0,F⟩ (.chan (C b))),#[⟨.cell ⟨B,0,F⟩,J,Xp⟩]):=by show XJ.runT TP ((store ⟨B,0,F⟩ (.chan (C b))).bind _) q #[]=_;rw[S_,tU A z H];rfl
  simp_all
 have N:∀c∈(#[⟨.cell ⟨B,0,F⟩,J,Xp⟩]:Xu XQ),∀s,c.loc≠.mark s:=λc a4 s a6=>by simp_all
 obtain⟨p,n⟩:=d;obtain⟨Z,w,i⟩:=fQ (P:=TP) (a.at ⟨p,n⟩ (XE D (e::g)::f)) l (execOp (Act.eval ⟨p,n⟩) ⟨F,.store 99 (.tmp k) (.tmp m),u,t,c,F⟩) q;rw[jB r A,w];rw[R]at i⊢
 rw[i L trivial];simp only[eR,stepG.apply,XJ.runT,Ym,Zg,aW,aM,rg,GStep.after];rw[show(a.at ⟨p,n⟩ (XE D (e::g)::f)).fn=a.fn from A,seen_cells O N];simp[YV,r,Act.put]
end
variable{a:K}{g:Xn}{c:Xu Xn}{d:K}{f:Set}{h:E->Prop}{e:Xq XC}
noncomputable def eQ:XR:=(Tryz.f31.body).getD .skip
def opsOf:XR->Xu Oper
 |.region _ a _=>a
 |_=>#[]
theorem lz:∀fn,TP.funcs[(base 31).fn]?=C fn->fn.norace=Xp:=λfn a=>by have:TP.funcs[31]?=C fn:=a;cases this;rfl
structure LG(k:E->Prop)(a:K)(O:Xz XG)(b D:E)(rq:E->RV)(t:E->Xn):Prop where
 closed:Closed k a
 bC:∀l,(0<l\/l=TP.globals.size)->l<=TP.globals.size->k l
 list:∀p,O=C p->k p.block
 elem:∀i,i<b->∃q r o x w,O=C ⟨q,r,F⟩/\a.heap[q]?=C (Xx o x w)/\∀j,j<8->o[r+i*8+j]?=(rq i).jm[j]?
 Od:∀i,i<b->∀d:K,(∀n,k n->(d.heap[n]?).map Obj.whole=(a.heap[n]?).map Obj.whole)->Calls TP 38 #[Xo M i,.agg (rq i).jm] d λv y=>v=XB (t i)/\Below d.heap.size d y
 only:∀i,ft k (t i)
 small:b<2^20
def uJ(b:E->Prop)(s:E)(a:E):Prop:=b a\/a=s\/a=s+1
def LO(u s b a:E)(O:Xz XG):XF:=⟨#[pt u 0,.slice O b a,I,pt s 0,Xw F 0 0,pt (s+1) 0,I,I,I,I,pt u 0,pt u 0,pt u 8,I,I,I,I,I,I,I,I,I,I,I,I,I,I,I,I,I,I,I,I,I,I,I,I,I,I,I,I,I],[]⟩
theorem EH(a:Obj):Obj.whole (Obj.whole a)=Obj.whole a:=by cases a<;>rfl
theorem yI(d:E->Prop)(a:K)(b:E):((jX d a).heap[b]?).map Obj.whole=(a.heap[b]?).map Obj.whole:=by
 by_cases e:d b
 .grind [iS,EH]
 rw[uD e]
def ES(b:Xu Obj)(a:K):Prop:=a.heap=b
structure EU(a i:K)(u b p:E)(O:Xz XG)(n:Xu Xn)(q:XA)(o:E×E):Prop where
 size:i.heap.size=a.heap.size+2
 xx:i.heap[u]?=C (Xx (n.setIfInBounds 8 (Xw F 0 0)) q o)
 old:∀k,k<a.heap.size->k≠u->i.heap[k]?=a.heap[k]?
 h3:i.heap[a.heap.size]?=C (Xx #[.slice O b p] 25 (0,0))
 h5:i.heap[a.heap.size+1]?=C (Xx #[I] 99 (0,0))
omit[Inhabited aN]in
theorem aA{i l:E}{n:XA}{k:E×E}(o:a.heap[i]?=C (Xx c n k)):(a.setCell ⟨i,l,F⟩ g).heap[i]?=C (Xx (c.setIfInBounds l g) n k):=by simp[K.setCell,Zr,o]
omit[Inhabited aN]in
theorem ai{d f b:E}(e:b≠d):(a.setCell ⟨d,f,F⟩ g).heap[b]?=a.heap[b]?:=by simp[K.setCell,Zr,Zh e]
omit[Inhabited aN]in
theorem aR{b:XG}:(a.setCell b g).heap.size=a.heap.size:=by simp
theorem Qw{a3:K}{a:E}{a5:Xn}(b1:d.cell? ⟨u,8,F⟩=C a5)(b2:d.frozen? ⟨u,8,F⟩=Xp)(b0:d.heap=a3.heap){m Y Z a0 a1 a2 a6 a7 a8 e f g h i k l n o p q r t v w x y z D H L N Q R S T U W X:Xn}:
 wpList TP (opsOf (hd (tl eQ))) (eB (λa4 a9=>a4=⟨#[pt u 0,.slice O b a,m,pt s 0,Xw F 0 0,Y,Z,a0,a1,a2,pt u 0,pt u 0,pt u 8,e,f,g,h,i,k,l,n,o,p,q,r,t,v,w,x,y,z,D,H,L,N,Q,R,S,T,U,W,X],[]⟩/\ES (a3.setCell ⟨u,8,F⟩ (Xw F 0 0)).heap a9)) (opsOf (hd (tl eQ))).toList ⟨#[pt u 0,.slice O b a,m,pt s 0,Xw F 0 0,Y,Z,a0,a1,a2,a6,a7,a8,e,f,g,h,i,k,l,n,o,p,q,r,t,v,w,x,y,z,D,H,L,N,Q,R,S,T,U,W,X],[]⟩ d:=by
 show wpList TP _ _ [⟨C 10,.move (.tmp 0),_,_,_,_⟩,⟨C 11,.nilCheck (.tmp 10),_,_,_,_⟩,⟨C 12,.fieldAddr 98 (.tmp 11) 8,_,_,_,_⟩,⟨F,.store 43 (.tmp 12) (.const (Xw F 0 0)),_,_,_,_⟩] _ _
 go_wp2
 exact⟨A,by simp_all [ES,K.setCell]⟩
theorem Oj(d:mF f h a){b:E}(i:h b):(a.heap[b]?).map Obj.whole=a.heap[b]?:=by
 obtain⟨k,e,g⟩:=d b i;rw[e];cases k with
 |cells c m l=>obtain⟨rfl,_⟩:=g;rfl
 |_=>rfl
theorem Nb{o:E->Prop}{r:E}{rq:E->RV}{b6:E->Xn}{y:Xu Xn}{c:XC}{Q:Xu Xn}{b1:XA}{H:E×E}
 (s:LG o a O b r rq b6)(d6:a.heap[u]?=C (Xx Q b1 H))(h8:8<Q.size)(f6:H.1=H.2)(d9:¬o u)
 (c8:∀i,h i->o i)(g0:∀i,IA i->h i)(c9:Inv TP al h m a)(p:aw al m #[pt u 0,.slice O b r] y)
 (next:∀a5(b4:K) a6 a4 q,q.n=b->q.τ=b6->q.sh=o->EU a b4 u b r O Q b1 H->Closed (uJ o a.heap.size) b4->Inv TP al (uJ o a.heap.size) a5 (jX (uJ o a.heap.size) b4)->cX h m a a5 (jX (uJ o a.heap.size) b4)->a5 (a.heap.size+1) q.bx->
   ar al a5 ⟨[],[]⟩ (LO u a.heap.size b r O) a6->ti TP (C (a4,q,0)) F z al (uJ o a.heap.size) a5 (jX (uJ o a.heap.size) b4) (rg ((base 31).at a6 [.code (tl (tl (tl (tl eQ))))]) (c::e))):
 ti TP F F z al h m a (rg (Frame.enter TP 31 y .normal) (c::e)):=by
 show(goalAt TP F F z al h).G m a _
 have f0:Frame.enter TP 31 y .normal=(base 31).at ⟨y++Array.replicate (42-y.size) I,[]⟩ [.code eQ]:=by rfl
 rw[f0];obtain⟨b2,b3,rfl⟩:∃b2 b3,y=#[b2,b3]:=by have:=p.1;simp at this;exact⟨y[0],y[1],by apply aas (by simp[<-this]);intro v c6 l6;rcases(by omega:v=0\/v=1)with rfl|rfl<;>simp⟩
 have g7:an al m (pt u 0) b2:=p.2 0 _ _ A rfl;have g8:an al m (.slice O b r) b3:=p.2 1 _ _ A rfl;have g5:=aX (f:=al) (m:=m)
 simp only[YF,Yv,Zp,E.reduceAdd,E.reduceSub,Zu,
  Zv,ZE,Zy,Zw,Yz]
 have e1:ar al m ⟨[],[]⟩ ⟨#[pt u 0,.slice O b r,I,I,I,I,I,I,I,I,I,I,I,I,I,I,I,I,I,I,I,I,I,I,I,I,I,I,I,I,I,I,I,I,I,I,I,I,I,I,I,I],[]⟩ ⟨#[b2,b3,I,I,I,I,I,I,I,I,I,I,I,I,I,I,I,I,I,I,I,I,I,I,I,I,I,I,I,I,I,I,I,I,I,I,I,I,I,I,I,I],[]⟩:=by
  refine⟨?_,⟨[],A,.nil⟩,by simp⟩;refine aY.arr (.cons g7 (.cons g8 ?_))
  repeat (first|exact .nil|refine .cons g5 ?_)
 generalize (⟨#[b2,b3,I,I,I,I,I,I,I,I,I,I,I,I,I,I,I,I,I,I,I,I,I,I,I,I,I,I,I,I,I,I,I,I,I,I,I,I,I,I,I,I],[]⟩:XF)=a6 at e1⊢
 have i2:=(XZ.1 d6).1;have S:∀i,h i->i<a.heap.size:=λi p=>by obtain⟨_,_,_,n,_⟩:=s.closed i (c8 i p);exact(XZ.1 n).1
 have e5:∀i,h i->i≠u:=by grind
 refine bu (bW aC (by decide) (by decide) (z:=[]) A (by decide+kernel) c9 e1 (λa7 b5=>a7=⟨#[pt u 0,.slice O b r,I,pt a.heap.size 0,Xw F 0 0,I,I,I,I,I,I,I,I,I,I,I,I,I,I,I,I,I,I,I,I,I,I,I,I,I,I,I,I,I,I,I,I,I,I,I,I,I],[]⟩/\b5.heap=a.heap.push (.cells #[.slice O b r] 25)) (λd X _ _ _=>?_) (λ_ _ n l k=>by rw[n.2,cf (S l k)]) ?_)
 .go_wp2
  exact⟨A,by simp[World.alloc,X]⟩
 rintro a5 _ k8 b5 e7 R g3⟨rfl,b9⟩;have d7:b5.heap[u]?=C (Xx Q b1 H):=by rw[b9,cf i2];exact d6
 refine bu (bW aC (by decide) (by decide) (z:=[]) A (by decide+kernel) e7 g3 (λa7 T=>a7=⟨#[pt u 0,.slice O b r,I,pt a.heap.size 0,Xw F 0 0,I,I,I,I,I,pt u 0,pt u 0,pt u 8,I,I,I,I,I,I,I,I,I,I,I,I,I,I,I,I,I,I,I,I,I,I,I,I,I,I,I,I,I],[]⟩/\ES (b5.setCell ⟨u,8,F⟩ (Xw F 0 0)).heap T) (λd X l0 l1 l2=>?_) (λ_ _ n l k=>by rw[show _=_ from n.2];exact ai (e5 l k)) ?_)
 .have f7:d.heap[u]?=C (Xx Q b1 H):=by rw[X];exact d7
  have i1:d.cell? ⟨u,8,F⟩=C Q[8]:=by simp[K.cell?,f7,h8]
  have i5:d.frozen? ⟨u,8,F⟩=Xp:=by obtain⟨l4,l5⟩:=H;simp only at f6;subst f6;simp[K.frozen?,f7]
  exact Qw i1 i5 X
 rintro e6 _ d1 T e8 d4 e2⟨rfl,a1⟩;have a1:T.heap=(b5.setCell ⟨u,8,F⟩ (Xw F 0 0)).heap:=a1;have g2:T.heap.size=a.heap.size+1:=by rw[a1,aR,b9];simp
 refine bu (eE ?_);show ti TP F F z al h e6 T (rg ((base 31).at d1 (.inRegion (opsOf (hd (tl (tl eQ)))) (0::[1,2])::[.code (tl (tl (tl eQ)))])) (c::e));refine NC (d:=.chan 4 #[] Xp 0 0 Xp) (k:=λq=>rg ((base 31).at (d1.put (C 13) (.chan (C q))) (.inRegion (opsOf (hd (tl (tl eQ)))) [1,2]::[.code (tl (tl (tl eQ)))])) (c::e)) A (λ_=>rfl) (λt=>xP (by decide) ⟨_,A,A,A,A⟩ A lz t) λq=>?_
 have g4:ar al e6 ⟨[],[(13,.chan (C q))]⟩ ⟨#[pt u 0,.slice O b r,I,pt a.heap.size 0,Xw F 0 0,I,I,I,I,I,pt u 0,pt u 0,pt u 8,I,I,I,I,I,I,I,I,I,I,I,I,I,I,I,I,I,I,I,I,I,I,I,I,I,I,I,I,I],[]⟩ (d1.put (C 13) (.chan (C q))):=by have Z:=e2.put (C 13) A (.bS (v:=.chan (C q)) trivial);refine ar.more (d0:=⟨[],[]⟩) Z ?_;simp[Act.put,<-e2.tmps.1]
 show(PO TP q (.chan 4 #[] Xp 0 0 Xp) z al h).G e6 T _;refine vN aC (by decide) (by decide) (H:=C 5) (S:=.alloc 99) ⟨_,A,A,A,A⟩ (W:=[13]) A (by decide+kernel) (by decide) e8 g4 (λa7 U=>a7=⟨#[pt u 0,.slice O b r,I,pt a.heap.size 0,Xw F 0 0,pt (a.heap.size+1) 0,I,I,I,I,pt u 0,pt u 0,pt u 8,I,I,I,I,I,I,I,I,I,I,I,I,I,I,I,I,I,I,I,I,I,I,I,I,I,I,I,I,I],[]⟩/\U.heap=T.heap.push (.cells #[.chan F] 99)) (λd X _ _ _ k2 a4 D=>?_) (λ_ _ n l k=>by rw[n.2,cf (by have:=S l k;omega)]) ?_
 .clear next p f0 e1 g3 e2 g4 g7 g8 g5 c9 s e7 e8 R d4 a1 b9 d7 d6 S e5 c8 g0
  go_wp2
  show d.heap.push _=_;rw[X]
 rintro N _ w U e9 f1 a2⟨rfl,c0⟩;obtain⟨B,a8,f2⟩:=lB (j:=5) (a:=a.heap.size+1) a2 A;have c7:U.heap[a.heap.size+1]?=C (Xx #[.chan F] 99 (0,0)):=by rw[c0,<-g2];simp
 refine JS (k:=q) (u:=zx B q) A λt f3=>?_;obtain⟨l7,l8,f8,f9,i7⟩:=f3.obj _ _ a8;rw[c7]at f8;cases f8;cases i7 with
 |cells _ i3 i4=>
 rename_i h1 b7;have i0:h1.size=1:=i3.1.symm;have j4:b7.1=b7.2:=by rcases i4 with n|⟨n,_⟩;exact n;exact absurd A n
 have i8:=AW (main:=J) (a:=base 31) (d:=w) (f:=[.code (tl (tl (tl eQ)))]) (l:=c::e) (D:=opsOf (hd (tl (tl eQ)))) (e:=2) (g:=[]) (by decide) ⟨_,A,A,A,A⟩ f2 (a2.kn (13,.chan (C q)) (by simp)) lz f9 (by omega) j4;have h9:=ED (v:=I) (L:=.chan (C q)) f3 (a:=⟨a.heap.size+1,0,F⟩) (g:=⟨B,0,F⟩) ⟨a8,A,A⟩ (.bS trivial) (b:=.chan F) (by simp[K.cell?,c7]) (by simp[K.frozen?,c7]) Xp U.tape
 refine⟨_,N,U.setCell ⟨a.heap.size+1,0,F⟩ I,_,_,_,i8,h9,λi p=>ai (by have:=S i p;omega),λD f5 _ i p=>by
  simp at f5;subst f5
  exact⟨by simp,λl k=>by cases k;have:=S i p;simp;omega⟩,A,?_,?_⟩
 .refine⟨99,b7,?_⟩;rw[aA f9]
  congr 2
  apply aas
  .simp[i0]
  intro v Z d5;have:v=0:=by simp at d5;omega
  subst this;simp
 have d0:Inv TP al h N (U.setCell ⟨a.heap.size+1,0,F⟩ I):=e9.keep e9.base (λi p=>ai (by have:=S i p;omega));obtain⟨L,b0⟩:∃L,L=U.setCell ⟨a.heap.size+1,0,F⟩ I:=by simp
 rw[<-b0]at d0⊢
 have a9:∀i,i<a.heap.size->i≠u->L.heap[i]?=a.heap[i]?:=by grind [ai,cf]
 have W:EU a L u b r O Q b1 H:={
  size:=by rw[b0,aR,c0];simp[g2]
  xx:=by rw[b0,ai (by omega),c0,cf (by omega),a1,aA d7]
  old:=a9
  h3:=by rw[b0,ai (by omega),c0,cf (by omega),a1,ai (by omega),b9];simp
  h5:=by rw[b0,aA c7];rfl}
 have d8:∀i,o i->i<a.heap.size:=λi p=>by obtain⟨_,_,_,n,_⟩:=s.closed i p;exact(XZ.1 n).1
 have a0:Closed (uJ o a.heap.size) L:=by
  rintro i(p|rfl|rfl)
  .obtain⟨q1,e3,e4,j7,j8,j9,k0,k1⟩:=s.closed i p;exact⟨q1,e3,e4,by rw[a9 i (d8 i p) (λD=>d9 (D▸p))];exact j7,j8,j9,λv l k=>(k0 v l k).mono λ_ n=>Xr n,k1⟩
  .refine⟨_,_,_,W.h3,by simp,by simp,λv l k=>?_,nk (by intro b n;cases n)⟩;obtain⟨c6,k⟩:=XZ.1 k;have:v=0:=by simp at c6;omega
   subst this;subst k;cases O with
   |none=>exact .aO _ _
   |some i=>exact .slice (Xr (s.list i A)) _ _
  refine⟨_,_,_,W.h5,by simp,by simp,λv l k=>?_,nk (by intro b n;cases n)⟩;obtain⟨c6,k⟩:=XZ.1 k;have:v=0:=by simp at c6;omega
  subst this;subst k;exact .bS
 have SG:∃x,w.tmps[3]?=C x/\an al N (pt a.heap.size 0) x:=by
  have g1:3<w.tmps.size:=by rw[<-a2.tmps.1];simp
  exact⟨w.tmps[3],Yb g1,a2.tmps.2 3 _ _ A (Yb g1)⟩
 obtain⟨x,h6,j0⟩:=SG;have b8:∀(t:K) b,zx B q t->zx B q (t.at b):=λ_ _ n=>n;refine nR b8 A rfl (λt=>iZ) ?_;refine nR b8 A rfl (i:=rg ((base 31).at w [.code (hd (tl (tl (tl eQ)))),.code (tl (tl (tl (tl eQ))))]) (c::e)) (λt=>by rfl) ?_;refine nR b8 A rfl (i:=rg ((base 31).at w [.inRegion (opsOf (hd (tl (tl (tl eQ))))) [0,1],.code (tl (tl (tl (tl eQ))))]) (c::e)) (λt=>by rfl) ?_
 refine nR b8 A rfl (i:=rg ((base 31).at (w.put (C 14) (.func (.func 37) #[] #[pt B 0,x])) [.inRegion (opsOf (hd (tl (tl (tl eQ))))) [1],.code (tl (tl (tl (tl eQ))))]) (c::e)) (λt=>tY (i:=C 14) (r:=.makeFunc (.func 37) #[] #[.tmp 5,.tmp 3]) (by decide) ⟨_,A,A,A,A⟩ lz (λk2 a4 D=>by
  simp[execOp,Act.eval,f2,h6]
  constructor<;>rfl)) ?_
 have i6:14<w.tmps.size:=by rw[<-a2.tmps.1];simp
 have h4:(w.put (C 14) (.func (.func 37) #[] #[pt B 0,x])).tmps[14]?=C (.func (.func 37) #[] #[pt B 0,x]):=by simp[Act.put,i6]
 have f4:∀Y,(0<Y\/Y=TP.globals.size)->Y<=TP.globals.size->uJ o a.heap.size Y:=λY Z d5=>Xr (s.bC Y Z d5)
 have j3:∀l,o l->((jX (uJ o a.heap.size) L).heap[l]?).map Obj.whole=(a.heap[l]?).map Obj.whole:=λl k=>by rw[yI,a9 l (d8 l k) (λD=>d9 (D▸k))]
 have j1:an aJ (λi d2=>uJ o a.heap.size i/\N i d2) (pt a.heap.size 0) x:=by
  cases j0 with
  |ptr p=>exact .ptr ⟨⟨Xs (Xr A),p.1⟩,p.2.1,p.2.2⟩
 refine JU (c:=b) (a6:=a.heap.size+1) (a5:=b6) (X:=uJ o a.heap.size) (W:=o) (Sp:=aJ) A (λt=>go_step (j:=14) (by decide) ⟨_,A,A,A,A⟩ lz h4 t) A a0 f4 (λi n=>Xr n) a8 (Xs (Xs A)) (λi n=>Xr (c8 i n)) g0
  (Kv (h:=a.heap.size+1) (n:=a.heap.size) (O:=O) (S:=r) (rq:=rq) {
    x5:=Xs (Xs A)
    x3:=Xs (Xr A)
    h5:=⟨_,_,by rw[iS (.inr (.inr A)),W.h5];rfl⟩
    h3:=⟨_,_,by rw[iS (.inr (.inl A)),W.h3];rfl⟩
    elem:=λa3 e0=>by obtain⟨d3,j5,g9,k3,b7,q1,e3,e4⟩:=s.elem a3 e0;have k:=s.list _ q1;exact⟨d3,j5,g9,k3,_,q1,Xr k,by rw[iS (.inl k),a9 d3 (d8 d3 k) (λD=>d9 (D▸k)),e3];rfl,e4⟩
    Od:=λa3 e0 d j2 _=>s.Od a3 e0 d λl k=>by rw[j2 l (.inl k)];exact j3 l k
    only:=λa3 _=>s.only a3
    small:=by have:=s.small;show b<2^40;omega} ⟨ld d0.base f4,rF a0,wv a0⟩ ⟨Xs (Xs A),a8⟩ j1) λa4=>?_
 show(goalAt TP (C (a4,⟨q,b,b6,o,dC (uJ o a.heap.size) N,B⟩,0)) F z al (uJ o a.heap.size)).G N (jX (uJ o a.heap.size) L) _;refine bO ?_
 have i9:ar al N ⟨[],[]⟩ (LO u a.heap.size b r O) (w.put (C 14) (.func (.func 37) #[] #[pt B 0,x])):=by have Z:=a2.put (C 14) A (.bS (v:=.func (.func 37) #[] #[pt B 0,x]) trivial);exact ar.less (d0:=⟨[],[]⟩) Z A (by simp)
 refine next N L _ a4 _ A rfl rfl W a0 ⟨d0.base,rF a0,wv a0⟩ ?_ a8 i9
 refine⟨((R.trans d4).trans f1).le,λl k4 n=>((R.trans d4).trans f1).fresh l k4 n,?_,λl k=>?_⟩
 .rw[qF,W.size];omega
 rw[iS (.inl (c8 l k)),a9 l (S l k) (e5 l k)];exact Oj c9.cQ k
end
end Go.Sim
namespace Go.Sv
open Go.MapKept Go.Proofs Go.RowKit Go.Lib Go.WideShapes Go.Sort Go.Sim Wt
variable{c:K}{w':K}{e:Xn}{h:E}{d:E}{f:E}
def spot(d:Xy)(a:B):Xn:=.agg #[.bool d,.string (bs a)]
def yn(a:Xn):Prop:=∃d b,a=.agg #[.bool d,.string b]
theorem OA(d:Xy)(a:B):yn (spot d a):=⟨d,bs a,A⟩
theorem OB{d b:Xy}{c e:B}(a:spot d c=spot b e):d=b/\c=e:=by unfold spot at a;simp only[Value.agg.injEq,Xu.mk.injEq,Xq.cons.injEq,Xn.bool.injEq,Value.string.injEq,and_true]at a;exact⟨a.1,zL a.2⟩
theorem UN:TP.stoodInHeld 253=Xp:=by decide+kernel
theorem Ri:∃f d,TP.underlying 253=C (.struct #[f,d])/\f.type=4/\d.type=9/\f.offset=0/\d.offset=1/\f.name≠ "_"/\d.name≠ "_":=⟨_,_,A,A,A,A,A,by decide,by decide⟩
theorem UZ:TP.underlying 4=C .bool:=A
theorem abD(a b:Xn)(c:K):(part 4 #[a,b] 0).run TP c=.ok a c:=A
theorem abE(b a:Xn)(c:K):(part 9 #[b,a] 1).run TP c=.ok a c:=A
theorem Uh(d h:Xy)(f g:XM)(c:K):(Op.equal 253 (.agg #[.bool d,.string f]) (.agg #[.bool h,.string g])).run TP c=.ok (d==h&&f==g) c:=by
 obtain⟨v,w,o,t,u,r,s,p,q⟩:=Ri
 have k:∀a b e,(Op.equalIn (e+1) 4 (.bool a) (.bool b)).run TP c=.ok (a==b) c:=λa b e=>by unfold Op.equalIn;simp[YW UZ,Result.andThen]
 have l:∀a b e,(Op.equalIn (e+1) 9 (.string a) (.string b)).run TP c=.ok (a==b) c:=λa b e=>by unfold Op.equalIn;simp[YW xk,Result.andThen]
 have n:(program).run TP c=.ok TP c:=A;show(Op.equalIn (9998+1+1) 253 _ _).run TP c=_;rw[Op.equalIn];simp only[ZB,YW o,Result.andThen,n,UN,Yt,Yq];simp[t,u,r,s,p,q,ZB,abD,k,Result.andThen];have i:=l f g 9998;cases m:(f==g)<;>cases d<;>cases h<;>simp[i,m,abE,Result.andThen,ZB,show(9998+1:E)=9999 from A]at i⊢<;>simp[i,Result.andThen,ZB]
theorem Se(d:Xy)(n:XM)(em:Xy)(c:K):(Instr.checkKey em 10000 253 (.agg #[.bool d,.string n])).run TP c=.ok () c:=by obtain⟨q,r,g,o,p,l,m,i,k⟩:=Ri;have e:∀b a,(Instr.checkKey em (a+1) 4 (.bool b)).run TP c=.ok () c:=λb a=>N' (k:=.bool b) UZ trivial em a;have f:∀b a,(Instr.checkKey em (a+1) 9 (.string b)).run TP c=.ok () c:=λb a=>N' (k:=.string b) xk trivial em a;show(Instr.checkKey em (9998+1+1) 253 _).run TP c=_;rw[Instr.checkKey];simp only[ZB,YW g,Result.andThen];simp[o,p,l,m,i,k,ZB,abD,abE,e,f,Result.andThen]
theorem LZ{k:Xn}(w:yn k)(c:K):∀(b:Xq XS)(f:E),(∀h∈b,yn h.key)->((Instr.findAsking 253 k b f).run TP c=.ok F c/\∀h∈b,h.key≠k)\/∃j e,(Instr.findAsking 253 k b f).run TP c=.ok (C (f+j,e.val)) c/\b[j]?=C e/\e.key=k
 |[],f,_=>Xr ⟨A,by simp⟩
 |e::b,f,g=>by
  obtain⟨d,a,rfl⟩:=w;obtain⟨m,l,q⟩:=g e (.head _);have n:=Uh d m a l c;rw[<-q]at n;by_cases s:d=m/\a=l
  .obtain⟨rfl,rfl⟩:=s;refine Xs ⟨0,e,?_,A,q⟩;unfold Instr.findAsking;rw[ZB,n];have:(a==a)=J:=(bytes_beq a a).2 A;simp[Result.andThen,this]
  have x:e.key≠.agg #[.bool d,.string a]:=λg=>s (by rw[q]at g;simp at g;exact⟨g.1.symm,g.2.symm⟩)
  have v:(d==m&&a==l)=Xp:=by
   cases r:(d==m&&a==l)with
   |false=>rfl
   |true=>simp only[Ys,aaW]at r;exact absurd ⟨r.1,(bytes_beq a l).1 r.2⟩ s
  rw[v]at n
  have y:(Instr.findAsking 253 (.agg #[.bool d,.string a]) (e::b) f).run TP c=(Instr.findAsking 253 (.agg #[.bool d,.string a]) b (f+1)).run TP c:=by rw[Instr.findAsking,ZB,n];rfl
  rw[y];rcases LZ ⟨d,a,A⟩ c b (f+1) (λh i=>g h (.tail _ i))with⟨o,p⟩|⟨j,t,o,p,u⟩
  .exact Xr ⟨o,λh i=>by
    cases i with
    |head=>exact x
    |tail _ i=>exact p h i⟩
  exact Xs ⟨j+1,t,by rw[o,abw,aby 1 j],by simpa using p,u⟩
theorem sK:ET TP 253 yn where
 Ue:=λe c em⟨d,a,b⟩=>by subst b;exact Se d a em c
 VH:=λe c i g h=>by rw[run_findKey_eq c A];have:=LZ g c i 0 h;simpa using this
 same:=λe⟨d,a,b⟩=>by subst b;have f:(a==a)=J:=(bytes_beq a a).2 A;show Instr.sameBits (9998+1+1) _ _=J;simp[Instr.sameBits,f]
theorem GR:TP.underlying 196=C (.map 253 61):=A
theorem TJ(c:K):(zeroValue 61).run TP c=.ok (Xw F 0 0) c:=A
abbrev i64(a:Xt):Xn:=Xo M a
def su(c:K)(e:Xn)(b:Xq Xt):Prop:=
 (b=[]/\∃f,e=.slice f 0 0)\/∃h a d,e=Xw (C ⟨h,0,F⟩) b.length a/\c.heap[h]?=C (Xx d 3 (0,0))/\0<a/\b.length<=a/\a<=maxLen/\d.size=a/\d.toList.take b.length=b.map i64/\∀i∈d.toList,∃g,i=i64 g
def rowOf:Xn->Xz E
 |Xw (C f) _ (_+1)=>C f.block
 |_=>F
theorem OQ(c:K):su c (Xw F 0 0) []:=Xr ⟨A,F,A⟩
theorem su.stay{i:Xq Xt}(b:su c e i)(o:∀h,rowOf e=C h->w'.heap[h]?=c.heap[h]?):su w' e i:=by
 rcases b with b|⟨h,a,k,rfl,l,m,n⟩
 .exact Xr b
 refine Xs ⟨h,a,k,A,?_,m,n⟩;rw[o h ?_]
 .exact l
 obtain⟨g,rfl⟩:∃g,a=g+1:=⟨a-1,by omega⟩;rfl
theorem su.lt{k:Xq Xt}(g:su c e k)(d:rowOf e=C h):h<c.heap.size:=by
 rcases g with⟨_,f,rfl⟩|⟨m,b,l,rfl,i,n,_⟩
 .cases f<;>cases d
 obtain⟨a,rfl⟩:∃a,b=a+1:=⟨b-1,by omega⟩;cases d;exact(XZ.1 i).1
def DU(a:Xu Xn):E->Xq Xn->Xu Xn
 |_,[]=>a
 |b,e::c=>DU (a.setIfInBounds b e) (b+1) c
theorem gr:∀(d:Xq Xn)(a:Xu Xn)(b:E),(DU a b d).size=a.size
 |[],a,b=>rfl
 |e::c,a,b=>by unfold DU;rw[gr c];simp
theorem jA:∀(c:Xq Xn)(b:Xu Xn)(a:E),a+c.length<=b.size->(DU b a c).toList=b.toList.take a++c++b.toList.drop (a+c.length)
 |[],b,a,f=>by
  unfold DU;simp
 |e::d,b,a,f=>by
  simp only[Yv]at f;unfold DU;rw[jA d _ _ (by simp;omega)];have g:a<b.toList.length:=by simp;omega
  rw[Xu.toList_setIfInBounds,Xq.take_set,Xq.drop_set,Yv]
  have h:(b.toList.take (a+1)).set a e=b.toList.take a++[e]:=by rw[T_ g,Xq.set_append_right _ _ (by simp;omega)];have i:min a b.toList.length=a:=aa6 (aa2 g);rw[ZJ,i,E.sub_self];rfl
  rw[h,XN (by omega),show a+(d.length+1)=a+1+d.length by omega];simp
theorem gq:∀(i:Xq Xn)(a:E){c:K}{b:Xu Xn}{g:XA}{f:E×E},c.heap[d]?=C (Xx b g f)->(c.setCells d a i).heap[d]?=C (Xx (DU b a i) g f)
 |[],a,c,b,g,f,h=>h
 |e::k,a,c,b,g,f,h=>gq k (a+1) (aA h)
theorem dR(b:f≠d):∀(h:Xq Xn)(a:E){c:K},(c.setCells d a h).heap[f]?=c.heap[f]?
 |[],a,c=>rfl
 |e::g,a,c=>by show((c.setCell ⟨d,a,F⟩ e).setCells d (a+1) g).heap[f]?=_;rw[dR b g (a+1),ai b]
theorem kI:∀(f:Xq Xn)(a:E){c:K},(c.setCells d a f).heap.size=c.heap.size
 |[],a,c=>rfl
 |e::b,a,c=>by show((c.setCell ⟨d,a,F⟩ e).setCells d (a+1) b).heap.size=_;rw[kI b (a+1),aR]
variable{b:E}{c:E}{a:K}{d:Xn}
theorem mf{f:Xt}:∀{e:Xq Xt},rT e->(∀g∈e.take (e.countP (·<f)),g<f)/\(∀g∈e.drop (e.countP (·<f)),f<=g)/\e.countP (·<f)<=e.length
 |[],_=>by simp
 |i::e,k=>by
  obtain⟨l,m⟩:=YU.1 k;obtain⟨p,q,r⟩:=mf (f:=f) m;by_cases n:i<f
  .simp_all
  have o:(i::e).countP (·<f)=0:=by
   rw[Xq.countP_eq_zero];intro g h;rcases Yg.1 h with rfl|h
   .simpa using n
   have:=l g h;simp;omega
  grind
theorem FR{b:Xt}{a:Xq Xt}(c:rT a)(g:b∉a):dI b a=a.take (a.countP (·<b))++b::a.drop (a.countP (·<b)):=by
 obtain⟨d,e,f⟩:=mf (f:=b) c
 grind [Ic]
theorem OR(d:E):∀a∈(Builtin.zeroCells (Xn.int M 0).cells d).toList,∃c,a=i64 c:=λa b=>by
 unfold Builtin.zeroCells at b;refine⟨0,?_⟩;have e:(Xn.int M 0).cells=#[i64 0]:=A
 grind
def Hd(d:Xn)(h:Xq Xt)(a:K)(g:Ending)(f:K):Prop:=∃e,g=XB e/\su f e h/\a.heap.size<=f.heap.size/\(∀c,c<a.heap.size->rowOf d≠C c->f.heap[c]?=a.heap[c]?)/\∀b,rowOf e=C b->rowOf d=C b\/a.heap.size<=b
theorem vT{b:Xq Xt}:∀d∈b.map i64,d.oneCell'=J:=λd a=>by obtain⟨c,_,rfl⟩:=YL.1 a;rfl
theorem uL{k:K}{f:Xu Xn}{e:E}{g:Xq Xt}{i:Xq Xn}(n:k.heap[b]?=C (Xx f 3 (0,0)))(h:f.toList=g.map i64++i)(o:f.size=e)(m:0<e)(p:e<=maxLen)(s:∀l∈i,∃c,l=i64 c)(r:c=g.length):su k (Xw (C ⟨b,0,F⟩) c e) g:=by
 subst r;have q:g.length<=e:=by have:=Zc List.length h;simp at this;omega
 refine Xs ⟨b,e,f,A,n,m,q,p,o,?_,λl t=>?_⟩
 .rw[h,aam (by simp)]
 grind
theorem iJ{a:E}(e:0<a):rowOf (Xw (C ⟨b,0,F⟩) c a)=C b:=by
 obtain⟨d,rfl⟩:∃d,a=d+1:=by simp_all
 rfl
theorem Uv{e:Xq Xt}{g:Xt}(c6:su a d e)(b6:rT e)(e2:g∉e)(e9:e.length<2^40){n:E}{a4:XA}(e1:a.heap[n]?=C (Xx #[i64 g] a4 (0,0)))(f0:rowOf d≠C n):
 Calls TP 135 #[d,Xo M ((e.countP (·<g):E):Xt),Xw (C ⟨n,0,F⟩) 1 1] a (Hd d (dI g e) a):=by
 have T:∀j m,([i64 g]:Xq Xn)[j]?=C m->a.cell? ⟨n,0+j,F⟩=C m:=by simp_all [K.cell?]
 have L:∀m∈[i64 g],m.oneCell'=J:=λm y=>by simp at y;subst y;rfl
 obtain⟨c1,c2,c3⟩:=mf (f:=g) b6;have d6:=FR b6 e2;obtain⟨f,d5⟩:∃f,f=e.countP (·<g):=by simp
 rw[<-d5]at c1 c2 c3 d6⊢
 have Q:(dI g e).length=e.length+1:=by grind
 have R:(dI g e).map i64=(e.map i64).take f++i64 g::(e.map i64).drop f:=by simp_all
 have D:Tryz.tG.t 3=3:=A
 have d2:∀t,(Builtin.zeroCells (Xn.int M 0).cells t).size=t:=λt=>by rw[abj];exact E.mul_one t
 have e6:∀(base:Xz XG)(q:E),e.length<=q->q<e.length+1->(base=F->e.length=0)->(∀U,base=C U->∀j m,(e.map i64)[j]?=C m->a.cell? (U.add j)=C m)->f=e.length->Calls TP 135 #[.slice base e.length q,Xo M ((f:E):Xt),Xw (C ⟨n,0,F⟩) 1 1] a (Hd d (dI g e) a):=λbase q q1 e3 e4 e5 b9=>by
  have v:=Any2.slices_Insert_int_end_grow Tryz.uF base e.length q n 0 1 1 (e.map i64) [i64 g] a (by decide) q1 e3 (by omega) (by simp) A e4 e5 T L;rw[b9];refine aa4 v λu a5⟨w,i⟩=>⟨_,w,?_,?_,?_,λb x=>Xs ?_⟩
  .have b3:=aaD a (e.length+1) q 3;have a0:=K_ a (e.length+1) q 3 (by unfold maxLen;omega);rw[i,D];refine uL (Yx a.drew _) (g:=dI g e) (i:=(Builtin.zeroCells (Xn.int M 0).cells (grownCap a (e.length+1) q 3-(e.length+1))).toList) ?_ ?_ (by omega) a0 (OR _) Q.symm
   .rw[R,b9];have a6:(e.map i64).take e.length=e.map i64:=b_ (by simp);have z:(e.map i64).drop e.length=[]:=by simp
    rw[a6,z];simp
   simp_all
  .rw[i];simp
  .intro p s _;rw[i];exact aaw a.drew _ s
  have b3:=aaD a (e.length+1) q 3;rw[D,iJ (by omega)]at x;simp_all
 rcases c6 with⟨rfl,U,rfl⟩|⟨b,l,r,rfl,x,H,c7,W,a7,c8,a8⟩
 .simp_all
 have e7:=(XZ.1 x).1
 have b1:∀j m,(e.map i64)[j]?=C m->a.cell? ⟨b,0+j,F⟩=C m:=λj m y=>by
  rw[<-c8,e_]at y;split at y
  .simp only[K.cell?,x,Zz];simp_all
  cases y
 have b2:∀j,a.frozen? ⟨b,j,F⟩=Xp:=λj=>by simp[K.frozen?,x]
 have e0:∀j,j<l->(a.cell? ⟨b,j,F⟩).isSome=J:=λj S=>by grind [World.cell?]
 have d4:b≠n:=by simp_all [iJ]
 have b8:∀t,t<=e.length->r.toList.take t=(e.map i64).take t:=by grind
 by_cases b4:f=e.length
 .by_cases a1:e.length+1<=l
  ·
   have v:=Any2.slices_Insert_int_end_room Tryz.uF b 0 e.length l n 0 1 1 [i64 g] a (by decide) a1 (by unfold maxLen at W;omega) A (λj S=>e0 _ (by omega)) (λj S=>b2 _) T L;rw[b4];refine aa4 v λu a5⟨w,i⟩=>⟨_,w,?_,?_,?_,λp s=>Xr (by rw[iJ H]at s⊢;exact s)⟩
   .rw[i];refine uL (gq [i64 g] (0+e.length) x) (g:=dI g e) (i:=r.toList.drop (e.length+1)) ?_ (by rw[gr];exact a7) H W (λo h=>a8 o (aai h)) Q.symm;rw[jA _ _ _ (by simp;omega),R,b4,Zz,b8 _ (Ye _)];have z:(e.map i64).drop e.length=[]:=by simp
    rw[z];rfl
   .rw[i,kI];exact Ye _
   intro p s Z;rw[i,dR (λu=>Z (by rw[iJ H,u]))]
  simp_all [nL]
 have b5:f<e.length:=by omega
 by_cases a1:e.length+1<=l
 ·
  have d9:a.shape? b=C (3,l):=by simp_all [K.shape?]
  have d8:a.shape? n=C (a4,1):=by simp[K.shape?,e1]
  have v:=Any2.slices_Insert_int_shift Tryz.uF b 0 e.length l f n 0 1 1 (e.map i64) [i64 g] a b5 (by decide) a1 (by simp_all [maxLen]) (λu=>d4 u.symm) (by simp) A b1 (λj S=>by grind) (λj S=>b2 _) T vT L a4 3 1 l d8 d9 (by omega) (by grind [World.frozen?]) (by grind [World.frozen?]);refine aa4 v λu a5⟨w,i⟩=>⟨_,w,?_,?_,?_,λp s=>Xr (by simp_all [iJ])⟩
  .have d3:a.drew.heap[b]?=C (Xx r 3 (0,0)):=x;have X:=gq ((e.map i64).drop f) (0+(f+1)) d3;have Y:=gq [i64 g] (0+f) X;rw[i];refine uL Y (g:=dI g e) (i:=r.toList.drop (e.length+1)) ?_ (by rw[gr,gr];exact a7) H W (λo h=>a8 o (aai h)) Q.symm;have O:((e.map i64).drop f).length=e.length-f:=by simp
   rw[jA _ _ _ (by rw[gr];simp;omega),jA _ _ _ (by omega),R,O,Zz,Zz];have c0:f+1+(e.length-f)=e.length+1:=by omega
   have a6:(r.toList.take (f+1)++(e.map i64).drop f++r.toList.drop (e.length+1)).take f=(e.map i64).take f:=by rw[ZW,aaj (by simp;omega),aav,aa6 (by omega),b8 f (by omega)]
   have z:(r.toList.take (f+1)++(e.map i64).drop f++r.toList.drop (e.length+1)).drop (f+[i64 g].length)=(e.map i64).drop f++r.toList.drop (e.length+1):=by rw[ZW];exact Xq.drop_left' (by simp;omega)
   simp_all
  .simp_all [kI]
  intro p s Z;have a9:p≠b:=by grind [iJ]
  rw[i,dR a9,dR a9];rfl
 ·
  have v:=Any2.slices_Insert_int_grow Tryz.uF b 0 e.length l f n 0 1 1 (e.map i64) [i64 g] a b5 (by decide) c7 (by omega) (by omega) (by simp) A b1 T vT L;have b3:=aaD a (e.length+1) l 3;have a0:=K_ a (e.length+1) l 3 (by grind [maxLen]);refine aa4 v λu a5⟨w,i⟩=>⟨_,w,?_,?_,?_,λp s=>Xs ?_⟩
  .obtain⟨k,N⟩:∃k,k=((e.map i64).take f).toArray++Builtin.zeroCells (Xn.int M 0).cells (e.length+1-f)++Builtin.zeroCells (Xn.int M 0).cells (grownCap a (e.length+1) l 3-(e.length+1)):=by simp
   have b7:k.size=grownCap a (e.length+1) l 3:=by rw[N];simp only[A_,YF,ZJ,h_,d2];omega
   have f1:k.toList.take f=(e.map i64).take f:=by rw[N];simp only[ZY,ZW];rw[aaj (by simp;omega),aav,E.min_self]
   have d7:∀o∈k.toList,∃c,o=i64 c:=λo h=>by
    rw[N]at h;simp only[ZY,YC]at h;rcases h with(h|h)|h
    .obtain⟨c,_,rfl⟩:=YL.1 (Xq.mem_of_mem_take h);exact⟨c,A⟩
    .exact OR _ o h
    exact OR _ o h
   rw[D,<-N]at i;rw[i,D];have c9:(a.alloc (.cells k 3)).drew.heap[a.heap.size]?=C (Xx k 3 (0,0)):=Yx a _;have X:=gq [i64 g] f c9;have d0:(((a.alloc (.cells k 3)).drew.setCells a.heap.size f [i64 g]).drew).heap[a.heap.size]?=C (Xx (DU k f [i64 g]) 3 (0,0)):=X;have Y:=gq ((e.map i64).drop f) (f+1) d0;have O:((e.map i64).drop f).length=e.length-f:=by simp
   refine uL Y (g:=dI g e) (i:=k.toList.drop (e.length+1)) ?_ (by rw[gr,gr];exact b7) (by omega) a0 (λo h=>d7 o (aai h)) Q.symm;rw[jA _ _ _ (by rw[gr,O,b7];omega),jA _ _ _ (by simp;omega),R,O];have c0:f+1+(e.length-f)=e.length+1:=by omega
   have e8:f+[i64 g].length=f+1:=A
   have z:(k.toList.take f++[i64 g]++k.toList.drop (f+1)).drop (e.length+1)=k.toList.drop (e.length+1):=by
    rw[Xq.drop_append,Xq.drop_of_length_le (by simp;omega),Zw,Xq.drop_drop]
    congr 1
    simp;omega
   grind
  .simp_all [kI]
  .intro p d1 Z;rw[i];have b0:p≠a.heap.size:=by omega
   rw[dR b0];show((a.alloc _).drew.setCells a.heap.size f [i64 g]).heap[p]?=_;rw[dR b0];exact aaw a _ d1
  rw[D,iJ (by omega)]at s;simp_all
variable{w:K}{d:XA}{h:Xn}{g:E}{N:E}
def NB(b:Xn):Prop:=∀a,b≠.int .u8 a
theorem VR:∃a b,TP.underlying 193=C (.slice 1)/\(TP.info? 1=C a/\a.zero=C b/\a.size=1/\a.bytes<=1000/\b.cells.size=1/\0<1)/\∀c∈b.cells.toList,NB c:=by refine⟨_,_,A,⟨A,A,A,by decide,A,by decide⟩,?_⟩;intro c e f d;subst d;have:Xn.int .u8 f∈[Xn.nilFunc]:=e;simp at this
theorem frozenAt{a:Xu Xn}{c:XA}(b:w.heap[f]?=C (Xx a c (0,0)))(j:E):w.frozen? ⟨f,j,F⟩=Xp:=by simp[K.frozen?,b]
theorem JM{i:K}{n a:Obj}{e:Xn}(k:(w.alloc n).grownBy i e.ownBlock)(b:w.heap[f]?=C a)(m:e.ownBlock≠C f):i.heap[f]?=C a:=by have l:=(XZ.1 b).1;rw[k.block f (by show _<(w.heap.push _).size;simp;omega) (λd=>m d.symm),Yc _ _ _ l,b]
theorem bV.alloc{a:Xn->Prop}{size:E}{e:Xq Xn}(b:bV a w d size h g e)(l:Obj):bV a (w.alloc l) d size h g e:=b.stay λk i=>Yc _ _ _ (b.lt k i)
def LM(N:E)(h i f:Xn)(e:Xq Xn)(g:Xn)(w:K)(d:Ending)(a:K):Prop:=d=XB (.tuple #[])/\w.heap.size<=a.heap.size/\(∀c,c<w.heap.size->c≠N->f.ownBlock≠C c->a.heap[c]?=w.heap[c]?)/\
 ∃b,a.heap[N]?=C (Xx #[h,i,b] 195 (0,0))/\bV NB a 1 1 b (e.length+1) (e++[g])/\jC w f b
theorem GS{x y a:Xn}{k:Xq Xn}(fn:Fn)(l m:Xu Xn)(v:w.heap[N]?=C (Xx #[x,y,a] 195 (0,0)))(u:bV NB w 1 1 a k.length k)(a5:k.length<2^20):Calls TP 183 #[pt N 0,.func fn l m] w (LM N x y a k (.func fn l m) w):=by
 obtain⟨a6,b2,i,S,X⟩:=VR
 have U:a.ownBlock≠C N:=λd=>by obtain⟨L,b,_⟩:=u.blk N d;simp_all
 have c2:w.cell? ⟨N,2,F⟩=C a:=aa v 2 A;have H:=Xv v;have W:=λZ=>u.alloc (w:=w) Z;have z:=Xv U;go_enter Tryz.func183,Tryz.ntmps183
 go_wp2_with (at_builtin;refine ja A _ _ 193 A rfl (W _) i S X A [.func fn l m] A (cell_one_new _ _ _) (by intro a9 i;simp at i;subst i;exact⟨A,by intro a7 d;cases d⟩) (by omega) ?_;intro b0 b1 p o t;obtain⟨a0,a8,a2,rfl⟩:=p.slice;have e:=JM (e:=a) o H.out z.out;have a1:=aa e 2 A;have a3:=frozenAt e 2;have q:=Xv e;have r:=Xv o;have D:=Xv t;clear e t;have s:=Xv p;clear p o)
 go_end0
 refine⟨A,?_,λc a4 b Q=>?_,_,aA q.out,?_,λO R=>?_⟩
 .rw[aR];exact Yi (by simp) r.out.size
 .rw[ai b,r.out.block c (by simp;omega) (λd=>Q d.symm)];simp_all [Yc]
 .refine s.out.stay λY T=>ai λd=>?_;obtain⟨L,b,_⟩:=s.out.blk Y T;rw[d,q.out]at b;cases b
 rcases D.out O R with n|n
 .exact Xr n
 exact Xs (Yi (by simp) n)
theorem NS(w:K)(a b:Obj)(d:c<w.heap.size):((w.alloc a).alloc b).heap[c]?=w.heap[c]?:=by grind [Below.heap_alloc]
theorem NK(w:K)(a b:Obj):((w.alloc a).alloc b).heap[w.heap.size]?=C a:=by grind [Below.heap_alloc,World.alloc_heap_new]
theorem wo(w:K)(b a:Obj):((w.alloc b).alloc a).heap[w.heap.size+1]?=C a:=by have:=YZ (w.alloc b) a;simp_all
inductive Un where
 |head (g:E) (b:Xu Xn)
 |add (a g:E)
 |drop (a g:E)
def uX(N:E)(w:K)(b:Xn):Un->Prop
 |.head g a=>∃c f,b=.func (.func 190) #[] #[pt c 0,pt f 0]/\w.heap[c]?=C (Xx a 190 (0,0))/\w.heap[f]?=C (Xx #[pt g 0] 187 (0,0))
 |.add d g=>∃c f a,b=.func (.func 217) #[] #[pt c 0,pt f 0,pt a 0]/\w.heap[c]?=C (Xx #[pt d 0] 187 (0,0))/\w.heap[f]?=C (Xx #[pt g 0] 187 (0,0))/\w.heap[a]?=C (Xx #[pt N 0] 94 (0,0))
 |.drop d g=>∃c f a,b=.func (.func 184) #[] #[pt c 0,pt f 0,pt a 0]/\w.heap[c]?=C (Xx #[pt g 0] 187 (0,0))/\w.heap[f]?=C (Xx #[pt d 0] 187 (0,0))/\w.heap[a]?=C (Xx #[pt N 0] 94 (0,0))
def Jg(N:E)(h i g:Xn)(f:Xq Xn)(k:Un)(w:K)(d:Ending)(a:K):Prop:=d=XB (.tuple #[])/\w.heap.size<=a.heap.size/\(∀c,c<w.heap.size->c≠N->g.ownBlock≠C c->a.heap[c]?=w.heap[c]?)/\
 ∃b e,a.heap[N]?=C (Xx #[h,i,b] 195 (0,0))/\bV NB a 1 1 b (f.length+1) (f++[e])/\jC w g b/\uX N a e k
theorem BE{z D k:Xn}{b:Xq Xn}(y:w.heap[N]?=C (Xx #[z,D,k] 195 (0,0)))(Z:bV NB w 1 1 k b.length b)(X:b.length<2^20)
 {l m:XM}{n o p q r s t u:Xt}{a4 a5:Xn}(a:w.heap[g]?=C (Xx #[.string l,.string m,Xo M n,Xo M o,Xo M p,Xo M q,Xo M r,Xo M s,Xo M t,Xo M u,a4,a5] 192 (0,0))):
 Calls TP 157 #[pt N 0,pt g 0] w (Jg N z D k b (.head g #[.string l,.string m,Xo M n,Xo M o,Xo M p,Xo M q,Xo M r,Xo M s,Xo M t,Xo M u]) w):=by
 have W:=(XZ.1 y).1;have b4:=(XZ.1 a).1;have a6:=aa a 0 A;have c1:=aa a 1 A;have c2:=aa a 2 A;have c3:=aa a 3 A;have c4:=aa a 4 A;have c5:=aa a 5 A;have a7:=aa a 6 A;have a8:=aa a 7 A;have a9:=aa a 8 A;have b0:=aa a 9 A;have H:=Xv y;have e:=Xv Z;go_enter Tryz.func157,Tryz.ntmps157;have T:=H.out;have Y:=(e.out.alloc (.cells #[pt g 0] 187)).alloc (.cells #[.string l,.string m,Xo M n,Xo M o,Xo M p,Xo M q,Xo M r,Xo M s,Xo M t,Xo M u] 190);have L:=Xv (GS (.func 190) #[] #[pt (w.heap.size+1) 0,pt w.heap.size 0] (by rw[NS _ _ _ W];exact T) Y X)
 go_wp2_with (go_at_call 183;refine L.out.mono ?_;rintro d b5⟨rfl,a0,x,a3,Q,R,S⟩)
 go_end0
 have i:∀a1 a2,((w.alloc a1).alloc a2).heap.size=w.heap.size+2:=by simp
 rw[i]at a0;refine⟨A,by omega,λc b3 b1 b2=>?_,a3,_,Q,R,λO U=>?_,_,_,A,?_,?_⟩
 .grind [NS]
 .rcases S O U with v|v
  .exact Xr v
  grind
 .rw[x _ (by rw[i];omega) (by omega) (λd=>by have:=e.out.lt _ d;omega)]
  grind [wo]
 rw[x _ (by rw[i];omega) (by omega) (λd=>by have:=e.out.lt _ d;omega)];simp[NK]
variable{d:K}{e:E}{s:E}{R:Xu XS}
abbrev OU(c d:XM)(e f g h i k l m:Xt)(a b:Xn):Xu Xn:=#[.string c,.string d,Xo M e,Xo M f,Xo M g,Xo M h,Xo M i,Xo M k,Xo M l,Xo M m,a,b]
abbrev PU(a b:XM)(c d e f g h i k:Xt):Xu Xn:=#[.string a,.string b,Xo M c,Xo M d,Xo M e,Xo M f,Xo M g,Xo M h,Xo M i,Xo M k]
theorem rh(d:K)(a b e:Obj)(f:c<d.heap.size):(((d.alloc a).alloc b).alloc e).heap[c]?=d.heap[c]?:=by grind [Below.heap_alloc]
theorem wR{b:Obj}(a:c≠f):(uj d f b).heap[c]?=d.heap[c]?:=by simp[uj,Zh a]
theorem IE{a:Obj}(b:f<d.heap.size):(uj d f a).heap[f]?=C a:=by simp[uj,b]
theorem uX.stay{i:Xn}{h:Un}(g:uX N d i h)(o:∀(c:E)(a:Xu Xn)(b:XA),d.heap[c]?=C (Obj.cells a b (0,0))->b=190\/b=187\/b=94->w'.heap[c]?=d.heap[c]?):uX N w' i h:=by
 cases h with
 |head e a=>obtain⟨c,f,rfl,k,l⟩:=g;exact⟨c,f,A,by grind,by grind⟩
 |add n e=>obtain⟨c,f,a,rfl,k,l,m⟩:=g;exact⟨c,f,a,A,by grind,by grind,by grind⟩
 |drop n e=>obtain⟨c,f,a,rfl,k,l,m⟩:=g;exact⟨c,f,a,A,by grind,by grind,by grind⟩
structure OX(N a e s:E)(O m T:Xn)(S:Xt)(k:Xq Xn)(p q:XM)(r t u w x y z D:Xt)(L:B->Xz E)(Q:B)(d:K)(H:Ending)(w':K):Prop where
 end_:H=XB (.tuple #[])
 size:d.heap.size<=w'.heap.size
 kept:∀c,c<d.heap.size->c≠N->c≠a->c≠s->m.ownBlock≠C c->w'.heap[c]?=d.heap[c]?
 tree:∃b h i,w'.heap[N]?=C (Xx #[O,Xo M (S+1),b] 195 (0,0))/\bV NB w' 1 1 b (k.length+2) (k++[h,i])/\jC d m b/\uX N w' h (.head a (PU p q r t u w x y z D))/\uX N w' i (.add a e)
 nd:w'.heap[a]?=C (Xx (OU p q r t u (w+1) x y (z+1) D T (.map (C s))) 192 (0,0))
 kd:∃R g,w'.heap[s]?=C (.map R g)/\Kids R g λn=>if n=Q then C e else L n
theorem TZ{a:E}{e5 a8:Xn}{r:Xt}{v:Xq Xn}(a5:d.heap[N]?=C (Xx #[e5,Xo M r,a8] 195 (0,0)))(e3:bV NB d 1 1 a8 v.length v)(l0:v.length<2^19)
 {b0 b1:XM}{b2 b3 b4 m b5 b6 n b7:Xt}{a9:Xn}(a3:d.heap[a]?=C (Xx (OU b0 b1 b2 b3 b4 m b5 b6 n b7 a9 (.map (C s))) 192 (0,0)))
 {w:E}{d1:B->Xz E}{D:B}(e0:d.heap[s]?=C (.map R w))(f3:Kids R w d1)(g5:d1 D=F){b8:Xu Xn}(e1:d.heap[e]?=C (Xx b8 192 (0,0)))(f8:b8[0]?=C (.string (bs D)))
 (k7:0<=m/\m<2^62)(k8:0<=n/\n<2^62)(l1:0<=r/\r<2^62):
 Calls TP 187 #[pt N 0,pt a 0,pt e 0] d (OX N a e s e5 a8 a9 r v b0 b1 b2 b3 b4 m b5 b6 n b7 d1 D d):=by
 have i7:=(XZ.1 a5).1;have g0:=(XZ.1 a3).1;have i9:=(XZ.1 e1).1;have i8:=(XZ.1 e0).1;have f2:=Xv (BE (w:=((d.alloc (.cells #[pt N 0] 94)).alloc (.cells #[pt a 0] 187)).alloc (.cells #[pt e 0] 187)) (N:=N) (g:=a) (b:=v) (by rw[rh _ _ _ _ i7];exact a5) (((e3.alloc _).alloc _).alloc _) (by omega) (by rw[rh _ _ _ _ g0];exact a3));have c9:=Xv a5;have W:=Xv e3;have c0:=Xv a3;have c6:=Xv e1;have b9:=Xv e0;have h2:=Xv f3;have h9:=Xv g5;have HC:=Xv f8;clear a5 e3 a3 e1 e0 f3 g5 f8;go_enter Tryz.func187,Tryz.ntmps187
 go_wp2_with (go_at_call 157;refine f2.out.mono ?_;rintro g i⟨rfl,j3,f9,T,f6,g8,g4,g2,t⟩)
 have d0:∀a7 j4 j5,(((d.alloc a7).alloc j4).alloc j5).heap.size=d.heap.size+3:=by simp
 rw[d0]at j3;have j0:=W.out.lt;have y:∀c f5,c≠N->a8.ownBlock≠C c->(((d.alloc (.cells #[pt N 0] 94)).alloc (.cells #[pt a 0] 187)).alloc (.cells #[pt e 0] 187)).heap[c]?=C f5->i.heap[c]?=C f5:=by grind
 have d4:i.heap[d.heap.size]?=C (Xx #[pt N 0] 94 (0,0)):=y _ _ (by omega) (λg=>by simp_all) (by rw[Yc _ _ _ (by simp;omega)];simp[NK]);have d6:i.heap[d.heap.size+1]?=C (Xx #[pt a 0] 187 (0,0)):=y _ _ (by omega) (λg=>by grind) (by rw[Below.heap_alloc _ _ _ (by simp)];grind [wo])
 have d8:i.heap[d.heap.size+1+1]?=C (Xx #[pt e 0] 187 (0,0)):=y _ _ (by omega) (λg=>by grind) (by
  have:=wo (d.alloc (.cells #[pt N 0] 94)) (.cells #[pt a 0] 187) (.cells #[pt e 0] 187)
  simp_all)
 have e2:i.heap[a]?=C (Xx (OU b0 b1 b2 b3 b4 m b5 b6 n b7 a9 (.map (C s))) 192 (0,0)):=y _ _ (λg=>by have:=c0.out;rw[g,c9.out]at this;cases this) (λg=>by
  obtain⟨X,u,_⟩:=W.out.blk _ g
  rw[c0.out]at u;cases u) (by rw[rh _ _ _ _ g0];exact c0.out)
 have g3:i.heap[e]?=C (Xx b8 192 (0,0)):=y _ _ (λg=>by have:=c6.out;rw[g,c9.out]at this;cases this) (λg=>by
  obtain⟨X,u,_⟩:=W.out.blk _ g
  rw[c6.out]at u;cases u) (by rw[rh _ _ _ _ i9];exact c6.out)
 have a1:i.heap[s]?=C (.map R w):=y _ _ (λg=>by have:=b9.out;rw[g,c9.out]at this;cases this) (λg=>by
  obtain⟨X,u,_⟩:=W.out.blk _ g
  rw[b9.out]at u;cases u) (by rw[rh _ _ _ _ i8];exact b9.out)
 have k2:=aa d4 0 A;have k3:=aa d6 0 A;have k4:=aa d8 0 A;have k5:=aa e2 11 A;have k6:=aa g3 0 HC.out;obtain⟨j1,f4⟩:=QB (c:=i.drew) a1 h2.out h9.out e;obtain⟨p,O⟩:∃p,uj i.drew s (.map (R.push ⟨.string (bs D),pt e 0,w⟩) (w+1))=p:=by simp
 rw[O]at j1;have L:s≠N:=by grind
 have a2:s≠a:=by grind
 have a6:N≠a:=by grind
 have x:∀c,c≠s->p.heap[c]?=i.heap[c]?:=λc d3=>by rw[<-O];exact wR d3
 have g1:p.heap[s]?=C (.map (R.push ⟨.string (bs D),pt e 0,w⟩) (w+1)):=by rw[<-O];exact IE (XZ.1 a1).1
 have g6:p.heap.size=i.heap.size:=by rw[<-O];simp[uj]
 have z:=(x a (Zh a2)).trans e2;have a4:=(x N (Zh L)).trans g8;have d5:=(x d.heap.size (by omega)).trans d4;have d7:=(x (d.heap.size+1) (by omega)).trans d6;have d9:=(x (d.heap.size+1+1) (by omega)).trans d8;have l5:=aa d5 0 A;have l6:=aa d7 0 A;have l7:=aa d9 0 A;have l8:=aa z 5 A;have l9:=aa z 8 A;have m0:=aa a4 1 A;have m1:=frozenAt z 5;have m2:=frozenAt z 8;have m3:=frozenAt a4 1;have e6:=Xv d5;have e7:=Xv d7;have e8:=Xv d9;have c7:=Xv z;have c8:=Xv a4;have h6:=Xv g1;have e9:=Xv a1;have h4:=Xv f4;have h3:=Xv f9;have k:=Xv x;have U:=Xv g4;have i2:=Xv t;have f0:=Xv g2;have i0:=Xv g6;clear d4 d6 d8 e2 g3 a1 f4 f9 g4 g8 t g2 y j0 d0 f2 d5 d7 d9 z a4 g1 x O g6
 have q1:(((p.setCell ⟨a,5,F⟩ (Xo M (m+1))).setCell ⟨a,8,F⟩ (Xo M (n+1))).setCell ⟨N,1,F⟩ (Xo M (r+1))).heap[N]?=C (Xx #[e5,Xo M (r+1),T] 195 (0,0)):=by have:=aA (l:=1) (g:=Xo M (r+1)) (a:=(p.setCell ⟨a,5,F⟩ (Xo M (m+1))).setCell ⟨a,8,F⟩ (Xo M (n+1))) (i:=N) (by rw[ai a6,ai a6];exact c8.out);simp_all
 have g9:(((p.setCell ⟨a,5,F⟩ (Xo M (m+1))).setCell ⟨a,8,F⟩ (Xo M (n+1))).setCell ⟨N,1,F⟩ (Xo M (r+1))).heap[a]?=C (Xx (OU b0 b1 b2 b3 b4 (m+1) b5 b6 (n+1) b7 a9 (.map (C s))) 192 (0,0)):=by rw[ai (Zh a6)];have:=aA (l:=8) (g:=Xo M (n+1)) (aA (l:=5) (g:=Xo M (m+1)) c7.out);simp_all
 have e4:∀c,c≠N->c≠a->(((p.setCell ⟨a,5,F⟩ (Xo M (m+1))).setCell ⟨a,8,F⟩ (Xo M (n+1))).setCell ⟨N,1,F⟩ (Xo M (r+1))).heap[c]?=p.heap[c]?:=by simp_all [ai]
 have h0:(((p.setCell ⟨a,5,F⟩ (Xo M (m+1))).setCell ⟨a,8,F⟩ (Xo M (n+1))).setCell ⟨N,1,F⟩ (Xo M (r+1))).heap.size=i.heap.size:=by rw[aR,aR,aR,i0.out]
 have i6:=U.out.lt
 have t:∀b,T.ownBlock=C b->b≠N/\b≠a/\b≠s/\b≠d.heap.size/\b≠d.heap.size+1/\b≠d.heap.size+1+1:=λb h=>by
  obtain⟨X,l,_⟩:=U.out.blk b h;refine⟨?_,?_,?_,?_,?_,?_⟩<;>rintro rfl
  .rw[<-k.out _ (Zh L),c8.out]at l;cases l
  .rw[<-k.out _ (Zh a2),c7.out]at l;cases l
  .rw[e9.out]at l;cases l
  .rw[<-k.out _ (by omega),e6.out]at l;cases l
  .rw[<-k.out _ (by omega),e7.out]at l;cases l
  rw[<-k.out _ (by omega),e8.out]at l;cases l
 have i1:=Xv (GS (k:=v++[f6]) (.func 217) #[] #[pt (d.heap.size+1) 0,pt (d.heap.size+1+1) 0,pt d.heap.size 0] q1 (by
  rw[YA]
  exact U.out.stay λb h=>by rw[e4 _ (t b h).1 (t b h).2.1,k.out _ (t b h).2.2.1]) (by simp;omega))
 have h7:=Xv g9;have f1:=Xv e4;have h8:=Xv h0;have h5:=Xv t;clear q1 g9 e4 h0 i6 t;generalize g7:bs D=l3 at*
 have k0:=Xv g7;clear g7
 go_still_tail 10,(by kernel_rfl)
 change wpList _ _ _ _ _ i.drew
 go_wp2_with (go_at_call 183;refine i1.out.mono ?_;rintro g j9⟨rfl,j2,a0,j8,j6,l2,j7⟩)
 go_end0
 rw[h8.out]at j2 a0;have H:=h5.out
 have Q:∀c,c≠N->c≠a->c≠s->T.ownBlock≠C c->c<i.heap.size->j9.heap[c]?=i.heap[c]?:=λc o Y d2 Z i3=>by rw[a0 c i3 o Z,f1.out c o Y,k.out c d2]
 have S:∀c,(∀b,T.ownBlock=C b->b≠c)->T.ownBlock≠C c:=λc q g=>q c g A;have d0:(((d.alloc (.cells #[pt N 0] 94)).alloc (.cells #[pt a 0] 187)).alloc (.cells #[pt e 0] 187)).heap.size=d.heap.size+3:=by simp
 refine⟨A,by omega,λc d3 o Y d2 Z=>?_,⟨j8,f6,.func (.func 217) #[] #[pt (d.heap.size+1) 0,pt (d.heap.size+1+1) 0,pt d.heap.size 0],j6,?_,λf7 i4=>?_,?_,?_⟩,?_,?_⟩
 .rw[Q c o Y d2 (λg=>?_) (by omega),h3.out c (by omega) o Z,rh _ _ _ _ d3];rcases f0.out c g with q|q
  .exact Z q
  omega
 .grind
 .rcases j7 f7 i4 with q|q
  .rcases f0.out f7 q with q|q
   .exact Xr q
   exact Xs (by omega)
  grind
 .refine i2.out.stay λc X l4 o Y=>?_;have i5:=(XZ.1 o).1;refine Q c ?_ ?_ ?_ (λg=>?_) i5
  .rintro rfl;rw[<-k.out _ (Zh L),c8.out]at o;grind
  .rintro rfl;rw[<-k.out _ (Zh a2),c7.out]at o;grind
  .rintro rfl;rw[e9.out]at o;cases o
  obtain⟨k1,k9,_⟩:=U.out.blk c g
  grind
 .exact⟨_,_,_,A,by
   rw[Q _ (by omega) (by omega) (by omega) (S _ λb h=>(H b h).2.2.2.2.1) (by omega),<-k.out _ (by omega)];exact e7.out,by
   rw[Q _ (by omega) (by omega) (by omega) (S _ λb h=>(H b h).2.2.2.2.2) (by omega),<-k.out _ (by omega)];exact e8.out,by
   rw[Q _ (by omega) (by omega) (by omega) (S _ λb h=>(H b h).2.2.2.1) (by omega),<-k.out _ (by omega)];exact e6.out⟩
 .rw[a0 a (by omega) (Zh a6) (S _ λb h=>(H b h).2.1)];exact h7.out
 refine⟨_,_,?_,h4.out⟩;rw[a0 s (by omega) L (S _ λb h=>(H b h).2.2.1),f1.out s L a2];exact h6.out
variable{a:Tree}{c:Path}
def pP(a:Tree)(b e:Path->E)(N d:E):Prop:=d=N\/∃c,(Wt.find a c).isSome=J/\(d=b c\/d=e c)
def wI(d:K)(N b:E):Prop:=∃c e a,d.heap[N]?=C (Xx #[c,e,a] 195 (0,0))/\a.ownBlock=C b
def gz(N:E)(d:K):Xq Xn->Xq Un->Prop
 |[],[]=>True
 |a::b,c::i=>uX N d a c/\gz N d b i
 |_,_=>False
theorem gz.stay(l:∀(k:E)(n:Xu Xn)(a:XA),d.heap[k]?=C (Obj.cells n a (0,0))->a=190\/a=187\/a=94->w'.heap[k]?=d.heap[k]?):∀{m:Xq Xn}{i:Xq Un},gz N d m i->gz N w' m i
 |[],[],_=>trivial
 |_::_,_::_,g=>⟨g.1.stay l,gz.stay l g.2⟩
 |[],_::_,g=>g.elim
 |_::_,[],g=>g.elim
theorem gz.app:∀{b c:Xq Xn}{i e:Xq Un},gz N d b i->gz N d c e->gz N d (b++c) (i++e)
 |[],_,[],_,_,a=>a
 |_::_,_,_::_,_,a,f=>⟨a.1,gz.app a.2 f⟩
 |[],_,_::_,_,a,_=>a.elim
 |_::_,_,[],_,a,_=>a.elim
theorem gz.len:∀{b:Xq Xn}{i:Xq Un},gz N d b i->b.length=i.length
 |[],[],_=>rfl
 |_::_,_::_,a=>by rw[Yv,Yv,gz.len a.2]
 |[],_::_,a=>a.elim
 |_::_,[],a=>a.elim
structure qd(a:Tree)(b e:Path->E)(N:E)(i:Xq Un)(d:K):Prop where
 lq:bn a b e d
 top:∃k g,d.heap[N]?=C (Xx #[pt (b []) 0,Xo M a.length,k] 195 (0,0))/\bV NB d 1 1 k g.length g/\gz N d g i
structure yo(N:E)(a:Tree)(b e:Path->E)(h:Tree)(m k:Path->E)(d w':K):Prop where
 size:d.heap.size<=w'.heap.size
 kept:∀g,g<d.heap.size->¬pP a b e N g->¬wI d N g->w'.heap[g]?=d.heap[g]?
 news:∀g,pP h m k N g->pP a b e N g\/d.heap.size<=g
 row:∀g,wI w' N g->wI d N g\/d.heap.size<=g
theorem yo.trans{u v:Tree}{b e s q t r:Path->E}{w x:K}(l:yo N a b e u s q d w)(n:yo N u s q v t r w x):yo N a b e v t r d x where
 size:=Yi l.size n.size
 kept:=λk m o p=>by
  rw[n.kept k (Yk m l.size) (λg=>?_) (λg=>?_),l.kept k m o p]
  .rcases l.news k g with g|g
   .exact o g
   omega
  rcases l.row k g with g|g
  .exact p g
  omega
 news:=λk m=>by
  rcases n.news k m with g|g
  .exact l.news k g
  exact Xs (Yi l.size g)
 row:=λk m=>by
  rcases n.row k m with g|g
  .exact l.row k g
  exact Xs (Yi l.size g)
section
variable{h:Tree}{b e:Path->E}{i:Xq Un}
theorem bn.lt(g:bn a b e d)(i:(Wt.find a c).isSome=J):b c<d.heap.size/\e c<d.heap.size:=by obtain⟨f,h⟩:=Yd.1 i;obtain⟨m,l,k,_⟩:=g.kd c f h;exact⟨(XZ.1 (g.nd c f h)).1,(XZ.1 k).1⟩
theorem bn.ne(h:bn a b e d){g:Path}(l:(Wt.find a c).isSome=J)(m:(Wt.find a g).isSome=J):b c≠e g:=λp=>by obtain⟨f,i⟩:=Yd.1 l;obtain⟨n,k⟩:=Yd.1 m;obtain⟨q,o,r,_⟩:=h.kd g n k;have:=h.nd c f i;simp_all
theorem bn.stay(g:bn a b e d)(l:∀c,(Wt.find a c).isSome=J->w'.heap[b c]?=d.heap[b c]?/\w'.heap[e c]?=d.heap[e c]?):bn a b e w' where
 nd:=λc f k=>by rw[(l c (by rw[k];rfl)).1];exact g.nd c f k
 kd:=λc f k=>by
  obtain⟨n,m,o,p⟩:=g.kd c f k
  grind
 inj:=g.inj
 xS:=g.xS
theorem bn.old(g:bn a b e d)(l:∀k,k<d.heap.size->w'.heap[k]?=d.heap[k]?):bn a b e w':=g.stay λc m=>⟨l _ (g.lt m).1,l _ (g.lt m).2⟩
theorem Db(d:∀c,(Wt.find h c).isSome=(Wt.find a c).isSome)(b:Path->E)(c:Path):cd h b c=cd a b c:=by grind [cd]
theorem bn.upd(k:bn a b e d){f v:Nd}(D:Wt.find a c=C f)(H:∀g,Wt.find h g=if g=c then C v else Wt.find a g)
 (Q:w'.heap[b c]?=C (Xx (cW c v (b c.dropLast) (e c)) 192 (0,0)))(t:∀i,i<d.heap.size->i≠b c->(∃g,(Wt.find a g).isSome=J/\(i=b g\/i=e g))->w'.heap[i]?=d.heap[i]?):bn h b e w':=by
 have u:(Wt.find a c).isSome=J:=by rw[D];rfl
 have n:∀g,(Wt.find h g).isSome=(Wt.find a g).isSome:=by grind
 refine⟨λg w o=>?_,λg w o=>?_,λi m q r=>k.inj i m (n i▸q) (n m▸r),λi m q r=>k.xS i m (n i▸q) (n m▸r)⟩
 .have l:(Wt.find a g).isSome=J:=by grind
  rw[H]at o;by_cases s:g=c
  .simp_all
  rw[XH s]at o;rw[t _ (k.lt l).1 (λp=>s (k.inj g c l u p)) ⟨g,l,.inl A⟩];exact k.nd g w o
 have l:(Wt.find a g).isSome=J:=by grind
 obtain⟨N,L⟩:=Yd.1 l;obtain⟨y,x,z,O⟩:=k.kd g N L;refine⟨y,x,?_,by grind [Db]⟩;rw[t _ (k.lt l).2 (λp=>k.ne u l p.symm) ⟨g,l,.inr A⟩];exact z
def wU(b:Path->E)(a:Path)(f:E):Path->E:=λc=>if c=a then f else b c
theorem dS{b:Path->E}{a:Path}:wU b a f a=f:=XN A
theorem bE{b:Path->E}{a:Path}(d:c≠a):wU b a f c=b c:=XH d
theorem uZ(a:Path)(b:B):a≠a++[b]:=λc=>by simp_all
theorem Hg{b c:Path}{a d:B}(e:c++[d]=b++[a]):c=b/\d=a:=by simp_all
theorem bn.add(q:bn a b e d){i:Path}{k:B}{a3 S T:Nd}{z:E}(a1:Wt.find a i=C a3)(a5:Wt.find a (i++[k])=F)(a8:∀l,Wt.find a (i++[k]++[l])=F)
 (b1:∀c,c≠[]->(Wt.find a c).isSome=J->(Wt.find a c.dropLast).isSome=J)
 (R:∀g,Wt.find h g=if g=i++[k]then C T else if g=i then C S else Wt.find a g)
 (b0:w'.heap[b i]?=C (Xx (cW i S (b i.dropLast) (e i)) 192 (0,0)))
 (a0:∃s o,w'.heap[e i]?=C (.map s o)/\Kids s o λl=>if l=k then C f else cd a b i l)
 (a9:w'.heap[f]?=C (Xx (cW (i++[k]) T (b i) z) 192 (0,0)))(Z:∃o,w'.heap[z]?=C (.map #[] o)/\Stamped #[] o)
 (a7:∀g,(Wt.find a g).isSome=J->b g≠f/\e g≠z)
 (O:∀m,m<d.heap.size->m≠b i->m≠e i->(∃g,(Wt.find a g).isSome=J/\(m=b g\/m=e g))->w'.heap[m]?=d.heap[m]?):bn h (wU b (i++[k]) f) (wU e (i++[k]) z) w':=by
 have y:(Wt.find a i).isSome=J:=by rw[a1];rfl
 have Q:∀g,g≠i++[k]->(Wt.find h g).isSome=(Wt.find a g).isSome:=by grind
 have a6:∀g,(Wt.find a g).isSome=J->g≠i++[k]:=by grind
 have X:∀g,(Wt.find a g).isSome=J->wU b (i++[k]) f g.dropLast=b g.dropLast:=by grind [bE]
 refine⟨λg l t=>?_,λg l t=>?_,λm r U W n=>?_,λm r U W n=>?_⟩
 .by_cases n:g=i++[k]
  .simp_all [dS,bE]
  have p:(Wt.find a g).isSome=J:=by grind
  rw[bE n,bE n,X g p];rw[R,XH n]at t;by_cases u:g=i
  .simp_all
  rw[XH u]at t;rw[O _ (q.lt p).1 (λv=>u (q.inj g i p y v)) (q.ne p y) ⟨g,p,.inl A⟩];exact q.nd g l t
 .by_cases n:g=i++[k]
  .subst n;obtain⟨o,w,L⟩:=Z;rw[dS];refine⟨#[],o,w,L,by simp,λl r t=>?_⟩;unfold cd at t;simp_all
  have p:(Wt.find a g).isSome=J:=by grind
  rw[bE n];by_cases u:g=i
  .subst u;obtain⟨s,o,w,L⟩:=a0;refine⟨s,o,w,?_⟩
   have Y:cd h (wU b (g++[k]) f) g=λl=>if l=k then C f else cd a b g l:=by
    funext l
    unfold cd;by_cases N:l=k
    .subst N;rw[R,XN A,XN A,dS];rfl
    have x:g++[l]≠g++[k]:=by simp_all
    rw[Q _ x,bE x,XH N]
   simp_all
  obtain⟨a4,a2⟩:=Yd.1 p;obtain⟨s,o,w,L⟩:=q.kd g a4 a2;refine⟨s,o,?_,?_⟩
  .rw[O _ (q.lt p).2 (λv=>q.ne y p v.symm) (λv=>u (q.xS g i p y v)) ⟨g,p,.inr A⟩];exact w
  have Y:cd h (wU b (i++[k]) f) g=cd a b g:=by
   funext l
   unfold cd;have x:g++[l]≠i++[k]:=by simp_all
   rw[Q _ x,bE x]
  simp_all
 .by_cases D:m=i++[k]
  .grind [dS,bE]
  by_cases H:r=i++[k]
  .simp_all [dS,bE]
  rw[bE D,bE H]at n;exact q.inj m r (by simp_all) (by simp_all) n
 by_cases D:m=i++[k]
 .grind [dS,bE]
 by_cases H:r=i++[k]
 .simp_all [dS,bE]
 rw[bE D,bE H]at n;exact q.xS m r (by simp_all) (by simp_all) n
theorem bn.del(o:bn a b e d){l:Path}{w:B}{a0 T:Nd}(Y:Wt.find a l=C a0)
 (S:∀k,Wt.find h k=if k=l++[w]then F else if k=l then C T else Wt.find a k)
 (a2:w'.heap[b l]?=C (Xx (cW l T (b l.dropLast) (e l)) 192 (0,0)))
 (X:∃t r,w'.heap[e l]?=C (.map t r)/\Kids t r λn=>if n=w then F else cd a b l n)
 (Q:∀m,m<d.heap.size->m≠b l->m≠e l->(∃k,(Wt.find a k).isSome=J/\(m=b k\/m=e k))->w'.heap[m]?=d.heap[m]?):bn h b e w':=by
 have y:(Wt.find a l).isSome=J:=by rw[Y];rfl
 have R:∀k,k≠l++[w]->(Wt.find h k).isSome=(Wt.find a k).isSome:=by grind
 have u:∀k,(Wt.find h k).isSome=J->k≠l++[w]/\(Wt.find a k).isSome=J:=by grind
 refine⟨λk n v=>?_,λk n v=>?_,λm x H L=>o.inj m x (u m H).2 (u x L).2,λm x H L=>o.xS m x (u m H).2 (u x L).2⟩
 .obtain⟨O,p⟩:=u k (by rw[v];rfl);rw[S,XH O]at v;by_cases s:k=l
  .simp_all
  rw[XH s]at v;rw[Q _ (o.lt p).1 (λq=>s (o.inj k l p y q)) (o.ne p y) ⟨k,p,.inl A⟩];exact o.nd k n v
 obtain⟨O,p⟩:=u k (by rw[v];rfl);by_cases s:k=l
 .subst s;obtain⟨t,r,D,U⟩:=X;refine⟨t,r,D,?_⟩
  have W:cd h b k=λn=>if n=w then F else cd a b k n:=by
   funext n
   unfold cd;by_cases z:n=w
   .subst z;rw[S,XN A,XN A];rfl
   rw[R _ (λq=>z (Hg q).2),XH z]
  simp_all
 obtain⟨a1,Z⟩:=Yd.1 p;obtain⟨t,r,D,U⟩:=o.kd k a1 Z;refine⟨t,r,?_,?_⟩
 .rw[Q _ (o.lt p).2 (λq=>o.ne y p q.symm) (λq=>s (o.xS k l p y q)) ⟨k,p,.inr A⟩];exact D
 have W:cd h b k=cd a b k:=by
  funext n
  unfold cd;rw[R _ (λq=>s (Hg q).1)]
 simp_all
end
variable{a:K}
def ux(a:K):Prop:=TabIs TP a "internal/strconv.uint64pow10" .u64 pow10Tab
theorem pW:TP.globalNamed "internal/strconv.uint64pow10"=C 4:=by rfl
theorem ux.stay(c:ux a)(d:(w'.heap[4]?).map Sim.Obj.whole=(a.heap[4]?).map Sim.Obj.whole):ux w':=by
 unfold ux TabIs K.var? at c⊢
 rw[pW]at c⊢
 simp only[d_]at c⊢
 cases e:a.heap[4]? with
 |none=>simp_all
 |some g=>
  rw[e]at c d;cases g with
  |cells i n l=>
   cases f:w'.heap[4]? with
   |none=>simp_all
   |some h=>
    rw[f]at d;cases h with
    |cells k o m=>simp_all [Sim.Obj.whole]
    |_=>simp[Sim.Obj.whole]at d
  |_=>cases c
theorem dd(a:E)(b:10<=a):decDigits a=decDigits (a/10)++[UInt8.ofNat (48+a%10)]:=by rw[decDigits,dif_neg (by omega)]
theorem Xb(a:E)(b:a<10):decDigits a=[UInt8.ofNat (48+a)]:=by rw[decDigits,abt b]
theorem FV{a:Xt}(c:0<=a)(h:a<=999):itoa (1000+a)=49::Wt.three a:=by
 obtain⟨b,rfl⟩:=Xt.eq_ofNat_of_zero_le c;unfold itoa;rw[XH (by omega),show(1000+(b:Xt)).toNat=1000+b by omega,dd _ (by omega),dd _ (by omega),dd _ (by omega),Xb _ (by omega)];have d:(1000+b)/10/10/10=1:=by omega
 have e:(1000+b)/10/10%10=b/100:=by omega
 have f:(1000+b)/10%10=b/10%10:=by omega
 have g:(1000+b)%10=b%10:=by omega
 simp_all [Wt.three]
theorem Fc{d:Xu Obj}:Below a.heap.size a (grow (a.drewN b) d):=
 ⟨A,A,A,by simp[grow],λe c=>by simp[grow,abf,c]⟩
def He(d:XM)(c:Xt)(a:K)(b:Ending)(w':K):Prop:=b=XB (.string (d++bs (Wt.three c)))/\Below a.heap.size a w'
theorem NR(g:ux a)(f:XM){c:Xt}(l:0<=c)(m:c<=999)(q:f.size<2^30):Calls TP 186 #[.string f,Xo M c] a (He f c a):=by
 have e:=Tryz.strconv_Itoa (1000+c) (by omega) (by omega) a g;rw[FV l m]at e;obtain⟨d,hd⟩:∃d,(⟨(49::Wt.three c).toArray⟩:XM)=d:=⟨_,A⟩;rw[hd]at e;have p:d.size=4:=by rw[<-hd];rfl
 have h:d.extract 1 4=bs (Wt.three c):=by rw[<-hd];rfl
 have i:=Xv e;have k:=Xv h;have n:(bs (Wt.three c)).size=3:=A;clear e g hd h n;go_enter Tryz.func186,Tryz.ntmps186
 go_wp2_with (go_at_call 216;refine i.out.mono ?_;rintro o w'⟨rfl,b,r,rfl⟩)
 go_ret;exact⟨AN (by rw[k.out];rfl),Fc⟩
variable{P:XI}{k:Xn}{m:E}{d:E}{n:E}{S:E}{j:E}{e:Tree}{h:K}
theorem pU{fn:Func}{c f:Tmp}{e:XA}(g:fn.results=#[.cell c e,.tmp f]){b:Xu Xn}{d:XG}(h:b.getD c I=XK (C d))(i:(loadVar e d).run P a=.ok k a):
 (results fn b).run P a=.ok (.tuple #[k,b.getD f I]) a:=by
 simp_all [asAddr,results]
theorem Aq{b:Xu Xn}{c:E×E}(d:a.heap[m]?=C (Xx b 154 c))(e:b.size=9):(loadVar 154 ⟨m,0,F⟩).run TP a=.ok (.agg b) a:=
 run_loadVar_row a m 154 154 b c _ d A rfl (by rw[e];rfl)
def Xg(a:Wt.Stat):Xq Xt:=[a.made,a.set,a.aE,a.eD,a.own,a.size,a.kids]
def ot:BP->LR
 |.no b=>⟨⟨#[]⟩,[0,0,0,0,0,0,0],[],.iface 32 (Xo M b)⟩
 |.yes a=>⟨bs a.data,Xg a.stat,a.names.map bs,.nilIface⟩
def mJ(b:LR)(a:K)(d:Ending)(h:K):Prop:=∃c,d=XB (.tuple #[.agg c,b.ev])/\cm b a.heap.size c h/\Below a.heap.size a h
def oh:Xu Xn:=#[.string ⟨#[]⟩,Xo M 0,Xo M 0,Xo M 0,Xo M 0,Xo M 0,Xo M 0,Xo M 0,Xw F 0 0]
theorem bU(a:K)(c:Obj):Below a.heap.size a (a.alloc c):=⟨A,A,A,by simp,λd b=>Yc _ _ _ b⟩
theorem gR(a:K)(c:Obj):Below a.heap.size a (a.drew.alloc c):=⟨A,A,A,by simp,λd b=>Yc a.drew _ _ b⟩
theorem alloc_drew(a:K)(b:Obj):(a.alloc b).drew=a.drew.alloc b:=A
theorem ID{b:Xt}:cm (ot (.no b)) s oh a:=⟨A,Xw F 0 0,A,Xr ⟨A,A⟩⟩
abbrev ui(a:K)(d:E)(b c e f g h i k l:Xn):K:=((((((((a.setCell ⟨d,0,F⟩ b).setCell ⟨d,1,F⟩ c).setCell ⟨d,2,F⟩ e).setCell ⟨d,3,F⟩ f).setCell ⟨d,4,F⟩ g).setCell ⟨d,5,F⟩ h).setCell ⟨d,6,F⟩ i).setCell ⟨d,7,F⟩ k).setCell ⟨d,8,F⟩ l
theorem AM{v w x y z D H L O b g i o p q r t u:Xn}{e:XA}(Q:a.heap[d]?=C (Xx #[v,w,x,y,z,D,H,L,O] e (0,0))):
 (ui a d b g i o p q r t u).heap[d]?=C (Xx #[b,g,i,o,p,q,r,t,u] e (0,0)):=by
 simp[K.setCell,Zr,Q]
theorem fj{b:E}(c:b<=d):Below b a (a.setCell ⟨d,n,F⟩ k):=
 ⟨A,A,A,l_ aR.symm,λf e=>ai (by omega)⟩
theorem pR{c:E}{e f g h i k l m n:Xn}(b:c<=d):Below c a (ui a d e f g h i k l m n):=
 ((((((((fj b).trans (fj b)).trans (fj b)).trans (fj b)).trans (fj b)).trans (fj b)).trans (fj b)).trans (fj b)).trans (fj b)
theorem vp(b:S≠d):(a.setCell ⟨d,n,F⟩ k).cell? ⟨S,j,F⟩=a.cell? ⟨S,j,F⟩:=by grind [World.cell?,ai]
theorem Kw{b c e f g h i k l:Xn}(m:S≠d):(ui a d b c e f g h i k l).cell? ⟨S,j,F⟩=a.cell? ⟨S,j,F⟩:=by simp_all [vp]
section
variable{f l:Path->E}
theorem Qd(d:XM){s:Xt}(u:a.cell? ⟨1,0,F⟩=C (Xo M s))(l:d.size<2^31)(i:Wt.split d.data.toList=F):Calls TP 58 #[pt N 0,.string d] a (mJ (ot (.no 4)) a):=by
 have t:1<a.heap.size:=by grind [World.cell?]
 have e:=oe d s (a.alloc (.cells oh 154)) l (by simp_all [YJ]);unfold cH at e;rw[i]at e;have g:=Xv e;go_enter Tryz.func58,Tryz.ntmps58
 go_wp2_with (go_at_call 95;refine g.out.mono ?_;rintro q R⟨c,rfl⟩;have b:=(c.block _ (by simp)).trans (YZ a _);have m:=aa b 0 A;have c1:=aa b 1 A;have c2:=aa b 2 A;have c3:=aa b 3 A;have c4:=aa b 4 A;have c5:=aa b 5 A;have n:=aa b 6 A;have o:=aa b 7 A;have p:=aa b 8 A;have r:=frozenAt b;have h:=Xv b;have f:=Xv c;clear b c)
 have k:=AM (b:=.string ⟨#[]⟩) (g:=Xo M 0) (i:=Xo M 0) (o:=Xo M 0) (p:=Xo M 0) (q:=Xo M 0) (r:=Xo M 0) (t:=Xo M 0) (u:=Xw F 0 0) h.out;refine Zx (pU A rfl (Aq k A)) A ?_;have c:=f.out;have v:(a.alloc (.cells oh 154)).heap.size=a.heap.size+1:=by simp
 exact⟨_,A,ID,((bU a _).trans (c.mono (by omega))).trans (pR (Ye _))⟩
theorem TR.row{f:E}(b:TR k c f a):Row k c a:=by
 rcases b with⟨rfl,rfl⟩|⟨d,rfl,_,_,e⟩
 .exact Xr ⟨A,A⟩
 refine Xs ⟨d,_,A,Ye _,(XZ.1 e).1,λh i g=>?_⟩;simp_all [K.cell?]
theorem TR.slice{g:E}(f:TR k c g a):∃b s e,k=.slice b s e:=by
 rcases f with⟨rfl,rfl⟩|⟨d,rfl,_,_,h⟩
 .exact⟨_,_,_,A⟩
 simp
theorem sW{a:XM}(b:Wt.split a.data.toList=C c):c.length<2^31:=by grind [rM]
theorem yU(u:my e f l a)(w:a.cell? ⟨N,0,F⟩=C (pt (f []) 0))(x:(Wt.find e []).isSome=J)(H:∀c,c≠[]->(Wt.find e c).isSome=J->(Wt.find e c.dropLast).isSome=J)
 (i:XM){s:Xt}(Q:a.cell? ⟨1,0,F⟩=C (Xo M s))(y:i.size<2^31)(t:Wt.split i.data.toList=C c)(g:Obj):
 Calls TP 95 #[.string i] (a.alloc g) λb m=>∃n q o,b=XB (.tuple #[.slice n q o,.bool J])/\Below (a.heap.size+1) (a.alloc g) m/\Calls TP 96 #[pt N 0,.slice n q o] m λb h=>b=XB (gW (if(Wt.find e c).isSome then C (f c)else F))/\m=h:=by
 have L:1<a.heap.size:=by grind [World.cell?]
 have D:N<a.heap.size:=by grind [World.cell?]
 refine(oe i s (a.alloc g) y (by simp_all [YJ])).mono ?_;intro b m p;unfold cH at p;rw[t]at p;obtain⟨d,k,rfl,r⟩:=p;obtain⟨n,q,o,rfl⟩:=r.slice;have z:(a.alloc g).heap.size=a.heap.size+1:=by simp
 rw[z]at d;refine⟨_,_,_,A,d,zZ (u.old λv O=>by rw[d.block v (by omega)];simp_all [Yc]) ?_ x H r.row (sW t)⟩;rw[d.cell (p:=⟨N,0,F⟩) (by grind),World.cell?_alloc_lt _ _ _ D];exact w
theorem Ge(r:my e f l a)(u:a.cell? ⟨N,0,F⟩=C (pt (f []) 0))(w:(Wt.find e []).isSome=J)(y:∀c,c≠[]->(Wt.find e c).isSome=J->(Wt.find e c.dropLast).isSome=J)
 (g:XM){s:Xt}(v:a.cell? ⟨1,0,F⟩=C (Xo M s))(x:g.size<2^31)(k:Wt.split g.data.toList=C c)(d:Wt.find e c=F):Calls TP 58 #[pt N 0,.string g] a (mJ (ot (.no 7)) a):=by
 have m:=yU r u w y g v x k (.cells oh 154);simp only[d,gW,Xz.isSome_none,Yt,Yq,Xz.map_none]at m;have p:=Xv m;go_enter Tryz.func58,Tryz.ntmps58
 go_wp2_with (first
  |(go_at_call 95;refine p.out.mono ?_;rintro t a3⟨z,S,Q,rfl,i,d⟩;have o:=Xv d;clear d;have b:=(i.block _ (by omega)).trans (YZ a _);have D:=aa b 0 A;have c1:=aa b 1 A;have c2:=aa b 2 A;have c3:=aa b 3 A;have c4:=aa b 4 A;have c5:=aa b 5 A;have H:=aa b 6 A;have L:=aa b 7 A;have O:=aa b 8 A;have R:=frozenAt b;have q:=Xv b;have n:=Xv i;clear b i)
  |(go_at_call 96;refine o.out.mono ?_;rintro t h⟨rfl,rfl⟩))
 have k:=AM (b:=.string ⟨#[]⟩) (g:=Xo M 0) (i:=Xo M 0) (o:=Xo M 0) (p:=Xo M 0) (q:=Xo M 0) (r:=Xo M 0) (t:=Xo M 0) (u:=Xw F 0 0) q.out;refine Zx (pU A rfl (Aq k A)) A ?_;exact⟨_,A,ID,((bU a _).trans (n.out.mono (by omega))).trans (pR (Ye _))⟩
theorem zB.slice{f:Xq B}{e:E}(d:zB k f e a):∃b s c,k=.slice b s c:=by
 rcases d with⟨rfl,_⟩|⟨_,_,_,rfl,_⟩
 .exact⟨_,_,_,A⟩
 simp
theorem NG{f:Xq B}{b e:E}(l:zB k f b a)(q:e<=b)(p:∀d,b<=d->h.heap[d]?=a.heap[d]?):gy (f.map bs) e k h:=by
 rcases l with⟨rfl,rfl⟩|⟨d,i,g,rfl,c,r,m,o,s,t⟩
 .exact Xr ⟨A,A⟩
 refine Xs ⟨d,i,g,9,(0,0),by simp,Yi q c,by rw[p d c];exact m,A,by simpa using o,by omega,λn v u=>?_⟩
 grind
theorem Kc(a0:my e f l a)(b0:a.cell? ⟨N,0,F⟩=C (pt (f []) 0))(b8:(Wt.find e []).isSome=J)(c7:∀c,c≠[]->(Wt.find e c).isSome=J->(Wt.find e c.dropLast).isSome=J)
 (y:XM){s:Xt}(b6:a.cell? ⟨1,0,F⟩=C (Xo M s))(b9:y.size<2^31)(Y:Wt.split y.data.toList=C c){b:Nd}(z:Wt.find e c=C b)
 (f2:Wt.Ord e)(b4:∀c9,(Wt.find e c9).isSome=J->∀f9∈c9,f9.length<=maxLen)(c6:∀L U,Kids L U (cd e f c)->L.size<=2^20):Calls TP 58 #[pt N 0,.string y] a (mJ (ot (.yes ⟨b.data,b.stat,bP e c⟩)) a):=by
 have a4:=yU a0 b0 b8 c7 y b6 b9 Y (.cells oh 154);simp only[z,gW,Xz.isSome_some,Ym,ZA]at a4;have a7:=Xv a4;have Q:=Xv a0;clear a4 a0 b0 b8 c7 b6 b9 Y;go_enter Tryz.func58,Tryz.ntmps58
 go_wp2_with (first
  |(go_at_call 95;refine a7.out.mono ?_;rintro D g⟨a1,a5,a2,rfl,O,z⟩;have d2:=Xv z;clear z;have m:=(O.block _ (by omega)).trans (YZ a _);have d4:=Xv m;have Z:=Xv O;clear m O)
  |(go_at_call 96;refine d2.out.mono ?_;rintro D h⟨rfl,rfl⟩))
 have f3:(Wt.find e c).isSome=J:=by rw[z];rfl
 have e7:∀H,H<a.heap.size->g.heap[H]?=a.heap[H]?:=λH h2=>by rw[Z.out.block H (by omega)];simp_all [Yc]
 obtain⟨d9,h3⟩:=Q.out.nd c b z;have n:g.heap[f c]?=C (Xx (cW c b (f c.dropLast) (l c)) 192 d9):=by grind
 obtain⟨L,U,f0,R⟩:=Q.out.kd c b z;have b7:g.heap[l c]?=C (.map L U):=by grind
 have i6:=(Q.out.lt f3).1;have f5:=Z.out.size
 have e8:a.heap.size<g.heap.size:=by have:(a.alloc (.cells oh 154)).heap.size=a.heap.size+1:=by simp
                                     omega
 have c0:=λ(h:K)(e0:h.heap[l c]?=C (.map L U))=>Ea (c:=h) e0 R (c6 _ _ R) (λy d O=>b4 (c++[y]) (by
  simp_all [cd]) y (by simp)) (b:=bP e c) (λy=>by
  simp[ey,cd]) (im f2)
 have a8:=Xv c0;clear c0;obtain⟨c8,a3⟩:∃f7,bP e c=f7:=by simp
 rw[a3]at a8;have d3:=Xv a3;have h6:g.cell? ⟨f c,1,F⟩=C (.string (bs b.data)):=aa n 1 A;have h8:g.cell? ⟨f c,2,F⟩=C (Xo M b.stat.made):=aa n 2 A;have h9:g.cell? ⟨f c,3,F⟩=C (Xo M b.stat.set):=aa n 3 A;have i0:g.cell? ⟨f c,4,F⟩=C (Xo M b.stat.aE):=aa n 4 A;have i1:g.cell? ⟨f c,5,F⟩=C (Xo M b.stat.eD):=aa n 5 A;have i2:g.cell? ⟨f c,6,F⟩=C (Xo M b.stat.own):=aa n 6 A;have i3:g.cell? ⟨f c,7,F⟩=C (Xo M b.stat.size):=aa n 7 A;have i4:g.cell? ⟨f c,8,F⟩=C (Xo M b.stat.kids):=aa n 8 A;have h7:g.cell? ⟨f c,11,F⟩=C (.map (C (l c))):=aa n 11 A;have a6:=Xv b7;have g1:=Xv n;have g0:=Xv R;clear e7 n f0 R b7 a3 c6 b4 Q a7 f5;generalize l c=s at*
 generalize f c=S at*
 have f6:S<g.heap.size:=by omega
 have h4:=(XZ.1 a6.out).1;generalize b3:bs b.data=W at*
 have d1:=Xv b3;clear b3
 have T:∀i,Below g.heap.size g i->i.cell? ⟨S,1,F⟩=C (.string W)/\i.cell? ⟨S,2,F⟩=C (Xo M b.stat.made)/\i.cell? ⟨S,3,F⟩=C (Xo M b.stat.set)/\i.cell? ⟨S,4,F⟩=C (Xo M b.stat.aE)/\i.cell? ⟨S,5,F⟩=C (Xo M b.stat.eD)/\i.cell? ⟨S,6,F⟩=C (Xo M b.stat.own)/\i.cell? ⟨S,7,F⟩=C (Xo M b.stat.size)/\i.cell? ⟨S,8,F⟩=C (Xo M b.stat.kids)/\i.cell? ⟨S,11,F⟩=C (.map (C s)):=λi e2=>by refine⟨?_,?_,?_,?_,?_,?_,?_,?_,?_⟩<;>(rw[e2.cell (p:=⟨S,_,F⟩) f6];assumption)
 have a9:Calls TP 97 #[.func (.func 132) #[] #[pt g.heap.size 0]] (g.alloc (.cells #[.map (C s)] 188)).drew λD h=>∃a1 a5 a2,D=XB (.slice a1 a5 a2)/\zB (.slice a1 a5 a2) c8 (g.heap.size+1) h/\Below g.heap.size g h:=by have f4:=a8.out g.drew a6.out;refine f4.mono ?_;rintro D h⟨k,rfl,b1,e1⟩;obtain⟨g4,g5,g6,rfl⟩:=b1.slice;exact⟨_,_,_,A,b1,(gR g _).trans (e1.mono (c_ _))⟩
 have e4:Below g.heap.size g (g.alloc (.cells #[.map (C s)] 188)).drew:=by simp[alloc_drew,gR]
 have e5:Below g.heap.size g (g.drew.alloc (.cells #[.map (C s)] 188)):=gR g _;have d0:=Xv a9;clear a9;have i5:S≠a.heap.size:=by omega
 have d6:∀i o p q r t u v w x,Below g.heap.size g i->(ui i a.heap.size o p q r t u v w x).cell? ⟨S,1,F⟩=C (.string W)/\(ui i a.heap.size o p q r t u v w x).cell? ⟨S,2,F⟩=C (Xo M b.stat.made)/\(ui i a.heap.size o p q r t u v w x).cell? ⟨S,3,F⟩=C (Xo M b.stat.set)/\(ui i a.heap.size o p q r t u v w x).cell? ⟨S,4,F⟩=C (Xo M b.stat.aE)/\(ui i a.heap.size o p q r t u v w x).cell? ⟨S,5,F⟩=C (Xo M b.stat.eD)/\(ui i a.heap.size o p q r t u v w x).cell? ⟨S,6,F⟩=C (Xo M b.stat.own)/\(ui i a.heap.size o p q r t u v w x).cell? ⟨S,7,F⟩=C (Xo M b.stat.size)/\(ui i a.heap.size o p q r t u v w x).cell? ⟨S,8,F⟩=C (Xo M b.stat.kids)/\(ui i a.heap.size o p q r t u v w x).cell? ⟨S,11,F⟩=C (.map (C s)):=by simp_all [Kw]
 have e3:Below g.heap.size g g.drew:=⟨A,A,A,Ye _,λ_ _=>rfl⟩
 go_region_held3 (λi=>i.cell? ⟨S,1,F⟩=C (.string W)/\i.cell? ⟨S,2,F⟩=C (Xo M b.stat.made)/\i.cell? ⟨S,3,F⟩=C (Xo M b.stat.set)/\i.cell? ⟨S,4,F⟩=C (Xo M b.stat.aE)/\i.cell? ⟨S,5,F⟩=C (Xo M b.stat.eD)/\i.cell? ⟨S,6,F⟩=C (Xo M b.stat.own)/\i.cell? ⟨S,7,F⟩=C (Xo M b.stat.size)/\i.cell? ⟨S,8,F⟩=C (Xo M b.stat.kids)/\i.cell? ⟨S,11,F⟩=C (.map (C s)))
  (first|with_reducible exact T _ e3|with_reducible exact T _ e4|with_reducible exact T _ e5|with_reducible exact T _ X|with_reducible exact d6 _ _ _ _ _ _ _ _ _ _ X)
  (first
    |(go_at_call 98;refine(Nl _).mono ?_;rintro D g3⟨rfl,e6⟩;subst e6)
    |(go_at_call 97;refine d0.out.mono ?_;rintro D g2⟨d7,f8,d8,rfl,f1,X⟩;have m:=(X.block _ e8).trans d4.out;have g7:=aa m 0 A;have c1:=aa m 1 A;have c2:=aa m 2 A;have c3:=aa m 3 A;have c4:=aa m 4 A;have c5:=aa m 5 A;have g8:=aa m 6 A;have g9:=aa m 7 A;have h0:=aa m 8 A;have h1:=frozenAt m;have d5:=Xv m;clear m))
 go_wp2
 have Y:=AM (b:=.string W) (g:=Xo M b.stat.made) (i:=Xo M b.stat.set) (o:=Xo M b.stat.aE) (p:=Xo M b.stat.eD) (q:=Xo M b.stat.own) (r:=Xo M b.stat.size) (t:=Xo M b.stat.kids) (u:=.slice d7 f8 d8) d5.out;refine Zx (pU A rfl (Aq Y A)) A ?_;rw[d3.out];have b2:=(bU a _).trans (Z.out.mono (c_ _));have b5:=b2.size;have e9:=E.le_succ_of_le b5;refine⟨_,A,⟨A,_,?_,NG f1 e9 λd O=>?_⟩,b2.trans ((X.mono b5).trans (pR (Ye _)))⟩
 .show _=Value.string (bs b.data)::_;rw[d1.out];rfl
 have h5:d≠a.heap.size:=by omega
 simp_all [ai]
end
variable{a:Tree}{b:K}
theorem Gk{a:B}(b:dH a=J):a.length<=12:=by simp_all [dH]
theorem GX(f:WF a){d:Path}(g:(Wt.find a d).isSome=J):∀e∈d,e.length<=maxLen:=λe i=>by
 obtain⟨k,h⟩:=Yd.1 g;have:=Gk ((f.names d k h).2 e i)
 grind [maxLen]
theorem sL{i:E}{g:Path->E}(h:Kids R i (cd a g c))(e:WF a):R.size=(bP a c).length:=by
 have l:∀d f,cd a g c d=C f->d.length<=maxLen:=λd f b=>by
  unfold cd at b;split at b
  .rename_i k;exact GX e k d (by simp)
  cases b
 have b:=(h.strKeys l (names:=bP a c) (λd=>by rw[ey];unfold cd;split<;>simp_all) (im e.ord)).length_eq;rw[b];show _=(Xq.map _ _).length;simp[length_sorted]
theorem lj(a:Tree)(c:Path):(bP a c).length<=a.length:=aaH _ _
theorem Ii{n s:Path->E}(f:my a n s b)(g:b.cell? ⟨N,0,F⟩=C (pt (n []) 0))(d:WF a)(e:XM){r:Xt}(i:b.cell? ⟨1,0,F⟩=C (Xo M r))(m:e.size<2^31):
 Calls TP 58 #[pt N 0,.string e] b (mJ (ot (Wt.look a e.data.toList)) b):=by
 obtain⟨v,q,_⟩:=d.root;have l:(Wt.find a []).isSome=J:=by rw[q];rfl
 unfold Wt.look;cases k:Wt.split e.data.toList with
 |none=>simp_all [Qd]
 |some c=>
  simp only;cases h:Wt.find a c with
  |none=>exact Ge f g l d.up e i m k h
  |some u=>
   exact Kc f g l d.up e i m k h d.ord (λw p=>GX d p) (λR t o=>by
    rw[sL o d];have:=lj a c;have:=d.len
    omega)
theorem SO{d l:Path->E}(e:bn a d l b)(g:b.cell? ⟨N,0,F⟩=C (pt (d []) 0))(f:WF a)(c:XM){k:Xt}(h:b.cell? ⟨1,0,F⟩=C (Xo M k))(i:c.size<2^31):
 Calls TP 58 #[pt N 0,.string c] b (mJ (ot (Wt.look a c.data.toList)) b):=
 Ii e.VZ g f c h i
variable{c:Tree}{a:K}{d:K}
def Ut(b:Path)(a:Nd):Xu Xn:=PU (bs (wu b)) (bs a.data) a.stat.made a.stat.set a.stat.aE a.stat.eD a.stat.own a.stat.size a.stat.kids a.next
theorem NO(a:Path)(y:B):wu (a++[y])=y:=by simp[wu]
theorem JE(t:Wt.Ord c){o:Path}{y:B}{s:Nd}(v:Wt.find c o=C s)(l:Path):Wt.find (Wt.drop c (o++[y])) l=if l=o++[y]then F else if l=o then C (vA s)else Wt.find c l:=by simp_all [Wt.drop,vI,fi,cG]
structure lF(N b S s:E)(k i H:Xn)(f:Xt)(e:Xq Xn)(m n:XM)(p q r g u x h z:Xt)(D:B->Xz E)(y:B)(a d:K):Prop where
 size:a.heap.size<=d.heap.size
 kept:∀t,t<a.heap.size->t≠N->t≠b->t≠s->i.ownBlock≠C t->d.heap[t]?=a.heap[t]?
 tree:∃w Q T,d.heap[N]?=C (Xx #[k,Xo M (f-1),w] 195 (0,0))/\bV NB d 1 1 w (e.length+2) (e++[Q,T])/\jC a i w/\uX N d Q (.head b (PU m n p q r g u x h z))/\uX N d T (.drop b S)
 nd:d.heap[b]?=C (Xx (OU m n p q r (g+1) u x (h-1) z H (.map (C s))) 192 (0,0))
 kd:∃R O,d.heap[s]?=C (.map R O)/\Kids R O λU=>if U=y then F else D U
section
variable{b:E}{k i H:Xn}{f:Xt}{e:Xq Xn}{m n:XM}{p q r g u x h z:Xt}{D:B->Xz E}{y:B}{L:K}
theorem lF.later(o:lF N b S s k i H f e m n p q r g u x h z D y a d)(a2:d.heap.size<=L.heap.size)(v:∀l,l<d.heap.size->L.heap[l]?=d.heap[l]?):lF N b S s k i H f e m n p q r g u x h z D y a L where
 size:=Yi o.size a2
 kept:=λl O t w Z a0=>by rw[v l (Yk O o.size)];exact o.kept l O t w Z a0
 tree:=by obtain⟨a6,X,Y,a8,U,a3,a4,a5⟩:=o.tree;have Q:=λ(l:E)(W:Xu Xn)(c:XA)(t:d.heap[l]?=C (Obj.cells W c (0,0)))(_:c=190\/c=187\/c=94)=>v l (XZ.1 t).1;exact⟨a6,X,Y,by grind,U.stay λT a1=>v T (U.lt T a1),a3,a4.stay Q,a5.stay Q⟩
 nd:=by rw[v _ (XZ.1 o.nd).1];exact o.nd
 kd:=by
  obtain⟨R,a7,t,w⟩:=o.kd
  grind
def Pb(N b S s:E)(k i H:Xn)(f:Xt)(e:Xq Xn)(m n:XM)(p q r g u x h z:Xt)(D:B->Xz E)(y:B)(l o:XM)(a:K)(t:Ending)(d:K):Prop:=
 lF N b S s k i H f e m n p q r g u x h z D y a d/\∃c,t=XB (Xw (C ⟨c,0,F⟩) 2 2)/\a.heap.size<=c/\d.heap[c]?=C (Xx #[Xo M 2,.string l,Xo M 4,.string o] 269 (0,0))
theorem MI{f3 f4:XM}(d8:a.heap[N]?=C (Xx #[k,Xo M f,i] 195 (0,0)))(d6:bV NB a 1 1 i e.length e)(o6:e.length<2^19)
 (d3:a.heap[b]?=C (Xx (OU m n p q r g u x h z H (.map (C s))) 192 (0,0)))
 {c7:E}(g5:a.heap[s]?=C (.map R c7))(h9:Kids R c7 D)(j6:D y=C S){e3:Xu Xn}(d5:a.heap[S]?=C (Xx e3 192 (0,0)))(i4:e3[0]?=C (.string (bs y)))(i5:e3[10]?=C (pt b 0))
 (o4:0<=g/\g<2^62)(o5:0<=h/\h<2^62)(o9:0<=f/\f<2^62)(p2:S≠b)
 (i6:∀o,o.heap.size=a.heap.size+3->(∀l,l<a.heap.size->o.heap[l]?=a.heap[l]?)->Calls TP 156 #[pt S 0] o λt d=>t=XB (.string f3)/\Below o.heap.size o d)
 (i7:∀o,lF N b S s k i H f e m n p q r g u x h z D y a o->Calls TP 156 #[pt b 0] o λt d=>t=XB (.string f4)/\Below o.heap.size o d):
 Calls TP 153 #[pt N 0,pt S 0] a (Pb N b S s k i H f e m n p q r g u x h z D y f3 f4 a):=by
 have m8:=(XZ.1 d8).1;have j0:=(XZ.1 d3).1;have n0:=(XZ.1 d5).1;have m9:=(XZ.1 g5).1;have c8:∀e0 n1 n2,(((a.alloc e0).alloc n1).alloc n2).heap.size=a.heap.size+3:=by simp
 have h5:=Xv (i6 (((a.alloc (.cells #[pt N 0] 94)).alloc (.cells #[pt S 0] 187)).alloc (.cells #[pt b 0] 187)) (c8 _ _ _) λl a1=>rh _ _ _ _ a1);have h8:=Xv λ(o:K)(a6:Below (a.heap.size+3) (((a.alloc (.cells #[pt N 0] 94)).alloc (.cells #[pt S 0] 187)).alloc (.cells #[pt b 0] 187)) o)=>BE (w:=o) (N:=N) (g:=b) (z:=k) (D:=Xo M f) (b:=e) (by rw[a6.block _ (by omega),rh _ _ _ _ m8];exact d8) (d6.stay λv w=>by have:=d6.lt v w;rw[a6.block _ (by omega),rh _ _ _ _ this]) (by omega) (by rw[a6.block _ (by omega),rh _ _ _ _ j0];exact d3);have l1:=Xv i7;have n7:=aa d5 10 i5;have f2:=Xv d8;have c0:=Xv d6;have e7:=Xv d3;have e8:=Xv d5;have e5:=Xv g5;have k7:=Xv h9;have l3:=Xv j6;have HC:=Xv i4;clear d8 d6 d3 d5 g5 h9 j6 i4 i5 i6 i7;rw[c8]at h5
 have i1:∀o,Below (a.heap.size+3) (((a.alloc (.cells #[pt N 0] 94)).alloc (.cells #[pt S 0] 187)).alloc (.cells #[pt b 0] 187)) o->o.heap[a.heap.size]?=C (Xx #[pt N 0] 94 (0,0))/\o.heap[a.heap.size+1]?=C (Xx #[pt S 0] 187 (0,0))/\o.heap[a.heap.size+1+1]?=C (Xx #[pt b 0] 187 (0,0)):=λo a6=>by
  refine⟨?_,?_,?_⟩
  .rw[a6.block _ (by omega),Yc _ _ _ (by simp;omega)];exact NK _ _ _
  .rw[a6.block _ (by omega),Yc _ _ _ (by simp)];exact wo _ _ _
  rw[a6.block _ (by omega)];have:=wo (a.alloc (.cells #[pt N 0] 94)) (.cells #[pt S 0] 187) (.cells #[pt b 0] 187);simpa using this
 have k6:=Xv i1;clear i1;go_enter Tryz.func153,Tryz.ntmps153
 go_wp2_with (first
  |(go_at_call 156;refine h5.out.mono ?_;rintro t g9⟨rfl,b2⟩;have b5:=Xv b2;clear b2;obtain⟨f5,f6,f7⟩:=k6.out _ b5.out;have l9:=aa f5 0 A;have m0:=aa f6 0 A;have m1:=aa f7 0 A;have k3:=Xv f5;have k4:=Xv f6;have k5:=Xv f7;clear f5 f6 f7)
  |(go_at_call 157;refine(h8.out _ b5.out).mono ?_;rintro t o⟨rfl,p1,i9,a2,c9,j9,j5,j3,a3⟩))
 have p0:a.heap.size+3<=g9.heap.size:=by have:=b5.out.size;rw[c8]at this;exact this
 have d4:=c0.out.lt;have a9:∀l b1,l≠N->i.ownBlock≠C l->g9.heap[l]?=C b1->o.heap[l]?=C b1:=by grind
 have b7:∀l b1,l<a.heap.size->a.heap[l]?=C b1->g9.heap[l]?=C b1:=λl b1 a1 Q=>by rw[b5.out.block _ (by omega),rh _ _ _ _ a1,Q]
 have b2:=a9 _ _ (by omega) (λt=>by have:=d4 _ t;omega) k3.out;have g0:=a9 _ _ (by omega) (λt=>by have:=d4 _ t;omega) k4.out;have g2:=a9 _ _ (by omega) (λt=>by have:=d4 _ t;omega) k5.out
 have g6:=a9 _ _ (λt=>by have:=e7.out;rw[t,f2.out]at this;cases this) (λt=>by
  obtain⟨c6,a4,_⟩:=c0.out.blk _ t
  rw[e7.out]at a4;cases a4) (b7 _ _ j0 e7.out)
 have j4:=a9 _ _ (λt=>by have:=e8.out;rw[t,f2.out]at this;cases this) (λt=>by
  obtain⟨c6,a4,_⟩:=c0.out.blk _ t
  rw[e8.out]at a4;cases a4) (b7 _ _ n0 e8.out)
 have d1:=a9 _ _ (λt=>by have:=e5.out;rw[t,f2.out]at this;cases this) (λt=>by
  obtain⟨c6,a4,_⟩:=c0.out.blk _ t
  rw[e5.out]at a4;cases a4) (b7 _ _ m9 e5.out)
 have n9:=aa b2 0 A;have o0:=aa g0 0 A;have o1:=aa g2 0 A;have o2:=aa g6 11 A;have o3:=aa j4 0 HC.out;obtain⟨i3,m6,i0⟩:=QA (c:=o.drew) d1 k7.out l3.out 0;obtain⟨X,b8⟩:∃X,uj o.drew s (.map i3 c7)=X:=by simp
 rw[b8]at m6;have b6:s≠N:=by grind
 have d2:s≠b:=by grind
 have d9:N≠b:=by grind
 have a7:∀l,l≠s->X.heap[l]?=o.heap[l]?:=λl a1=>by rw[<-b8];exact wR a1
 have j1:X.heap[s]?=C (.map i3 c7):=by rw[<-b8];exact IE (XZ.1 d1).1
 have j7:X.heap.size=o.heap.size:=by rw[<-b8];simp[uj]
 have b3:=(a7 b (Zh d2)).trans g6;have d7:=(a7 N (Zh b6)).trans j9;have f9:=(a7 a.heap.size (by omega)).trans b2;have g1:=(a7 (a.heap.size+1) (by omega)).trans g0;have g3:=(a7 (a.heap.size+1+1) (by omega)).trans g2;have p5:=aa f9 0 A;have p6:=aa g1 0 A;have p7:=aa g3 0 A;have p8:=aa b3 5 A;have p9:=aa b3 8 A;have q0:=aa d7 1 A;have q2:=frozenAt b3 5;have q3:=frozenAt b3 8;have q4:=frozenAt d7 1;have h1:=Xv f9;have h2:=Xv g1;have e4:=Xv g3;have f0:=Xv b3;have f1:=Xv d7;have l0:=Xv j1;have h3:=Xv d1;have k9:=Xv i0;have k8:=Xv i9;have T:=Xv a7;have e9:=Xv j5;have l6:=Xv a3;have h4:=Xv j3;have l4:=Xv j7;have n3:=Xv b7;clear b2 g0 g2 g6 j4 d1 i0 i9 j5 j9 a3 j3 a9 d4 c8 h8 f9 g1 g3 b3 d7 j1 a7 b8 j7 b7 l9 m0 m1
 have q1:(((X.setCell ⟨b,5,F⟩ (Xo M (g+1))).setCell ⟨b,8,F⟩ (Xo M (h-1))).setCell ⟨N,1,F⟩ (Xo M (f-1))).heap[N]?=C (Xx #[k,Xo M (f-1),a2] 195 (0,0)):=by have:=aA (l:=1) (g:=Xo M (f-1)) (a:=(X.setCell ⟨b,5,F⟩ (Xo M (g+1))).setCell ⟨b,8,F⟩ (Xo M (h-1))) (i:=N) (by rw[ai d9,ai d9];exact f1.out);simpa using this
 have k0:(((X.setCell ⟨b,5,F⟩ (Xo M (g+1))).setCell ⟨b,8,F⟩ (Xo M (h-1))).setCell ⟨N,1,F⟩ (Xo M (f-1))).heap[b]?=C (Xx (OU m n p q r (g+1) u x (h-1) z H (.map (C s))) 192 (0,0)):=by rw[ai (Zh d9)];have:=aA (l:=8) (g:=Xo M (h-1)) (aA (l:=5) (g:=Xo M (g+1)) f0.out);simpa using this
 have g8:∀l,l≠N->l≠b->(((X.setCell ⟨b,5,F⟩ (Xo M (g+1))).setCell ⟨b,8,F⟩ (Xo M (h-1))).setCell ⟨N,1,F⟩ (Xo M (f-1))).heap[l]?=X.heap[l]?:=λl O Z=>by rw[ai O,ai Z,ai Z]
 have k1:(((X.setCell ⟨b,5,F⟩ (Xo M (g+1))).setCell ⟨b,8,F⟩ (Xo M (h-1))).setCell ⟨N,1,F⟩ (Xo M (f-1))).heap.size=o.heap.size:=by rw[aR,aR,aR,l4.out]
 have a3:∀v,a2.ownBlock=C v->v≠N/\v≠b/\v≠s/\v≠a.heap.size/\v≠a.heap.size+1/\v≠a.heap.size+1+1:=λv w=>by
  obtain⟨c6,W,_⟩:=e9.out.blk v w;refine⟨?_,?_,?_,?_,?_,?_⟩<;>rintro rfl
  .rw[<-T.out _ (Zh b6),f1.out]at W;cases W
  .rw[<-T.out _ (Zh d2),f0.out]at W;cases W
  .rw[h3.out]at W;cases W
  .rw[<-T.out _ (by omega),h1.out]at W;cases W
  .rw[<-T.out _ (by omega),h2.out]at W;cases W
  rw[<-T.out _ (by omega),e4.out]at W;cases W
 have l5:=Xv (GS (k:=e++[c9]) (.func 184) #[] #[pt (a.heap.size+1) 0,pt (a.heap.size+1+1) 0,pt a.heap.size 0] q1 (by
  rw[YA]
  exact e9.out.stay λv w=>by rw[g8 _ (a3 v w).1 (a3 v w).2.1,T.out _ (a3 v w).2.2.1]) (by simp;omega))
 have l2:=Xv k0;have h6:=Xv g8;have h7:=Xv k1;have a5:=a3;have b0:∀l,(∀v,a2.ownBlock=C v->v≠l)->a2.ownBlock≠C l:=λl Q t=>Q l t A
 have Uz:∀Y a0,o.heap.size<=Y.heap.size->(∀l,l<o.heap.size->l≠N->a2.ownBlock≠C l->Y.heap[l]?=(((X.setCell ⟨b,5,F⟩ (Xo M (g+1))).setCell ⟨b,8,F⟩ (Xo M (h-1))).setCell ⟨N,1,F⟩ (Xo M (f-1))).heap[l]?)->Y.heap[N]?=C (Xx #[k,Xo M (f-1),a0] 195 (0,0))->
  bV NB Y 1 1 a0 ((e++[c9]).length+1) (e++[c9]++[.func (.func 184) #[] #[pt (a.heap.size+1) 0,pt (a.heap.size+1+1) 0,pt a.heap.size 0]])->(∀U,a0.ownBlock=C U->a2.ownBlock=C U\/o.heap.size<=U)->
  lF N b S s k i H f e m n p q r g u x h z D y a Y/\Y.heap[a.heap.size+1+1]?=C (Xx #[pt b 0] 187 (0,0)):=λY a0 g7 a8 e1 b9 e2=>by
  have b4:∀l,l≠N->l≠b->l≠s->a2.ownBlock≠C l->l<o.heap.size->Y.heap[l]?=o.heap[l]?:=λl O Z f8 d0 m2=>by rw[a8 l m2 O d0,h6.out l O Z,T.out l f8]
  refine⟨?_,by rw[b4 _ (by omega) (by omega) (by omega) (b0 _ λv w=>(a5 v w).2.2.2.2.2) (by omega),<-T.out _ (by omega)];exact e4.out⟩;refine⟨by omega,λl a1 O Z f8 d0=>?_,⟨a0,c9,.func (.func 184) #[] #[pt (a.heap.size+1) 0,pt (a.heap.size+1+1) 0,pt a.heap.size 0],e1,?_,λU g4=>?_,?_,?_⟩,?_,?_⟩
  .rw[b4 l O Z f8 (λt=>?_) (by omega),k8.out l (by omega) O d0,b5.out.block _ (by omega),rh _ _ _ _ a1];rcases h4.out l t with Q|Q
   .exact d0 Q
   omega
  .rw[YA,ZW]at b9;exact b9
  .rcases e2 U g4 with Q|Q
   .rcases h4.out U Q with Q|Q
    .exact Xr Q
    exact Xs (by omega)
   exact Xs (by omega)
  .refine l6.out.stay λl c6 c O Z=>?_;have m7:=(XZ.1 O).1;refine b4 l ?_ ?_ ?_ (λt=>?_) m7
   .rintro rfl;rw[<-T.out _ (Zh b6),f1.out]at O;cases O;revert Z;decide
   .rintro rfl;rw[<-T.out _ (Zh d2),f0.out]at O;cases O;revert Z;decide
   .rintro rfl;rw[h3.out]at O;cases O
   obtain⟨n6,m5,_⟩:=e9.out.blk l t;rw[m5]at O;cases O;revert Z;decide
  .exact⟨_,_,_,A,by
    rw[b4 _ (by omega) (by omega) (by omega) (b0 _ λv w=>(a5 v w).2.2.2.2.1) (by omega),<-T.out _ (by omega)];exact h2.out,by
    rw[b4 _ (by omega) (by omega) (by omega) (b0 _ λv w=>(a5 v w).2.2.2.2.2) (by omega),<-T.out _ (by omega)];exact e4.out,by
    rw[b4 _ (by omega) (by omega) (by omega) (b0 _ λv w=>(a5 v w).2.2.2.1) (by omega),<-T.out _ (by omega)];exact h1.out⟩
  .rw[a8 b (by omega) (Zh d9) (b0 _ λv w=>(a5 v w).2.1)];exact l2.out
  refine⟨_,_,?_,k9.out⟩;rw[a8 s (by omega) b6 (b0 _ λv w=>(a5 v w).2.2.1),h6.out s b6 d2];exact l0.out
 have l7:=Xv Uz;have m4:∀Y:K,o.heap.size<=Y.heap.size->True:=by simp
 clear q1 k0 g8 k1 a3 Uz a5 b0 m4;generalize j8:bs y=p4 at*
 have n4:=Xv j8;clear j8
 go_still_tail 9,(by kernel_rfl)
 change wpList _ _ _ _ _ o.drew
 have l8:=Xv λ(a0:Xn)(Q:jC _ a2 a0)=>(λU g4=>by have:=Q U g4;rw[h7.out]at this;exact this:∀U,a0.ownBlock=C U->a2.ownBlock=C U\/o.heap.size<=U)
 go_wp2_with (first
  |(go_at_call 183;refine l5.out.mono ?_;rintro t Y⟨rfl,g7,a8,a0,e1,b9,e2⟩;(rw[h7.out]at g7 a8);obtain⟨j2,i2⟩:=l7.out Y a0 g7 a8 e1 b9 (l8.out _ e2);have n8:=aa i2 0 A;have e6:=Xv j2;clear j2 i2 a8 e1 b9 e2)
  |(go_at_call 156;refine(l1.out _ e6.out).mono ?_;rintro t h0⟨rfl,i8⟩))
 have o8:=i8.size;have o7:=e6.out.size;have a1:(h0.alloc (.cells #[Xo M 2,.string f3,Xo M 4,.string f4] 269)).heap.size=h0.heap.size+1:=by simp
 go_ret;exact⟨e6.out.later (by rw[a1];omega) λl m3=>by rw[Yc _ _ _ (by omega),i8.block l m3],h0.heap.size,A,by omega,YZ _ _⟩
end
structure uO(c:Tree)(o v:Path->E)(N:E)(O:Xq Un)(l:Path)(y:B)(s:Nd)(a:K)(w:Ending)(d:K):Prop where
 tree:qd (Wt.drop c (l++[y])) o v N (O++[.head (o l) (Ut l s),.drop (o l) (o (l++[y]))]) d
 op:yo N c o v (Wt.drop c (l++[y])) o v a d
 lE:∃t,w=XB (Xw (C ⟨t,0,F⟩) 2 2)/\a.heap.size<=t/\d.heap[t]?=C (Xx #[Xo M 2,.string (bs (Wt.join (l++[y]))),Xo M 4,.string (bs (Wt.join l))] 269 (0,0))
theorem eF(g:WF c){b:Path}{f:Nd}(h:Wt.find c b=C f):b.length<2^30/\([47].intercalate b).length<2^31:=by
 have p:=(g.names b f h).1;have q:=λd e=>Gk ((g.names b f h).2 d e);refine⟨by omega,?_⟩
 have:∀(a:Xq B),(∀d∈a,d.length<=12)->([47].intercalate a).length<=a.length*13:=λa i=>by
  induction a with
  |nil=>simp
  |cons l k m=>
   cases k with
   |nil=>simp[Xq.intercalate];grind
   |cons o k=>
    have n:=m (λd e=>i d (Yw _ e));have:=i l (by simp);simp[Xq.intercalate]at n⊢
    omega
 grind
theorem Sm{g r:Path->E}{S:Xq Un}(U:qd c g r N S a)(k:WF c){f:Path}{y:B}{x s:Nd}(v:Wt.find c (f++[y])=C x)(t:Wt.find c f=C s)(b0:x.stat.kids=0)(e9:S.length<2^18)(d9:0<=s.stat.eD/\s.stat.eD<2^61):
 Calls TP 153 #[pt N 0,pt (g (f++[y])) 0] a (uO c g r N S f y s a):=by
 obtain⟨i,e,O,L,X⟩:=U.top;have e8:=X.len;have Q:(Wt.find c (f++[y])).isSome=J:=by rw[v];rfl
 have w:(Wt.find c f).isSome=J:=by rw[t];rfl
 have p:=U.lq;have b2:=p.nd _ _ t;have b3:=p.nd _ _ v;obtain⟨R,d5,b1,a0⟩:=p.kd _ _ t;have b8:cd c g f y=C (g (f++[y])):=by simp_all [cd]
 have e2:=(XZ.1 O).1;have e5:=(p.lt w).1;have e4:=(p.lt Q).1;have e3:=(p.lt w).2;have e0:0<=s.stat.kids/\s.stat.kids<2^61:=by rw[k.kids f s t];have:=lj c f;have:=k.len;omega
 have e7:(c.length:Xt)<2^61:=by have:=k.len;omega
 have a3:(cW (f++[y]) x (g (f++[y]).dropLast) (r (f++[y])))[10]?=C (pt (g f) 0):=by show C (Xn.pointer (if f++[y]=[]then F else C ⟨g (f++[y]).dropLast,0,F⟩))=_;simp
 have a2:(cW (f++[y]) x (g (f++[y]).dropLast) (r (f++[y])))[0]?=C (.string (bs y)):=by show C (Value.string (bs (wu (f++[y]))))=_;rw[NO]
 have c6:g (f++[y])≠g f:=λh=>uZ f y (p.inj _ _ w Q h.symm);have b9:=JE k.ord t (y:=y);have a6:=k.gone (by simp) v b0;have c0:Wt.find (Wt.drop c (f++[y])) f=C (vA s):=by simp_all
 have b7:∀o,(Wt.find c o).isSome=J->i.ownBlock≠C (g o)/\i.ownBlock≠C (r o)/\g o≠N/\r o≠N:=λo D=>by
  obtain⟨f6,Y⟩:=Yd.1 D;obtain⟨d7,d6,e6,_⟩:=p.kd _ _ Y;have f0:=p.nd _ _ Y;refine⟨λh=>?_,λh=>?_,λh=>?_,λh=>?_⟩
  .obtain⟨W,o,_⟩:=L.blk _ h;simp_all
  .obtain⟨W,o,_⟩:=L.blk _ h;simp_all
  .simp_all
  simp_all
 have lq:∀T,lF N (g f) (g (f++[y])) (r f) (pt (g []) 0) i (.pointer (if f=[]then F else C ⟨g f.dropLast,0,F⟩)) c.length e (bs (wu f)) (bs s.data) s.stat.made s.stat.set s.stat.aE s.stat.eD s.stat.own s.stat.size s.stat.kids s.next (cd c g f) y a T->bn (Wt.drop c (f++[y])) g r T:=λT n=>
  p.del t b9 n.nd n.kd λl z m u⟨o,D,b6⟩=>by
   have H:=b7 o D;rcases b6 with rfl|rfl
   .exact n.kept _ z H.2.2.1 m u H.1
   exact n.kept _ z H.2.2.2 m u H.2.1
 have hd:=MI (f3:=bs (Wt.join (f++[y]))) (f4:=bs (Wt.join f)) O L (by omega) b2 b1 a0 b8 b3 a2 a3 (by omega) (by omega) (by omega) c6
  (λZ _ b4=>sQ (p.old b4) k.up Q (eF k v).1 (eF k v).2)
  (λZ n=>sQ (lq Z n) a6.up (by rw[c0];rfl) (eF k t).1 (eF k t).2)
 refine hd.mono ?_;rintro h d⟨n,a1,a9,a7,a8⟩;obtain⟨d1,a4,a5,c7,f1,c8,c9,d0⟩:=n.tree
 have e1:((Wt.drop c (f++[y])).length:Xt)=c.length-1:=by
  have m:=pH (fi k.ord (b:=f) (d:=vA s)) (b:=f++[y]) (by rw[cG k.ord,XH (uZ f y).symm,v];rfl);rw[dh k.ord w]at m
  grind [Wt.drop]
 have b5:∀l,pP (Wt.drop c (f++[y])) g r N l->pP c g r N l:=λl q=>by
  rcases q with rfl|⟨o,D,q⟩
  .exact Xr A
  refine Xs ⟨o,?_,q⟩
  grind
 refine⟨⟨lq d n,d1,e++[a4,a5],by simp_all,by simp_all,?_⟩,⟨n.size,λl z m u=>?_,λl q=>Xr (b5 l q),λl q=>?_⟩,a1,a9,a7,a8⟩
 .refine gz.app (gz.stay (λl W f4 m u=>?_) X) ⟨c9,d0,trivial⟩;refine n.kept l (XZ.1 m).1 ?_ ?_ ?_ ?_
  .grind
  .grind
  .grind
  intro h;obtain⟨d4,d8,_⟩:=L.blk l h
  grind
 .exact n.kept l z (λh=>m (Xr h)) (λh=>m (Xs ⟨f,w,Xr h⟩)) (λh=>m (Xs ⟨f,w,Xs h⟩)) (λh=>u ⟨_,_,i,O,h⟩)
 obtain⟨f2,f3,f5,m,u⟩:=q;rw[c7]at m;cases m;rcases c8 l u with q|q
 .exact Xr ⟨_,_,i,O,q⟩
 omega
variable{n:K}{ak:Xt}
abbrev gM(i:Xt)(e f:XM)(aE d:Xt):Xu Xn:=#[Xo M i,.string e,.string f,Xo M aE,Xo M d]
def fC(a:K)(N:E)(i:Xu Xn)(e h:XM)(b c:E)(o:Xn):Prop:=
 Calls TP 95 #[.string e] (a.alloc (.cells i 28)) λg d=>∃f,g=XB (.tuple #[Xw (C ⟨f,0,F⟩) b b,.bool J])/\Below (a.heap.size+1) (a.alloc (.cells i 28)) d/\d.cell? ⟨f,c,F⟩=C (.string h)/\
  Calls TP 96 #[pt N 0,Xw (C ⟨f,0,F⟩) c b] d λg n=>g=XB o/\d=n
def rX(b:Xt)(a:K)(c:Ending)(n:K):Prop:=c=XB (.tuple #[XK F,Xw F 0 0,.iface 32 (Xo M b)])/\Below a.heap.size a n
structure rW(a:K)(N g:E)(ow nx sz:Xt)(s:E):Prop where
 ow:a.cell? ⟨g,6,F⟩=C (Xo M ow)
 nx:a.cell? ⟨g,9,F⟩=C (Xo M nx)
 mp:a.cell? ⟨g,11,F⟩=C (.map (C s))
 sz:a.cell? ⟨N,1,F⟩=C (Xo M sz)
theorem rW.old{g:E}{k l m:Xt}(p:rW a N g k l m s)(u:N<a.heap.size)(t:g<a.heap.size)(r:∀q,q<a.heap.size->n.heap[q]?=a.heap[q]?):rW n N g k l m s:=by
 refine⟨?_,?_,?_,?_⟩<;>simp only[K.cell?,r _ u,r _ t]
 .exact p.ow
 .exact p.nx
 .exact p.mp
 exact p.sz
theorem bG{c:K}{e:Obj}(d:Below (a.heap.size+1) (a.alloc e) c):∀b,b<a.heap.size->c.heap[b]?=a.heap[b]?:=λb f=>by rw[d.block b (by omega)];simp_all [Yc]
theorem bd{c:K}{b:Obj}(d:Below (a.heap.size+1) (a.alloc b) c):Below a.heap.size a c:=(bU a b).trans (d.mono (c_ _))
theorem cU{c:K}{b:Xu Xn}(d:Below (a.heap.size+1) (a.alloc (.cells b 28)) c):c.heap[a.heap.size]?=C (Xx b 28 (0,0)):=(d.block _ (by omega)).trans (YZ a _)
section
variable{g b c:E}{i aE d aL k l m:Xt}{e f h W:XM}{o:Xn}
theorem Sj(v:((b:Xt)==0)=Xp)(w:wrap64 ((b:Xt)-1)=c)(u:(c:Xt)<b)(p:fC a N (gM i e f aE d) e h b c o)(t:8<(h.size:Xt)):
 Calls TP 155 #[pt N 0,.agg (gM i e f aE d),Xo M ak,Xo M aL] a (rX 4 a):=by
 have n:=Xv p;go_enter Tryz.func155,Tryz.ntmps155
 go_wp2_with (first
  |(go_at_call 95;refine n.out.mono ?_;rintro s H⟨r,rfl,k,x,l⟩;have g:=cU k;have y:=aa g 1 A;have z:=aa g 2 A;have D:=aa g 4 A;have m:=Xv k;have q:=Xv l;clear k l g))
 go_ret3;exact⟨A,bd m.out⟩
theorem Px(w:((b:Xt)==0)=Xp)(x:wrap64 ((b:Xt)-1)=c)(v:(c:Xt)<b)(p:fC a N (gM i e f aE d) e h b c o)(u:¬8<(h.size:Xt))(t:16<(f.size:Xt)):
 Calls TP 155 #[pt N 0,.agg (gM i e f aE d),Xo M ak,Xo M aL] a (rX 5 a):=by
 have n:=Xv p;go_enter Tryz.func155,Tryz.ntmps155
 go_wp2_with (first
  |(go_at_call 95;refine n.out.mono ?_;rintro s L⟨r,rfl,k,y,l⟩;have g:=cU k;have z:=aa g 1 A;have D:=aa g 2 A;have H:=aa g 4 A;have m:=Xv k;have q:=Xv l;clear k l g))
 go_ret3;exact⟨A,bd m.out⟩
theorem MB(x:((b:Xt)==0)=Xp)(y:wrap64 ((b:Xt)-1)=c)(w:(c:Xt)<b)(p:fC a N (gM i e f aE d) e h b c o)(v:¬8<(h.size:Xt))(t:¬16<(f.size:Xt))(u:(bits .andNot M d 3 !=0)=J):
 Calls TP 155 #[pt N 0,.agg (gM i e f aE d),Xo M ak,Xo M aL] a (rX 6 a):=by
 have n:=Xv p;go_enter Tryz.func155,Tryz.ntmps155
 go_wp2_with (first
  |(go_at_call 95;refine n.out.mono ?_;rintro s O⟨r,rfl,k,z,l⟩;have g:=cU k;have D:=aa g 1 A;have H:=aa g 2 A;have L:=aa g 4 A;have m:=Xv k;have q:=Xv l;clear k l g))
 go_ret3;exact⟨A,bd m.out⟩
theorem Py(w:((b:Xt)==0)=Xp)(x:wrap64 ((b:Xt)-1)=c)(v:(c:Xt)<b)(q:fC a N (gM i e f aE d) e h b c (XK F))(u:¬8<(h.size:Xt))(s:¬16<(f.size:Xt))(t:(bits .andNot M d 3 !=0)=Xp):
 Calls TP 155 #[pt N 0,.agg (gM i e f aE d),Xo M ak,Xo M aL] a (rX 7 a):=by
 have o:=Xv q;go_enter Tryz.func155,Tryz.ntmps155
 go_wp2_with (first
  |(go_at_call 95;refine o.out.mono ?_;rintro p L⟨r,rfl,k,y,l⟩;have g:=cU k;have z:=aa g 1 A;have D:=aa g 2 A;have H:=aa g 4 A;have m:=Xv k;have n:=Xv l;clear k l g)
  |(go_at_call 96;refine n.out.mono ?_;rintro p O⟨rfl,rfl⟩))
 go_ret3;exact⟨A,bd m.out⟩
theorem Sk(Y:((b:Xt)==0)=Xp)(a0:wrap64 ((b:Xt)-1)=c)(W:(c:Xt)<b)(u:fC a N (gM i e f aE d) e h b c (pt g 0))(U:¬8<(h.size:Xt))(S:¬16<(f.size:Xt))(T:(bits .andNot M d 3 !=0)=Xp)(D:N<a.heap.size)(z:g<a.heap.size)(r:rW a N g k l m s)(Z:(k !=0)=J):
 Calls TP 155 #[pt N 0,.agg (gM i e f aE d),Xo M ak,Xo M aL] a (rX 11 a):=by
 have q:=Xv u;have X:(0:Xt)<=c:=by omega
 have w:=Xv r;clear r;unfold fC at q;clear u;go_enter Tryz.func155,Tryz.ntmps155
 go_wp2_with (first
  |(go_at_call 95;refine q.out.mono ?_;rintro y a5⟨R,rfl,o,a1,t⟩;have n:=cU o;have a2:=aa n 1 A;have a3:=aa n 2 A;have a4:=aa n 4 A;have p:=Xv o;have x:=Xv t;clear o t n)
  |(go_at_call 96;refine x.out.mono ?_;rintro y a6⟨rfl,rfl⟩;have v:=w.out.old D z (bG p.out);obtain⟨H,L,O,Q⟩:=v))
 go_ret3;exact⟨A,bd p.out⟩
theorem MA(Z:((b:Xt)==0)=Xp)(a2:wrap64 ((b:Xt)-1)=c)(X:(c:Xt)<b)(u:fC a N (gM i e f aE d) e h b c (pt g 0))(W:¬8<(h.size:Xt))(S:¬16<(f.size:Xt))(U:(bits .andNot M d 3 !=0)=Xp)(D:N<a.heap.size)(z:g<a.heap.size)(r:rW a N g k l m s)(a1:(k !=0)=Xp)(T:(bits .and M d 2 !=0)=J)(a0:(l==1000)=J):
 Calls TP 155 #[pt N 0,.agg (gM i e f aE d),Xo M ak,Xo M aL] a (rX 12 a):=by
 have q:=Xv u;have Y:(0:Xt)<=c:=by omega
 have w:=Xv r;clear r;unfold fC at q;clear u;go_enter Tryz.func155,Tryz.ntmps155
 go_wp2_with (first
  |(go_at_call 95;refine q.out.mono ?_;rintro y a7⟨R,rfl,o,a3,t⟩;have n:=cU o;have a4:=aa n 1 A;have a5:=aa n 2 A;have a6:=aa n 4 A;have p:=Xv o;have x:=Xv t;clear o t n)
  |(go_at_call 96;refine x.out.mono ?_;rintro y a8⟨rfl,rfl⟩;have v:=w.out.old D z (bG p.out);obtain⟨H,L,O,Q⟩:=v))
 go_ret3;exact⟨A,bd p.out⟩
theorem Fu(a5:((b:Xt)==0)=Xp)(a7:wrap64 ((b:Xt)-1)=c)(a3:(c:Xt)<b)(x:fC a N (gM i e f aE d) e h b c (pt g 0))(a2:¬8<(h.size:Xt))(Z:¬16<(f.size:Xt))(a1:(bits .andNot M d 3 !=0)=Xp)(Q:N<a.heap.size)(O:g<a.heap.size)(u:rW a N g k l m s)(a6:(k !=0)=Xp)(a0:(bits .and M d 2 !=0)=Xp)(v:∀o:K,(∀q,q<a.heap.size->o.heap[q]?=a.heap[q]?)->(Instr.lookup 188 (.map (C s)) (.string h) Xp).run TP o=.ok (pt S 0) o):
 Calls TP 155 #[pt N 0,.agg (gM i e f aE d),Xo M ak,Xo M aL] a (rX 8 a):=by
 have t:=Xv x;have a4:(0:Xt)<=c:=by omega
 have z:=Xv u;clear u;have H:=Xv v;clear v;unfold fC at t;clear x;go_enter Tryz.func155,Tryz.ntmps155
 go_wp2_with (first
  |(go_at_call 95;refine t.out.mono ?_;rintro L R⟨Y,rfl,r,a8,w⟩;have n:=cU r;have b0:=aa n 1 A;have b1:=aa n 2 A;have b2:=aa n 4 A;have p:=Xv r;have D:=Xv w;clear r w n)
  |(go_at_call 96;refine D.out.mono ?_;rintro L o⟨rfl,rfl⟩;have y:=z.out.old Q O (bG p.out);obtain⟨T,U,W,X⟩:=y;have a9:=H.out R (bG p.out)))
 go_ret3;exact⟨A,bd p.out⟩
theorem Fv(b8:((b:Xt)==0)=Xp)(c6:wrap64 ((b:Xt)-1)=c)(b6:(c:Xt)<b)(T:fC a N (gM i e f aE d) e h b c (pt g 0))(b5:¬8<(h.size:Xt))(b2:¬16<(f.size:Xt))(b4:(bits .andNot M d 3 !=0)=Xp)(U:N<a.heap.size)(R:g<a.heap.size)(z:rW a N g k l m s)(c0:(k !=0)=Xp)(b3:(bits .and M d 2 !=0)=J)(b9:(l==1000)=Xp)(H:∀q:K,(∀o,o<a.heap.size->q.heap[o]?=a.heap[o]?)->Calls TP 186 #[.string h,Xo M l] q λr n=>r=XB (.string W)/\Below q.heap.size q n)(D:∀u:K,(∀o,o<a.heap.size->u.heap[o]?=a.heap[o]?)->(Instr.lookup 188 (.map (C s)) (.string W) Xp).run TP u=.ok (pt S 0) u):
 Calls TP 155 #[pt N 0,.agg (gM i e f aE d),Xo M ak,Xo M aL] a (rX 8 a):=by
 have y:=Xv T;have b7:(0:Xt)<=c:=by omega
 have w:=Xv z;clear z;have x:=Xv D;clear D;have a1:=Xv H;clear H;unfold fC at y;clear T;go_enter Tryz.func155,Tryz.ntmps155
 go_wp2_with (first
  |(go_at_call 95;refine y.out.mono ?_;rintro r q⟨a7,rfl,v,c7,Q⟩;have t:=cU v;have d0:=aa t 1 A;have d1:=aa t 2 A;have d2:=aa t 4 A;have p:=Xv v;have a0:=Xv Q;clear v Q t)
  |(go_at_call 96;refine a0.out.mono ?_;rintro r u⟨rfl,rfl⟩;have Y:=w.out.old U R (bG p.out);obtain⟨a3,a4,a5,a6⟩:=Y;have c8:=x.out q (bG p.out))
  |(go_at_call 186;refine(a1.out q (bG p.out)).mono ?_;rintro r a2⟨rfl,O⟩;have X:=λo L=>(O.block o (Yk L (bd p.out).size)).trans (bG p.out o L);have Z:=w.out.old U R X;obtain⟨a8,a9,b0,b1⟩:=Z;have c9:=x.out a2 X))
 go_ret3;exact⟨A,(bd p.out).trans (O.mono (bd p.out).size)⟩
theorem MC(a4:((b:Xt)==0)=Xp)(a6:wrap64 ((b:Xt)-1)=c)(a2:(c:Xt)<b)(x:fC a N (gM i e f aE d) e h b c (pt g 0))(a1:¬8<(h.size:Xt))(Y:¬16<(f.size:Xt))(a0:(bits .andNot M d 3 !=0)=Xp)(Q:N<a.heap.size)(O:g<a.heap.size)(u:rW a N g k l m s)(a5:(k !=0)=Xp)(Z:(bits .and M d 2 !=0)=Xp)(v:∀o:K,(∀q,q<a.heap.size->o.heap[q]?=a.heap[q]?)->(Instr.lookup 188 (.map (C s)) (.string h) Xp).run TP o=.ok (XK F) o)(a8:(m==60)=J):
 Calls TP 155 #[pt N 0,.agg (gM i e f aE d),Xo M ak,Xo M aL] a (rX 13 a):=by
 have t:=Xv x;have a3:(0:Xt)<=c:=by omega
 have z:=Xv u;clear u;have H:=Xv v;clear v;unfold fC at t;clear x;go_enter Tryz.func155,Tryz.ntmps155
 go_wp2_with (first
  |(go_at_call 95;refine t.out.mono ?_;rintro L R⟨X,rfl,r,a7,w⟩;have n:=cU r;have b0:=aa n 1 A;have b1:=aa n 2 A;have b2:=aa n 4 A;have p:=Xv r;have D:=Xv w;clear r w n)
  |(go_at_call 96;refine D.out.mono ?_;rintro L o⟨rfl,rfl⟩;have y:=z.out.old Q O (bG p.out);obtain⟨S,T,U,W⟩:=y;have a9:=H.out R (bG p.out)))
 go_ret3;exact⟨A,bd p.out⟩
theorem MD(b7:((b:Xt)==0)=Xp)(c0:wrap64 ((b:Xt)-1)=c)(b5:(c:Xt)<b)(S:fC a N (gM i e f aE d) e h b c (pt g 0))(b4:¬8<(h.size:Xt))(b1:¬16<(f.size:Xt))(b3:(bits .andNot M d 3 !=0)=Xp)(T:N<a.heap.size)(R:g<a.heap.size)(z:rW a N g k l m s)(b9:(k !=0)=Xp)(b2:(bits .and M d 2 !=0)=J)(b8:(l==1000)=Xp)(H:∀q:K,(∀o,o<a.heap.size->q.heap[o]?=a.heap[o]?)->Calls TP 186 #[.string h,Xo M l] q λr n=>r=XB (.string W)/\Below q.heap.size q n)(D:∀u:K,(∀o,o<a.heap.size->u.heap[o]?=a.heap[o]?)->(Instr.lookup 188 (.map (C s)) (.string W) Xp).run TP u=.ok (XK F) u)(c7:(m==60)=J):
 Calls TP 155 #[pt N 0,.agg (gM i e f aE d),Xo M ak,Xo M aL] a (rX 13 a):=by
 have y:=Xv S;have b6:(0:Xt)<=c:=by omega
 have w:=Xv z;clear z;have x:=Xv D;clear D;have a0:=Xv H;clear H;unfold fC at y;clear S;go_enter Tryz.func155,Tryz.ntmps155
 go_wp2_with (first
  |(go_at_call 95;refine y.out.mono ?_;rintro r q⟨a6,rfl,v,c6,Q⟩;have t:=cU v;have d0:=aa t 1 A;have d1:=aa t 2 A;have d2:=aa t 4 A;have p:=Xv v;have Z:=Xv Q;clear v Q t)
  |(go_at_call 96;refine Z.out.mono ?_;rintro r u⟨rfl,rfl⟩;have X:=w.out.old T R (bG p.out);obtain⟨a2,a3,a4,a5⟩:=X;have c8:=x.out q (bG p.out))
  |(go_at_call 186;refine(a0.out q (bG p.out)).mono ?_;rintro r a1⟨rfl,O⟩;have U:=λo L=>(O.block o (Yk L (bd p.out).size)).trans (bG p.out o L);have Y:=w.out.old T R U;obtain⟨a7,a8,a9,b0⟩:=Y;have c9:=x.out a1 U))
 go_ret3;exact⟨A,(bd p.out).trans (O.mono (bd p.out).size)⟩
end
variable{e:E}
structure th(N c s e p:E)(O k Q:Xn)(i:Xt)(f:Xq Xn)(r t:XM)(u x z g D H h L S:Xt)(d:Xu Xn)(m:B->Xz E)(y:B)(a b:K):Prop where
 size:a.heap.size<=b.heap.size
 lo:a.heap.size<=e/\a.heap.size<=p/\e≠p
 kept:∀n,n<a.heap.size->n≠N->n≠c->n≠s->k.ownBlock≠C n->b.heap[n]?=a.heap[n]?
 tree:∃w W X,b.heap[N]?=C (Xx #[O,Xo M (i+1),w] 195 (0,0))/\bV NB b 1 1 w (f.length+2) (f++[W,X])/\jC a k w/\uX N b W (.head c (PU r t u x z g D H h L))/\uX N b X (.add c e)
 nd:b.heap[c]?=C (Xx (OU r t u x z (g+1) D H (h+1) S Q (.map (C s))) 192 (0,0))
 kd:∃R U,b.heap[s]?=C (.map R U)/\Kids R U λY=>if Y=y then C e else m Y
 new:b.heap[e]?=C (Xx d 192 (0,0))/\b.heap[p]?=C (.map #[] 0)
section
variable{c p:E}{O k Q:Xn}{i:Xt}{f:Xq Xn}{r t:XM}{u x z g D H h L S:Xt}{d:Xu Xn}{m:B->Xz E}{y:B}{T q:K}
theorem th.later(l:th N c s e p O k Q i f r t u x z g D H h L S d m y a b)(a5:b.heap.size<=T.heap.size)(o:∀n,n<b.heap.size->T.heap[n]?=b.heap[n]?):th N c s e p O k Q i f r t u x z g D H h L S d m y a T where
 size:=Yi l.size a5
 lo:=l.lo
 kept:=λn U q w a2 a3=>by rw[o n (Yk U l.size)];exact l.kept n U q w a2 a3
 tree:=by obtain⟨a9,a0,a1,b1,Y,a6,a7,a8⟩:=l.tree;have W:=λ(n:E)(Z:Xu Xn)(v:XA)(q:b.heap[n]?=C (Obj.cells Z v (0,0)))(_:v=190\/v=187\/v=94)=>o n (XZ.1 q).1;exact⟨a9,a0,a1,by grind,Y.stay λX a4=>o X (Y.lt X a4),a6,a7.stay W,a8.stay W⟩
 nd:=by rw[o _ (XZ.1 l.nd).1];exact l.nd
 kd:=by
  obtain⟨R,b0,q,w⟩:=l.kd
  grind
 new:=⟨by rw[o _ (XZ.1 l.new.1).1];exact l.new.1,by rw[o _ (XZ.1 l.new.2).1];exact l.new.2⟩
theorem th.next(n:th N c s e p O k Q i f r t u x z g D H h L S d m y a b)(b4:c<a.heap.size)(U:Xt):th N c s e p O k Q i f r t u x z g D H h L U d m y a (b.setCell ⟨c,9,F⟩ (Xo M U)):=by
 have T:∀l,l≠c->(b.setCell ⟨c,9,F⟩ (Xo M U)).heap[l]?=b.heap[l]?:=by grind [ai]
 obtain⟨b2,a4,a5,b5,Z,a9,b0,b1⟩:=n.tree;obtain⟨R,a3,q,W⟩:=n.kd
 have a7:∀(l:E)(v:Xu Xn)(o:XA),b.heap[l]?=C (Obj.cells v o (0,0))->o≠192->l≠c:=λl v o q W w=>by rw[w,n.nd]at q;simp_all
 have Y:=λ(l:E)(v:Xu Xn)(o:XA)(q:b.heap[l]?=C (Obj.cells v o (0,0)))(W:o=190\/o=187\/o=94)=>T l (a7 l v o q (by grind));refine⟨by rw[aR];exact n.size,n.lo,λl a6 a0 X a1 a2=>by rw[T l X];exact n.kept l a6 a0 X a1 a2,⟨b2,a4,a5,by grind,Z.stay λa8 w=>?_,a9,b0.stay Y,b1.stay Y⟩,?_,⟨R,a3,?_,W⟩,?_,?_⟩
 .obtain⟨v,b3,_⟩:=Z.blk a8 w
  grind
 .have:=aA (l:=9) (g:=Xo M U) n.nd;simp_all
 .rw[T s λw=>by rw[w,n.nd]at q;cases q];exact q
 .rw[T e (by have:=n.lo.1;omega)];exact n.new.1
 rw[T p (by have:=n.lo.2.1;omega)];exact n.new.2
theorem Si(Y:a.heap[N]?=C (Xx #[O,Xo M i,k] 195 (0,0)))(w:bV NB a 1 1 k f.length f)(b8:f.length<2^19)
 (X:a.heap[c]?=C (Xx (OU r t u x z g D H h L Q (.map (C s))) 192 (0,0)))
 {U:E}(b7:a.heap[s]?=C (.map R U))(a1:Kids R U m)(b9:m y=F)(a9:0<=g/\g<2^62)(b0:0<=h/\h<2^62)(c0:0<=i/\i<2^62)
 (b1:d[0]?=C (.string (bs y)))(d4:∀l,l<a.heap.size->q.heap[l]?=a.heap[l]?)(d5:a.heap.size<=q.heap.size):
 Calls TP 187 #[pt N 0,pt c 0,pt (q.heap.size+1) 0] ((q.alloc (.map #[] 0)).alloc (.cells d 192)) λo a0=>o=XB (.tuple #[])/\th N c s (q.heap.size+1) q.heap.size O k Q i f r t u x z g D H h L L d m y a a0:=by
 have v:∀l,l<a.heap.size->((q.alloc (.map #[] 0)).alloc (.cells d 192)).heap[l]?=a.heap[l]?:=by grind [NS]
 have d2:((q.alloc (.map #[] 0)).alloc (.cells d 192)).heap.size=q.heap.size+2:=by simp
 have b5:=(XZ.1 Y).1;have b6:=(XZ.1 X).1;have d3:=(XZ.1 b7).1;refine(TZ (by rw[v _ b5];exact Y) (w.stay λZ b4=>v Z (w.lt Z b4)) b8 (by rw[v _ b6];exact X) (by simp_all) a1 b9 (wo _ _ _) b1 a9 b0 c0).mono ?_;intro o a0 n;obtain⟨d1,a6,a7,c6,c7,c8,c9,d0⟩:=n.tree;have d6:=n.size;refine⟨n.end_,by omega,⟨by omega,by omega,by omega⟩,λl b2 a2 a3 a4 a5=>?_,⟨d1,a6,a7,c6,c7,λa8 b3=>?_,c9,d0⟩,n.nd,n.kd,?_,?_⟩
 .rw[n.kept l (by omega) a2 a3 a4 a5,v l b2]
 .rcases c8 a8 b3 with W|W
  .exact Xr W
  omega
 .rw[n.kept _ (by omega) (by omega) (by omega) (by omega) (λo=>by have:=w.lt _ o;omega)]
  grind [wo]
 rw[n.kept _ (by omega) (by omega) (by omega) (by omega) (λo=>by have:=w.lt _ o;omega)];simp[NK]
end
abbrev Vn(e c:XM)(aL own:Xt)(b a:E):Xu Xn:=OU e c aL aL 0 0 own c.size 0 0 (pt b 0) (.map (C a))
def Lr(g:E->E->K->Prop)(k l:XM)(f:Ending)(d:K):Prop:=∃e h a c,g e h a/\a.heap.size<=d.heap.size/\(∀b,b<a.heap.size->d.heap[b]?=a.heap[b]?)/\f=XB (.tuple #[pt e 0,Xw (C ⟨c,0,F⟩) 2 2,.nilIface])/\a.heap.size<=c/\d.heap[c]?=C (Xx #[Xo M 1,.string k,Xo M 4,.string l] 269 (0,0))
section
variable{b h f:E}{o aE d aL p i q:Xt}{m c e W k l:XM}{g n:E->E->K->Prop}
theorem Hr{O:Xy}{R:Xt}(e3:((h:Xt)==0)=Xp)(e7:wrap64 ((h:Xt)-1)=f)(e1:(f:Xt)<h)(a7:fC a N (gM o m c aE d) m e h f (pt b 0))(e0:¬8<(e.size:Xt))(d7:¬16<(c.size:Xt))(d9:(bits .andNot M d 3 !=0)=Xp)(c8:N<a.heap.size)(c7:b<a.heap.size)(a0:rW a N b p i q s)(e6:(p !=0)=Xp)(d8:(bits .and M d 2 !=0)=Xp)(a2:∀z:K,(∀n,n<a.heap.size->z.heap[n]?=a.heap[n]?)->(Instr.lookup 188 (.map (C s)) (.string e) Xp).run TP z=.ok (XK F) z)(e9:(q==60)=Xp)(d6:(bits .and M d 1 !=0)=O)(c6:Xp=O/\0=R\/J=O/\ak=R)(a1:∀t:K,(∀n,n<a.heap.size->t.heap[n]?=a.heap[n]?)->a.heap.size<=t.heap.size->Calls TP 187 #[pt N 0,pt b 0,pt (t.heap.size+1) 0] ((t.alloc (.map #[] 0)).alloc (.cells (Vn e c aL R b t.heap.size) 192)) λr a8=>r=XB (.tuple #[])/\g (t.heap.size+1) t.heap.size a8)(a3:∀y Q u,g y Q u->Calls TP 156 #[pt y 0] u λr S=>r=XB (.string k)/\Below u.heap.size u S)(a4:∀y Q u w,g y Q u->Below u.heap.size u w->Calls TP 156 #[pt b 0] w λr S=>r=XB (.string l)/\Below w.heap.size w S):
 Calls TP 155 #[pt N 0,.agg (gM o m c aE d),Xo M ak,Xo M aL] a (Lr g k l):=by
 rcases c6 with⟨rfl,rfl⟩|⟨rfl,rfl⟩
 all_goals
  have Z:=Xv a7;have e2:(0:Xt)<=f:=by omega
  have e5:=λb7=>aaE (P:=TP) 188 b7;have b0:=Xv a0;have b3:=Xv a2;have b1:=Xv a1;have b4:=Xv a3;have b5:=Xv a4;clear a0 a2 a1 a3 a4;unfold fC at Z;clear a7;go_enter Tryz.func155,Tryz.ntmps155
  go_wp2_with (first
   |(go_at_call 95;refine Z.out.mono ?_;rintro r t⟨d5,rfl,D,e8,a6⟩;have v:=cU D;have f1:=aa v 1 A;have f2:=aa v 2 A;have f3:=aa v 4 A;have d0:=Xv v;have e4:=(XZ.1 v).1;have x:=Xv D;have b2:=Xv a6;clear D a6 v)
   |(go_at_call 96;refine b2.out.mono ?_;rintro r z⟨rfl,rfl⟩;have a9:=b0.out.old c8 c7 (bG x.out);obtain⟨d1,d2,d3,d4⟩:=a9;have f0:=b3.out t (bG x.out);have q1:=Xv (b1.out t (bG x.out) (bd x.out).size))
   |(go_at_call 187;refine q1.out.mono ?_;rintro r a8⟨rfl,L⟩;have X:=b4.out _ _ _ L;have W:=Xv L;have Y:=Xv X;clear L X)
   |(go_at_call 156;refine Y.out.mono ?_;rintro r w⟨rfl,H⟩;have T:=Xv H;have b6:=Xv (b5.out _ _ _ _ W.out H);clear H Y)
   |(go_at_call 156;refine b6.out.mono ?_;rintro r c9⟨rfl,a5⟩;have U:=Xv a5;clear a5))
  have b8:=T.out.size;have b9:=U.out.size;go_ret3;exact⟨_,_,_,c9.heap.size,W.out,Yi b8 (Yi b9 (by simp)),λn c0=>by rw[Yc _ _ _ (by omega),U.out.block n (by omega),T.out.block n c0],A,by omega,YZ _ _⟩
theorem Hs{Z:Xy}{a0:Xt}(g2:((h:Xt)==0)=Xp)(g8:wrap64 ((h:Xt)-1)=f)(g0:(f:Xt)<h)(c7:fC a N (gM o m c aE d) m e h f (pt b 0))(f9:¬8<(e.size:Xt))(f6:¬16<(c.size:Xt))(f8:(bits .andNot M d 3 !=0)=Xp)(c8:N<a.heap.size)(c6:b<a.heap.size)(b0:rW a N b p i q s)(g7:(p !=0)=Xp)(f7:(bits .and M d 2 !=0)=J)(g3:(i==1000)=Xp)(b6:∀t:K,(∀r,r<a.heap.size->t.heap[r]?=a.heap[r]?)->Calls TP 186 #[.string e,Xo M i] t λu L=>u=XB (.string W)/\Below t.heap.size t L)(g6:0<=i/\i<2^62)(b2:∀S:K,(∀r,r<a.heap.size->S.heap[r]?=a.heap[r]?)->(Instr.lookup 188 (.map (C s)) (.string W) Xp).run TP S=.ok (XK F) S)(h0:(q==60)=Xp)(f5:(bits .and M d 1 !=0)=Z)(e2:Xp=Z/\0=a0\/J=Z/\ak=a0)(b1:∀t:K,(∀r,r<a.heap.size->t.heap[r]?=a.heap[r]?)->a.heap.size<=t.heap.size->Calls TP 187 #[pt N 0,pt b 0,pt (t.heap.size+1) 0] ((t.alloc (.map #[] 0)).alloc (.cells (Vn W c aL a0 b t.heap.size) 192)) λu y=>u=XB (.tuple #[])/\g (t.heap.size+1) t.heap.size y)(b3:∀x H y,g x H y->y.cell? ⟨b,9,F⟩=C (Xo M i)/\y.frozen? ⟨b,9,F⟩=Xp/\n x H (y.setCell ⟨b,9,F⟩ (Xo M (i+1))))(b4:∀x H w,n x H w->Calls TP 156 #[pt x 0] w λu L=>u=XB (.string k)/\Below w.heap.size w L)(b5:∀x H w O,n x H w->Below w.heap.size w O->Calls TP 156 #[pt b 0] O λu L=>u=XB (.string l)/\Below O.heap.size O L):
 Calls TP 155 #[pt N 0,.agg (gM o m c aE d),Xo M ak,Xo M aL] a (Lr n k l):=by
 rcases e2 with⟨rfl,rfl⟩|⟨rfl,rfl⟩
 all_goals
  have a9:=Xv c7;have g1:(0:Xt)<=f:=by omega
  have g5:=λd9=>aaE (P:=TP) 188 d9;have a1:=Xv b0;have a5:=Xv b2;have a2:=Xv b1;have d6:=Xv b4;have d7:=Xv b5;have d4:=Xv b6;have d5:=Xv b3;clear b6 b3;clear b0 b2 b1 b4 b5;unfold fC at a9;clear c7;go_enter Tryz.func155,Tryz.ntmps155
  go_wp2_with (first
   |(go_at_call 95;refine a9.out.mono ?_;rintro u t⟨f0,rfl,T,g9,b8⟩;have D:=cU T;have h4:=aa D 1 A;have h5:=aa D 2 A;have h6:=aa D 4 A;have d2:=Xv D;have b9:=(XZ.1 D).1;have v:=Xv T;have d3:=Xv b8;clear T b8 D)
   |(go_at_call 96;refine d3.out.mono ?_;rintro u S⟨rfl,rfl⟩;have d0:=a1.out.old c8 c6 (bG v.out);obtain⟨e6,e7,e8,e9⟩:=d0;have h1:=a5.out t (bG v.out);have q1:=Xv (a2.out t (bG v.out) (bd v.out).size))
   |(go_at_call 186;refine(d4.out t (bG v.out)).mono ?_;rintro u c9⟨rfl,z⟩;have g4:=Yk b9 z.size;have R:=λr Q=>(z.block r (Yk Q (bd v.out).size)).trans (bG v.out r Q);have d1:=a1.out.old c8 c6 R;obtain⟨f1,f2,f3,f4⟩:=d1;have h2:=a5.out c9 R;have X:=(z.block _ b9).trans d2.out;have h7:=aa X 2 A;have h8:=aa X 4 A;have e3:=Xv (a2.out c9 R (Yi (bd v.out).size z.size));have e5:=Xv z;clear X R z)
   |(go_at_call 187;refine e3.out.mono ?_;rintro u y⟨rfl,c0⟩;obtain⟨h3,h9,Y⟩:=d5.out _ _ _ c0;have a7:=d6.out _ _ _ Y;have a6:=Xv Y;have a8:=Xv a7;clear c0 Y a7)
   |(go_at_call 156;refine a8.out.mono ?_;rintro u O⟨rfl,U⟩;have a3:=Xv U;have d8:=Xv (d7.out _ _ _ _ a6.out U);clear U a8)
   |(go_at_call 156;refine d8.out.mono ?_;rintro u e4⟨rfl,b7⟩;have a4:=Xv b7;clear b7))
  have e0:=a3.out.size;have e1:=a4.out.size;go_ret3;exact⟨_,_,_,e4.heap.size,a6.out,Yi e0 (Yi e1 (by simp)),λr Q=>by rw[Yc _ _ _ (by omega),a4.out.block r (by omega),a3.out.block r Q],A,by omega,YZ _ _⟩
end
variable{a:E}
theorem PI{a:Xt}(b:0<=a)(c:a<=3):(bits .and M a 2 !=0)=decide (2<=a):=by rcases(by omega:a=0\/a=1\/a=2\/a=3)with rfl|rfl|rfl|rfl<;>decide
theorem Vm{a:Xt}(b:0<=a)(c:a<=3):(bits .and M a 1 !=0)=decide (a%2=1):=by rcases(by omega:a=0\/a=1\/a=2\/a=3)with rfl|rfl|rfl|rfl<;>decide
theorem MV{a:Xt}(b:0<=a)(c:a<=3):(bits .andNot M a 3 !=0)=Xp:=by rcases(by omega:a=0\/a=1\/a=2\/a=3)with rfl|rfl|rfl|rfl<;>decide
theorem Pj(b:BitVec 64):b&&& ~~~3#64=(b >>> 2) <<< 2:=by
 apply BitVec.eq_of_getLsbD_eq;intro a e;simp only[BitVec.getLsbD_and,BitVec.getLsbD_not,BitVec.getLsbD_shiftLeft,BitVec.getLsbD_ushiftRight];rcases(by omega:a=0\/a=1\/2<=a)with rfl|rfl|c
 .simp
 .simp
 have d:(3#64).getLsbD a=Xp:=by rw[BitVec.getLsbD_ofNat];have:=E.testBit_lt_two_pow (Yk (by decide:3<2^2) (E.pow_le_pow_right (by decide) c));simp[this]
 simp_all
theorem QQ(b:0<a)(c:a<2^64):IntKind.i64.wrap (a:Xt)≠0:=by have d:((a:Xt)%(2^IntKind.i64.bits:Xt))=a:=Xt.emod_eq_of_lt (by omega) (by show(a:Xt)<18446744073709551616;omega);show(if(IntKind.i64.signed&&decide ((a:Xt)%(2^IntKind.i64.bits:Xt)>=(2^(IntKind.i64.bits-1):Xt)))=J then(a:Xt)%(2^IntKind.i64.bits:Xt)-(2^IntKind.i64.bits:Xt)else(a:Xt)%(2^IntKind.i64.bits:Xt))≠0;omega
theorem VG{a:Xt}(h:-2^63<=a)(k:a<2^63)(c:a<0\/3<a):(bits .andNot M a 3 !=0)=J:=by
 have d:bits .andNot M a 3=IntKind.i64.wrap (((BitVec.ofInt 64 a)&&& ~~~(3#64)).toNat:Xt):=A;rw[d,Pj];have i:(BitVec.ofInt 64 a).toNat=(a%2^64).toNat:=BitVec.toNat_ofInt ..
 have e:4<=(BitVec.ofInt 64 a).toNat:=by
  rcases c with c|c
  .omega
  omega
 have f:=(BitVec.ofInt 64 a).isLt;generalize BitVec.ofInt 64 a=b at e f
 have g:(b >>> 2 <<< 2).toNat=b.toNat/4*4:=by
  rw[BitVec.toNat_shiftLeft,BitVec.toNat_ushiftRight,E.shiftRight_eq_div_pow,E.shiftLeft_eq];have:b.toNat/2^2*2^2<2^64:=by omega
  rw[Z_ this]
 grind [QQ]
variable{a:Path}
theorem ME{l L:Path->E}(r:bn c l L b)(m:WF c)(t:b.cell? ⟨N,0,F⟩=C (pt (l []) 0))(i:Xu Xn)(g:XM){p:Xt}(T:b.cell? ⟨1,0,F⟩=C (Xo M p))(z:g.size<2^31)(w:Wt.split g.data.toList=C a)(o:a≠[]):
 fC b N i g (bs (a.getLast o)) a.length (a.length-1) (gW (if(Wt.find c a.dropLast).isSome then C (l a.dropLast)else F)):=by
 have Q:1<b.heap.size:=by grind [World.cell?]
 have H:N<b.heap.size:=by grind [World.cell?]
 obtain⟨X,x,_⟩:=m.root;have U:=I_.2 o;refine(oe g p (b.alloc (.cells i 28)) z (by simp_all [YJ])).mono ?_;intro O q k;unfold cH at k;rw[w]at k;obtain⟨e,Y,rfl,v⟩:=k;have D:(b.alloc (.cells i 28)).heap.size=b.heap.size+1:=by simp
 rw[D]at e;rcases v with⟨rfl,_⟩|⟨d,rfl,S,_,u⟩
 .simp_all
 have n:∀(f:E) h,a[f]?=C h->q.cell? ⟨d,f,F⟩=C (.string (bs h)):=by simp_all [K.cell?]
 refine⟨d,A,e,n _ _ (by grind),?_⟩
 have y:Row (Xw (C ⟨d,0,F⟩) (a.length-1) a.length) a.dropLast q:=Xs ⟨d,a.length,by simp,by simp,(XZ.1 u).1,λf h W=>n f h (by grind)⟩
 exact zZ (r.old λs R=>by rw[e.block s (by omega)];simp_all [Yc]).VZ (by
  rw[e.cell (p:=⟨N,0,F⟩) (by grind),World.cell?_alloc_lt _ _ _ H]
  exact t) (by rw[x];rfl) m.up y (by grind [sW])
def TK(c:Tree):Prop:=∀a b,Wt.find c a=C b->(0<=b.stat.eD/\b.stat.eD<2^61)/\0<=b.stat.aE/\b.stat.aE<2^61
structure qj(d:Wt.Op):Prop where
 path:d.path.length<2^30
 data:d.data.length<2^30
 Xd:-2^63<=d.flags
 Xc:d.flags<2^63
abbrev uh(a:Wt.Op):Xu Xn:=gM a.kind (bs a.path) (bs a.data) a.aE a.flags
theorem Uf(c:a.length<=4)(b:a≠[]):(((a.length:Xt)==0)=Xp)/\wrap64 ((a.length:Xt)-1)=(a.length-1:E)/\((a.length-1:E):Xt)<a.length:=by grind [List.length_pos_iff,wrap64]
theorem lf{h g:Path->E}(m:bn c h g b){d:Path}{l:Nd}(n:Wt.find c d=C l)(k:B){i:Xz E}(t:cd c h d k=i):∀e:K,(∀f,f<b.heap.size->e.heap[f]?=b.heap[f]?)->(Instr.lookup 188 (.map (C (g d))) (.string (bs k)) Xp).run TP e=.ok (gW i) e:=λe r=>by
 obtain⟨q,p,s,o⟩:=m.kd d l n
 grind [pV]
theorem Fw(m:ux b)(l:4<b.heap.size){d:B}(o:d.length<2^29){c:Xt}(i:0<=c)(k:c<=999):∀a:K,(∀e,e<b.heap.size->a.heap[e]?=b.heap[e]?)->Calls TP 186 #[.string (bs d),Xo M c] a λf g=>f=XB (.string (bs (d++Wt.three c)))/\Below a.heap.size a g:=λa h=>(NR (m.stay (by rw[h 4 l])) (bs d) i k (by grind [cT])).mono λf g n=>by simp_all [He,Mh]
theorem fL{a b:Xt}(c:a≠b):(a==b)=Xp:=by simpa using c
theorem zJ{a b:Xt}(c:a=b):(a !=b)=Xp:=by simpa using c
theorem uz{a b:Xt}(c:a≠b):(a !=b)=J:=by simpa using c
theorem sC{a6 a5:Path->E}{b4:Xq Un}(X:qd c a6 a5 N b4 b)(O:WF c){d:Wt.Op}(T:qj d){aL:Xt}{b3:Xt}(a9:b.cell? ⟨1,0,F⟩=C (Xo M b3))(a2:ux b)(Y:4<b.heap.size){W:Xt}(g:Wt.create c d ak aL=.no W)
 (b0:∀a,Wt.split d.path=C a->a≠[])(b1:(Wt.split d.path).isSome=J):Calls TP 155 #[pt N 0,.agg (uh d),Xo M ak,Xo M aL] b (rX W b):=by
 obtain⟨b8,b7,U,b5,b6⟩:=X.top;obtain⟨a,L⟩:=Yd.1 b1;have i:=b0 a L;have t:=X.lq;have e:=Uf (rM L).1 i;have o:=ME t O (aa U 0 A) (uh d) (bs d.path) a9 (by rw[cT];have:=T.path;omega) (a:=a) L i;have y:=(XZ.1 U).1;unfold Wt.create at g;rw[L]at g;cases a with
 |nil=>simp_all
 |cons f h=>
  simp only at g;have c0:((bs ((f::h).getLast i)).size:Xt)=((f::h).getLast i).length:=by rw[cT]
  have b9:((bs d.data).size:Xt)=d.data.length:=by rw[cT]
  by_cases a8:8<((f::h).getLast i).length
  .grind [Sj]
  rw[XH a8]at g;have s:¬8<((bs ((f::h).getLast i)).size:Xt):=by omega
  by_cases a7:16<d.data.length
  .grind [Px]
  rw[XH a7]at g;have r:¬16<((bs d.data).size:Xt):=by omega
  by_cases R:d.flags<0\/3<d.flags
  .rw[XN R]at g;cases g;exact MB e.1 e.2.1 e.2.2 o s r (VG T.Xd T.Xc R)
  rw[XH R]at g;have m:0<=d.flags:=by omega
  have n:d.flags<=3:=by omega
  cases p:Wt.find c (f::h).dropLast with
  |none=>rw[p]at g o;cases g;exact Py e.1 e.2.1 e.2.2 o s r (MV m n)
  |some l=>
   rw[p]at g o;simp only at g;have b2:(Wt.find c (f::h).dropLast).isSome=J:=by rw[p];rfl
   have S:=t.nd _ _ p;have w:rW b N (a6 (f::h).dropLast) l.stat.own l.next c.length (a5 (f::h).dropLast):=⟨aa S 6 A,aa S 9 A,aa S 11 A,aa U 1 A⟩;have z:=(t.lt b2).1;by_cases H:l.stat.own≠0
   .rw[XN H]at g;cases g;exact Sk e.1 e.2.1 e.2.2 o s r (MV m n) y z w (uz H)
   rw[XH H]at g;have D:=zJ (by simpa using H);by_cases x:2<=d.flags/\l.next=1000
   .rw[XN x]at g;cases g;exact MA e.1 e.2.1 e.2.2 o s r (MV m n) y z w D (by rw[PI m n];simpa using x.1) (by simpa using x.2)
   rw[XH x]at g
   have Z:2<=d.flags->l.next<=999:=λk=>by have:=(O.next _ _ p).2;omega
   have a1:=O.next _ _ p;have a0:((f::h).getLast i).length<2^29:=by omega
   by_cases q:(Wt.find c ((f::h).dropLast++[Wt.nameOf d.flags ((f::h).getLast i) l.next])).isSome=J
   .rw[XN q]at g;cases g;by_cases k:2<=d.flags
    .have v:Wt.nameOf d.flags ((f::h).getLast i) l.next=(f::h).getLast i++Wt.three l.next:=XN k;rw[v]at q;have u:=lf t p ((f::h).getLast i++Wt.three l.next) (i:=C _) (XN q);exact Fv e.1 e.2.1 e.2.2 o s r (MV m n) y z w D (by rw[PI m n];simpa using k) (fL λQ=>x ⟨k,Q⟩) (Fw a2 Y a0 a1.1 (Z k)) u
    have v:Wt.nameOf d.flags ((f::h).getLast i) l.next=(f::h).getLast i:=XH k;rw[v]at q;have u:=lf t p ((f::h).getLast i) (i:=C _) (XN q);exact Fu e.1 e.2.1 e.2.2 o s r (MV m n) y z w D (by rw[PI m n];simpa using k) u
   rw[XH q]at g;by_cases a3:c.length=60
   .rw[XN a3]at g;cases g;have a4:((c.length:Xt)==60)=J:=by rw[a3];rfl
    by_cases k:2<=d.flags
    .have v:Wt.nameOf d.flags ((f::h).getLast i) l.next=(f::h).getLast i++Wt.three l.next:=XN k;rw[v]at q;have u:=lf t p ((f::h).getLast i++Wt.three l.next) (i:=F) (XH q);exact MD e.1 e.2.1 e.2.2 o s r (MV m n) y z w D (by rw[PI m n];simpa using k) (fL λQ=>x ⟨k,Q⟩) (Fw a2 Y a0 a1.1 (Z k)) u a4
    have v:Wt.nameOf d.flags ((f::h).getLast i) l.next=(f::h).getLast i:=XH k;rw[v]at q;have u:=lf t p ((f::h).getLast i) (i:=F) (XH q);exact MC e.1 e.2.1 e.2.2 o s r (MV m n) y z w D (by rw[PI m n];simpa using k) u a4
   simp_all
variable{b:Tree}{f:K}{o:K}
def ij(b:Xq Wt.Ev):Xu Xn:=(b.flatMap λa=>[Xn.int M a.1,.string (bs a.2)]).toArray
def rY(b:Tree)(d h:Path->E)(N:E)(q:Xq Un)(g:Tree)(l:Xq Wt.Ev)(m:B)(f:K)(k:Ending)(o:K):Prop:=∃c i n p e a,k=XB (.tuple #[pt (c e) 0,Xw (C ⟨a,0,F⟩) 2 2,.nilIface])/\qd g c i N (q++[n,p]) o/\yo N b d h g c i f o/\f.heap.size<=a/\o.heap[a]?=C (Xx (ij l) 269 (0,0))/\m=Wt.join e/\(Wt.find g e).isSome=J
abbrev Xj(c:Path)(d:Path->E):Xn:=.pointer (if c=[]then F else C ⟨d c.dropLast,0,F⟩)
abbrev yk(b:Tree)(d h:Path->E)(N:E)(g:Xn)(i:Xq Xn)(a:Path)(c:Nd)(y:B)(e:Wt.Op)(aL own p:Xt)(f:K)(m l:E)(o:K):Prop:=
 th N (d a) (h a) m l (pt (d []) 0) g (Xj a d) b.length i (bs (wu a)) (bs c.data) c.stat.made c.stat.set c.stat.aE c.stat.eD c.stat.own c.stat.size c.stat.kids c.next p (Vn (bs y) (bs e.data) aL own (d a) l) (cd b d a) y f o
section
variable{d h:Path->E}{g:Xn}{i:Xq Xn}{a:Path}{c:Nd}{y:B}{e:Wt.Op}{aL own p:Xt}{k:K}{l:E}{q:Xq Un}
theorem EA(k:bn b d h f)(q:f.heap[N]?=C (Xx #[pt (d []) 0,Xo M b.length,g] 195 (0,0)))(l:bV NB f 1 1 g i.length i){a:Path}(p:(Wt.find b a).isSome=J):g.ownBlock≠C (d a)/\g.ownBlock≠C (h a)/\d a≠N/\h a≠N:=by
 obtain⟨t,m⟩:=Yd.1 p;obtain⟨s,r,o,_⟩:=k.kd _ _ m;have e:=k.nd _ _ m;refine⟨λc=>?_,λc=>?_,λc=>?_,λc=>?_⟩
 .obtain⟨n,a,_⟩:=l.blk _ c;rw[e]at a;cases a
 .obtain⟨n,a,_⟩:=l.blk _ c;rw[o]at a;cases a
 .rw[c,q]at e;cases e
 simp_all
theorem iC(f:Wt.Ord b){d e:Nd}(c:Path):Wt.find (Wt.put (Wt.put b a d) (a++[y]) e) c=if c=a++[y]then C e else if c=a then C d else Wt.find b c:=by simp_all [cG,fi]
theorem zU(u:bn b d h f)(v:WF b)(R:f.heap[N]?=C (Xx #[pt (d []) 0,Xo M b.length,g] 195 (0,0)))(Q:bV NB f 1 1 g i.length i)(S:Wt.find b a=C c)(L:Wt.find b (a++[y])=F)
 (H:p=(mH c e.flags).next)(W:own=(eW e ak aL).stat.own)(n:yk b d h N g i a c y e aL own p f m l k):
 bn (Wt.put (Wt.put b a (mH c e.flags)) (a++[y]) (eW e ak aL)) (wU d (a++[y]) m) (wU h (a++[y]) l) k:=by
 refine u.add S L (λz=>?_) v.up (iC v.ord) ?_ n.kd ?_ ⟨0,n.new.2,Go.MapKept.stamped_empty 0⟩ (λT w=>?_) λU x r s⟨T,w,O⟩=>?_
 .cases D:Wt.find b (a++[y]++[z])with
  |none=>rfl
  |some X=>have:=v.up (a++[y]++[z]) (by simp) (by rw[D];rfl);simp_all
 .rw[n.nd,H];rfl
 .rw[n.new.1];have r:=NO a y;have s:(if a++[y]=[]then F else C (⟨d a,0,F⟩:XG))=C ⟨d a,0,F⟩:=by simp
  grind [eW,cT,cW]
 .have r:=u.lt w;have s:=n.lo;omega
 have t:=EA u R Q w;rcases O with rfl|rfl
 .exact n.kept _ x t.2.2.1 r s t.1
 exact n.kept _ x t.2.2.2 r s t.2.1
theorem zT(U:qd b d h N q f)(v:WF b)(L:f.heap[N]?=C (Xx #[pt (d []) 0,Xo M b.length,g] 195 (0,0)))(R:bV NB f 1 1 g i.length i)(a9:gz N f i q)(z:Wt.find b a=C c)(Q:Wt.find b (a++[y])=F)
 (Z:p=(mH c e.flags).next)(a5:own=(eW e ak aL).stat.own){n:Ending}
 (r:Lr (λm l k=>yk b d h N g i a c y e aL own p f m l k) (bs (Wt.join (a++[y]))) (bs (Wt.join a)) n o):
 rY b d h N q (Wt.put (Wt.put b a (mH c e.flags)) (a++[y]) (eW e ak aL)) [(1,Wt.join (a++[y])),(4,Wt.join a)] (Wt.join (a++[y])) f n o:=by
 obtain⟨m,l,k,W,H,a8,a3,rfl,a1,a2⟩:=r;have O:(Wt.find b a).isSome=J:=by rw[z];rfl
 have D:=U.lq;have u:=H.later a8 a3;have T:=zU (ak:=ak) D v L R z Q Z a5 u;obtain⟨b4,X,Y,b0,c8,b1,b2,b3⟩:=u.tree;have c7:=D.nd _ _ z;obtain⟨b8,b7,c6,_⟩:=D.kd _ _ z;have a4:Wt.find (Wt.put b a (mH c e.flags)) (a++[y])=F:=by rw[cG v.ord,XH (uZ a y).symm];exact Q
 have c0:((Wt.put (Wt.put b a (mH c e.flags)) (a++[y]) (eW e ak aL)).length:Xt)=b.length+1:=by rw[jJ a4,dh v.ord O];rfl
 have a6:(Wt.find (Wt.put (Wt.put b a (mH c e.flags)) (a++[y]) (eW e ak aL)) (a++[y])).isSome=J:=by rw[iC v.ord,XN A];rfl
 refine⟨wU d (a++[y]) m,wU h (a++[y]) l,_,_,a++[y],W,by rw[dS],⟨T,b4,i++[X,Y],?_,by simp_all,gz.app (gz.stay (λt b5 d1 s x=>?_) a9) ⟨b2,b3,trivial⟩⟩,⟨u.size,λt a0 s x=>?_,λt r=>?_,λt r=>?_⟩,Yi H.size a1,a2,A,a6⟩
 .simp_all [bE]
 .refine u.kept t (XZ.1 s).1 ?_ ?_ ?_ ?_
  .grind
  .grind
  .grind
  intro n;obtain⟨b6,b9,_⟩:=R.blk t n
  grind
 .exact u.kept t a0 (λn=>s (Xr n)) (λn=>s (Xs ⟨a,O,Xr n⟩)) (λn=>s (Xs ⟨a,O,Xs n⟩)) (λn=>x ⟨_,_,g,L,n⟩)
 .rcases r with rfl|⟨S,a7,r⟩
  .exact Xr (Xr A)
  by_cases w:S=a++[y]
  .subst w;rw[dS,dS]at r;have:=H.lo;right;omega
  rw[bE w,bE w]at r;rw[iC v.ord,XH w]at a7;refine Xr (Xs ⟨S,?_,r⟩)
  grind
 obtain⟨c9,d0,d2,s,x⟩:=r;rw[b0]at s;cases s;rcases b1 t x with r|r
 .exact Xr ⟨_,_,g,L,r⟩
 omega
theorem qx(z:qd b d h N q f)(s:WF b)(Q:f.heap[N]?=C (Xx #[pt (d []) 0,Xo M b.length,g] 195 (0,0)))(O:bV NB f 1 1 g i.length i)(R:Wt.find b a=C c)(H:Wt.find b (a++[y])=F)
 (n:WF (Wt.put (Wt.put b a (mH c e.flags)) (a++[y]) (eW e ak aL)))(D:p=(mH c e.flags).next)(L:own=(eW e ak aL).stat.own):
 (∀m l k,yk b d h N g i a c y e aL own p f m l k->Calls TP 156 #[pt m 0] k λv o=>v=XB (.string (bs (Wt.join (a++[y]))))/\Below k.heap.size k o)/\
 (∀m l k r,yk b d h N g i a c y e aL own p f m l k->Below k.heap.size k r->Calls TP 156 #[pt (d a) 0] r λv o=>v=XB (.string (bs (Wt.join a)))/\Below r.heap.size r o):=by
 have w:Wt.find (Wt.put (Wt.put b a (mH c e.flags)) (a++[y]) (eW e ak aL)) (a++[y])=C (eW e ak aL):=by rw[iC s.ord,XN A]
 have x:Wt.find (Wt.put (Wt.put b a (mH c e.flags)) (a++[y]) (eW e ak aL)) a=C (mH c e.flags):=by rw[iC s.ord,XH (uZ a y),XN A]
 refine⟨λm l k u=>?_,λm l k r u U=>?_⟩
 .have t:=zU (ak:=ak) z.lq s Q O R H D L u;have:=sQ t n.up (by rw[w];rfl) (eF n w).1 (eF n w).2;rw[dS]at this;exact this
 have t:=(zU (ak:=ak) z.lq s Q O R H D L u).old λS T=>U.block S T;have:=sQ t n.up (by rw[x];rfl) (eF n x).1 (eF n x).2;rw[bE (uZ a y)]at this;exact this
end
variable{a:Tree}{b:K}
theorem zV{n x:Path->E}{a2:Xq Un}(m:qd a n x N a2 b)(h:WF a)(c6:TK a){d:Wt.Op}(d5:qj d){aL:Xt}{d9:Xt}(c9:b.cell? ⟨1,0,F⟩=C (Xo M d9))(d7:ux b)(c0:4<b.heap.size)(e7:a2.length<2^18)
 {b5:Tree}{b4:B}{a5:Xq Wt.Ev}(a6:Wt.create a d ak aL=.yes b5 b4 a5):
 Calls TP 155 #[pt N 0,.agg (uh d),Xo M ak,Xo M aL] b (rY a n x N a2 b5 a5 b4 b):=by
 have H:=nO h a6;obtain⟨c,e,f,y,a9,e3,e2,L,O,g,d3,d2,b0,q,e5,rfl,rfl,rfl⟩:=gS a6;obtain⟨b7,b6,k,p,w⟩:=m.top;have t:=m.lq;have i:=Uf (rM a9).1 (aaa c e);have s:=ME t h (aa k 0 A) (uh d) (bs d.path) c9 (by rw[cT];have:=d5.path;omega) (a:=c::e) a9 (aaa c e);have R:=(XZ.1 k).1;have b1:(Wt.find a (c::e).dropLast).isSome=J:=by rw[g];rfl
 rw[XN b1]at s;have u:¬8<((bs ((c::e).getLast (aaa c e))).size:Xt):=by grind [cT]
 have z:¬16<((bs d.data).size:Xt):=by grind [cT]
 have S:=t.nd _ _ g;obtain⟨em,e1,d0,b8⟩:=t.kd _ _ g;have D:rW b N (n (c::e).dropLast) f.stat.own f.next a.length (x (c::e).dropLast):=⟨aa S 6 A,aa S 9 A,aa S 11 A,aa k 1 A⟩;have v:=(t.lt b1).1;have U:((a.length:Xt)==60)=Xp:=by grind
 have a8:cd a n (c::e).dropLast y=F:=by simp_all [cd]
 have Q:=lf t g y a8;have e4:=(c6 _ _ g).1;have c7:0<=f.stat.kids/\f.stat.kids<2^62:=by rw[h.kids _ f g];have:=lj a (c::e).dropLast;have:=h.len;omega
 have d8:(0:Xt)<=a.length/\(a.length:Xt)<2^62:=by have:=h.len;omega
 have e6:=w.len;have c8:((c::e).getLast (aaa c e)).length<2^29:=by omega
 have d1:=h.next _ _ g;have add:=λ(own:Xt)(a4:K) d4 d6=>Si (d:=Vn (bs y) (bs d.data) aL own (n (c::e).dropLast) a4.heap.size) (q:=a4) k p (by omega) S d0 b8 a8 (by omega) c7 d8 A d4 d6;have T:=zJ d3;by_cases Z:2<=d.flags
 .have a0:=b0.trans (XN Z);have o:f.next+1=(mH f d.flags).next:=by simp_all [mH]
  have a1:=Fw d7 c0 c8 d1.1 (by omega);rw[<-a0]at a1;have kW:=λ(own:Xt) b3 b2 W(X:yk a n x N b7 b6 (c::e).dropLast f y d aL own f.next b b3 b2 W)=>(⟨aa X.nd 9 A,frozenAt X.nd 9,X.next v (f.next+1)⟩:W.cell? ⟨n (c::e).dropLast,9,F⟩=C (Xo M f.next)/\W.frozen? ⟨n (c::e).dropLast,9,F⟩=Xp/\yk a n x N b7 b6 (c::e).dropLast f y d aL own (f.next+1) b b3 b2 (W.setCell ⟨n (c::e).dropLast,9,F⟩ (Xo M (f.next+1))));have a7:=fL (d2 Z);by_cases b9:d.flags%2=1
  .have l:ak=(eW d ak aL).stat.own:=by simp_all [eW]
   have P:=qx m h k p g q H o l;exact(Hs i.1 i.2.1 i.2.2 s u z (MV L O) R v D T (by grind [PI]) a7 a1 (by omega) Q U (by grind [Vm]) (Xs ⟨A,A⟩) (add ak) (kW ak) P.1 P.2).mono λY a3 r=>zT m h k p w g q o l r
  have l:(0:Xt)=(eW d ak aL).stat.own:=by simp_all [eW]
  have P:=qx m h k p g q H o l;exact(Hs i.1 i.2.1 i.2.2 s u z (MV L O) R v D T (by grind [PI]) a7 a1 (by omega) Q U (by grind [Vm]) (Xr ⟨A,A⟩) (add 0) (kW 0) P.1 P.2).mono λY a3 r=>zT m h k p w g q o l r
 have a0:=b0.trans (XH Z);have o:f.next=(mH f d.flags).next:=by grind [mH]
 rw[<-a0]at s u;by_cases b9:d.flags%2=1
 .have l:ak=(eW d ak aL).stat.own:=by grind [eW]
  have P:=qx m h k p g q H o l;exact(Hr i.1 i.2.1 i.2.2 s u z (MV L O) R v D T (by grind [PI]) Q U (by grind [Vm]) (Xs ⟨A,A⟩) (add ak) P.1 P.2).mono λY a3 r=>zT m h k p w g q o l r
 have l:(0:Xt)=(eW d ak aL).stat.own:=by grind [eW]
 have P:=qx m h k p g q H o l;exact(Hr i.1 i.2.1 i.2.2 s u z (MV L O) R v D T (by grind [PI]) Q U (by grind [Vm]) (Xr ⟨A,A⟩) (add 0) P.1 P.2).mono λY a3 r=>zT m h k p w g q o l r
variable{a:K}{b:Tree}
theorem Mz{f aE e aL:Xt}{b d:XM}{l:Xt}(c:Xy)(u:a.cell? ⟨1,0,F⟩=C (Xo M l))(r:b.size<2^31)(q:Wt.split b.data.toList=if c then C []else F):
 Calls TP 155 #[pt N 0,.agg (gM f b d aE e),Xo M ak,Xo M aL] a (rX 4 a):=by
 have t:1<a.heap.size:=by grind [World.cell?]
 have s:Calls TP 95 #[.string b] (a.alloc (.cells (gM f b d aE e) 28)) λg k=>g=XB (.tuple #[Xw F 0 0,.bool c])/\Below (a.heap.size+1) (a.alloc (.cells (gM f b d aE e) 28)) k:=by
  refine(oe b l (a.alloc (.cells (gM f b d aE e) 28)) r (by simp_all [YJ])).mono ?_;intro g k h;unfold cH at h;rw[q]at h;cases c with
  |false=>simp_all
  |true=>
   obtain⟨i,v,rfl,p⟩:=h;rcases p with⟨_,rfl⟩|⟨_,_,_,o,_⟩
   .simp_all
   simp at o
 have n:=Xv s;cases c<;>
 .go_enter Tryz.func155,Tryz.ntmps155
  go_wp2_with (go_at_call 95;refine n.out.mono ?_;rintro g k⟨rfl,i⟩;have m:=Xv i;clear i)
  go_ret3;exact⟨A,bd m.out⟩
def uN(b:Tree)(i h:Path->E)(N:E)(m:Xq Un)(a:K)(f:Vg)(c:Ending)(d:K):Prop:=match f with
 |.no e=>rX e a c d
 |.yes l k g=>rY b i h N m l g k a c d
theorem MF{q p:Path->E}{g:Xq Un}(i:qd b q p N g a)(k:WF b)(r:TK b){c:Wt.Op}(e:qj c){aL:Xt}{t:Xt}(d:a.cell? ⟨1,0,F⟩=C (Xo M t))(o:ux a)(l:4<a.heap.size)(s:g.length<2^18):
 Calls TP 155 #[pt N 0,.agg (uh c),Xo M ak,Xo M aL] a (uN b q p N g a (Wt.create b c ak aL)):=by
 cases m:Wt.create b c ak aL with
 |yes H z w=>exact zV i k r e d o l s m
 |no h=>
  have n:(bs c.path).size<2^31:=by rw[cT];have:=e.path;omega
  cases f:Wt.split c.path with
  |none=>
   have:h=4:=by simp_all [Wt.create]
   subst this;exact Mz Xp d n f
  |some u=>
   cases u with
   |nil=>
    have:h=4:=by simp_all [Wt.create]
    subst this;exact Mz J d n f
   |cons v D=>exact sC i k e d o l m (λy x=>by simp_all) (by rw[f];rfl)
variable{d:Tree}{b:K}{e:K}{c:E}
def uM(a:Xt)(b:K)(c:Ending)(e:K):Prop:=c=XB (.tuple #[.string ⟨#[]⟩,Xw F 0 0,.iface 32 (Xo M a)])/\Below b.heap.size b e
def RE(a:Xq Wt.Ev)(d:Xn)(e:E)(b:K):Prop:=(a=[]/\d=Xw F 0 0)\/∃c,d=Xw (C ⟨c,0,F⟩) a.length a.length/\0<a.length/\e<=c/\b.heap[c]?=C (Xx (ij a) 269 (0,0))
def TO(d:Tree)(g f:Path->E)(N:E)(h:Xq Un)(i:Tree)(n:Xq Wt.Ev)(o:B)(b:K)(m:Ending)(e:K):Prop:=∃c a k l,m=XB (.tuple #[.string (bs o),l,.nilIface])/\qd i c a N (h++k) e/\k.length<=2/\yo N d g f i c a b e/\RE n l b.heap.size e
def gO(d:Tree)(g f:Path->E)(N:E)(h:Xq Un)(b:K)(i:Vg)(a:Ending)(e:K):Prop:=match i with
 |.no c=>uM c b a e
 |.yes m l k=>TO d g f N h m k l b a e
section
variable{g f:Path->E}{h:Xq Un}
theorem qd.old(i:qd d g f N h b)(a:∀c,c<b.heap.size->e.heap[c]?=b.heap[c]?):qd d g f N h e:=by obtain⟨q,p,s,k,o⟩:=i.top;exact⟨i.lq.old a,q,p,by grind,k.stay λl n=>a l (k.lt l n),o.stay λc r t m _=>a c (XZ.1 m).1⟩
theorem DO(a:qd d g f N h b)(i:∀c,c<b.heap.size->e.heap[c]?=b.heap[c]?):wI e N c↔wI b N c:=by
 obtain⟨o,n,l,k,m⟩:=a.top
 grind [wI]
theorem yo.same(k:qd d g f N h b)(m:b.heap.size<=e.heap.size)(i:∀c,c<b.heap.size->e.heap[c]?=b.heap[c]?):yo N d g f d g f b e:=
 ⟨m,λc l _ _=>i c l,λc a=>Xr a,λc a=>Xr ((DO k i).1 a)⟩
theorem xD(R:qd d g f N h b)(T:WF d)(b0:TK d){a:Wt.Op}(Y:qj a){aL:Xt}{b6:Xt}(b3:b.cell? ⟨1,0,F⟩=C (Xo M b6))(b4:ux b)(a9:4<b.heap.size)(b5:h.length<2^18)(X:a.kind=3):
 Calls TP 113 #[pt N 0,.agg (uh a),Xo M ak,Xo M aL] b (gO d g f N h b (Wt.create d a ak aL)):=by
 obtain⟨c6,b7,a6,aE,a7⟩:=a;simp only at X;subst X;obtain⟨a,L⟩:∃a:Wt.Op,a=⟨3,b7,a6,aE,a7⟩:=by simp
 rw[<-L]at Y⊢
 have H:∀c,c<b.heap.size->(b.alloc (.cells (uh a) 28)).heap[c]?=b.heap[c]?:=by simp_all [Yc]
 have a8:1<b.heap.size:=by omega
 have c0:(b.alloc (.cells (uh a) 28)).heap.size=b.heap.size+1:=by simp
 have x:=MF (R.old H) T b0 Y (ak:=ak) (aL:=aL) (by rw[YJ _ _ _ a8];exact b3) (b4.stay (by rw[H 4 a9])) (by omega) b5;cases u:Wt.create d a ak aL with
 |no b9=>
  rw[u]at x;have HC:=Xv x;subst L;go_enter Tryz.func113,Tryz.ntmps113
  go_wp2_with (go_at_call 155;refine HC.out.mono ?_;rintro k i⟨rfl,p⟩;have s:=Xv p;clear p)
  go_ret3;refine⟨A,?_⟩;have U:=s.out
  grind [bd]
 |yes Q a2 y=>
  rw[u]at x;have z:=nO T u
  have b1:∀k i,uN d g f N h (b.alloc (.cells (uh a) 28)) (.yes Q a2 y) k i->∃m n q r O l,k=XB (.tuple #[pt O 0,Xw (C ⟨l,0,F⟩) 2 2,.nilIface])/\qd Q m n N (h++[q,r]) i/\yo N d g f Q m n b i/\b.heap.size<=l/\i.heap[l]?=C (Xx (ij y) 269 (0,0))/\Calls TP 156 #[pt O 0] i λk e=>k=XB (.string (bs a2))/\Below i.heap.size i e:=λk i U=>by obtain⟨m,n,q,r,b8,l,rfl,o,t,p,w,rfl,a0⟩:=U;obtain⟨d1,a1⟩:=Yd.1 a0;exact⟨m,n,q,r,m b8,l,A,o,(yo.same R (by simp) H).trans t,by omega,w,sQ o.lq z.up a0 (eF z a1).1 (eF z a1).2⟩
  have b2:y.length=2:=by obtain⟨c,c7,c9,c8,_,_,_,_,_,_,_,_,_,_,_,_,_,rfl⟩:=gS u;rfl
  have HC:=Xv x;have a3:=Xv b1;subst L;go_enter Tryz.func113,Tryz.ntmps113
  go_wp2_with (first
   |(go_at_call 155;refine HC.out.mono ?_;intro k i W;obtain⟨m,n,q,r,O,l,rfl,o,t,p,w,Z⟩:=a3.out _ _ W;have a4:=Xv Z;have S:=Xv o;have a5:=Xv t;have s:=Xv w;clear Z o t W w)
   |(go_at_call 156;refine a4.out.mono ?_;rintro k d0⟨rfl,v⟩))
  go_ret3;refine⟨m,n,[q,r],_,A,S.out.old λc D=>v.block c D,by simp,a5.out.trans (yo.same S.out v.size λc D=>v.block c D),Xs ⟨l,?_,by omega,p,?_⟩⟩
  .rw[b2];rfl
  rw[v.block _ (XZ.1 s.out).1];exact s.out
end
def eT(a:K)(N:E)(f:Xu Xn)(b:XM)(ok:Xy)(e:E)(g:Xn):Prop:=
 Calls TP 95 #[.string b] (a.alloc (.cells f 28)) λc d=>∃h i,c=XB (.tuple #[.slice h e i,.bool ok])/\Below (a.heap.size+1) (a.alloc (.cells f 28)) d/\
  (ok=J->Calls TP 96 #[pt N 0,.slice h e i] d λc k=>c=XB g/\d=k)
section
variable{f aE d aL:Xt}{b c:XM}{e:E}{g:Xn}
theorem Mq(p:(f==3)=Xp)(l:eT a N (gM f b c aE d) b Xp e g):Calls TP 113 #[pt N 0,.agg (gM f b c aE d),Xo M ak,Xo M aL] a (uM 4 a):=by
 have k:=Xv l;go_enter Tryz.func113,Tryz.ntmps113
 go_wp2_with (go_at_call 95;refine k.out.mono ?_;rintro o q⟨m,n,rfl,h,-⟩;have i:=Xv h;clear h)
 go_ret3;exact⟨A,bd i.out⟩
theorem Ps(k:eT a N (gM 4 b c aE d) b J 0 g):Calls TP 113 #[pt N 0,.agg (gM 4 b c aE d),Xo M ak,Xo M aL] a (uM 4 a):=by
 have i:=Xv k;go_enter Tryz.func113,Tryz.ntmps113
 go_wp2_with (go_at_call 95;refine i.out.mono ?_;rintro n p⟨l,m,rfl,e,-⟩;have f:=cU e;have o:=aa f 0 A;have h:=Xv e;clear e f)
 go_ret3;exact⟨A,bd h.out⟩
theorem Pq(l:eT a N (gM 5 b c aE d) b J e g)(p:16<(c.size:Xt)):Calls TP 113 #[pt N 0,.agg (gM 5 b c aE d),Xo M ak,Xo M aL] a (uM 5 a):=by
 have k:=Xv l;go_enter Tryz.func113,Tryz.ntmps113
 go_wp2_with (go_at_call 95;refine k.out.mono ?_;rintro o s⟨m,n,rfl,f,-⟩;have h:=cU f;have q:=aa h 0 A;have r:=aa h 2 A;have i:=Xv f;clear f h)
 go_ret3;exact⟨A,bd i.out⟩
theorem bZ{c:K}{b:Xz Xn}(d:c.heap[S]?=a.heap[S]?)(e:a.cell? ⟨S,j,F⟩=b):c.cell? ⟨S,j,F⟩=b:=by simp_all [K.cell?]
theorem below_drewN(a:K)(b:E):Below a.heap.size a (a.drewN b):=⟨A,A,A,Ye _,λ_ _=>rfl⟩
theorem vt{b:K}{e:Obj}(c:Below (a.heap.size+1) (a.alloc e) b)(d:E):Below a.heap.size a (b.drewN d):=(bd c).trans ((below_drewN b d).mono (bd c).size)
theorem Ml(q:((e:Xt)==0)=Xp)(n:eT a N (gM 4 b c aE d) b J e (XK F)):Calls TP 113 #[pt N 0,.agg (gM 4 b c aE d),Xo M ak,Xo M aL] a (uM 7 a):=by
 have l:=Xv n;go_enter Tryz.func113,Tryz.ntmps113
 go_wp2_with (first
  |(go_at_call 95;refine l.out.mono ?_;rintro m u⟨o,p,rfl,g,h⟩;have f:=cU g;have r:=aa f 0 A;have s:=aa f 2 A;have t:=aa f 3 A;have k:=Xv (h A);have i:=Xv g;clear g f h)
  |(go_at_call 96;refine k.out.mono ?_;rintro m v⟨rfl,rfl⟩))
 go_ret3;exact⟨A,bd i.out⟩
theorem Mm(q:¬16<(c.size:Xt))(n:eT a N (gM 5 b c aE d) b J e (XK F)):Calls TP 113 #[pt N 0,.agg (gM 5 b c aE d),Xo M ak,Xo M aL] a (uM 7 a):=by
 have l:=Xv n;go_enter Tryz.func113,Tryz.ntmps113
 go_wp2_with (first
  |(go_at_call 95;refine l.out.mono ?_;rintro m u⟨o,p,rfl,g,h⟩;have f:=cU g;have r:=aa f 0 A;have s:=aa f 2 A;have t:=aa f 3 A;have k:=Xv (h A);have i:=Xv g;clear g f h)
  |(go_at_call 96;refine k.out.mono ?_;rintro m v⟨rfl,rfl⟩))
 go_ret3;exact⟨A,bd i.out⟩
theorem Mn(r:(f==3)=Xp)(s:(f==4)=Xp)(t:(f==5)=Xp)(o:eT a N (gM f b c aE d) b J e (XK F)):Calls TP 113 #[pt N 0,.agg (gM f b c aE d),Xo M ak,Xo M aL] a (uM 7 a):=by
 have m:=Xv o;go_enter Tryz.func113,Tryz.ntmps113
 go_wp2_with (first
  |(go_at_call 95;refine m.out.mono ?_;rintro n x⟨p,q,rfl,h,i⟩;have g:=cU h;have u:=aa g 0 A;have v:=aa g 2 A;have w:=aa g 3 A;have l:=Xv (i A);have k:=Xv h;clear h g i)
  |(go_at_call 96;refine l.out.mono ?_;rintro n y⟨rfl,rfl⟩))
 go_ret3;exact⟨A,bd k.out⟩
theorem Pt(v:((e:Xt)==0)=Xp)(l:eT a N (gM 4 b c aE d) b J e (pt S 0)){m:Xt}(r:S<a.heap.size)(i:a.cell? ⟨S,4,F⟩=C (Xo M m))(w:(aE !=-1)=J)(x:(aE !=m)=J):Calls TP 113 #[pt N 0,.agg (gM 4 b c aE d),Xo M ak,Xo M aL] a (uM 9 a):=by
 have h:=Xv l;unfold eT at h;clear l;have o:=Xv i;clear i;go_enter Tryz.func113,Tryz.ntmps113
 go_wp2_with (first
  |(go_at_call 95;refine h.out.mono ?_;rintro q H⟨s,t,rfl,f,k⟩;have g:=cU f;have y:=aa g 0 A;have z:=aa g 2 A;have D:=aa g 3 A;have u:=bZ (bG f S r) o.out;have p:=Xv (k A);have n:=Xv f;clear f g k)
  |(go_at_call 96;refine p.out.mono ?_;rintro q L⟨rfl,rfl⟩))
 go_quiet (fail)
 go_wp2
 go_ret3;exact⟨A,vt n.out _⟩
theorem Pu(v:¬16<(c.size:Xt))(l:eT a N (gM 5 b c aE d) b J e (pt S 0)){m:Xt}(r:S<a.heap.size)(i:a.cell? ⟨S,4,F⟩=C (Xo M m))(w:(aE !=-1)=J)(x:(aE !=m)=J):Calls TP 113 #[pt N 0,.agg (gM 5 b c aE d),Xo M ak,Xo M aL] a (uM 9 a):=by
 have h:=Xv l;unfold eT at h;clear l;have o:=Xv i;clear i;go_enter Tryz.func113,Tryz.ntmps113
 go_wp2_with (first
  |(go_at_call 95;refine h.out.mono ?_;rintro q H⟨s,t,rfl,f,k⟩;have g:=cU f;have y:=aa g 0 A;have z:=aa g 2 A;have D:=aa g 3 A;have u:=bZ (bG f S r) o.out;have p:=Xv (k A);have n:=Xv f;clear f g k)
  |(go_at_call 96;refine p.out.mono ?_;rintro q L⟨rfl,rfl⟩))
 go_quiet (fail)
 go_wp2
 go_ret3;exact⟨A,vt n.out _⟩
theorem Pv(w:(f==3)=Xp)(x:(f==4)=Xp)(y:(f==5)=Xp)(m:eT a N (gM f b c aE d) b J e (pt S 0)){n:Xt}(s:S<a.heap.size)(k:a.cell? ⟨S,4,F⟩=C (Xo M n))(z:(aE !=-1)=J)(D:(aE !=n)=J):Calls TP 113 #[pt N 0,.agg (gM f b c aE d),Xo M ak,Xo M aL] a (uM 9 a):=by
 have i:=Xv m;unfold eT at i;clear m;have p:=Xv k;clear k;go_enter Tryz.func113,Tryz.ntmps113
 go_wp2_with (first
  |(go_at_call 95;refine i.out.mono ?_;rintro r Q⟨t,u,rfl,g,l⟩;have h:=cU g;have H:=aa h 0 A;have L:=aa h 2 A;have O:=aa h 3 A;have v:=bZ (bG g S s) p.out;have q:=Xv (l A);have o:=Xv g;clear g h l)
  |(go_at_call 96;refine q.out.mono ?_;rintro r R⟨rfl,rfl⟩))
 go_quiet (fail)
 go_wp2
 go_ret3;exact⟨A,vt o.out _⟩
end
structure ER(a:K)(S s:E)(d c:Xt):Prop where
 lt:S<a.heap.size
 aE:a.cell? ⟨S,4,F⟩=C (Xo M d)
 mp:a.cell? ⟨S,11,F⟩=C (.map (C s))
 len:∀l:K,(∀k,k<a.heap.size->l.heap[k]?=a.heap[k]?)->(Builtin.len_ #[188] 3 #[.map (C s)]).run TP l=.ok (Xo M c) l
theorem ER.lens{e:K}{k:Obj}{d c:Xt}(g:ER a S s d c)(i:Below (a.heap.size+1) (a.alloc k) e):∀b,(Builtin.len_ #[188] 3 #[.map (C s)]).run TP (e.drewN b)=.ok (Xo M c) (e.drewN b):=λb=>g.len (e.drewN b) λf h=>bG i f h
def Lq(b:XM)(a:K)(c:Ending)(d:K):Prop:=c=XB (.tuple #[.string b,Xw F 0 0,.nilIface])/\Below a.heap.size a d
section
variable{e aE g aL d c:Xt}{b f:XM}{h:E}{i:Xn}
theorem Hl(x:((h:Xt)==0)=Xp)(p:eT a N (gM 4 b f aE g) b J h (pt S 0))(n:ER a S s d c)(l:(aE !=-1)=Xp\/(aE !=-1)=J/\(aE !=d)=Xp)(D:0<c):Calls TP 113 #[pt N 0,.agg (gM 4 b f aE g),Xo M ak,Xo M aL] a (uM 10 a):=by
 rcases l with l|⟨l,z⟩
 all_goals
  have m:=Xv p;have i:=Xv n;unfold eT at m;clear p n;go_enter Tryz.func113,Tryz.ntmps113
  go_wp2_with (first
   |(go_at_call 95;refine m.out.mono ?_;rintro t R⟨u,v,rfl,e,o⟩;have k:=cU e;have H:=aa k 0 A;have L:=aa k 1 A;have O:=aa k 2 A;have Q:=aa k 3 A;have c4:=bZ (bG e S i.out.lt) i.out.aE;have w:=bZ (bG e S i.out.lt) i.out.mp;have y:=i.out.lens e;have r:=Xv (o A);have q:=Xv e;clear e k o)
   |(go_at_call 96;refine r.out.mono ?_;rintro t T⟨rfl,rfl⟩))
  go_quiet (fail)
  go_wp2
  go_ret3;exact⟨A,vt q.out _⟩
theorem Hm(y:(e==3)=Xp)(z:(e==4)=Xp)(D:(e==5)=Xp)(q:eT a N (gM e b f aE g) b J h (pt S 0))(o:ER a S s d c)(m:(aE !=-1)=Xp\/(aE !=-1)=J/\(aE !=d)=Xp):Calls TP 113 #[pt N 0,.agg (gM e b f aE g),Xo M ak,Xo M aL] a (Lq b a):=by
 rcases m with m|⟨m,L⟩
 all_goals
  have n:=Xv q;have k:=Xv o;unfold eT at n;clear q o;go_enter Tryz.func113,Tryz.ntmps113
  go_wp2_with (first
   |(go_at_call 95;refine n.out.mono ?_;rintro u U⟨v,w,rfl,i,p⟩;have l:=cU i;have O:=aa l 0 A;have Q:=aa l 1 A;have R:=aa l 2 A;have T:=aa l 3 A;have c4:=bZ (bG i S k.out.lt) k.out.aE;have x:=bZ (bG i S k.out.lt) k.out.mp;have H:=k.out.lens i;have t:=Xv (p A);have r:=Xv i;clear i l p)
   |(go_at_call 96;refine t.out.mono ?_;rintro u W⟨rfl,rfl⟩))
  go_quiet (fail)
  go_wp2
  go_ret3;exact⟨A,vt r.out _⟩
end
def QV(b:XM)(c:K->E->K->Prop)(a:K)(g:Ending)(h:K):Prop:=∃f e,a.heap.size<=e.heap.size/\(∀d,d<a.heap.size->e.heap[d]?=a.heap[d]?)/\g=XB (.tuple #[.string b,Xw (C ⟨f,0,F⟩) 2 2,.nilIface])/\c e f h
section
variable{i aE f aL h g:Xt}{b e:XM}{d:E}{c:K->E->K->Prop}
theorem Mk(Z:((d:Xt)==0)=Xp)(L:eT a N (gM 4 b e aE f) b J d (pt S 0))(x:ER a S s h g)(u:(aE !=-1)=Xp\/(aE !=-1)=J/\(aE !=h)=Xp)(a5:¬0<g)
 (y:∀k:K,(∀i,i<a.heap.size->k.heap[i]?=a.heap[i]?)->a.heap.size<k.heap.size->Calls TP 153 #[pt N 0,pt S 0] k λp q=>∃l,p=XB (Xw (C ⟨l,0,F⟩) 2 2)/\k.heap.size<=l/\l<q.heap.size/\k.heap.size<=q.heap.size/\q.heap[a.heap.size]?=k.heap[a.heap.size]?/\c k l q):
 Calls TP 113 #[pt N 0,.agg (gM 4 b e aE f),Xo M ak,Xo M aL] a (QV b c a):=by
 rcases u with u|⟨u,a4⟩
 all_goals
  have v:=Xv L;have o:=Xv x;have R:=Xv y;unfold eT at v;clear L x y;go_enter Tryz.func113,Tryz.ntmps113
  go_wp2_with (first
   |(go_at_call 95;refine v.out.mono ?_;rintro p Q⟨i,X,rfl,m,H⟩;have n:=cU m;have a6:=aa n 0 A;have a7:=aa n 1 A;have a9:=aa n 2 A;have b0:=aa n 3 A;have c4:=bZ (bG m S o.out.lt) o.out.aE;have Y:=bZ (bG m S o.out.lt) o.out.mp;have a3:=o.out.lens m;have U:=Xv (H A);have r:=Xv m;have w:=Xv n;clear m n H)
   |(go_at_call 96;refine U.out.mono ?_;rintro p k⟨rfl,rfl⟩))
  go_quiet (fail)
  have W:=Xv (R.out (Q.drewN nq) (λi t=>bG r.out i t) (XZ.1 w.out).1)
  go_wp2_with (go_at_call 153;refine W.out.mono ?_;rintro p b1⟨l,rfl,a0,a1,a2,z,D⟩;have O:=z.trans w.out;have a8:=aa O 1 A;clear O;have T:=Xv D;clear z D)
  go_ret3;exact⟨l,Q.drewN nq,(bd r.out).size,λi t=>bG r.out i t,A,T.out⟩
end
variable{c:K}{k:E}{n:Xn}{d:E}
structure LJ(a:K)(S b:E)(f e i:XM)(r g t:Xt):Prop where
 ne:S≠b
 p0:a.cell? ⟨b,0,F⟩=C (Xo M 5)
 p1:a.cell? ⟨b,1,F⟩=C (.string f)
 p2:a.cell? ⟨b,2,F⟩=C (.string e)
 n1:a.cell? ⟨S,1,F⟩=C (.string i)
 n3:a.cell? ⟨S,3,F⟩=C (Xo M r)
 n4:a.cell? ⟨S,4,F⟩=C (Xo M g)
 n7:a.cell? ⟨S,7,F⟩=C (Xo M t)
 f1:a.frozen? ⟨S,1,F⟩=Xp
 f3:a.frozen? ⟨S,3,F⟩=Xp
 f4:a.frozen? ⟨S,4,F⟩=Xp
 f7:a.frozen? ⟨S,7,F⟩=Xp
abbrev setW(a:K)(S:E)(e:XM)(aL aE:Xt):K:=(((a.setCell ⟨S,1,F⟩ (.string e)).setCell ⟨S,3,F⟩ (Xo M aL)).setCell ⟨S,4,F⟩ (Xo M (aE+1))).setCell ⟨S,7,F⟩ (Xo M e.size)
theorem uA{a:E}(b:c.cell? ⟨k,a,F⟩=C n):k<c.heap.size:=by grind [World.cell?]
theorem Re{a:E}(b:k≠d):(c.setCell ⟨k,a,F⟩ n).cell? ⟨d,m,F⟩=c.cell? ⟨d,m,F⟩:=by simp_all [K.cell?,ai,Zh]
def QW(f e:XM)(aL g:Xt)(S:E)(h:K->K->Prop)(c:K)(i:Ending)(k:K):Prop:=∃a b,c.heap.size<=a.heap.size/\(∀d,d<c.heap.size->a.heap[d]?=c.heap[d]?)/\h a b/\i=XB (.tuple #[.string f,Xw (C ⟨b.heap.size,0,F⟩) 1 1,.nilIface])/\k=(setW b S e aL g).alloc (.cells #[Xo M 3,.string f] 269)
section
variable{q aE l aL g p:Xt}{f e:XM}{o:E}{h:K->K->Prop}
theorem Mo(c9:¬16<(e.size:Xt))(Q:eT c N (gM 5 f e aE l) f J o (pt S 0))(z:ER c S s g p)(u:(aE !=-1)=Xp\/(aE !=-1)=J/\(aE !=g)=Xp)(d0:0<=g/\g<2^62)
 (D:∀a:K,(∀d,d<c.heap.size->a.heap[d]?=c.heap[d]?)->c.heap.size<=a.heap.size->Calls TP 157 #[pt N 0,pt S 0] a λq R=>q=XB (.tuple #[])/\(c.heap.size<a.heap.size->a.heap[c.heap.size]?=C (Xx (gM 5 f e aE l) 28 (0,0))->∃U W X,LJ R S c.heap.size f e U W g X)/\h a R):
 Calls TP 113 #[pt N 0,.agg (gM 5 f e aE l),Xo M ak,Xo M aL] c (QW f e aL g S h c):=by
 rcases u with u|⟨u,d2⟩
 all_goals
  have v:=Xv Q;have b:=Xv z;have Y:=Xv D;unfold eT at v;clear Q z D;go_enter Tryz.func113,Tryz.ntmps113
  go_wp2_with (first
   |(go_at_call 95;refine v.out.mono ?_;rintro q T⟨d,c7,rfl,i,L⟩;have k:=cU i;have b8:=aa k 0 A;have b9:=aa k 1 A;have c0:=aa k 2 A;have c6:=aa k 3 A;have c4:=bZ (bG i S b.out.lt) b.out.aE;have a1:=bZ (bG i S b.out.lt) b.out.mp;have b4:=b.out.lens i;have a0:=Xv (L A);have n:=Xv i;have w:=Xv k;clear i k L)
   |(go_at_call 96;refine a0.out.mono ?_;rintro q a⟨rfl,rfl⟩))
  go_quiet (fail)
  have b3:=Xv (Y.out (T.drewN nq) (λd t=>bG n.out d t) (bd n.out).size);have d3:S≠c.heap.size:=by have:=b.out.lt;omega
  have b6:=(XZ.1 w.out).1
  go_upto_region 24 with(go_at_call 157;refine b3.out.mono ?_;rintro q m⟨rfl,O,H⟩;obtain⟨U,W,X,b2⟩:=O b6 w.out;obtain⟨c8,a2,y,a5,a6,a7,a8,a9,b0,b1,a3,a4⟩:=b2;have Z:=Xv H;clear O H c4 a1 b4 b8 b9 c0 c6)
  go_upto_region 25 with fail
  go_upto_region 26 with fail
  go_upto_region 27 with fail
  go_upto_region 28 with fail
  have b5:=uA y
  have b7:((setW m S e aL g).alloc (.cells #[Xo M 3,.string f] 269)).cell? ⟨c.heap.size,1,F⟩=C (.string f):=by simp_all [YJ,Re]
  have d1:(setW m S e aL g).heap.size=m.heap.size:=by simp
  clear a2 a5 a6 a7 a8 a9 b0 b1 a3 a4
  go_upto_region 29 with fail
  obtain⟨x,r⟩:∃x,((setW m S e aL g).alloc (.cells #[Xo M 3,.string f] 269))=x:=⟨_,A⟩;rw[r]at b7;clear y b5;unfold setW at r
  go_wp2
  go_ret3;exact⟨T.drewN nq,m,(bd n.out).size,λd t=>bG n.out d t,Z.out,A,r.symm⟩
end
end Go.Sv
