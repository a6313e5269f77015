/- Proved here: parts of the proof of the claimed theorem, no conditions; the last text states it -/
import Derived.Test.YtfgpkeppjomkmaaGreatDoorR4
set_option linter.all false
set_option maxRecDepth 100000
set_option maxHeartbeats 16000000
open _root_ renaming rfl->A,Nat->E,List->Xg,Int->Xj,Array->Xk,Bool->Xo,Option->Xp,if_neg->Xx,ByteArray->XB,if_pos->XC
open Option renaming some->C,none->F
open Go renaming undef->I,World->M,Value->Xe,TypeId->Xq,Frame->Xr,Goroutine->Xt,Act->Xu,Addr->Xw,Program->Xy,Sem->Xz,Trace->XD,Event->XF,Code->XG,MapEntry->XH,FuncId->XI,Operand->XJ
open Bool renaming true->J,false->Xf
open Go.Lib renaming hid->Xl
open Go.MemOp renaming ofEvents->XE
open Go.Op renaming operands->XK
open Go.MemAct renaming ofEvent->XM
open Go.IntKind renaming i64->K
open Go.Value renaming int->Xd,slice->Xm,pointer->XA
open Or renaming inl->Xh,inr->Xi
open Go.Obj renaming cells->Xn
open Go.Ending renaming returned->Xs
open Go.Item renaming inRegion->Xv
namespace Go.Sim
open Go.Conc Go.Proofs Go.RowKit
open Go.ConcN (PermW PermW.app PermW.of fork_knows WgLive RelBy sumTo)
open Go.ConcR (KK wgBlock WgAt stA smA rd wr mk DC0)
variable{e:E->Prop}{u:E}{t:E}{c:M}{b:E}{j:E}{D:Xk Oper}{s:E}{d:Xg Item}{Q:Xg Xr}{m:Ren}{h:Xu}{g:Xu}
section
variable[Inhabited aM]
structure IU(o:WD)(e:E->Prop)(l:M)(q p r u t a0 x T X N v:E)(U:Xe)(y:E->XB)(f:E->Xk Xe->Xe->M->Prop):Prop where
 x3:e q
 h3:∃k a,l.heap[q]?=C (Xn #[Xm (C ⟨T,X,F⟩) t a0] k a)
 x2:e p
 h2:∃k a,l.heap[p]?=C (Xn #[pt u 0] k a)
 xc:e u
 hc:∃w k a,l.heap[u]?=C (Xn w k a)/\w[1]?=C (Xd K x)/\w[2]?=C U
 WX:∃a1,U=pt a1 0
 x4:e r
 h4:∃k a,l.heap[r]?=C (Xn #[I] k a)
 xl:e T
 elem:∃w k a,l.heap[T]?=C (Xn w k a)/\∀d,d<t->w[X+d*9+3]?=C (.string (y d))
 look:∀d,d<t->∀c:M,(∀R,e R->c.heap[R]?=l.heap[R]?)->l.heap.size<=c.heap.size->Calls TP 58 #[U,.string (y d)] c λZ Y=>∃i n,Z=Xs (.tuple #[.agg i,n])/\f d i n Y/\Below c.heap.size c Y
 VS:∀d i n(c W:M),f d i n c->(∀S,S<c.heap.size->W.heap[S]?=c.heap[S]?)->c.heap.size<=W.heap.size->f d i n W
 Vg:∀d i n c,f d i n c->i.size=9/\(∀R∈i,wu R=J)/\wu n=J
 gs:o.gs=Xm (C ⟨o.gb,0,F⟩) t t
 gn:o.gn=t*10
 own:∀d,d<t->d%x=N->∀j,j<10->o.own v (d*10+j)
 small:t<2^40
 Vz:1<=x
 Wu:x<2^20
theorem IU.Vf{o:WD}{l:M}{q p r T x w U N v:E}{W:Xe}{y:E->XB}{f:E->Xk Xe->Xe->M->Prop}(n:IU o e l q p r u t T x w U N v W y f){d:E}{i:Xk Xe}{a:Xe}{k:M}(S:k.heap=c.heap)(R:f d i a c):f d i a k:=
 n.VS d i a c k R (λ_ _=>by rw[S]) (by simp_all)
theorem Qz(a:M)(b:Xk XF):(Go.sizeOf 154).runT TP a b=(.ok 9 a,b):=by rfl
theorem Tk(a:M)(b:Xk XF):(Go.sizeOf 65).runT TP a b=(.ok 1 a,b):=by rfl
def WJ(e:E->Prop)(l:M)(V:WV)(H:Xg Deferred)(z q p r:E)(L:M)(f:Xk Xe->Xe->M->Prop)(s:E)(cl:bE)(a:Xk Xo)(i:E×bE)(m:Ren)(c:M)(h g:Xu):Prop:=
 ∃b d,WR e l V H z q p r L f a b d m c h g/\(a.getD 22 Xf=J->a.getD 16 Xf=J)/\(a.getD 25 Xf=J->a.getD 22 Xf=J)/\
  i=if a.getD 25 Xf then(s,cl++[(V.c*10,b)]++[(V.c*10+9,#[d])])else if a.getD 22 Xf then(s+1,cl++[(V.c*10,b)])else(s+2,cl)
theorem ef{a:Xk Xo}(c:j≠b):(a.setIfInBounds b J).getD j Xf=a.getD j Xf:=by simp_all [YX]
theorem getD_eq{a:Xk Xo}(c:b<a.size):(a.setIfInBounds b J).getD b Xf=J:=by simp_all
section
variable{o:WD}{l:M}{z q p r x N v:E}{V:WV}{y:E->XB}{f:E->Xk Xe->Xe->M->Prop}{H:Xg Deferred}{L:M}
variable{fin:bE->M->Prop}{O:∀cl(c:M) R,fin cl {c with tape:=R}->fin cl c}
theorem OE(Z:IU o e l q p r V.cb V.n V.nc x V.bl V.off N v V.tp y f)(c7:V.c<V.n)(e5:V.c%x=N)(g7:V.path=y V.c)(c8:V.gb=o.gb)(e6:V.gv=o.gv)
 (f0:D.size=26)(g3:Bz D=J)(g2:∀{a4:Xk Xo}{b:E},b∈Region.ready .any D a4->∀j∈dq b,a4.getD j Xf=J)
 (g9:bN D 0 (C 18) (.load 141 (.tmp 4)))(h0:bN D 1 (C 19) (.move (.tmp 5)))(i1:bN D 2 (C 20) (.load 141 (.tmp 4)))(i8:bN D 3 (C 21) (.move (.tmp 5)))(i9:bN D 4 (C 22) (.load 76 (.tmp 3)))(j0:bN D 5 (C 23) (.nilCheck (.tmp 22)))(j1:bN D 6 (C 24) (.fieldAddr 98 (.tmp 23) 2))(j2:bN D 7 (C 25) (.load 94 (.tmp 24)))(j3:bN D 8 (C 26) (.load 103 (.tmp 2)))(j4:bN D 9 (C 27) (.move (.tmp 5)))(h1:bN D 10 (C 28) (.indexAddr 103 (.tmp 26) (.tmp 27)))(h2:bN D 11 (C 29) (.fieldAddr 107 (.tmp 28) 0))(h3:bN D 12 (C 30) (.fieldAddr 105 (.tmp 29) 1))(h4:bN D 13 (C 31) (.fieldAddr 31 (.tmp 30) 1))(h5:bN D 14 (C 32) (.fieldAddr 28 (.tmp 31) 1))(h6:bN D 15 (C 33) (.load 9 (.tmp 32)))(h7:bN D 16 (C 34) (.call {callee:=.value (.func 58),args:=#[.tmp 25,.tmp 33],argTypes:=#[94,9]}))(h8:bN D 17 (C 17) (.move (.tmp 34)))(h9:bN D 18 (C 35) (.extract (.tmp 17) 0))(i0:bN D 19 (C 36) (.extract (.tmp 17) 1))(i2:bN D 20 (C 37) (.indexAddr 141 (.tmp 18) (.tmp 19)))(i3:bN D 21 (C 38) (.fieldAddr 158 (.tmp 37) 0))(i4:bN D 22 F (.store 154 (.tmp 38) (.tmp 35)))(i5:bN D 23 (C 39) (.indexAddr 141 (.tmp 20) (.tmp 21)))(i6:bN D 24 (C 40) (.fieldAddr 158 (.tmp 39) 1))(i7:bN D 25 F (.store 65 (.tmp 40) (.tmp 36)))
 {cl:bE}(g1:∀W∈cl,W.1+W.2.size<=V.c*10){id:E}{f3:Xk Xe}{e1:Xe}(d3:WR e l V H z q p r L (f V.c) (Array.replicate 26 Xf) f3 e1 m c h g)
 (next:∀S k m c h g a4,WR e l V H z q p r L (f V.c) a4 S k m c h g->f V.c S k c->(iX TP o fin O v aW e (s,cl++[(V.c*10,S)]++[(V.c*10+9,#[k])])).G m c (rg ((baseD 56).at g (Xv D []::d)) Q)):
 (iX TP o fin O v aW e (s+2,cl)).G m c (rg ((baseD 56).at g (.code (.region id D J)::d)) Q):=by
 refine Hl (c:=λb6=>iX TP o fin O v aW e b6) lx g3 (WJ e l V H z q p r L (f V.c) s cl) ?_ ?_ (b:=(s+2,cl)) (s:=h) ?_
 .intro a4 b j6 k2 e7 c9 b6 m c h g f8;have U:=g2 e7;obtain⟨e8,g6,-⟩:=ls.1 e7;rw[f0]at e8;have a1:∀S k,∀c n:M,n.heap=c.heap->f V.c S k c->f V.c S k n:=λS k c n w d3=>Z.Vf w d3;have b4:b<a4.size:=by omega
  have b2:a4.getD b Xf=Xf:=by simp_all
  obtain⟨S,k,a,f6,e3,b5⟩:=f8
  have a0:b≠22->b≠25->b≠16->∀m c h g,WR e l V H z q p r L (f V.c) (a4.setIfInBounds b J) S k m c h g->(iX TP o fin O v aW e b6).G m c (rg ((baseD 56).at g (Xv D j6::d)) Q):=by
   intro e2 f5 f7 m c h g d4;refine c9 b6 m c h g ⟨S,k,d4,?_,?_,?_⟩
   .rw[ef (YX e2),ef (YX f7)];exact f6
   .rw[ef (YX e2),ef (YX f5)];exact e3
   simp_all
  have c6:∀{b0:E}{b7:Xk Xe}{b3:Xq}{b1:E×E}{j:E}{T:Xe},e b0->l.heap[b0]?=C (Xn b7 b3 b1)->b7[j]?=C T->∀X:M,X.heap=c.heap->X.cell? ⟨b0,j,F⟩=C T:=by
   intro b0 b7 b3 b1 j T f9 a3 c0 X g8;have:X.heap[b0]?=C (Xn b7 b3 b1):=by rw[g8,a.keep b0 f9,a3]
   simp_all [M.cell?]
  have k3:=Z.small;have g0:b=0\/b=1\/b=2\/b=3\/b=4\/b=5\/b=6\/b=7\/b=8\/b=9\/b=10\/b=11\/b=12\/b=13\/b=14\/b=15\/b=16\/b=17\/b=18\/b=19\/b=20\/b=21\/b=22\/b=23\/b=24\/b=25:=by omega
  clear g6 e8;rcases g0 with rfl|rfl|rfl|rfl|rfl|rfl|rfl|rfl|rfl|rfl|rfl|rfl|rfl|rfl|rfl|rfl|rfl|rfl|rfl|rfl|rfl|rfl|rfl|rfl|rfl|rfl
  ·
   obtain⟨b3,b1,a3⟩:=Z.h4;exact OD (λn w=>a1 S k _ n w) g9 b4 b2 (by omega) (by simp[wT]) (by simp[wK]) (by omega) e6.symm (by rw[Z.gs,c8]) a3 Z.x4 a (a0 (by decide) (by decide) (by decide))
  ·
   obtain⟨d0,d1,d2⟩:=cB a.t5;refine eX (λn w=>a1 S k _ n w) h0 (by rfl) (by decide) (by decide) (v:=Xd K V.c) (by simp[wT]) (by omega) a (λX i R W Y=>?_) (a0 (by decide) (by decide) (by decide))
   go_wp2
   first|exact⟨rfl,i⟩|exact i|skip
  ·
   obtain⟨b3,b1,a3⟩:=Z.h4;exact OD (λn w=>a1 S k _ n w) i1 b4 b2 (by omega) (by simp[wT]) (by simp[wK]) (by omega) e6.symm (by rw[Z.gs,c8]) a3 Z.x4 a (a0 (by decide) (by decide) (by decide))
  ·
   obtain⟨d0,d1,d2⟩:=cB a.t5;refine eX (λn w=>a1 S k _ n w) i8 (by rfl) (by decide) (by decide) (v:=Xd K V.c) (by simp[wT]) (by omega) a (λX i R W Y=>?_) (a0 (by decide) (by decide) (by decide))
   go_wp2
   first|exact⟨rfl,i⟩|exact i|skip
  ·
   obtain⟨d0,d1,d2⟩:=cB a.t3;obtain⟨b3,b1,a3⟩:=Z.h2;have a5:=c6 (j:=0) Z.x2 a3 A;refine eX (λn w=>a1 S k _ n w) i9 (by rfl) (by decide) (by decide) (v:=pt V.cb 0) (by simp[wT]) (by omega) a (λX i R W Y=>?_) (a0 (by decide) (by decide) (by decide));replace a5:=a5 X i
   go_wp2
   first|exact⟨rfl,i⟩|exact i|skip
  ·
   obtain⟨a6,a7,a8⟩:=a.eval (i:=4) (d:=22) (v:=pt V.cb 0) (by simp[wT]) (U 4 (by simp[dq]));refine eX (λn w=>a1 S k _ n w) j0 (by rfl) (by decide) (by decide) (v:=pt V.cb 0) (by simp[wT]) (by omega) a (λX i R W Y=>?_) (a0 (by decide) (by decide) (by decide))
   go_wp2
   first|exact⟨rfl,i⟩|exact i|skip
  ·
   obtain⟨a6,a7,a8⟩:=a.eval (i:=5) (d:=23) (v:=pt V.cb 0) (by simp[wT]) (U 5 (by simp[dq]));refine eX (λn w=>a1 S k _ n w) j1 (by rfl) (by decide) (by decide) (v:=pt V.cb 2) (by simp[wT]) (by omega) a (λX i R W Y=>?_) (a0 (by decide) (by decide) (by decide))
   go_wp2
   first|exact⟨rfl,i⟩|exact i|skip
  ·
   obtain⟨a6,a7,a8⟩:=a.eval (i:=6) (d:=24) (v:=pt V.cb 2) (by simp[wT]) (U 6 (by simp[dq]));obtain⟨b7,b3,b1,a3,_,c0⟩:=Z.hc;have a5:=c6 Z.xc a3 c0;refine eX (λn w=>a1 S k _ n w) j2 (by rfl) (by decide) (by decide) (v:=V.tp) (by simp[wT]) (by omega) a (λX i R W Y=>?_) (a0 (by decide) (by decide) (by decide));replace a5:=a5 X i
   go_wp2
   first|exact⟨rfl,i⟩|exact i|skip
  ·
   obtain⟨d0,d1,d2⟩:=cB a.t2;obtain⟨b3,b1,a3⟩:=Z.h3;have a5:=c6 (j:=0) Z.x3 a3 A;refine eX (λn w=>a1 S k _ n w) j3 (by rfl) (by decide) (by decide) (v:=Xm (C ⟨V.bl,V.off,F⟩) V.n V.nc) (by simp[wT]) (by omega) a (λX i R W Y=>?_) (a0 (by decide) (by decide) (by decide));replace a5:=a5 X i
   go_wp2
   first|exact⟨rfl,i⟩|exact i|skip
  ·
   obtain⟨d0,d1,d2⟩:=cB a.t5;refine eX (λn w=>a1 S k _ n w) j4 (by rfl) (by decide) (by decide) (v:=Xd K V.c) (by simp[wT]) (by omega) a (λX i R W Y=>?_) (a0 (by decide) (by decide) (by decide))
   go_wp2
   first|exact⟨rfl,i⟩|exact i|skip
  ·
   obtain⟨a6,a7,a8⟩:=a.eval (i:=8) (d:=26) (v:=Xm (C ⟨V.bl,V.off,F⟩) V.n V.nc) (by simp[wT]) (U 8 (by simp[dq]));obtain⟨k4,k5,k6⟩:=a.eval (i:=9) (d:=27) (v:=Xd K V.c) (by simp[wT]) (U 9 (by simp[dq]));refine eX (λn w=>a1 S k _ n w) h1 (by rfl) (by decide) (by decide) (v:=pt V.bl (V.off+V.c*9)) (by simp[wT]) (by omega) a (λX i R W Y=>?_) (a0 (by decide) (by decide) (by decide))
   go_wp2
   first|exact⟨rfl,i⟩|exact i|skip
  ·
   obtain⟨a6,a7,a8⟩:=a.eval (i:=10) (d:=28) (v:=pt V.bl (V.off+V.c*9)) (by simp[wT]) (U 10 (by simp[dq]));refine eX (λn w=>a1 S k _ n w) h2 (by rfl) (by decide) (by decide) (v:=pt V.bl (V.off+V.c*9)) (by simp[wT]) (by omega) a (λX i R W Y=>?_) (a0 (by decide) (by decide) (by decide))
   go_wp2
   first|exact⟨rfl,i⟩|exact i|skip
  ·
   obtain⟨a6,a7,a8⟩:=a.eval (i:=11) (d:=29) (v:=pt V.bl (V.off+V.c*9)) (by simp[wT]) (U 11 (by simp[dq]));refine eX (λn w=>a1 S k _ n w) h3 (by rfl) (by decide) (by decide) (v:=pt V.bl (V.off+V.c*9+1)) (by simp[wT]) (by omega) a (λX i R W Y=>?_) (a0 (by decide) (by decide) (by decide))
   go_wp2
   first|exact⟨rfl,i⟩|exact i|skip
  ·
   obtain⟨a6,a7,a8⟩:=a.eval (i:=12) (d:=30) (v:=pt V.bl (V.off+V.c*9+1)) (by simp[wT]) (U 12 (by simp[dq]));refine eX (λn w=>a1 S k _ n w) h4 (by rfl) (by decide) (by decide) (v:=pt V.bl (V.off+V.c*9+1+1)) (by simp[wT]) (by omega) a (λX i R W Y=>?_) (a0 (by decide) (by decide) (by decide))
   go_wp2
   first|exact⟨rfl,i⟩|exact i|skip
  ·
   obtain⟨a6,a7,a8⟩:=a.eval (i:=13) (d:=31) (v:=pt V.bl (V.off+V.c*9+1+1)) (by simp[wT]) (U 13 (by simp[dq]));refine eX (λn w=>a1 S k _ n w) h5 (by rfl) (by decide) (by decide) (v:=pt V.bl (V.off+V.c*9+1+1+1)) (by simp[wT]) (by omega) a (λX i R W Y=>?_) (a0 (by decide) (by decide) (by decide))
   go_wp2
   first|exact⟨rfl,i⟩|exact i|skip
  ·
   obtain⟨a6,a7,a8⟩:=a.eval (i:=14) (d:=32) (v:=pt V.bl (V.off+V.c*9+1+1+1)) (by simp[wT]) (U 14 (by simp[dq]));obtain⟨b7,b3,b1,a3,c0⟩:=Z.elem;have a5:=c6 Z.xl a3 (c0 V.c c7);refine eX (λn w=>a1 S k _ n w) h6 (by rfl) (by decide) (by decide) (v:=.string V.path) (by simp[wT]) (by omega) a (λX i R W Y=>?_) (a0 (by decide) (by decide) (by decide));replace a5:=a5 X i
   go_wp2
   first|exact⟨rfl,i⟩|exact i|skip
  ·
   refine Tw h7 b2 (U 7 (by simp[dq])) (U 15 (by simp[dq])) (by rw[g7];exact Z.look V.c c7) a1 a λj7 f4 m c h g d4=>c9 b6 m c h g ⟨j7,f4,d4,?_,?_,?_⟩
   .intro _;exact getD_eq b4
   .rw[ef (by decide),ef (by decide)];exact e3
   simp_all
  ·
   obtain⟨a6,a7,a8⟩:=a.eval (i:=16) (d:=34) (v:=.tuple #[.agg S,k]) (by simp[wT]) (U 16 (by simp[dq]));refine eX (λn w=>a1 S k _ n w) h8 (by rfl) (by decide) (by decide) (v:=.tuple #[.agg S,k]) (by simp[wT]) (by simp_all [dq]) a (λX i R W Y=>?_) (a0 (by decide) (by decide) (by decide))
   go_wp2
   first|exact⟨rfl,i⟩|exact i|skip
  ·
   obtain⟨a6,a7,a8⟩:=a.eval (i:=17) (d:=17) (v:=.tuple #[.agg S,k]) (by simp[wT]) (U 17 (by simp[dq]));refine eX (λn w=>a1 S k _ n w) h9 (by rfl) (by decide) (by decide) (v:=.agg S) (by simp[wT]) (by intro _;exact a.ord 17 (Xh A) (U 17 (by simp[dq]))) a (λX i R W Y=>?_) (a0 (by decide) (by decide) (by decide))
   go_wp2
   first|exact⟨rfl,i⟩|exact i|skip
  ·
   obtain⟨a6,a7,a8⟩:=a.eval (i:=17) (d:=17) (v:=.tuple #[.agg S,k]) (by simp[wT]) (U 17 (by simp[dq]));refine eX (λn w=>a1 S k _ n w) i0 (by rfl) (by decide) (by decide) (v:=k) (by simp[wT]) (by intro _;exact a.ord 17 (Xh A) (U 17 (by simp[dq]))) a (λX i R W Y=>?_) (a0 (by decide) (by decide) (by decide))
   go_wp2
   first|exact⟨rfl,i⟩|exact i|skip
  ·
   refine uB i2 b4 b2 (by omega) (by simp[wT]) (c:=V.gb) (o:=V.c*10) (by simp[wK]) (by omega) a (λb8 R W Y=>?_) (a0 (by decide) (by decide) (by decide));have a9:=a.yr (i:=0) (d:=18) (v:=Xm (C ⟨V.gb,0,F⟩) V.n V.n) (by simp[wK]) (U 0 (by simp[dq]));have j5:=yC a.rel (a.tab (1,19,Xd K V.c) (by simp[wT]) (U 1 (by simp[dq])))
   grind [yY,cB]
  ·
   refine uB i3 b4 b2 (by omega) (by simp[wT]) (c:=V.gb) (o:=V.c*10+9*0) (by simp[wK]) (by omega) a (λb8 R W Y=>?_) (a0 (by decide) (by decide) (by decide));have a9:=a.yr (i:=20) (d:=37) (v:=pt V.gb (V.c*10)) (by simp[wK]) (U 20 (by simp[dq]));exact yX (by omega) (cB a9).1 b8 R W Y
  ·
   have d7:=U 18 (by simp[dq]);have b9:=a.ord 18 (Xi (Xh A)) d7;obtain⟨f1,f2,d6⟩:=Z.Vg _ _ _ _ (a.sn b9);have e0:a4.getD 25 Xf=Xf:=by simp_all
   rw[e0,b2]at b5;subst b5;have a9:=a.yr (i:=21) (d:=38) (v:=pt V.gb (V.c*10)) (by simp[wK]) (U 21 (by simp[dq]));rw[c8]at a9;refine IE (s:=s+1) i4 Qz a.rel a9 (a.tab (18,35,.agg S) (by simp[wT]) d7) f1 f2 (by rw[Z.gn];omega) (λj g5=>Z.own V.c c7 e5 j (by omega)) (λW e9=>Xh (g1 W e9)) ?_;refine c9 _ m c h g ⟨S,k,a.done (Xh A),?_,?_,?_⟩
   .simp_all
   .simp_all
   rw[ef (by decide),e0,getD_eq b4];rfl
  ·
   refine uB i5 b4 b2 (by omega) (by simp[wT]) (c:=V.gb) (o:=V.c*10) (by simp[wK]) (by omega) a (λb8 R W Y=>?_) (a0 (by decide) (by decide) (by decide));have a9:=a.yr (i:=2) (d:=20) (v:=Xm (C ⟨V.gb,0,F⟩) V.n V.n) (by simp[wK]) (U 2 (by simp[dq]));have j5:=yC a.rel (a.tab (3,21,Xd K V.c) (by simp[wT]) (U 3 (by simp[dq])))
   grind [yY,cB]
  ·
   refine uB i6 b4 b2 (by omega) (by simp[wT]) (c:=V.gb) (o:=V.c*10+9*1) (by simp[wK]) (by omega) a (λb8 R W Y=>?_) (a0 (by decide) (by decide) (by decide));have a9:=a.yr (i:=23) (d:=39) (v:=pt V.gb (V.c*10)) (by simp[wK]) (U 23 (by simp[dq]));exact yX (by omega) (cB a9).1 b8 R W Y
  ·
   have d9:=U 22 (by simp[dq]);have d8:=U 19 (by simp[dq]);have b9:=a.ord 19 (Xi (Xi A)) d8;obtain⟨f1,f2,d6⟩:=Z.Vg _ _ _ _ (a.sn b9);rw[b2,d9]at b5;subst b5;have a9:=a.yr (i:=24) (d:=40) (v:=pt V.gb (V.c*10+9)) (by simp[wK]) (U 24 (by simp[dq]));rw[c8]at a9;have g4:k.cells=#[k]:=by generalize k=Y at d6;cases Y<;>first|rfl|(cases d6;done)
   refine IE (s:=s) i7 Tk a.rel a9 (a.tab (19,36,k) (by simp[wT]) d8) (by rw[g4];rfl) (by simp_all) (by rw[Z.gn];omega) (λj g5=>by have:=Z.own V.c c7 e5 (9+j) (by omega);simp_all) (λW e9=>?_) ?_
   .grind
   refine c9 _ m c h g ⟨S,k,a.done (Xi A),?_,?_,?_⟩
   .intro _;rw[ef (by decide)];exact b9
   .intro _;rw[ef (by decide)];exact d9
   simp_all
 .rintro a4 e4 b6 m c h g⟨S,k,a,_,_,b5⟩;rw[e4 25 (by omega)]at b5;subst b5;exact next S k m c h g a4 a (a.sn (e4 16 (by omega)))
 rw[f0];refine⟨f3,e1,d3,?_,?_,?_⟩
 .simp
 .simp
 rfl
end
variable{P:Xy}{h:Set}{f:E->Prop}{o:M}{R:Xr}{e:Xg Item}{S:Xg Xr}{Z:E}{U:Xg E}{p:Xu}{H:Xu}{d:E}{z:E->Prop}
theorem LJ{a5:Type}{p:Xk a5}(a:p.size=41):∃c d q H Y a0 a1 a2 a3 a4 e f g h i k l m n o r s t u v w x y z D L N O Q R S T U W X Z,p=#[c,d,q,H,Y,a0,a1,a2,a3,a4,e,f,g,h,i,k,l,m,n,o,r,s,t,u,v,w,x,y,z,D,L,N,O,Q,R,S,T,U,W,X,Z]:=by
 obtain⟨b⟩:=p
 iterate 41
  rcases b with _|⟨_,b⟩
  simp at a
 obtain rfl:=YR.1 (by simpa using a)
 grind
section
variable{main:Xo}
theorem Fc{a:Goal P h main f}{d:XI}{b:Xk XJ}{k:Xk Xq}{g:Xg (E×Xe)}(t:R.kind≠.early)(u:bN D Z F (.defer {callee:=.value (.func d),args:=b,argTypes:=k}))
 (v:ar h m ⟨[],g⟩ p H)(s:p.defers=[])
 (next:∀c,ar h m ⟨[dcall d (b.map H.eval)],g⟩ p c->a.G m o (rg (R.at c (Xv D U::e)) S)):a.G m o (rg (R.at H (Xv D (Z::U)::e)) S):=by
 obtain⟨⟨z,O,T,Q,L,N⟩,l,n,q,r⟩:=u;subst n q r;refine Goal.pure _ A rfl (λi=>?_) (next _ (v.Mx s));exact Go.Conc.stepG_defer (P:=P) (main:=main) (a:=H) (w:=i) (k:=e) (cs:=S) (rest:=U) l A t A
end
def wG(d c a:E):E:=(d-a+c-1)/c
theorem Kt{c a:E}(e:1<=c)(b:wG d c a=0):d<=a:=by unfold wG at b;apply Classical.byContradiction;intro f;rw[E.div_eq_zero_iff]at b;omega
theorem Ks{c a:E}(g:1<=c)(b:wG d c a=s+1):a<d/\wG d c (a+c)=s:=by
 unfold wG at b⊢
 have f:a<d:=by apply Classical.byContradiction;intro h;rw[show d-a+c-1=c-1 by omega,aaI (by omega)]at b;cases b
 refine⟨f,?_⟩;by_cases hd:c<=d-a
 .have e:d-a+c-1=(d-(a+c)+c-1)+c:=by omega
  rw[e,E.add_div_right _ (by omega)]at b;omega
 rw[show d-(a+c)+c-1=c-1 by omega,aaI (by omega)];have e:d-a+c-1=(d-a-1)+c:=by omega
 rw[e,E.add_div_right _ (by omega),aaI (by omega)]at b;omega
section
variable{g:WD}{L:M}{t r v x O c N Q q T:E}{Y:Xe}{W:E->XB}{y:E->Xk Xe->Xe->M->Prop}
def Eg(d c q:E)(y:E->Xk Xe->Xe->M->Prop)(cl:bE)(o:M):Prop:=∀e,e<d->e%c=q->∃b a,(e*10,b)∈cl/\(e*10+9,#[a])∈cl/\y e b a o
theorem zh(b:IU g z L r v x u d O c N Q q T Y W y):∀cl(o:M) a,Eg d c q y cl {o with tape:=a}->Eg d c q y cl o:=λcl o a h e m n=>by obtain⟨p,f,i,k,l⟩:=h e m n;exact⟨p,f,i,k,b.Vf (c:={o with tape:=a}) (k:=o) A l⟩
structure TR(g:WD)(z:E->Prop)(L:M)(t r v x d c q:E)(y:E->Xk Xe->Xe->M->Prop)(n:E)(b:E×bE)(a:E)(cl:bE)(m:Ren)(o:M)(p H:Xu):Prop where
 inv:Inv TP aW z m o
 keep:∀b,z b->o.heap[b]?=L.heap[b]?
 size:L.heap.size<=o.heap.size
 len:p.tmps.size=41
 defs:p.defers=[]
 t1:p.tmps[1]?=C (pt t 0)
 t2:p.tmps[2]?=C (pt r 0)
 t3:p.tmps[3]?=C (pt v 0)
 t4:p.tmps[4]?=C (pt x 0)
 t5:p.tmps[5]?=C (Xd K a)
 rel:ar aW m ⟨[dcall 57 #[pt g.Wg 0]],[(4,pt g.gv 0)]⟩ p H
 hx:b=(2*n,cl)
 hr:n=wG d c a
 mod:a%c=q
 small:a<2^41
 cls:∀k∈cl,k.1+k.2.size<=a*10
 Ui:∀e,e<d->e%c=q->e<a->∃w i,(e*10,w)∈cl/\(e*10+9,#[i])∈cl/\y e w i o
theorem Cx{e a c:E}(d:e%c=a%c)(f:a<=e)(g:e<a+c):e=a:=by obtain⟨b,rfl⟩:∃b,e=a+b:=⟨e-a,by omega⟩;have h:=E.sub_mod_eq_zero_of_mod_eq d;simp_all [Q']
theorem Ek(i:IU g z L r v x u d O c N Q q T Y W y)(m2:q<c)(p2:z t)(k5:∃i7 k1,L.heap[t]?=C (Xn #[Xd K q] i7 k1))(h0:Inv TP aW z m L)(h4:m x g.gv)(l9:g.ty=151)
 {g1 g0 f9:Xe}(i6:an aW m (pt t 0) g1)(i5:an aW m (pt r 0) g0)(i4:an aW m (pt v 0) f9):
 jx TP aW z (tW g) (kV TP g (Eg d c q y) T aW z (2*wG d c q) []) m L (born TP {target:=.fn (.func 56) #[pt g.Wg 0,g1,g0,f9,pt g.gv 0],args:=#[]}):=by
 show(iX TP g (Eg d c q y) (zh i) T aW z (2*wG d c q,[])).G m L _;refine Goal.pure _ A rfl (λg2=>vf Tryz.func56 (by decide) A) ?_;rw[enter_atD _ Tryz.func56 A]
 simp only[Tryz.ntmps56,Yt,Yl,Zd,E.reduceAdd,E.reduceSub,Zh,
  Zi,Zt,Zn,Zj,Yp]
 have i2:=aY (h:=aW) (m:=m)
 have f3:ar aW m ⟨[],[(0,pt g.Wg 0),(4,pt g.gv 0)]⟩ ⟨#[I,pt t 0,pt r 0,pt v 0,pt x 0,I,I,I,I,I,I,I,I,I,I,I,I,I,I,I,I,I,I,I,I,I,I,I,I,I,I,I,I,I,I,I,I,I,I,I,I],[]⟩ ⟨#[pt g.Wg 0,g1,g0,f9,pt g.gv 0,I,I,I,I,I,I,I,I,I,I,I,I,I,I,I,I,I,I,I,I,I,I,I,I,I,I,I,I,I,I,I,I,I,I,I,I],[]⟩:=by
  refine⟨?_,⟨[],A,.nil⟩,by simp⟩;refine aZ.arr (.cons (.bS trivial) (.cons i6 (.cons i5 (.cons i4 (.cons (.ptr ⟨h4,A,A⟩) ?_)))))
  repeat (first|exact .nil|refine .cons i2 ?_)
 generalize (⟨#[pt g.Wg 0,g1,g0,f9,pt g.gv 0,I,I,I,I,I,I,I,I,I,I,I,I,I,I,I,I,I,I,I,I,I,I,I,I,I,I,I,I,I,I,I,I,I,I,I,I],[]⟩:Xu)=H at f3⊢
 have p0:=i.Wu;have p1:=i.small;refine bz (eA ?_);refine Fc (by decide) ⟨_,A,A,A,A⟩ f3 A λj5 e6=>bP (bz ?_)
 have h3:H.eval (.tmp 0)=pt g.Wg 0:=by have:=f3.kn (0,pt g.Wg 0) (by simp);simp_all [cB]
 replace e6:ar aW m ⟨[dcall 57 #[pt g.Wg 0]],[(4,pt g.gv 0)]⟩ ⟨#[I,pt t 0,pt r 0,pt v 0,pt x 0,I,I,I,I,I,I,I,I,I,I,I,I,I,I,I,I,I,I,I,I,I,I,I,I,I,I,I,I,I,I,I,I,I,I,I,I],[]⟩ j5:=by simp only[Zb,YG,Zl,h3]at e6;exact e6.less A (by simp)
 obtain⟨p6,o3,k9⟩:=k5;refine bT gS (by decide) (by decide) (z:=[4]) A (by rfl) h0 e6 (λX a2=>X=⟨#[I,pt t 0,pt r 0,pt v 0,pt x 0,Xd K q,Xd K q,I,I,I,I,I,I,I,I,I,I,I,I,I,I,I,I,I,I,I,I,I,I,I,I,I,I,I,I,I,I,I,I,I,I],[]⟩/\a2.heap=L.heap) (λa6 a0 _ _ _=>?_) (λX a2 a1 l _=>by rw[a1.2]) ?_
 .have h6:a6.cell? ⟨t,0,F⟩=C (Xd K q):=by simp_all [M.cell?]
  go_wp2
  exact⟨A,a0⟩
 rintro q0 _ n9 p9 h1 k3 i1⟨rfl,h8⟩;refine ie ?_
 refine qw (c:=λl=>iX TP g (Eg d c q y) (zh i) T aW z l) (λm5 l m o H=>∃p b cl,TR g z L t r v x d c q y m5 l b cl m o p H) ?_ ?_ (wG d c q) (a:=(2*wG d c q,[]))
  ⟨_,q,[],⟨h1,λl _=>by rw[h8],by simp_all,A,A,A,A,A,A,A,i1,A,A,Q' m2,by omega,by simp,λe f2 g6 i0=>by rw[Q' (by omega)]at g6;omega⟩⟩
 .clear i1 h1 h8 k3 e6 f3 h3 k9 i2 i6 i5 i4 h4 h0;rintro s m3 l m o H⟨p,b,cl,a⟩;obtain⟨h7,l7⟩:=Ks i.Vz a.hr.symm;obtain⟨e8,g3⟩:=p;have a3:=a.len;simp only at a3;obtain⟨a8,i8,i9,j0,j1,j2,d8,f6,f7,f8,f5,d9,e0,e1,e2,e3,e4,a9,b0,b1,b2,b3,b4,b5,b6,b7,b8,b9,c0,c6,c7,c8,c9,d0,d1,d2,d3,d4,d5,d6,d7,rfl⟩:=LJ a3;have hd:=a.defs;simp only at hd;subst hd;have q1:=a.t1;have n:=a.t2;have w:=a.t3;have a4:=a.t4;have a5:=a.t5;simp only[Yo,Yv,Yq,Yh]at q1 n w a4 a5;subst q1 n w a4 a5;have o9:(b:Xj)<d:=by omega
  obtain⟨m8,k2,g5⟩:=i.h3;refine bz (bz (bT gS (by decide) (by decide) (z:=[4]) A (by rfl) a.inv a.rel (λX a2=>X=⟨#[a8,pt t 0,pt r 0,pt v 0,pt x 0,Xd K b,d8,Xd K b,Xm (C ⟨N,Q,F⟩) d O,Xd K d,.bool J,d9,e0,e1,e2,e3,e4,a9,b0,b1,b2,b3,b4,b5,b6,b7,b8,b9,c0,c6,c7,c8,c9,d0,d1,d2,d3,d4,d5,d6,d7],[]⟩/\a2.heap=o.heap) (λa6 a0 _ _ _=>?_) (λX a2 a1 l _=>by rw[a1.2]) ?_))
  .have h6:a6.cell? ⟨r,0,F⟩=C (Xm (C ⟨N,Q,F⟩) d O):=by simp[M.cell?,a0,a.keep r i.x3,g5]
   go_wp2
   exact⟨A,a0⟩
  rintro n2 _ h2 g9 e9 k4 e7⟨rfl,e5⟩;refine iO (k:=J) (iP e9.base e7 (by decide) A) (sq (bz (ie ?_)));obtain rfl:=a.hx
  refine OE (V:=⟨u,Y,N,Q,d,O,b,g.gb,g.gv,W b⟩) i h7 a.mod A rfl rfl rfl (by decide+kernel) (λl3=>Hf (R:=26) A (by decide+kernel) l3) ⟨_,A,A,A,A⟩ ⟨_,A,A,A,A⟩ ⟨_,A,A,A,A⟩ ⟨_,A,A,A,A⟩ ⟨_,A,A,A,A⟩ ⟨_,A,A,A,A⟩ ⟨_,A,A,A,A⟩ ⟨_,A,A,A,A⟩ ⟨_,A,A,A,A⟩ ⟨_,A,A,A,A⟩ ⟨_,A,A,A,A⟩ ⟨_,A,A,A,A⟩ ⟨_,A,A,A,A⟩ ⟨_,A,A,A,A⟩ ⟨_,A,A,A,A⟩ ⟨_,A,A,A,A⟩ ⟨_,A,A,A,A⟩ ⟨_,A,A,A,A⟩ ⟨_,A,A,A,A⟩ ⟨_,A,A,A,A⟩ ⟨_,A,A,A,A⟩ ⟨_,A,A,A,A⟩ ⟨_,A,A,A,A⟩ ⟨_,A,A,A,A⟩ ⟨_,A,A,A,A⟩ ⟨_,A,A,A,A⟩ (s:=2*s) a.cls (f3:=#[]) (e1:=I) (L:=g9) (c:=g9) (h:=⟨#[a8,pt t 0,pt r 0,pt v 0,pt x 0,Xd K b,d8,Xd K b,Xm (C ⟨N,Q,F⟩) d O,Xd K d,.bool J,d9,e0,e1,e2,e3,e4,a9,b0,b1,b2,b3,b4,b5,b6,b7,b8,b9,c0,c6,c7,c8,c9,d0,d1,d2,d3,d4,d5,d6,d7],[]⟩) (z:=t)
   ⟨e9,λl g7=>by rw[e5,a.keep l g7],by rw[e5];exact a.size,A,A,A,A,A,A,A,λg4 l2 hd=>?_,e7,λa1=>absurd a1 (by decide),λj l4 a1=>?_,λ_ _=>rfl,XS _⟩ ?_
  .exfalso;have:g4.1∈([0,1,2,3,4,5,6,7,8,9,10,11,12,13,14,15,16,17,18,19,20,21,23,24]:Xg E):=YB.2 ⟨g4,l2,A⟩;generalize g4.1=n1 at hd this
   revert hd
   revert n1
   decide
  .exfalso;rcases l4 with rfl|rfl|rfl<;>exact absurd a1 (by decide)
  intro f4 f0 n3 m9 j6 j7 j9 k h5;obtain⟨e8,g3⟩:=j6;have a3:=k.len;simp only at a3;obtain⟨a8,i8,i9,j0,j1,j2,d8,f6,f7,f8,f5,d9,e0,e1,e2,e3,e4,a9,b0,b1,b2,b3,b4,b5,b6,b7,b8,b9,c0,c6,c7,c8,c9,d0,d1,d2,d3,d4,d5,d6,d7,rfl⟩:=LJ a3;have hd:=k.defs;simp only at hd;subst hd;have q1:=k.t1;have n:=k.t2;have w:=k.t3;have a4:=k.t4;have a5:=k.t5;simp only[Yo,Yv,Yq,Yh]at q1 n w a4 a5;subst q1 n w a4 a5
  have m0:ar aW n3 ⟨[dcall 57 #[pt g.Wg 0]],[(4,pt g.gv 0)]⟩ ⟨#[a8,pt t 0,pt r 0,pt v 0,pt x 0,Xd K b,d8,f6,f7,f8,f5,d9,e0,e1,e2,e3,e4,a9,b0,b1,b2,b3,b4,b5,b6,b7,b8,b9,c0,c6,c7,c8,c9,d0,d1,d2,d3,d4,d5,d6,d7],[]⟩ j7:=k.rel.less A (by
   intro i3 a7;simp only[YI]at a7;subst a7
   exact n_ _ (by simp))
  refine bP (BU ?_);obtain⟨p5,o2,k8⟩:=i.h2;obtain⟨n5,p7,o4,l0,k6,_⟩:=i.hc;refine bT gS (by decide) (by decide) (z:=[4]) A (by rfl) k.inv m0 (λX a2=>X=⟨#[a8,pt t 0,pt r 0,pt v 0,pt x 0,Xd K ((b+c:E):Xj),d8,f6,f7,f8,f5,Xd K b,pt u 0,pt u 0,pt u 1,Xd K c,Xd K ((b+c:E):Xj),a9,b0,b1,b2,b3,b4,b5,b6,b7,b8,b9,c0,c6,c7,c8,c9,d0,d1,d2,d3,d4,d5,d6,d7],[]⟩/\a2.heap=m9.heap) (λa6 a0 _ _ _=>?_) (λX a2 a1 l _=>by rw[a1.2]) ?_
  .have o7:a6.cell? ⟨v,0,F⟩=C (pt u 0):=by simp[M.cell?,a0,k.keep v i.x2,k8]
   have o8:a6.cell? ⟨u,1,F⟩=C (Xd K c):=by simp[M.cell?,a0,k.keep u i.xc,l0,k6]
   go_wp2
   exact⟨A,a0⟩
  rintro n4 _ j8 n0 j3 o5 m1⟨rfl,f1⟩;refine m3 _ n4 n0 j8 ⟨_,b+c,cl++[(b*10,f4)]++[(b*10+9,#[f0])],⟨j3,λl g7=>by rw[f1,k.keep l g7],by rw[f1];exact k.size,A,A,A,A,A,A,A,m1,A,l7.symm,by rw[E.add_mod_right];exact a.mod,by omega,?_,?_⟩⟩
  .intro i3 a7;have l8:=(i.Vg _ _ _ _ h5).1;simp only[YC,YI]at a7;rcases a7 with(a7|rfl)|rfl
   .have:=a.cls i3 a7;omega
   .simp only[l8];omega
   grind
  intro e f2 h9 l5;by_cases i0:e<b
  .obtain⟨m6,k0,q1,n,w⟩:=a.Ui e f2 h9 i0;refine⟨m6,k0,by simp[q1],by simp[n],i.VS _ _ _ _ _ w (λR o6=>?_) ?_⟩
   .rw[f1,k.Uj R (by simp_all),e5]
   have:=k.TE;simp_all
  have:=Cx (by rw[h9,a.mod]) (by omega) l5;subst this;exact⟨f4,f0,by simp,by simp,i.Vf f1 h5⟩
 rintro l m o H⟨p,b,cl,a⟩;have h7:=Kt i.Vz a.hr.symm;obtain⟨e8,g3⟩:=p;have a3:=a.len;simp only at a3;obtain⟨a8,i8,i9,j0,j1,j2,d8,f6,f7,f8,f5,d9,e0,e1,e2,e3,e4,a9,b0,b1,b2,b3,b4,b5,b6,b7,b8,b9,c0,c6,c7,c8,c9,d0,d1,d2,d3,d4,d5,d6,d7,rfl⟩:=LJ a3;have hd:=a.defs;simp only at hd;subst hd;have q1:=a.t1;have n:=a.t2;have w:=a.t3;have a4:=a.t4;have a5:=a.t5;simp only[Yo,Yv,Yq,Yh]at q1 n w a4 a5;subst q1 n w a4 a5;obtain⟨m8,k2,g5⟩:=i.h3;refine bz (bz (bT gS (by decide) (by decide) (z:=[4]) A (by rfl) a.inv a.rel (λX a2=>X=⟨#[a8,pt t 0,pt r 0,pt v 0,pt x 0,Xd K b,d8,Xd K b,Xm (C ⟨N,Q,F⟩) d O,Xd K d,.bool Xf,d9,e0,e1,e2,e3,e4,a9,b0,b1,b2,b3,b4,b5,b6,b7,b8,b9,c0,c6,c7,c8,c9,d0,d1,d2,d3,d4,d5,d6,d7],[]⟩/\a2.heap=o.heap) (λa6 a0 _ _ _=>?_) (λX a2 a1 l _=>by rw[a1.2]) ?_))
 .have h6:a6.cell? ⟨r,0,F⟩=C (Xm (C ⟨N,Q,F⟩) d O):=by simp[M.cell?,a0,a.keep r i.x3,g5]
  go_wp2
  exact⟨by simp_all,a0⟩
 rintro n2 _ h2 g9 e9 k4 e7⟨rfl,e5⟩;refine iO (k:=Xf) (iP e9.base e7 (by decide) A) (sb A ?_);refine Goal.pure _ A rfl (λg2=>by rw[bu A];simp[stepG.exec,Frame.at,rg];rfl) ?_;obtain⟨e8,o0⟩:=h2;obtain⟨j9,l1,l6⟩:=e7.defers;cases l6;subst l1;obtain rfl:=a.hx;refine .stop ⟨A,⟨24,λg2 k=>?_⟩,?_⟩
 .have k7:QuitsD TP 2 0 (rg {(baseD 56).at ⟨e8,[]⟩ []with mode:=.returning} [dx TP]):=yj (l:=[]) A Tryz.func56 A;have hd:=Go.SimW.QH (P:=TP) (L:=kP) IG (f:=g.Wg) (l:={(baseD 56).at ⟨e8,[]⟩ []with mode:=.returning}) (d:=[dx TP]) A k7;rw[l9]at k⊢
  refine Go.SimW.eg (P:=TP) (main:=Xf) (i:=151) (f:=g.Wg) (e:=23) A (λo _=>?_) hd g2 k;rfl
 intro e f2 g6;obtain⟨f4,f0,q1,n,w⟩:=a.Ui e f2 g6 (by omega);exact⟨f4,f0,q1,n,i.Vf e5 w⟩
end
variable{d:Xr}{a:Xu}{f:Xg Item}{e:Xg Xr}{l:E}{g:Xg E}{h:Xk Xe}
theorem QO(a:M)(b:Xk XF):(zeroValue 151).runT TP a b=(.ok (.agg #[.int .u64 0,.int .u32 0]) a,b):=by
 refine V_ ?_ ?_
 .go_simp
 simp[go_sem]
theorem LI(a:M):(Instr.alloc 151 J (.tuple #[])).runT TP a #[]=(.ok (XA (C ⟨a.heap.size,0,F⟩)) {a with heap:=a.heap.push (Go.ConcR.wgBlock 151 0 0)},#[]):=by show Xz.runT TP ((zeroValue 151).bind _) a #[]=_;rw[Go.Sem.runT_bind',QO];rfl
section
variable{main:Xo}
theorem Ez(q:d.kind≠.early)(s:bN D l (C j) (.alloc 151))(r:∀fn,TP.funcs[d.fn]?=C fn->fn.norace=Xf)(b:M):
 stepG TP main (rg (d.at a (Xv D (l::g)::f)) e) b=.go (rg (d.at (a.put (C j) (pt b.heap.size 0)) (Xv D g::f)) e) {b with heap:=b.heap.push (Go.ConcR.wgBlock 151 0 0)}:=by
 obtain⟨⟨u,w,n,m,h,v⟩,o,i,k,p⟩:=s;subst i k p
 have c:(execOp a.eval ⟨C j,.alloc 151,n,m,h,F⟩).runT TP b #[]=(.ok (.value (pt b.heap.size 0)) {b with heap:=b.heap.push (Go.ConcR.wgBlock 151 0 0)},#[]):=by show Xz.runT TP ((Instr.alloc 151 J (.tuple #[])).bind _) b #[]=_;rw[Go.Sem.runT_bind',LI];rfl
 have i:(execOp a.eval ⟨C j,.alloc 151,n,m,h,F⟩).run TP b=.ok (.value (pt b.heap.size 0)) {b with heap:=b.heap.push (Go.ConcR.wgBlock 151 0 0)}:=by rw[s_]at c;exact(t_ c).1
 have k:(execOp a.eval ⟨C j,.alloc 151,n,m,h,F⟩).events TP b #[]=#[]:=by rw[s_]at c;exact(t_ c).2
 have:=Go.Conc.stepG_value (P:=TP) (main:=main) (a:=a) (b:=d) (k:=f) (cs:=e) (rest:=g) o A q i;refine abr this ?_;rw[listed,k,seen_cells r (by simp)];rfl
theorem go_step{c:XI}(u:d.kind≠.early)(w:bN D l F (.go {callee:=.value (.tmp j),args:=#[],argTypes:=#[]}))(v:∀fn,P.funcs[d.fn]?=C fn->fn.norace=Xf)(t:a.tmps[j]?=C (.func (.func c) #[] h))(b:M):
 stepG P main (rg (d.at a (Xv D (l::g)::f)) e) b=.spawn (rg (d.at a (Xv D g::f)) e) (born P {target:=.fn (.func c) h,args:=#[]}) b #[]:=by
 obtain⟨⟨L,Q,y,x,q,N⟩,r,k,m,s⟩:=w;subst k m s;have O:a.eval (.tmp j)=.func (.func c) #[] h:=by simp[Act.eval,t]
 have n:(execOp a.eval ⟨F,.go {callee:=.value (.tmp j),args:=#[],argTypes:=#[]},y,x,q,F⟩).runT P b #[]=(.ok (.spawn {target:=.fn (.func c) h,args:=#[]}) b,#[]):=by simp_all [execOp,resolve,Deferred.ofValue]
 rw[s_]at n;have k:=(t_ n).1;have m:=(t_ n).2;have:=Go.Conc.stepG_spawn (P:=P) (main:=main) (a:=a) (b:=d) (k:=f) (cs:=e) (rest:=g) r A u k A;refine abr this ?_;rw[listed,m,seen_cells v (by simp)];rfl
end
variable{h:Set}{f:E->Prop}{b:M}{a:E}{Q:Xp Xw}{c:Xg Xr}
def tl:XG->XG
 |.seq _ b=>b
 |a=>a
def hd:XG->XG
 |.seq b _=>b
 |a=>a
noncomputable def lH:XG:=(Tryz.f39.body).getD .skip
def tc(u c d e f a b:E)(Q:Xp Xw):Xu:=⟨#[pt u 0,.slice Q a b,pt c 0,pt d 0,pt e 0,I,I,I,I,.slice Q a b,Xd K a,Xm (C ⟨f,0,F⟩) a a,I,I,I,I,I,I,I,I,I,I,I,I,I,I,I,I,I,I,I,I,I,I,I,I,I,I,I,I,I,I,I],[]⟩
theorem bY{a:Xk Obj}{d:Obj}{b:E}(c:b<a.size):(a.push d)[b]?=a[b]?:=by rw[J' c,XP c]
theorem yW(c:Inv P h f m b){a:E}(e:f a):a<b.heap.size:=by obtain⟨g,d,_⟩:=c.cO a e;exact(XN.1 d).1
theorem PY(a:E)(k:a<2^30)(b:M):∃cl:Xk Xe,cl.size=a*10/\(Instr.makeSlice 141 (Xd K a) (Xd K a)).run TP b=.ok (Xm (C ⟨b.heap.size,0,F⟩) a a) (b.alloc (.cells cl 158)):=by
 obtain⟨c,f,i,g,d,h⟩:∃c,TP.info? 158=C c/\c.bytes<=1000/\c.size=10/\∃d,c.zero=C d:=by refine⟨_,A,by decide,A,_,A⟩
 have e:=Go.run_make (P:=TP) b 141 158 c d A f h K K a a (by omega) (Int.le_refl _) (by
  have:(c.bytes:Xj)*a<=1000*a:=Xj.mul_le_mul_of_nonneg_right (by omega) (by omega)
  omega) (by omega)
 simp only[Xj.toNat_natCast]at e;exact⟨_,by rw[size_madeCells,g],e⟩
theorem Tj{R:Goal TP al J f}{e:E}{g:Xk Xe}{S:Xr}(a3:a<2^30)
 (k:Inv TP al f m b)(n:aw al m #[pt u 0,.slice Q a e] g)
 (next:∀q d w,Inv TP al f q d->cV f m b q d->ar al q ⟨[],[]⟩ (tc u b.heap.size (b.heap.size+1) (b.heap.size+3) (b.heap.size+2) a e Q) w->
   (∃cl:Xk Xe,cl.size=a*10/\d.heap=(((b.heap.push (.cells #[pt u 0] 76)).push (.cells #[.slice Q a e] 103)).push (.cells cl 158)).push (.cells #[Xm (C ⟨b.heap.size+2,0,F⟩) a a] 141))->
   R.G q d (rg ((base 39).at w [.code (tl (tl lH))]) (S::c))):R.G m b (rg (Frame.enter TP 39 g .normal) (S::c)):=by
 have x:Frame.enter TP 39 g .normal=(base 39).at ⟨g++Array.replicate (43-g.size) I,[]⟩ [.code lH]:=by simp[Frame.enter,Frame.at,base,Tryz.func39];rfl
 rw[x];obtain⟨o,p,rfl⟩:∃o p,g=#[o,p]:=by have:=n.1;simp at this;exact⟨g[0],g[1],by apply aaj (by simp[<-this]);intro W b1 a1;simp at a1;rcases(by omega:W=0\/W=1)with rfl|rfl<;>simp⟩
 have L:an al m (pt u 0) o:=n.2 0 _ _ A rfl;have N:an al m (.slice Q a e) p:=n.2 1 _ _ A rfl;have D:=aY (h:=al) (m:=m)
 simp only[Yt,Yl,Zd,E.reduceAdd,E.reduceSub,Zh,
  Zi,Zt,Zn,Zj,Yp]
 have s:ar al m ⟨[],[]⟩ ⟨#[pt u 0,.slice Q a e,I,I,I,I,I,I,I,I,I,I,I,I,I,I,I,I,I,I,I,I,I,I,I,I,I,I,I,I,I,I,I,I,I,I,I,I,I,I,I,I,I],[]⟩ ⟨#[o,p,I,I,I,I,I,I,I,I,I,I,I,I,I,I,I,I,I,I,I,I,I,I,I,I,I,I,I,I,I,I,I,I,I,I,I,I,I,I,I,I,I],[]⟩:=by
  refine⟨?_,⟨[],A,.nil⟩,by simp⟩;refine aZ.arr (.cons L (.cons N ?_))
  repeat (first|exact .nil|refine .cons D ?_)
 generalize (⟨#[o,p,I,I,I,I,I,I,I,I,I,I,I,I,I,I,I,I,I,I,I,I,I,I,I,I,I,I,I,I,I,I,I,I,I,I,I,I,I,I,I,I,I],[]⟩:Xu)=w at s⊢
 refine bz (bT aC (by decide) (by decide) (z:=[]) A (by decide+kernel) k s (λl d=>l=⟨#[pt u 0,.slice Q a e,pt b.heap.size 0,pt (b.heap.size+1) 0,I,I,I,I,I,I,I,I,I,I,I,I,I,I,I,I,I,I,I,I,I,I,I,I,I,I,I,I,I,I,I,I,I,I,I,I,I,I,I],[]⟩/\d.heap=(b.heap.push (.cells #[pt u 0] 76)).push (.cells #[.slice Q a e] 103)) (λt i _ _ _=>?_) ?_ ?_)
 .clear next n x s L N D k
  go_wp2
  exact⟨by simp[i],by simp[World.alloc,i]⟩
 .rintro l d⟨_,y⟩ a7 H;have:=yW k H;rw[y,bY (by simp;omega),bY this]
 rintro q _ a9 d O T U⟨rfl,r⟩;refine bz (bT aC (by decide) (by decide) (z:=[]) A (by decide+kernel) O U (λl v=>l=tc u b.heap.size (b.heap.size+1) (b.heap.size+3) (b.heap.size+2) a e Q/\∃cl:Xk Xe,cl.size=a*10/\v.heap=((d.heap.push (.cells cl 158)).push (.cells #[Xm (C ⟨b.heap.size+2,0,F⟩) a a] 141))) (λt i _ _ _=>?_) ?_ ?_)
 .have b0:t.cell? ⟨b.heap.size+1,0,F⟩=C (.slice Q a e):=by simp[M.cell?,i,r,Xk.getElem_push]
  have a4:t.heap.size=b.heap.size+2:=by rw[i,r];simp
  clear next n x s U L N D k O T
  go_wp2
  obtain⟨cl,z,a2⟩:=PY a a3 t;rw[a2]
  go_wp2
  exact⟨A,cl,z,by simp[World.alloc,i]⟩
 .rintro l v⟨_,cl,_,y⟩ a7 H;have a4:d.heap.size=b.heap.size+2:=by rw[r];simp
  have:=yW k H;rw[y,bY (by simp;omega),bY (by omega)]
 rintro a8 _ Y v X Z a5⟨rfl,cl,z,a0⟩;exact next a8 v Y X (T.trans Z) a5 ⟨cl,z,by rw[a0,r]⟩
end
end Go.Sim
namespace Go.Sim
open Go.Conc Go.Proofs Go.RowKit
open Go.ConcN (PermW PermW.app PermW.of fork_knows WgLive RelBy sumTo)
open Go.ConcR (KK wgBlock WgAt stA smA rd wr mk DC0)
open Go.ConcR.Gen Go.ConcN.Gen Go.Conc.Lib
variable{P:Xy}{h:Set}{f:E->Prop}{m:Ren}{l:M}{d:Xr}{n:Xg Xr}{r:Xu}{c:Xu}{g:Xg Item}{p:E}{q:Xg E}{D:Xk Oper}{j:E}{s:Xe}{X:E->Prop}{z:dB}
section
variable[Inhabited aM]
section
variable{Sp:Set}{main:Xo}{t:Goal P h main f}{β':Ren}
variable{u:Rt}
theorem Px(S:Good P h)(a0:h.fr d.fn=J)(a1:d.kind≠.early){k:Xg Oper}{O:Xg E}(a2:u.kn.map (·.1)=O)(a4:lT P h O k.toArray=J)(a3:P.follows .mixedOrders=J)(L:Region.lexB .any k.toArray=J){id:E}(U:Inv P h f m l)(a5:ar h m u r c)(y:Xu->Prop)
 (i:∀Q:M,Q.heap=l.heap->wpQuiet P k.toArray (λw=>∃v,w=Q.drewN v) y k r)
 (next:∀x b H a,Inv P h f x a->cV f m l x a->ar h x u b H->y b->a.heap=l.heap->t.G x a (rg (d.at H g) n)):t.G m l (rg (d.at c (.code (.region id k.toArray J)::g)) n):=by
 refine MJ (o:=λb a=>y b/\a.heap=l.heap) (ot S a0 a1 (nf a2 a4) a3 (i:=λb a=>y b/\a.heap=l.heap) (λN=>?_) (λb a i o _=>by rw[i.2]) λb a i=>i) U a5 λx b H a W Z a6 i=>next x b H a W Z a6 i.1 i.2
 simp only[Region.lexB,Yg]at L;refine wpAny_of_quiet (C:=λw=>∃v,w=({l with tape:=N}:M).drewN v) (Q:=y) (λr w a7 i=>?_) _ _ _ _ ⟨0,A⟩ ?_
 .obtain⟨v,rfl⟩:=a7;exact⟨i,A⟩
 have:=wpAnyQ_lex (C:=λw=>∃v,w=({l with tape:=N}:M).drewN v) (md:=.any) L.1 k 0 (Array.replicate k.toArray.size Xf) r (by simp) (by simpa using L.2) (i {l with tape:=N} A);simpa using this
theorem vx{w:Xp Tmp}{b:XI}{e:Xk XJ}{u:Xk Xq}{fn:Func}{v:XG}(z:d.kind≠.early)(L:bN D p w (.call {callee:=.value (.func b),args:=e,argTypes:=u}))
 (s:P.funcs[b]?=C fn)(H:(fn.name== "runtime.NumGoroutine")=Xf)(o:fn.body=C v)(a:M):
 stepG P main (rg (d.at c (Xv D (p::q)::g)) n) a=.go (rg (Frame.enter P b (e.map c.eval) .normal) (d.at c (Xv D (p::q)::g)::n)) a:=by
 obtain⟨⟨R,T,W,U,S,f⟩,y,i,k,m⟩:=L;simp only at i k m;subst i k m
 have:=goes_call (P:=P) (main:=main) (w:=a) (cs:=n) (k:=g) (rest:=q) (a:=c) (b:=d) (K:=λf l h=>f=rg (Frame.enter P b (e.map c.eval) .normal) (d.at c (Xv D (p::q)::g)::n)/\l=a/\h=#[]) y A z A s H o ⟨by simp[G,rg,Frame.enter,Frame.at,base,s,o],A,A⟩
 obtain⟨f,l,h,x,rfl,rfl,rfl⟩:=aaG this;exact x
theorem ar.Ni{k:Xe}(b:ar h m u r c)(v:c.tmps[j]?=C k)(x:an h m s k):ar h m u (r.put (C j) s) c:=by
 have H:=(XN.1 v).1;refine⟨⟨by simp[Act.put,b.tmps.1],λp o y a i=>?_⟩,b.defers,b.kn⟩;simp only[Act.put]at a;rw[YO]at a;by_cases w:j=p
 .subst w;rw[XC A]at a;split at a
  .cases a;rw[v]at i;cases i;exact x
  cases a
 rw[Xx w]at a;exact b.tmps.2 p o y a i
theorem ar.part(a:ar h m u r c)(hd:r.defers=[])(i:∀(p:E) o,r.tmps[p]?=C o->aR X o\/bO o)(b:∀o T,X o->m o T->β' o T):ar Sp β' u (Act.jk X r) c:=by have:=(a.jk (Sp:=Sp) hd i).mono (β₁:=β') λo T a=>b o T a.1 a.2;exact this
theorem aR.mono{w:E->Prop}(k:∀r,X r->w r)(a:aR X s):aR w s:=by
 induction a with
 |bS=>exact .bS
 |bool d=>exact .bool d
 |int g b=>exact .int g b
 |string x=>exact .string x
 |cG=>exact .cG
 |ptr a=>exact .ptr (k _ a)
 |aO b i=>exact .aO b i
 |slice a b i=>exact .slice (k _ a) b i
 |iface y _ v=>exact .iface y v
 |nilIface=>exact .nilIface
 |agg _ v=>exact .agg v
 |map a=>exact .map (k _ a)
 |ft=>exact .ft
 |ed=>exact .ed
 |nilFunc=>exact .nilFunc
end
section
variable{t:cZ}{e:dm}{u:Rt}{o T:XJ}
theorem Ps(s:Xe):Frame.enter TP 55 #[s,Xd K 1] .normal=(base 55).at ⟨#[s,Xd K 1,I,I,I,I,I,I,I,I,I,I,I,I,I,I,I,I,I,I,I,I,I,I,I,I,I,I,I,I,I,I,I,I,I,I,I,I,I,I,I,I,I,I,I,I,I,I,I,I,I,I,I,I,I,I,I,I,I,I,I,I,I,I,I,I,I,I,I,I,I,I,I,I,I,I,I,I,I,I,I,I,I,I,I,I,I,I,I,I,I,I,I,I,I,I,I,I,I,I,I,I,I,I,I,I,I,I,I,I,I,I,I,I,I,I,I],[]⟩ [.code (body_add kP)]:=by
 have a:Frame.enter TP 55 #[s,Xd K 1] .normal=(base 55).at ⟨#[s,Xd K 1]++Array.replicate (117-2) I,[]⟩ [.code (body_add kP)]:=by simp[Frame.enter,Frame.at,base,Tryz.func55];rfl
 rw[a];simp only[E.reduceSub,Zh,Zi,Zt,Zn,Zj,Yp]
theorem Pt(s:Xe):Frame.enter TP 59 #[s] .normal=(base 59).at ⟨#[s,I,I,I,I,I,I,I,I,I,I,I,I,I,I,I,I,I,I,I,I,I,I,I,I,I,I,I,I,I,I,I,I,I,I,I,I,I,I,I,I,I,I,I,I,I,I,I,I,I,I,I,I,I,I,I,I,I,I,I,I,I,I,I,I,I,I,I,I,I,I,I,I,I,I,I,I,I,I,I,I,I,I,I],[]⟩ [.code (body_wait kP)]:=by
 have a:Frame.enter TP 59 #[s] .normal=(base 59).at ⟨#[s]++Array.replicate (84-1) I,[]⟩ [.code (body_wait kP)]:=by simp[Frame.enter,Frame.at,base,Tryz.func59];rfl
 rw[a];simp only[E.reduceSub,Zh,Zi,Zt,Zn,Zj,Yp]
theorem LC(U:d.kind≠.early)(H:bN D p (C j) (.call {callee:=.value (.func 55),args:=#[o,T],argTypes:=#[151,3]}))(i:c.eval o=pt e.D.Wg 0)(a1:c.eval T=Xd K 1)(a0:e.wt=0)(W:e.pend=0)(Z:e.D.ty=151)
 (R:u.free (C j)=J)(Y:ar h m u r c)
 (next:∀v,ar h m u (r.put (C j) (.tuple #[])) v->(goalAt TP t (C {e with pend:=1}) z h f).G m l (rg (d.at v (Xv D q::g)) n)):
 (goalAt TP t (C e) z h f).G m l (rg (d.at c (Xv D (p::q)::g)) n):=by
 refine Goal.pure _ A rfl (λa=>vx U H Tryz.func55 (by decide) A a) ?_;have N:#[o,T].map c.eval=#[pt e.D.Wg 0,Xd K 1]:=by simp[i,a1]
 rw[N,Ps];obtain⟨b1,O,Q,a8,a9⟩:=H;intro w x a sl L k b;have S:G (d.at (c.put ((D[p]?).bind (·.dst)) (.tuple #[])) (Xv D q::g)) n=rg (d.at (c.put (C j) (.tuple #[])) (Xv D q::g)) n:=by rw[O];simp only[ZO,Q];rfl
 refine No (d:=e) (u:=rg (d.at (c.put (C j) (.tuple #[])) (Xv D q::g)) n) (s:=20) A a0 W A (λa y=>?_) (λw x a sl L k b=>next _ (Y.put _ R (.tuple A λp o b2 i _=>by simp at i)) w x a sl L k b) b;have:=Go.SimW.Tx (P:=TP) (L:=kP) (a:=e.D.Wg) IG S;rw[Z]at y⊢
 exact this a y
theorem KO(a4:d.kind≠.early)(O:bN D p (C j) (.call {callee:=.value (.func 59),args:=#[o],argTypes:=#[151]}))(a7:c.eval o=pt e.D.Wg 0)(a6:e.wt=0)(a5:e.pend=0)(Q:e.D.ty=151)
 (a1:∀b i a k v x,dG (aj TP t) 0 b i a k v ⟨h,m,l,f,F⟩ x->rQ TP t e b i a k v ⟨h,m,l,f,F⟩->∃y β' L H,dG (aj TP t) 0 b i a k y ⟨h,β',L,H,F⟩ x/\
   (goalAt TP t F z h H).G β' L (rg (d.at (c.put (C j) (.tuple #[])) (Xv D q::g)) n)):
 (goalAt TP t (C e) z h f).G m l (rg (d.at c (Xv D (p::q)::g)) n):=by
 refine Goal.pure _ A rfl (λa=>vx a4 O Tryz.func59 (by decide) A a) ?_;have U:#[o].map c.eval=#[pt e.D.Wg 0]:=by simp[a7]
 rw[U,Pt];obtain⟨c7,Y,Z,b7,b8⟩:=O;intro b i a sl k v w;have a3:G (d.at (c.put ((D[p]?).bind (·.dst)) (.tuple #[])) (Xv D q::g)) n=rg (d.at (c.put (C j) (.tuple #[])) (Xv D q::g)) n:=by rw[Y];simp only[ZO,Z];rfl
 refine JU (d:=e) (Q:=rg (d.at (c.put (C j) (.tuple #[])) (Xv D q::g)) n) (s:=6) (a3:=Go.SimW.GI kP e.D.Wg (d.at c (Xv D (p::q)::g)) n) A a6 a5 A ?_ (λa N=>?_) (λW l a2=>⟨30,?_⟩) (λb i a k v x w a0=>?_) w
 .rintro W l⟨e,rfl,_⟩;rfl
 .have:=Go.SimW.QI (P:=TP) (L:=kP) (h:=e.D.Wg) (l:=d) (k:=c) (r:=D) (s:=p) (u:=q) (t:=g) (a:=n) IG;rw[Q]at N⊢
  exact this a N
 .have:=Go.SimW.OF (P:=TP) (L:=kP) (h:=e.D.Wg) IG a3 a2;rw[Q];exact this
 obtain⟨y,β',L,H,a8,a9⟩:=a1 b i a k v x w a0;exact⟨y,_,a8,λb i a sl k v w=>a9 b i a sl k v w⟩
end
end
end Go.Sim
namespace Go.Sim
open Go.Conc Go.Proofs Go.RowKit
open Go.ConcN (PermW PermW.app PermW.of fork_knows WgLive RelBy sumTo)
open Go.ConcR (KK wgBlock WgAt stA smA rd wr mk DC0)
variable{R:E->Prop}{b:Xu}{H:Xe}{z:dB}{f:E->Prop}{m:Ren}{d:M}{i:E}{T:Xg Xr}{y:Xg Item}{x:Xu}
section
variable[Inhabited aM]
theorem uU{a7:Type}{b:Xk a7}(a:b.size=43):∃d e q H Y a2 a3 a4 a5 a6 f g h i k l m n o p r s t u v w x y z D L N O Q R S T U W X Z a0 a1,b=#[d,e,q,H,Y,a2,a3,a4,a5,a6,f,g,h,i,k,l,m,n,o,p,r,s,t,u,v,w,x,y,z,D,L,N,O,Q,R,S,T,U,W,X,Z,a0,a1]:=by
 obtain⟨c⟩:=b
 iterate 43
  rcases c with _|⟨_,c⟩
  simp at a
 obtain rfl:=YR.1 (by simpa using a)
 grind
def RH(p:E->LR)(a:E)(y:E)(c:Xk Xe)(b:Xe)(d:M):Prop:=cf (p y) a c d/\b=(p y).ev
def If(i o g a b:E):Prop:=g<=a/\b<i*10/\b/10%o=a-g
def BN(p:E->LR)(a i o g:E):Fin:=λb cl d=>Eg i o (b-g) (RH p a) cl d
def Rn(p:E->LR)(b:E)(e:WD)(i o g a:E):dm:=⟨e,0,0,a,g,g+a,BN p b i o g⟩
structure Ph(u:cZ)(f c t:E->Prop)(m:Ren)(d O:M)(e:WD)(p:E->LR)(D q Q r S s L N i o g:E):Prop where
 h0:aV al m d O
 inv:Inv TP al f m d
 x0:jw c d
 WE:∀b,c b->∀U y,d.heap[b]?≠C (.map U y)
 xw:jw t d
 xg:∀k,(0<k\/k=TP.globals.size)->k<=TP.globals.size->c k/\t k
 nb:zp (λb=>t b/\¬c b) d
 VP:∀b,f b->c b
 hK:kg u f
 lb:RA m
 Vt:e.ty=151
 Wp:e.gv=s
 Vq:e.gb=N
 Ua:e.yA=158
 Wo:e.gn=i*10
 Vs:e.gh=Fe m N O
 Vp:e.g0=C O
 xn:m L N
 AZ:∃cl n,d.heap[L]?=C (Xn cl 158 n)/\n.1=n.2
 Uh:¬c L
 Wq:¬t L
 KW:m S s
 Xc:t S
 Xa:c D/\t D
 Xb:c Q/\t Q
 mine:∀b v,m b v->∀w,az w v->¬f b->¬sY u (λ_=>.ro) w
 small:i<2^20
 Ib:1<=o/\o<2^16
 ev:∀y,y<i->Plain (p y).ev
 Sz:m D q
 SA:m Q r
 walk:∀a l,a<o->a<i->Base TP (nt t m d.heap.size l)->
  jx TP aW (KZ t d.heap.size) (tW e) (kV TP e (BN p d.heap.size i o g (g+a)) (g+a) aW (KZ t d.heap.size) (2*wG i o a) []) (nt t m d.heap.size l) (dJ t d (Xd K a) 3)
   (born TP {target:=.fn (.func 56) #[pt e.Wg 0,pt l 0,pt r 0,pt q 0,pt e.gv 0],args:=#[]})
structure WK(c:E->Prop)(D h k:E)(b:Xu):Prop where
 size:b.tmps.size=43
 defs:b.defers=[]
 Wx:b.tmps[18]?=C (Xd K h)
 Wy:b.tmps[19]?=C (Xd K k)
 all:∀(j:E) a,b.tmps[j]?=C a->aR c a\/bO a
def qG(e:WD)(s r q:E):Xg (E×Xe):=[(5,pt e.Wg 0),(4,pt s 0),(3,pt r 0),(2,pt q 0)]
theorem im{k:Xp Tmp}(l:∀(j:E) a,b.tmps[j]?=C a->aR R a\/bO a)(v:aR R H\/bO H):∀(j:E) a,(b.put k H).tmps[j]?=C a->aR R a\/bO a:=by
 intro j a n;cases k with
 |none=>exact l j a n
 |some w=>grind [Act.put]
theorem wj:∀fn,TP.funcs[(base 39).fn]?=C fn->fn.norace=Xf:=λfn a=>by have:TP.funcs[39]?=C fn:=a;cases this;rfl
noncomputable def Nn:XG:=hd (tl (tl (tl lH)))
section
variable{u:cZ}{c t:E->Prop}{O:M}{e:WD}{p:E->LR}{D q Q r S s L N o g h:E}
noncomputable abbrev Re(u:cZ)(z:dB)(c:E->Prop)(p:E->LR)(d:M)(e:WD)(i o g a:E):Goal TP al J c:=goalAt TP u (C (Rn p d.heap.size e i o g a)) z al c
structure Lk(f c:E->Prop)(m:Ren)(d:M)(e:WD)(q r s D h n:E)(a:Ren)(k:M)(b x:Xu):Prop where
 inv:Inv TP al c a k
 grow:cV c (λb l=>c b/\m b l) (cP c d) a k
 Ih:WK c D h n b
 rel:ar al a ⟨[],qG e s r q⟩ b x
theorem Kz(k:Ph u f c t m d O e p D q Q r S s L N i o g)(n1:h<=o/\h<=i){j5:XG}(k3:(.block 0 (.loop j5):XG)=tl Nn)
 (last:∀e0 d7 b x,Lk f c m d e q r s D h h e0 d7 b x->(Re u z c p d e i o g h).G e0 d7 (rg ((base 39).at x y) T)){e0:Ren}{d7:M}(l:Lk f c m d e q r s D h 0 e0 d7 b x):
 (Re u z c p d e i o g 0).G e0 d7 (rg ((base 39).at x (.code (tl Nn)::y)) T):=by
 show(Re u z c p d e i o g 0).G e0 d7 (rg ((base 39).at x (.code (.block 0 (.loop _))::y)) T);refine ie ?_;refine qw (c:=λa=>Re u z c p d e i o g a) (λh9 a e0 d7 x=>h9+a=h/\∃b,Lk f c m d e q r s D h a e0 d7 b x) ?_ ?_ h (a:=0) ⟨by omega,b,l⟩
 .clear l;rintro h9 h8 a e0 d7 x⟨k5,b,l⟩;obtain⟨i4,h0⟩:=b;have f6:=l.Ih.size;simp only at f6;obtain⟨w,U,a4,b2,c8,d2,f2,d3,d4,d5,W,X,Y,Z,a0,a1,a2,a3,i5,i6,g6,f1,a5,a6,d6,a7,a8,a9,b0,b1,b3,b4,b5,b6,b7,b8,b9,c0,c6,c7,c9,d0,d1,rfl⟩:=uU f6;have hd:=l.Ih.defs;have e9:=l.Ih.Wx;have f0:=l.Ih.Wy;simp only[Yo,Yv,Yq,Yh]at e9 f0 hd;subst e9 f0;have hd:=hd;subst hd;have f5:=l.Ih.all;have k6:(a:Xj)<h:=by omega
  refine bz (bT aC (by decide) (by decide) (z:=[5,4,3,2]) A (by rfl) l.inv l.rel (λd9 n=>d9=⟨#[w,U,a4,b2,c8,d2,f2,d3,d4,d5,W,X,Y,Z,a0,a1,a2,a3,Xd K h,Xd K a,.bool J,f1,a5,a6,d6,a7,a8,a9,b0,b1,b3,b4,b5,b6,b7,b8,b9,c0,c6,c7,c9,d0,d1],[]⟩/\n.heap=d7.heap) (λg7 e3 _ _ _=>?_) (λd9 n l v _=>by rw[l.2]) ?_)
  .go_wp2
   exact⟨by simp[k6],e3⟩
  rintro i8 _ g9 n e4 e7 e5⟨rfl,h3⟩;refine bz (iO (k:=J) (iP e4.base e5 (by decide) A) (sq (bz (ie (bz ?_)))));refine bT aC (by decide) (by decide) (z:=[5,4,3,2]) A (by rfl) e4 e5 (λd9 i7=>d9=⟨#[w,U,a4,b2,c8,d2,pt n.heap.size 0,d3,d4,d5,W,X,Y,Z,a0,a1,a2,a3,Xd K h,Xd K a,.bool J,Xd K a,a5,a6,d6,a7,a8,a9,b0,b1,b3,b4,b5,b6,b7,b8,b9,c0,c6,c7,c9,d0,d1],[]⟩/\i7.heap=n.heap.push (.cells #[Xd K a] 3 (0,0))) (λg7 e3 _ _ _=>?_) ?_ ?_
  .clear h8 l f5 last k3 k hd h3 e5 e4 e7
   go_wp2
   exact⟨A,by simp[World.alloc,e3]⟩
  .grind [yW]
  rintro i9 _ l5 i7 j0 j7 h5⟨rfl,m9⟩;refine bz (eA ?_)
  have m5:∀{v:E},c v->v<d.heap.size:=λe6=>by rcases k.x0 _ e6 with⟨_,_,_,i2,_⟩|⟨_,_,i2,_⟩<;>exact(XN.1 i2).1
  have h1:=(l.grow.trans e7).trans j7;have n3:d.heap.size<=n.heap.size:=by have:=(l.grow.trans e7).size;simp_all [dh]
  have k1:∀(j:E) v,(⟨#[w,U,a4,b2,c8,d2,pt n.heap.size 0,d3,d4,d5,W,X,Y,Z,a0,a1,a2,a3,Xd K h,Xd K a,.bool J,Xd K a,a5,a6,d6,a7,a8,a9,b0,b1,b3,b4,b5,b6,b7,b8,b9,c0,c6,c7,c9,d0,d1],[]⟩:Xu).tmps[j]?=C v->aR c v\/bO v:=
   im (k:=C 6) (H:=pt n.heap.size 0) (im (k:=C 21) (H:=Xd K a) (im (k:=C 20) (H:=.bool J) f5 (Xh (.bool J))) (Xh (.int _ _))) (Xi (show bO (pt n.heap.size 0)from trivial))
  refine LC (e:=Rn p d.heap.size e i o g a) (by decide) ⟨_,A,A,A,A⟩ (by simp[Act.eval,(h5.kn (5,pt e.Wg 0) (by simp[qG])),Rn]) A rfl rfl k.Vt A h5 λf9 f7=>?_;refine bP (eA ?_);have f8:=f7.kn
  obtain⟨d8,h2,j9⟩:∃d8,i9 n.heap.size d8/\f9.tmps[6]?=C (pt d8 0):=by
   have h4:6<f9.tmps.size:=by rw[<-f7.tmps.1];simp[Act.put]
   have:=f7.tmps.2 6 _ _ A (XP h4);rw[XP h4];generalize f9.tmps[6]=o0 at this;cases this with
   |ptr k0=>
    rename_i j4;obtain⟨d8,l1,n8⟩:=j4;obtain⟨n5,n6,n7⟩:=k0
    grind
  refine Hj (o:=goalAt TP u (C {Rn p d.heap.size e i o g a with pend:=1}) z al c) (a:=.func (.func 56) #[] #[pt e.Wg 0,pt d8 0,pt r 0,pt q 0,pt s 0]) (by decide) wj ⟨_,A,A,A,A⟩ A f7 (by simp[Act.put]) trivial (λg8 i3 l2 m0=>?_) λg0 h6=>?_
  .simp[execOp,Act.eval,(f8 (5,pt e.Wg 0) (by simp[qG])),(f8 (4,pt s 0) (by simp[qG])),(f8 (3,pt r 0) (by simp[qG])),(f8 (2,pt q 0) (by simp[qG])),j9];constructor<;>rfl
  have j6:g0.tmps[23]?=C (.func (.func 56) #[] #[pt e.Wg 0,pt d8 0,pt r 0,pt q 0,pt s 0]):=h6.kn (23,_) (by simp)
  have k2:Base TP (nt t m d.heap.size d8):=by
   have m8:TP.globals.size<d.heap.size:=by
    obtain⟨l1,_,e8,_⟩:=k.h0.obj _ _ k.inv.base.types
    grind
   have m4:=(j0.base.2 _ d8 h2).2;refine⟨λf3 f4 e8=>Xh ⟨(k.xg f3 f4 e8).2,k.inv.base.1 f3 f4 e8⟩,?_⟩;rintro v e1(g2|⟨rfl,rfl⟩)
   .exact k.inv.base.2 v e1 g2.2
   omega
  obtain⟨l8,m2,m7,m6⟩:=k.AZ
  refine JA (c:={Rn p d.heap.size e i o g a with pend:=1}) (o:=n.heap.size) (T:=d8) (a7:=a) (b3:=3) (f2:=(0,0)) (x:=rg ((base 39).at g0 _) T) A (λg8=>go_step (j:=23) (by decide) ⟨_,A,A,A,A⟩ wj j6 g8) A
   k.h0 k.inv.base k.x0 k.xw k.xg k.nb h1 k.Vs k.Vp k.Vq k.xn k.Uh k.Wq k.VP k.hK (by grind) A h2 (λe6=>by grind) A rfl (by show a=g+a-g;omega) (by have:=k.Ib;show g+a+1<g+1000000;omega) k.lb
   (by
     have:=k.walk a d8 (by omega) (by omega) k2;rw[k.Wp]at this
     exact this) ?_
  show(Re u z c p d e i o g (a+1)).G _ _ _
  have k4:∀v e1,c v->i9 v e1->(λb g1=>c b/\m b g1) v e1:=λv e1 e6 g2=>by
   rcases h1.fresh v e1 g2 with l|l
   .exact l
   grind [dh]
  have h7:ar al (λb g1=>c b/\m b g1) ⟨[],qG e s r q⟩ _ g0:=(ar.less (d0:=⟨[],qG e s r q⟩) h6 A (λl2 k7=>Ym _ k7)).part (X:=c) A (im (k:=C 23) (H:=I) (im (k:=C 22) (H:=.tuple #[]) k1 (Xh .bS)) (Xh .bS)) k4
  have g4:(Act.jk c (((⟨#[w,U,a4,b2,c8,d2,pt n.heap.size 0,d3,d4,d5,W,X,Y,Z,a0,a1,a2,a3,Xd K h,Xd K a,.bool J,Xd K a,a5,a6,d6,a7,a8,a9,b0,b1,b3,b4,b5,b6,b7,b8,b9,c0,c6,c7,c9,d0,d1],[]⟩:Xu).put (C 22) (.tuple #[])).put (C 23) I)).tmps[18]?=C (Xd K h):=by simp only[Act.jk,Yk];exact YU C (cT (.int _ _))
  have g5:(Act.jk c (((⟨#[w,U,a4,b2,c8,d2,pt n.heap.size 0,d3,d4,d5,W,X,Y,Z,a0,a1,a2,a3,Xd K h,Xd K a,.bool J,Xd K a,a5,a6,d6,a7,a8,a9,b0,b1,b3,b4,b5,b6,b7,b8,b9,c0,c6,c7,c9,d0,d1],[]⟩:Xu).put (C 22) (.tuple #[])).put (C 23) I)).tmps[19]?=C (Xd K a):=by simp only[Act.jk,Yk];exact YU C (cT (.int _ _))
  have i1:(Act.jk c (((⟨#[w,U,a4,b2,c8,d2,pt n.heap.size 0,d3,d4,d5,W,X,Y,Z,a0,a1,a2,a3,Xd K h,Xd K a,.bool J,Xd K a,a5,a6,d6,a7,a8,a9,b0,b1,b3,b4,b5,b6,b7,b8,b9,c0,c6,c7,c9,d0,d1],[]⟩:Xu).put (C 22) (.tuple #[])).put (C 23) I)).tmps.size=43:=by simp[Act.jk,Act.put]
  have i0:∀(j:E) v,(Act.jk c (((⟨#[w,U,a4,b2,c8,d2,pt n.heap.size 0,d3,d4,d5,W,X,Y,Z,a0,a1,a2,a3,Xd K h,Xd K a,.bool J,Xd K a,a5,a6,d6,a7,a8,a9,b0,b1,b3,b4,b5,b6,b7,b8,b9,c0,c6,c7,c9,d0,d1],[]⟩:Xu).put (C 22) (.tuple #[])).put (C 23) I)).tmps[j]?=C v->aR c v\/bO v:=λj v e6=>by
   simp only[Act.jk,Yk]at e6;obtain⟨e1,_,rfl⟩:=YE.1 e6;left;by_cases k9:aR c e1
   .grind [cT]
   rw[px k9];exact .bS
  have l0:(Act.jk c (((⟨#[w,U,a4,b2,c8,d2,pt n.heap.size 0,d3,d4,d5,W,X,Y,Z,a0,a1,a2,a3,Xd K h,Xd K a,.bool J,Xd K a,a5,a6,d6,a7,a8,a9,b0,b1,b3,b4,b5,b6,b7,b8,b9,c0,c6,c7,c9,d0,d1],[]⟩:Xu).put (C 22) (.tuple #[])).put (C 23) I)).defers=[]:=A;generalize Act.jk c (((⟨#[w,U,a4,b2,c8,d2,pt n.heap.size 0,d3,d4,d5,W,X,Y,Z,a0,a1,a2,a3,Xd K h,Xd K a,.bool J,Xd K a,a5,a6,d6,a7,a8,a9,b0,b1,b3,b4,b5,b6,b7,b8,b9,c0,c6,c7,c9,d0,d1],[]⟩:Xu).put (C 22) (.tuple #[])).put (C 23) I)=j3 at h7 g4 g5 i1 i0 l0;obtain⟨i4,h0⟩:=j3;obtain⟨w,U,a4,b2,c8,d2,f2,d3,d4,d5,W,X,Y,Z,a0,a1,a2,a3,i5,i6,g6,f1,a5,a6,d6,a7,a8,a9,b0,b1,b3,b4,b5,b6,b7,b8,b9,c0,c6,c7,c9,d0,d1,rfl⟩:=uU i1;simp only[Yo,Yv,Yq,Yh]at g4 g5;subst g4 g5;refine bP (BU (bT aC (by decide) (by decide) (z:=[5,4,3,2]) A (by rfl) (yD k.inv.base k.x0 (λf3 f4 e8=>(k.xg f3 f4 e8).1) (Xi k.WE)) h7 (λd9 n=>d9=⟨#[w,U,a4,b2,c8,d2,f2,d3,d4,d5,W,X,Y,Z,a0,a1,a2,a3,Xd K h,Xd K ((a+1:E):Xj),g6,f1,a5,a6,Xd K ((a+1:E):Xj),a7,a8,a9,b0,b1,b3,b4,b5,b6,b7,b8,b9,c0,c6,c7,c9,d0,d1],[]⟩/\n.heap=(cP c d).heap) (λg7 e3 _ _ _=>?_) (λd9 n l v _=>by rw[l.2]) ?_))
  .have n2:=k.small
   go_wp2
   exact⟨A,e3⟩
  rintro o3 _ l6 o2 j1 j8 k8⟨rfl,n0⟩;refine h8 (a+1) _ _ _ ⟨by omega,_,j1,j8,⟨A,A,A,A,?_⟩,k8⟩;exact im (k:=C 19) (H:=Xd K ((a+1:E):Xj)) (im (k:=C 24) (H:=Xd K ((a+1:E):Xj)) i0 (Xh (.int _ _))) (Xh (.int _ _))
 clear l;rintro a e0 d7 x⟨k5,b,l⟩;obtain rfl:h=a:=by omega
 obtain⟨i4,h0⟩:=b;have f6:=l.Ih.size;obtain⟨w,U,a4,b2,c8,d2,f2,d3,d4,d5,W,X,Y,Z,a0,a1,a2,a3,i5,i6,g6,f1,a5,a6,d6,a7,a8,a9,b0,b1,b3,b4,b5,b6,b7,b8,b9,c0,c6,c7,c9,d0,d1,rfl⟩:=uU f6;have hd:=l.Ih.defs;have e9:=l.Ih.Wx;have f0:=l.Ih.Wy;simp only[Yo,Yv,Yq,Yh]at e9 f0 hd;subst e9 f0;subst hd;have f5:=l.Ih.all;refine bz (bT aC (by decide) (by decide) (z:=[5,4,3,2]) A (by rfl) l.inv l.rel (λd9 n=>d9=⟨#[w,U,a4,b2,c8,d2,f2,d3,d4,d5,W,X,Y,Z,a0,a1,a2,a3,Xd K h,Xd K h,.bool Xf,f1,a5,a6,d6,a7,a8,a9,b0,b1,b3,b4,b5,b6,b7,b8,b9,c0,c6,c7,c9,d0,d1],[]⟩/\n.heap=d7.heap) (λg7 e3 _ _ _=>?_) (λd9 n l v _=>by rw[l.2]) ?_)
 .go_wp2
  exact⟨by simp,e3⟩
 rintro i8 _ g9 n e4 e7 e5⟨rfl,h3⟩;refine bz (iO (k:=Xf) (iP e4.base e5 (by decide) A) (sb (a:=y) A ?_));exact last i8 n _ g9 ⟨e4,l.grow.trans e7,⟨A,A,A,A,im (k:=C 20) (H:=.bool Xf) f5 (Xh (.bool Xf))⟩,e5⟩
end
variable{s:E}{e:M}{o:M}{p:Xe}{d:Xk Xe}{q:E->Prop}{a:Xe}{u:E}{h:E}{Q:Xp Xw}
theorem gr.mono{v:Xg XB}{t:E}{sl:Xe}(n:gr v s sl e)(L:t<=s)(N:∀c,c<e.heap.size->o.heap[c]?=e.heap[c]?):gr v t sl o:=by
 rcases n with n|⟨w,x,d,R,y,z,D,r,H⟩
 .exact Xh n
 exact Xi ⟨w,x,d,R,y,z,XZ L D,(N w (XN.1 r).1).trans r,H⟩
theorem cf.mono{r:LR}{n:E}{t:Xk Xe}(v:cf r s t e)(z:n<=s)(D:∀c,c<e.heap.size->o.heap[c]?=e.heap[c]?):cf r n t o:=by obtain⟨w,sl,x,y⟩:=v;exact⟨w,sl,x,y.mono z D⟩
theorem Plain.one(a:Plain p):wu p=J:=by cases a<;>rfl
theorem cf.VA{h:LR}{c:Xk Xe}(d:cf h s c e):∀a∈c,wu a=J:=by
 obtain⟨_,sl,f,g⟩:=d;intro a b;have b:a∈c.toList:=by simpa using b
 rw[f]at b;rcases XV.1 b with rfl|b
 .rfl
 rcases YC.1 b with b|b
 .obtain⟨i,_,rfl⟩:=YB.1 b;rfl
 have:a=sl:=by simpa using b
 subst this;rcases g with⟨rfl,_⟩|⟨_,_,_,_,_,rfl,_⟩<;>rfl
def IM(a:Xe):Prop:=aR (λ_=>False) a\/bO a
def Calm(a:Xe):Prop:=IM a/\∀h,a≠.int .u8 h
theorem Pd(b:∀(e:E) a,d[e]?=C a->Calm a):¬aT d:=λ⟨f,h,c⟩=>(b f _ c).2 h A
theorem mZ(c:∀h,p≠.int .u8 h):¬aT #[p]:=by
 rintro⟨b,h,a⟩;rcases b with _|b
 .simp at a;exact c h a
 simp at a
structure jZ(f g:E->Prop)(e:M)(l:E->LR)(m:E->XB)(u O b h k i:E)(Q:Xp Xw):Prop where
 KX:∀c,f c->∃d H,e.heap[c]?=C (Xn d H (0,d.size))/\0<d.size/\(∀(t:E) a,d[t]?=C a->aR f a)/\¬aT d
 Io:∀z,(0<z\/z=TP.globals.size)->z<=TP.globals.size->f z
 xt:∀c,g c->(∃d H r,e.heap[c]?=C (Xn d H r)/\0<d.size/\r.2<=d.size/\¬aT d/\∀(t:E) a,d[t]?=C a->aR g a)\/∃N n,e.heap[c]?=C (.map N n)/\∀y∈N.toList,aR g y.key/\aR g y.val
 TA:g O
 hc:∃v L r,e.heap[u]?=C (Xn v L r)/\r.2<=v.size/\v[1]?=C (Xd K i)/\v[2]?=C (pt O 0)/\¬aT v/\∀(t:E) a,v[t]?=C a->IM a
 hA:Q=F/\h=0\/∃D R x L r,Q=C ⟨D,R,F⟩/\D<b/\e.heap[D]?=C (Xn x L r)/\0<x.size/\r.2<=x.size/\(∀(t:E) a,x[t]?=C a->Calm a)/\∀n,n<h->x[R+n*9+3]?=C (.string (m n))
 h2:e.heap[b]?=C (Xn #[pt u 0] 76 (0,0))
 h3:e.heap[b+1]?=C (Xn #[.slice Q h k] 103 (0,0))
 h4:e.heap[b+3]?=C (Xn #[Xm (C ⟨b+2,0,F⟩) h h] 141 (0,0))
 AZ:∃cl,cl.size=h*10/\e.heap[b+2]?=C (Xn cl 158 (0,0))
 low:(∀c,f c\/g c->c<b)/\u<b
 small:h<2^20
 Ib:1<=i/\i<2^16
 ev:∀n,Plain (l n).ev
 look:∀n,n<h->∀w:M,(∀c,g c\/f c->w.heap[c]?=(e.heap[c]?).map Obj.whole)->e.heap.size<=w.heap.size->Calls TP 58 #[pt O 0,.string (m n)] w λy o=>∃S,y=Xs (.tuple #[.agg S,(l n).ev])/\cf (l n) w.heap.size S o/\Below w.heap.size w o
def nR(f:E->Prop)(u b:E)(Q:Xp Xw):E->Prop:=λa=>f a\/a=b\/a=b+1\/a=u\/∃c,Q=C ⟨a,c,F⟩
def tO(f g:E->Prop)(u b:E)(Q:Xp Xw):E->Prop:=λa=>nR f u b Q a\/g a\/a=b+3
theorem IM.to(b:IM a):aR q a\/bO a:=b.imp (aR.mono λ_ b=>b.elim) id
section
variable{g:E->Prop}{l:E->LR}{m:E->XB}{O b k i:E}
theorem jZ.slice(a:jZ f g e l m u O b h k i Q):aR (nR f u b Q) (.slice Q h k):=by
 rcases a.hA with⟨rfl,_⟩|⟨d,c,_,_,_,rfl,_⟩
 .exact .aO _ _
 exact .slice (Xi (Xi (Xi (Xi ⟨c,A⟩)))) _ _
theorem one_cell{P:Xe->Prop}(r:P p):∀(n:E) a,(#[p]:Xk Xe)[n]?=C a->P a:=by
 intro n a c;have:n=0:=by have:=(XN.1 c).1;simp at this;exact this
 subst this;simp at c;subst c;exact r
theorem jZ.zD(o:jZ f g e l m u O b h k i Q):∀w,nR f u b Q w->∃d y p,e.heap[w]?=C (Xn d y p)/\0<d.size/\p.2<=d.size/\(∀(n:E) a,d[n]?=C a->aR (nR f u b Q) a\/bO a)/\¬aT d:=by
 rintro w(q|rfl|rfl|rfl|⟨S,q⟩)
 .obtain⟨d,y,r,s,t,x⟩:=o.KX w q;exact⟨d,y,_,r,s,XS _,λn a v=>Xh ((t n a v).mono λ_ c=>Xh c),x⟩
 .exact⟨_,_,_,o.h2,by simp,by simp,one_cell (P:=λa=>aR _ a\/bO a) (Xh (.ptr (Xi (Xi (Xi (Xh A)))))),mZ (by intro h c;cases c)⟩
 .exact⟨_,_,_,o.h3,by simp,by simp,one_cell (P:=λa=>aR _ a\/bO a) (Xh o.slice),mZ (by intro h c;cases c)⟩
 .obtain⟨D,z,p,r,s,t,_,L,N⟩:=o.hc;exact⟨D,z,p,r,by have:=(XN.1 t).1;omega,s,λn a v=>(N n a v).to,L⟩
 rcases o.hA with⟨c,_⟩|⟨R,T,H,z,p,c,_,r,s,t,x,_⟩
 .rw[c]at q;cases q
 rw[c]at q;cases q;exact⟨H,z,p,r,s,t,λn a v=>(x n a v).1.to,Pd x⟩
theorem jZ.Ig(p:jZ f g e l m u O b h k i Q):jw (tO f g u b Q) e:=by
 rintro z(v|v|rfl)
 .obtain⟨d,y,q,o,n,r,s,t⟩:=p.zD z v;exact Xh ⟨d,y,q,o,n,r,λx a w=>(s x a w).imp (aR.mono λ_ c=>Xh c) id,t⟩
 .rcases p.xt z v with⟨d,y,q,o,n,r,t,s⟩|⟨L,N,o,n⟩
  .exact Xh ⟨d,y,q,o,n,r,λx a w=>Xh ((s x a w).mono λ_ c=>Xi (Xh c)),t⟩
  exact Xi ⟨L,N,o,λD H=>⟨(n D H).1.mono λ_ c=>Xi (Xh c),(n D H).2.mono λ_ c=>Xi (Xh c)⟩⟩
 exact Xh ⟨_,_,_,p.h4,by simp,by simp,one_cell (P:=λa=>aR _ a\/bO a) (Xi trivial),mZ (by intro h c;cases c)⟩
theorem jZ.Uh(d:jZ f g e l m u O b h k i Q):¬tO f g u b Q (b+2):=by
 have n:=d.low;rintro((a|a|a|a|⟨s,a⟩)|a|a)
 .have:=n.1 _ (Xh a);omega
 .omega
 .omega
 .omega
 .rcases d.hA with⟨c,_⟩|⟨p,t,o,v,q,c,r,_⟩
  .rw[c]at a;cases a
  rw[c]at a;cases a;omega
 .have:=n.1 _ (Xi a);omega
 omega
theorem jZ.En(q:jZ f g e l m u O b h k i Q):zp (λc=>tO f g u b Q c/\¬nR f u b Q c) e:=by
 rintro c⟨p|p|rfl,D⟩ d U N o r
 .exact D p
 .rcases q.xt c p with⟨H,W,R,n,x,S,y,T⟩|⟨L,t,n,x⟩
  .rw[o]at n;cases n;exact y r
  rw[o]at n;cases n
 rw[q.h4]at o;cases o;obtain⟨t,s,z⟩:=r;have:=one_cell (P:=λa=>∃c v d,a=Value.slice c v d) ⟨_,_,_,A⟩ t _ z;obtain⟨_,_,_,w⟩:=this;cases w
theorem jZ.VX(n:jZ f g e l m u O b h k i Q){N:WD}{X Z D a6 a5:E}(L:Q=C ⟨X,Z,F⟩)(b6:N.gs=Xm (C ⟨a5,0,F⟩) h h)(b4:N.gb=a5)(b5:N.gn=h*10)(b7:N.own=If h i a6)(e1:D<i):
 IU N (KZ (tO f g u b Q) e.heap.size) (dJ (tO f g u b Q) e (Xd K D) 3) (b+1) b (b+3) u h k i X Z D (a6+D) (pt O 0) m (RH l e.heap.size):=by
 have b3:=n.Ig
 have lt:∀{r:E},tO f g u b Q r->r<e.heap.size:=λv=>by rcases b3 _ v with⟨_,_,_,a9,_⟩|⟨_,_,a9,_⟩<;>exact(XN.1 a9).1
 have rd:∀{r:E}{d:Xk Xe}{x:Xq}{y:E×E},tO f g u b Q r->e.heap[r]?=C (Xn d x y)->(dJ (tO f g u b Q) e (Xd K D) 3).heap[r]?=C (Xn (d.map (jk (tO f g u b Q))) x (0,d.size)):=λv c=>by rw[xj (lt v)];exact dW v c
 have a2:tO f g u b Q (b+1):=Xh (Xi (Xi (Xh A)));have a1:tO f g u b Q b:=Xh (Xi (Xh A));have W:tO f g u b Q u:=Xh (Xi (Xi (Xi (Xh A))));have a4:tO f g u b Q X:=Xh (Xi (Xi (Xi (Xi ⟨Z,L⟩))));have a3:tO f g u b Q (b+3):=Xi (Xi A);have b9:aR (tO f g u b Q) (.slice Q h k):=n.slice.mono λ_ c=>Xh c
 exact{
  x3:=Xh a2
  h3:=⟨_,_,by rw[rd a2 n.h3];simp only[Zb,YG,Zl,cT b9];rw[L]⟩
  x2:=Xh a1
  h2:=⟨_,_,by rw[rd a1 n.h2];simp only[Zb,YG,Zl];rw[show jk (tO f g u b Q) (pt u 0)=pt u 0 from cT (.ptr W)]⟩
  xc:=Xh W
  hc:=by
   obtain⟨c9,c7,y,t,H,R,S,_,d8⟩:=n.hc;refine⟨_,_,_,rd W t,?_,?_⟩
   .rw[Yk,R];exact YU C (cT (.int _ _))
   rw[Yk,S];exact YU C (cT (.ptr (Xi (Xh n.TA))))
  WX:=⟨O,A⟩
  x4:=Xh a3
  h4:=⟨_,_,by
   rw[rd a3 n.h4];simp only[Zb,YG,Zl]
   rw[px (λc=>by cases c with|slice c=>exact n.Uh c)];rfl⟩
  xl:=Xh a4
  elem:=by
   rcases n.hA with⟨c,_⟩|⟨d1,e2,d0,c7,y,c,_,t,_,_,_,b2⟩
   .rw[c]at L;cases L
   rw[c]at L;cases L;refine⟨_,_,_,rd a4 t,λw T=>?_⟩;rw[Yk,b2 w T];exact YU C (cT (.string _))
  look:=λw T c8 c6 b8=>by
   have d7:(dJ (tO f g u b Q) e (Xd K D) 3).heap.size=e.heap.size+1:=by show((cP _ e).heap.push _).size=_;rw[aa2,dh]
   refine(n.look w T c8 (λr v=>?_) (by omega)).mono ?_
   .have U:tO f g u b Q r:=v.elim (λc=>Xi (Xh c)) λc=>Xh (Xh c);rw[c6 r (.inl U)]
    have a8:∀d x y,e.heap[r]?=C (Xn d x y)->(∀(z:E) a,d[z]?=C a->aR (tO f g u b Q) a)->(dJ (tO f g u b Q) e (Xd K D) 3).heap[r]?=(e.heap[r]?).map Obj.whole:=by
     intro d x y c a7;rw[rd U c,c]
     have:d.map (jk (tO f g u b Q))=d:=by apply aaj (by simp);intro z t H;rw[Xk.getElem_map];exact cT (a7 z _ (XP H))
     rw[this];rfl
    rcases v with v|v
    .rcases n.xt r v with⟨d,x,y,t,_,_,_,S⟩|⟨d4,w,t,H⟩
     .exact a8 d x y t λz a Y=>(S z a Y).mono λ_ c=>Xi (Xh c)
     rw[xj (lt U),nz U,t];rfl
    obtain⟨d,x,t,_,R⟩:=n.KX r v;exact a8 d x _ t λz a Y=>(R.1 z a Y).mono λ_ c=>Xh (Xh c)
   rintro d2 o⟨a0,rfl,t,H⟩;exact⟨a0,_,A,⟨t.mono (by omega) λ_ _=>rfl,A⟩,H⟩
  VS:=λw a0 b0 e e4 c c0 b8=>⟨c.1.mono (XS _) c0,c.2⟩
  Vg:=λw a0 b0 e c=>⟨c.1.size,c.1.VA,by rw[c.2];exact(n.ev w).one⟩
  gs:=by rw[b4];exact b6
  gn:=b5
  own:=λw T e0 j d9=>by
   rw[b7];refine⟨by omega,by omega,?_⟩;have b1:(w*10+j)/10=w:=by omega
   rw[b1];omega
  small:=by have:=n.small;omega
  Vz:=n.Ib.1
  Wu:=by have:=n.Ib.2;omega}
end
variable{g:M}{c:E}{k:Xu}{p:Xg Xr}{h:Set}{d:Xu}{j:E}
section
variable{o:cZ}{q:E->Prop}{l:E->LR}{r:E->XB}{O b i e:E}
theorem lr{v:Rt}{a:E}(s:ar h m v d k)(x:d.tmps[j]?=C (pt a 0)):∃B,m a B/\k.tmps[j]?=C (pt B 0):=by
 have n:j<k.tmps.size:=by rw[<-s.tmps.1];grind
 have:=s.tmps.2 j _ _ x (XP n);rw[XP n];generalize k.tmps[j]=R at this;cases this with
 |ptr w=>rename_i t;obtain⟨B,L,N⟩:=t;obtain⟨y,D,H⟩:=w;simp_all
def Lb(h:E)(g c:M):Prop:=∀d,d<g.heap.size->d≠h->c.heap[d]?=g.heap[d]?\/∃a b e f,aT a/\g.heap[d]?=C (Obj.cells a b e)/\c.heap[d]?=C (Obj.cells a b f)
theorem MU(a:E->Prop):jk a I=I:=cT .bS
theorem Om(a:jZ f q g l r u O b c i e Q)(b8:kg o f)(b5:Inv TP al f m g)(a8:ar al m ⟨[],[]⟩ (tc u b (b+1) (b+3) (b+2) c i Q) k)
 (next:∀U R d k,Inv TP al f U R->cV f m g U R->Lb (b+2) g R->QU l c (b+2) g.heap.size 158 R->ar al U ⟨[],[]⟩ d k->d.tmps.size=43->d.defers=[]->d.tmps[2]?=C (pt b 0)->d.tmps[3]?=C (pt (b+1) 0)->d.tmps[4]?=C (pt (b+3) 0)->
   (goalAt TP o F z al f).G U R (rg ((base 39).at k [.code (tl (tl (tl (tl (tl lH)))))]) p)):
 (goalAt TP o F z al f).G m g (rg ((base 39).at k [.code (tl (tl lH))]) p):=by
 have n5:=a.low;obtain⟨g7,i2,b9⟩:=a.AZ;obtain⟨a3,Sz,j9⟩:=lr (j:=2) a8 A;obtain⟨a4,SA,k0⟩:=lr (j:=3) a8 A;obtain⟨a5,e0,k1⟩:=lr (j:=4) a8 A;have e5:=a.Uh;have b1:=λn=>e5 (Xh n);have b2:jw (nR f u b Q) g:=λd D=>Xh (a.zD d D)
 have c0:∀d,nR f u b Q d->∀d7 N,g.heap[d]?≠C (.map d7 N):=λd D d7 N m8=>by obtain⟨b6,k2,d8,y,_⟩:=a.zD d D;simp_all
 show(goalAt TP o F z al f).G m g (rg ((base 39).at k [.code (.seq _ _)]) p);refine bz (eA ?_)
 refine JB (N:=nR f u b Q) (a8:=b+3) (a1:=b+2) (i:=c) (b7:=c*10) (yA:=158) (O:=151) (own:=λs h0 X=>If c e s h0 X) (fin:=BN l g.heap.size c e)
  (a2:=λt=>rg ((base 39).at (k.put (C 5) (pt t 0)) (Xv _ []::[.code (tl (tl (tl lH)))])) p) A (λ_=>rfl) (λd5=>Ez (by decide) ⟨_,A,A,A,A⟩ wj d5)
  b2 c0 (λa2 y L=>Xh (a.Io a2 y L)) (λd D=>Xh D) a.h4 ⟨_,e0⟩ (λn=>by grind) b9 A i2 b1 (by omega) (λs j5 j X y L=>?_) b8 ?_
 .obtain⟨o1,o2,o3⟩:=y;obtain⟨o5,o6,o7⟩:=L;omega
 intro T d2 H s hrel KW xn m1 j3 m4 j2;obtain⟨t,w⟩:∃t:WD,t=⟨151,T.heap.size,d2,Xm (C ⟨H,0,F⟩) c c,H,158,c*10,If c e s,Fe m H T,C T⟩:=⟨_,A⟩;show sW TP o (C ⟨⟨151,T.heap.size,d2,Xm (C ⟨H,0,F⟩) c c,H,158,c*10,If c e s,Fe m H T,C T⟩,0,0,0,s,s,BN l g.heap.size c e s⟩) z al _ _ _ (rg ((base 39).at (k.put (C 5) (pt T.heap.size 0)) (Xv _ []::[.code (tl (tl (tl lH)))])) p);rw[<-w];have h6:T.heap.size=t.Wg:=by rw[w]
 rw[h6];show(Re o z (nR f u b Q) l g t c e s 0).G _ _ _;have h3:=(hrel.inj _ _ _ _ e0 KW).1 A;subst h3
 have x:Ph o f (nR f u b Q) (tO f q u b Q) m g T t l b a3 (b+1) a4 (b+3) a5 (b+2) H c e s:={
  h0:=hrel
  inv:=b5
  x0:=b2
  WE:=c0
  xw:=a.Ig
  xg:=λa2 y L=>⟨Xh (a.Io a2 y L),Xh (Xh (a.Io a2 y L))⟩
  nb:=a.En
  VP:=λd D=>Xh D
  hK:=b8
  lb:=j2
  Vt:=by rw[w]
  Wp:=by rw[w]
  Vq:=by rw[w]
  Ua:=by rw[w]
  Wo:=by rw[w]
  Vs:=by rw[w]
  Vp:=by rw[w]
  xn:=xn
  AZ:=⟨g7,_,b9,A⟩
  Uh:=b1
  Wq:=e5
  KW:=KW
  Xc:=Xi (Xi A)
  Xa:=⟨Xi (Xh A),Xh (Xi (Xh A))⟩
  Xb:=⟨Xi (Xi (Xh A)),Xh (Xi (Xi (Xh A)))⟩
  mine:=j3
  small:=a.small
  Ib:=a.Ib
  ev:=λN _=>a.ev N
  Sz:=Sz
  SA:=SA
  walk:=λY d3 y L h8=>by
   have h9:∃a6 X,Q=C ⟨a6,X,F⟩:=by
    rcases a.hA with⟨_,n⟩|⟨a6,X,_,_,_,n,_⟩
    .omega
    exact⟨a6,X,n⟩
   obtain⟨a6,X,h2⟩:=h9;have z:=a.VX (N:=t) (D:=Y) (a6:=s) (a5:=H) h2 (by rw[w]) (by rw[w]) (by rw[w]) (by rw[w]) y
   have lt:∀{d:E},tO f q u b Q d->d<g.heap.size:=λD=>by rcases a.Ig _ D with⟨_,_,_,d0,_⟩|⟨_,_,d0,_⟩<;>exact(XN.1 d0).1
   have g1:Inv TP aW (KZ (tO f q u b Q) g.heap.size) (nt (tO f q u b Q) m g.heap.size d3) (dJ (tO f q u b Q) g (Xd K Y) 3):=by
    refine⟨h8,?_,Xh A⟩;rintro d(D|rfl)
    .obtain⟨f1,c9,f0⟩:=jJ (h:=aW) a.Ig d D;exact⟨f1,by rw[xj (lt D)];exact c9,f0⟩
    exact⟨_,AX,A,by simp,mZ (by intro c n;cases n)⟩
   have i6:t.gv=a5:=by rw[w]
   have:=Ek z y (t:=g.heap.size) (Xi A) ⟨_,_,AX⟩ g1 (by rw[i6];exact Xh ⟨Xi (Xi A),KW⟩) (by rw[w])
    (g1:=pt d3 0) (g0:=pt a4 0) (f9:=pt a3 0) (.ptr ⟨Xi ⟨A,A⟩,A,A⟩) (.ptr ⟨Xh ⟨Xh (Xi (Xi (Xh A))),SA⟩,A,A⟩) (.ptr ⟨Xh ⟨Xh (Xi (Xh A)),Sz⟩,A,A⟩)
   have e4:BN l g.heap.size c e s (s+Y)=Eg c e Y (RH l g.heap.size):=by
    funext cl R
    show Eg c e (s+Y-s) _ cl R=_;rw[show s+Y-s=Y by omega]
   simp_all}
 have e6:=a.slice;have f6:nR f u b Q u:=Xi (Xi (Xi (Xh A)));have f7:nR f u b Q b:=Xi (Xh A);have f8:nR f u b Q (b+1):=Xi (Xi (Xh A))
 have j4:¬nR f u b Q (b+3):=by
  rintro(n|n|n|n|⟨X,n⟩)
  .grind
  .omega
  .omega
  .omega
  rcases a.hA with⟨d9,_⟩|⟨a6,p2,k6,k3,d8,d9,m3,_⟩
  .rw[d9]at n;cases n
  simp_all
 have e2:∀(j:E) v,(tc u b (b+1) (b+3) (b+2) c i Q).tmps[j]?=C v->aR (nR f u b Q) v\/bO v:=by
  intro j v a0
  have S:v∈(tc u b (b+1) (b+3) (b+2) c i Q).tmps.toList:=by grind
  simp only[tc,XV,Yd,YS]at S;have i8:∀b6 g8:E,bO (pt b6 g8):=λ_ _=>trivial;rcases S with rfl|rfl|rfl|rfl|rfl|S
  .simp_all
  .simp_all
  .simp_all
  .simp_all
  .simp_all
  rcases S with rfl|rfl|rfl|rfl|rfl|rfl|rfl|S
  .exact Xh .bS
  .exact Xh .bS
  .exact Xh .bS
  .exact Xh .bS
  .simp_all
  .exact Xh (.int _ _)
  .exact Xi trivial
  have:v=I:=by simp_all
  rw[this];exact Xh .bS
 have c6:=(a8.part (Sp:=al) (X:=nR f u b Q) (β':=λd Z=>nR f u b Q d/\m d Z) A e2 λv a9 a0 c8=>⟨a0,c8⟩);have n4:=MU (nR f u b Q);have i9:jk (nR f u b Q) (pt u 0)=pt u 0:=cT (.ptr f6);have j0:=cT e6;have m9:jk (nR f u b Q) (pt b 0)=pt b 0:=cT (.ptr f7);have n0:jk (nR f u b Q) (pt (b+1) 0)=pt (b+1) 0:=cT (.ptr f8);have n1:jk (nR f u b Q) (pt (b+3) 0)=I:=px λn=>by cases n with|ptr n=>exact j4 n
 have n2:jk (nR f u b Q) (Xd K c)=Xd K c:=cT (.int _ _);have n3:jk (nR f u b Q) (Xm (C ⟨b+2,0,F⟩) c c)=I:=px λn=>by cases n with|slice n=>exact b1 n
 have e1:Act.jk (nR f u b Q) (tc u b (b+1) (b+3) (b+2) c i Q)=⟨#[pt u 0,.slice Q c i,pt b 0,pt (b+1) 0,I,I,I,I,I,.slice Q c i,Xd K c,I,I,I,I,I,I,I,I,I,I,I,I,I,I,I,I,I,I,I,I,I,I,I,I,I,I,I,I,I,I,I,I],[]⟩:=by simp_all [Act.jk,tc]
 rw[e1]at c6;have e7:=c6.put (C 5) A (.bS (v:=pt t.Wg 0) trivial)
 have f5:(k.put (C 5) (pt t.Wg 0)).tmps[5]?=C (pt t.Wg 0):=by
  have:k.tmps.size=43:=by rw[<-a8.tmps.1];rfl
  grind [Act.put]
 have b4:∀j a1,j≠5->k.tmps[j]?=C a1->(k.put (C 5) (pt t.Wg 0)).tmps[j]?=C a1:=λj a1 i8 o0=>by simp_all [Act.put,YX]
 have c7:ar al (λd Z=>nR f u b Q d/\m d Z) ⟨[],qG t a5 a4 a3⟩ _ _:=(((e7.more (b4 2 _ (by decide) j9)).more (b4 3 _ (by decide) k0)).more (b4 4 _ (by decide) k1)).more f5;generalize k.put (C 5) (pt t.Wg 0)=d6 at c7⊢
 have e8:ar al (λd Z=>nR f u b Q d/\m d Z) ⟨[],qG t a5 a4 a3⟩ ⟨#[pt u 0,.slice Q c i,pt b 0,pt (b+1) 0,I,I,I,I,I,.slice Q c i,Xd K c,I,I,I,I,I,I,I,I,I,I,I,I,I,I,I,I,I,I,I,I,I,I,I,I,I,I,I,I,I,I,I,I],[]⟩ d6:=c7;clear c7 e7 c6 e1 e2 f5 b4;have g0:Inv TP al (nR f u b Q) (λd Z=>nR f u b Q d/\m d Z) (cP (nR f u b Q) g):=yD b5.base b2 (λa2 y L=>Xh (a.Io a2 y L)) (Xi c0);refine bP ?_;show(Re o z (nR f u b Q) l g t c e s 0).G _ _ (rg ((base 39).at d6 [.code (.seq (.seq _ _) _)]) p);refine bz (bz ?_);refine Px aC (by decide) (by decide) (O:=[5,4,3,2]) A (by rfl) lx (by decide+kernel) g0 e8 (λg6=>g6=⟨#[pt u 0,.slice Q c i,pt b 0,pt (b+1) 0,I,I,I,I,I,.slice Q c i,Xd K c,I,pt u 0,pt u 0,pt u 1,Xd K e,.slice Q c i,Xd K c,Xd K (min e c:E),Xd K (0:E),I,I,I,I,I,I,I,I,I,I,I,I,I,I,I,I,I,I,I,I,I,I,I],[]⟩) (λd1 b7=>?_) ?_
 .have m5:d1.cell? ⟨b,0,F⟩=C (pt u 0):=by
   simp only[M.cell?,b7,dW f7 a.h2,Zb,YG,Zl,i9];rfl
  have m6:d1.cell? ⟨b+1,0,F⟩=C (.slice Q c i):=by simp only[M.cell?,b7,dW f8 a.h3,Zb,YG,Zl,j0];rfl
  have m7:d1.cell? ⟨u,1,F⟩=C (Xd K e):=by obtain⟨k5,k3,d8,c9,f0,j6,_⟩:=a.hc;simp only[M.cell?,b7,dW f6 c9,Yk,j6,Zo];exact YU C (cT (.int _ _))
  repeat (quiet_step (fail))
  grind [wpQuiet_nil]
 rintro q6 _ l1 q0 d4 b0 e9 rfl i7
 have e3:∀(j:E) v,(⟨#[pt u 0,.slice Q c i,pt b 0,pt (b+1) 0,I,I,I,I,I,.slice Q c i,Xd K c,I,pt u 0,pt u 0,pt u 1,Xd K e,.slice Q c i,Xd K c,Xd K (min e c:E),Xd K (0:E),I,I,I,I,I,I,I,I,I,I,I,I,I,I,I,I,I,I,I,I,I,I,I],[]⟩:Xu).tmps[j]?=C v->aR (nR f u b Q) v\/bO v:=by
  intro j v a0
  have S:v∈(⟨#[pt u 0,.slice Q c i,pt b 0,pt (b+1) 0,I,I,I,I,I,.slice Q c i,Xd K c,I,pt u 0,pt u 0,pt u 1,Xd K e,.slice Q c i,Xd K c,Xd K (min e c:E),Xd K (0:E),I,I,I,I,I,I,I,I,I,I,I,I,I,I,I,I,I,I,I,I,I,I,I],[]⟩:Xu).tmps.toList:=by grind
  simp only[XV,Yd,YS]at S
  repeat (first
   |exact m2 _ S
   |(rcases S with rfl|S
     first
      |exact Xh .bS
      |exact Xh e6
      |exact Xh (.int _ _)
      |exact Xi (show bO (pt _ _)from trivial)))
 have n9:=a.small;have n8:=a.Ib;refine Kz x (h:=min e c) ⟨E.min_le_left _ _,E.min_le_right _ _⟩ (y:=[.code (tl (tl (tl (tl lH))))]) A ?_ ⟨d4,b0,⟨A,A,A,A,e3⟩,e9⟩;clear e3 e9 b0 i7 d4 e8;intro f9 k4 d g5 W;show(Re o z (nR f u b Q) l g t c e s (min e c)).G f9 k4 (rg ((base 39).at g5 [.code (.seq _ _)]) p);have j7:=W.rel.kn (5,pt t.Wg 0) (by simp[qG]);refine bz (eA (KO (e:=Rn l g.heap.size t c e s (min e c)) (j:=25) (by decide) ⟨_,A,A,A,A⟩ (by simp[Act.eval,j7,Rn]) A rfl x.Vt λl5 l7 d5 k2 k8 b0 i0 h5=>?_));have i4:TP.globals.size<=g.heap.size:=by
  obtain⟨f1,_,L,_⟩:=hrel.obj _ _ b5.base.types
  grind
 obtain⟨g2,U,R,i1,h4,a7,h7,i5⟩:=PG (g:=Rn l g.heap.size t c e s (min e c)) (x:=g.heap.size) (p:=b+2) (k:=H) (d:=c) (a:=l) i0 h5 W.grow b2 x.VP x.inv x.Vs x.Vp x.Vq x.Ua x.Wo x.h0 x.xn b9 A b1 x.hK x.mine (λN j1=>by
  have n7:N%e<e:=abm _ (by omega);have n6:N%e<=N:=E.mod_le _ _;refine⟨s+N%e,by show s<=_;omega,by show _<s+min e c;omega,λcl R e4=>?_⟩;obtain⟨p4,g9,y,L,l9,m0⟩:=e4 N j1 (by omega)
  grind) x.ev i4
 refine⟨g2,U,R,f,i1,bP ?_⟩
 have i3:∀v a9,nR f u b Q v->f9 v a9->U v a9:=λv a9 a0 c8=>by
  rcases W.grow.fresh v a9 c8 with n|n
  .exact a7.le _ _ n.2
  rw[dh]at n;obtain⟨_,_,_,d0,_⟩:=a.zD v a0;simp_all
 have f2:=((W.rel.part (Sp:=al) W.Ih.defs W.Ih.all i3).put (C 25) A (.tuple (c:=#[]) (c':=#[]) A λj5 v q2 a0 _=>by simp at a0));have f3:=f2.Ni (j:=2) (s:=pt b 0) (f2.kn (2,pt a3 0) (by simp[qG])) (.ptr ⟨a7.le _ _ Sz,A,A⟩);have f4:=f3.Ni (j:=3) (s:=pt (b+1) 0) (f3.kn (3,pt a4 0) (by simp[qG])) (.ptr ⟨a7.le _ _ SA,A,A⟩);have j8:=f4.Ni (j:=4) (s:=pt (b+3) 0) (f4.kn (4,pt a5 0) (by simp[qG])) (.ptr ⟨a7.le _ _ KW,A,A⟩);have b3:=W.Ih.size
 exact next U R _ _ h4 a7 h7 i5 (j8.less A (by simp)) (by simp[Act.put,Act.jk,b3]) W.Ih.defs
  (by simp[Act.put,Act.jk,b3]) (by simp[Act.put,Act.jk,b3]) (by simp[Act.put,Act.jk,b3])
end
variable{P:Xy}{d:Xr}{g:Xu}{c:Xg Item}{n:Xg Xr}{i:Xu}
section
variable{main:Xo}
theorem Fz{p:XG}{k:Xu->M->Prop}(c:Xg Item)(a:Tp (λe=>p.wp P (eP k) g e) e):
 xq P (λt e=>∃o,t=d.at o [df c]/\k o e) (d.at g [.code p,df c]) [] e:=by
 obtain⟨r,b,u,a⟩:=a.low;refine qH (p:=r) (x:=b) ⟨u,λy w=>?_⟩;obtain⟨s,i,z,q,arr⟩:=a y w d [df c] [dp];cases s with
 |normal=>obtain⟨x,v⟩:=arr;exact⟨x,_,z,v,⟨i,A,q⟩,A,Xi ⟨A,c,A⟩⟩
 |_=>exact q.elim
theorem QE{v u:Xo}{p:Xg Item}(G:Good P h)(s:jG c=J)(k:jy P h Xf u m [df c] p):p=c:=by
 generalize b:[df c]=y at k;cases k with
 |nil=>cases b
 |tail w t=>have:=Xg.cons.inj b;have o:=this.1;simp only[df,Item.code.injEq,XG.cond.injEq]at o;exact(BF s t o.2.1).symm
 |cons r x=>
  obtain⟨rfl,_⟩:=Xg.cons.inj b;cases r with
  |code _ a=>
   rcases a with a|⟨a,_⟩
   .cases a
   rw[G.code]at a;simp only[df,codeOk,Yg]at a;have q:du P h.fn (.const (XA (C ⟨0,0,F⟩)))=Xf:=A;rw[q]at a;cases a.1.1
end
section
variable{main:Xo}{l:Goal P h main f}
theorem g_lone(L:Good P h)(a3:h.fr d.fn=J)(R:d.kind=.normal){k:XG}(a1:h.code k=J)(T:jG c=J)(t:Inv P h f m e)(W:ar h m ⟨[],[]⟩ g i)(v:Xu->M->Prop)
 (w:∀u:M,u.heap=e.heap->u.drawn=e.drawn->u.os=e.os->u.output=e.output->k.wp P (eP v) g u)(a6:∀a b,v a b->∀s,f s->b.heap[s]?=e.heap[s]?)
 (next:∀q a N b,Inv P h f q b->cV f m e q b->ar h q ⟨[],[]⟩ a N->v a b->l.G q b (rg (d.at N c) n)):l.G m e (rg (d.at i (.code k::c)) n):=by
 have a7:=Fz (d:=d) c (Tp.all λH=>w {e with tape:=H} A rfl rfl rfl);obtain⟨d2,S,a2⟩:=W.defers;simp only[YT]at S
 have a4:bH P h Xf m (d.at g [.code k,df c]) (d.at i (.code k::c)):=by
  refine⟨A,a3,W.tmps,?_,?_,.run,A,Xh R,?_⟩
  .refine .cons (.code k (Xi ⟨a1,λb0=>?_⟩)) (.tail ?_ T)
   .cases b0
   rfl
  .show aZ (rP h m) g.defers i.defers;rw[S];exact a2
  exact .none
 have b1:cK P h Xf m [d.at g [.code k,df c]] [d.at i (.code k::c)]:=⟨.cons a4 .nil,λs r=>by simp only[E_,Yh]at r;subst r;exact⟨R,A⟩⟩
 have b4:=tP (main:=main) (base:=n) (f:=f) (u:=m) (k:=e) L t.cO t.iQ (v:=λO e=>∃a,O=d.at a [df c]/\v a e) (λq d3 d4 b b7 _ x y d6 d7 Y=>by
  obtain⟨H,a,_,z⟩:=Y.one
  exact⟨b,.refl _,λs r=>a6 a _ z s r⟩) a7 t.base b1 (λ_ _=>rfl) (Ren.le_refl _) (λg d w=>Xh w) (XS _)
 refine l.ON A (b4.bind λq b d5 r=>?_);obtain⟨O,o,rfl,d8,p,a0,a8,a5,b2,D,Z⟩:=r;refine .stop ⟨A,?_⟩;obtain⟨b5,a,rfl,z⟩:=Z.one;have b3:=p.todo;have a9:=p.mode;have U:o.todo=c:=QE (v:=Xf) L T b3;have X:o=d.at ⟨o.tmps,o.defers⟩ c:=by
  obtain⟨fn,e1,e2,d0,e0,d9,Ob⟩:=o;simp only at U;subst U;have Q:=p.fn;have x:=p.kind;have y:=p.roundOf;cases a9;obtain⟨b9,c8,c9,b8,c6,c0,c7⟩:=d;simp only[Frame.at]at Q x y⊢
  subst Q x;cases y;rfl
 rw[X];refine l.tape (t:=b5) ?_;refine next q a ⟨o.tmps,o.defers⟩ _ ⟨a0,?_,?_⟩ ⟨a8,a5,b2,D⟩ ⟨p.tmps,⟨o.defers,by simp,p.defers⟩,by simp⟩ z
 .exact t.cO.keep D
 exact t.iQ.keep D
end
variable{c:M}{p:E}{D:Xk Oper}{R:Xg Item}{Q:Xg Xr}{i:E}{d:E}{v:Xe}{S:Xg E}
structure aH(own a:E->Prop)(e c:M):Prop where
 size:e.heap.size<=c.heap.size
 keep:∀b,b<e.heap.size->¬own b->c.heap[b]?=e.heap[b]?
 more:∀b,a b->own b\/e.heap.size<=b
theorem aH.refl(own:E->Prop)(e:M):aH own own e e:=⟨XS _,λ_ _ _=>rfl,λ_ a=>Xh a⟩
theorem aH.trans{own U W:E->Prop}{X Y:M}(a:aH own U e X)(n:aH U W X Y):aH own W e Y where
 size:=XZ a.size n.size
 keep:=λb l T=>by
  rw[n.keep b (XY l a.size) λk=>?_,a.keep b l T];rcases a.more b k with w|w
  .exact T w
  omega
 more:=λb l=>by
  rcases n.more b l with k|k
  .exact a.more b k
  exact Xi (XZ a.size k)
theorem aH.heap{own h:E->Prop}{k:M}(g:aH own h e k)(f:c.heap=e.heap):aH own h c k:=⟨by rw[f];exact g.size,λb a l=>by rw[f]at a⊢;exact g.keep b a l,λb a=>by rw[f];exact g.more b a⟩
def aP(r:Xj)(a:RV):Xk Xe:=#[Xd K r,Xd K a.ak,Xd K a.kind,.string a.path,.string a.data,Xd K a.aE,Xd K a.flags,.bool a.watch,.slice a.oa a.on a.oc]
theorem TT{q:Type}{b:Xk q}(a:b.size=10):∃e f g h k l m n o p,b=#[e,f,g,h,k,l,m,n,o,p]:=by
 obtain⟨c⟩:=b;simp only[Yt]at a
 iterate 10
  rcases c with _|⟨_,c⟩
  simp at a
 simp_all
def rh(i:E):Xg E:=[[],[],[],[],[],[3,4],[5],[1,2,6],[0,7]].getD i []
section
variable{O:Goal TP al J f}{L:Ren}{q:M}{y:Xu}{h N:E}{r:Xj}{rq:RV}{t:Xk Xe}{ej:E->Prop}
variable{H:Xe->(E->Prop)->M->Prop}{z:(E->Prop)->M->Prop}
structure Wh(f:E->Prop)(q:M)(y:Xu)(u h N p s:E)(r:Xj)(rq:RV)(t:Xk Xe)(ej:E->Prop)(H:Xe->(E->Prop)->M->Prop)(z:(E->Prop)->M->Prop):Prop where
 s2:y.tmps[2]?=C (pt h 0)
 s4:y.tmps[4]?=C (pt (h+3) 0)
 s7:y.tmps[7]?=C (Xd K s)
 s8:y.tmps[8]?=C (pt N 0)
 mn:s<p
 ns:p<2^20
 c2:q.heap[h]?=C (Xn #[pt u 0] 76 (0,0))/\¬ej h
 c4:q.heap[h+3]?=C (Xn #[Xm (C ⟨h+2,0,F⟩) p p] 141 (0,0))/\¬ej (h+3)
 c8:q.heap[N]?=C (Xn (aP r rq) 107 (0,0))/\¬ej N
 cg:∃n U T,q.heap[h+2]?=C (Xn n U T)/\¬ej (h+2)/\∀j,j<10->n[s*10+j]?=t[j]?
 gs:t.size=10
 VM:∀l,f l->l<q.heap.size/\¬ej l
 Ro:∀c,c.heap=q.heap->Calls TP 61 #[pt u 0,.agg (aP r rq),.agg t] c λk a=>∃g own,k=Xs g/\H g own a/\aH ej own c a
 snd:∀g own c,H g own c->Calls TP 60 #[pt u 0,g] c λk a=>∃w,k=Xs (.tuple #[])/\z w a/\aH own w c a
 mh:∀g own e c,c.heap=e.heap->H g own e->H g own c
 fh:∀own e c,c.heap=e.heap->z own e->z own c
def jH(u h p s:E)(r:Xj)(rq:RV)(t:Xk Xe)(g:Xe):Xg (E×E×Xe):=
 [(0,33,pt u 0),(1,34,pt u 0),(2,35,.agg (aP r rq)),(3,36,Xm (C ⟨h+2,0,F⟩) p p),(4,37,Xd K s),(5,38,pt (h+2) (s*10)),(6,39,.agg t),(7,40,g)]
structure RJ(f:E->Prop)(L:Ren)(q:M)(y:Xu)(u h p s:E)(r:Xj)(rq:RV)(t:Xk Xe)(ej:E->Prop)(H:Xe->(E->Prop)->M->Prop)(z:(E->Prop)->M->Prop)(o:Xk Xo)(g:Xe)(own:E->Prop)(m:Ren)(e:M)(b x:Xu):Prop where
 inv:Inv TP al f m e
 grow:cV f L q m e
 rel:ar al m ⟨[],[]⟩ b x
 len:b.tmps.size=43
 defs:b.defers=[]
 old:∀j,j<33->b.tmps[j]?=y.tmps[j]?
 tab:∀a∈jH u h p s r rq t g,o.getD a.1 Xf=J->b.tmps[a.2.1]?=C a.2.2
 d87:o.getD 8 Xf=J->o.getD 7 Xf=J
 Rj:aH ej own q e
 pre:o.getD 7 Xf=Xf->e.heap=q.heap
 Ut:o.getD 7 Xf=J->o.getD 8 Xf=Xf->H g own e
 fin:o.getD 8 Xf=J->z own e
variable{o:Xk Xo}{g:Xe}{own:E->Prop}
theorem Ds(u h p s:E)(r:Xj)(rq:RV)(t:Xk Xe)(g:Xe):((jH u h p s r rq t g).map (·.1)).Nodup:=by show([0,1,2,3,4,5,6,7]:Xg E).Nodup;decide
theorem wF(u h p s:E)(r:Xj)(rq:RV)(t:Xk Xe)(g:Xe):((jH u h p s r rq t g).map (·.2.1)).Nodup:=by show([33,34,35,36,37,38,39,40]:Xg E).Nodup;decide
theorem RJ.eval(a:RJ f L q y u h p s r rq t ej H z o g own m e b x)(k:(i,d,v)∈jH u h p s r rq t g)(hd:o.getD i Xf=J):b.eval (.tmp d)=v/\b.tmps.getD d I=v/\b.tmps[d]?.getD I=v:=
 cB (a.tab _ k hd)
theorem DW{k:Xg (E×E×Xe)}(l:(k.map (·.1)).Nodup)(n:(k.map (·.2.1)).Nodup){o:Xk Xo}(T:∀a∈k,o.getD a.1 Xf=J->b.tmps[a.2.1]?=C a.2.2)(w:(i,d,v)∈k)(hd:d<b.tmps.size):
 ∀a∈k,(o.setIfInBounds i J).getD a.1 Xf=J->(b.put (C d) v).tmps[a.2.1]?=C a.2.2:=by
 grind [iB,Act.put,ef]
theorem pN(X:Wh f q y u h N p s r rq t ej H z){W:Op}(a7:bN D i (C d) W)(a8:jd TP al.fn al.bi al.bZ W=J)(b4:i<7)(hd:33<=d/\d<43)(a5:(i,d,v)∈jH u h p s r rq t g)
 (a:RJ f L q y u h p s r rq t ej H z o g own m e b x)(run:∀c:M,c.heap=e.heap->∀b1 b0 a0,(⟨C d,W,b1,b0,a0,F⟩:Oper).wp TP b c (λn k=>n=b.put (C d) v/\k.heap=e.heap) (eP λ_ _=>False))
 (next:∀g own m e b x,RJ f L q y u h p s r rq t ej H z (o.setIfInBounds i J) g own m e b x->O.G m e (rg ((base 39).at x (Xv D S::R)) Q)):
 O.G m e (rg ((base 39).at x (Xv D (i::S)::R)) Q):=by
 refine BT aC (by decide) (by decide) a7 a8 A a.inv a.rel (λn k=>n=b.put (C d) v/\k.heap=e.heap) run (λn k a2 w _=>by rw[a2.2]) ?_;rintro b3 _ Z k Y a1 a9⟨rfl,l⟩;have T:(o.setIfInBounds i J).getD 7 Xf=o.getD 7 Xf:=ef (by omega);have U:(o.setIfInBounds i J).getD 8 Xf=o.getD 8 Xf:=ef (by omega);refine next g own b3 k _ Z ⟨Y,a.grow.trans a1,a9,by simp[Act.put,a.len],a.defs,λj a4=>?_,DW (Ds ..) (wF ..) a.tab a5 (by rw[a.len];exact hd.2),by rw[T,U];exact a.d87,⟨by rw[l];exact a.Rj.size,λb a3 a6=>by rw[l];exact a.Rj.keep b a3 a6,a.Rj.more⟩,by rw[T,l];exact a.pre,by rw[T,U];exactλw b2=>X.mh _ _ _ _ l (a.Ut w b2),by rw[U];exactλw=>X.fh _ _ _ l (a.fin w)⟩
 simp only[Act.put];rw[Ya (by omega)];exact a.old j a4
theorem NZ(l:Wh f q y u h N p s r rq t ej H z)(g1:D.size=9)(i2:Bz D=J)(h9:∀{o:Xk Xo}{i:E},i∈Region.ready .any D o->∀j∈rh i,o.getD j Xf=J)
 (b4:bN D 0 (C 33) (.load 76 (.tmp 2)))(a4:bN D 1 (C 34) (.load 76 (.tmp 2)))(b5:bN D 2 (C 35) (.load 107 (.tmp 8)))(b6:bN D 3 (C 36) (.load 141 (.tmp 4)))(b7:bN D 4 (C 37) (.move (.tmp 7)))
 (b8:bN D 5 (C 38) (.indexAddr 141 (.tmp 36) (.tmp 37)))(b9:bN D 6 (C 39) (.load 158 (.tmp 38)))(c0:bN D 7 (C 40) (.call {callee:=.value (.func 61),args:=#[.tmp 34,.tmp 35,.tmp 39],argTypes:=#[76,107,158]}))
 (c6:bN D 8 (C 41) (.call {callee:=.value (.func 60),args:=#[.tmp 33,.tmp 40],argTypes:=#[76,38]})){id:E}(g4:Inv TP al f L q)(i5:ar al L ⟨[],[]⟩ y x)(i4:y.tmps.size=43)(i0:y.defers=[])
 (next:∀own m e b x,Inv TP al f m e->cV f L q m e->ar al m ⟨[],[]⟩ b x->b.tmps.size=43->b.defers=[]->(∀j,j<33->b.tmps[j]?=y.tmps[j]?)->z own e->aH ej own q e->O.G m e (rg ((base 39).at x R) Q)):
 O.G L q (rg ((base 39).at x (.code (.region id D J)::R)) Q):=by
 refine Hl (c:=λ_:Unit=>O) lx i2 (λo _ m e b x=>∃g own,RJ f L q y u h p s r rq t ej H z o g own m e b x) ?_ ?_ (b:=()) ⟨I,ej,⟨g4,.refl _ _,i5,i4,i0,λ_ _=>rfl,λT _ hd=>?_,λhd=>?_,.refl _ _,λ_=>rfl,λhd=>?_,λhd=>?_⟩⟩
 .rintro o i S j0 f9 f6 _ m e b x⟨g,own,a⟩;have hd:=h9 f9;obtain⟨i3,j4,_⟩:=ls.1 f9;rw[g1]at i3;have d5:o.getD i Xf=Xf:=by
   simp_all
  have d1:∀W,W<q.heap.size->¬ej W->e.heap[W]?=q.heap[W]?:=a.Rj.keep
  have n:∀{W j:E}{e0:Xk Xe}{g3:Xq}{f7:E×E}{v:Xe},q.heap[W]?=C (Xn e0 g3 f7)->¬ej W->e0[j]?=C v->∀c:M,c.heap=e.heap->c.cell? ⟨W,j,F⟩=C v:=by grind [World.cell?]
  have w:∀g own m e b x,RJ f L q y u h p s r rq t ej H z (o.setIfInBounds i J) g own m e b x->O.G m e (rg ((base 39).at x (Xv D S::R)) Q):=λg own m e b x a=>f6 () m e b x ⟨g,own,a⟩;have a8:b.tmps[2]?=C (pt h 0):=(a.old 2 (by omega)).trans l.s2;have b0:b.tmps[4]?=C (pt (h+3) 0):=(a.old 4 (by omega)).trans l.s4;have b1:b.tmps[7]?=C (Xd K s):=(a.old 7 (by omega)).trans l.s7;have b2:b.tmps[8]?=C (pt N 0):=(a.old 8 (by omega)).trans l.s8;clear f6;rcases(by omega:i=0\/i=1\/i=2\/i=3\/i=4\/i=5\/i=6\/i=7\/i=8)with rfl|rfl|rfl|rfl|rfl|rfl|rfl|rfl|rfl
  .obtain⟨c7,c8,c9⟩:=cB a8;have b3:=n (j:=0) l.c2.1 l.c2.2 A;refine pN l (v:=pt u 0) b4 (by rfl) (by decide) (by decide) (by simp[jH]) a (λc k a6 a5 T=>?_) w;replace b3:=b3 c k;clear w a n d1 next l hd b4 a4 b5 b6 b7 b8 b9 c0 c6 a8 b0 b1 b2
   go_wp2
   all_goals first|exact⟨rfl,k⟩|exact k
  .obtain⟨c7,c8,c9⟩:=cB a8;have b3:=n (j:=0) l.c2.1 l.c2.2 A;refine pN l (v:=pt u 0) a4 (by rfl) (by decide) (by decide) (by simp[jH]) a (λc k a6 a5 T=>?_) w;replace b3:=b3 c k;clear w a n d1 next l hd b4 a4 b5 b6 b7 b8 b9 c0 c6 a8 b0 b1 b2
   go_wp2
   all_goals first|exact⟨rfl,k⟩|exact k
  .obtain⟨c7,c8,c9⟩:=cB b2;refine pN l (v:=.agg (aP r rq)) b5 (by rfl) (by decide) (by decide) (by simp[jH]) a (λc k a6 a5 T=>?_) w;obtain⟨j8,j9,k0,k1,k2,k3,k4,j5,j7,j6⟩:=rq;have a2:=l.c8.1;unfold aP at a2⊢
   have g5:=n (j:=0) a2 l.c8.2 A c k;have c1:=n (j:=1) a2 l.c8.2 A c k;have c2:=n (j:=2) a2 l.c8.2 A c k;have c3:=n (j:=3) a2 l.c8.2 A c k;have c4:=n (j:=4) a2 l.c8.2 A c k;have c5:=n (j:=5) a2 l.c8.2 A c k;have g6:=n (j:=6) a2 l.c8.2 A c k;have g7:=n (j:=7) a2 l.c8.2 A c k;have g8:=n (j:=8) a2 l.c8.2 A c k;clear w a n d1 next l hd b4 a4 b5 b6 b7 b8 b9 c0 c6 a8 b0 b1 b2 a2
   go_wp2
   all_goals first|exact⟨rfl,k⟩|exact k
  .obtain⟨c7,c8,c9⟩:=cB b0;have b3:=n (j:=0) l.c4.1 l.c4.2 A;refine pN l (v:=Xm (C ⟨h+2,0,F⟩) p p) b6 (by rfl) (by decide) (by decide) (by simp[jH]) a (λc k a6 a5 T=>?_) w;replace b3:=b3 c k;clear w a n d1 next l hd b4 a4 b5 b6 b7 b8 b9 c0 c6 a8 b0 b1 b2
   go_wp2
   all_goals first|exact⟨rfl,k⟩|exact k
  .obtain⟨c7,c8,c9⟩:=cB b1;refine pN l (v:=Xd K s) b7 (by rfl) (by decide) (by decide) (by simp[jH]) a (λc k a6 a5 T=>?_) w;clear w a n d1 next l hd b4 a4 b5 b6 b7 b8 b9 c0 c6 a8 b0 b1 b2
   go_wp2
   all_goals first|exact⟨rfl,k⟩|exact k
  .obtain⟨c7,c8,c9⟩:=a.eval (i:=3) (d:=36) (v:=Xm (C ⟨h+2,0,F⟩) p p) (by simp[jH]) (hd 3 (by simp[rh]));obtain⟨q1,f3,f4⟩:=a.eval (i:=4) (d:=37) (v:=Xd K s) (by simp[jH]) (hd 4 (by simp[rh]));have j2:=l.mn;have j3:(s:Xj)<p:=by omega
   refine pN l (v:=pt (h+2) (s*10)) b8 (by rfl) (by decide) (by decide) (by simp[jH]) a (λc k a6 a5 T=>?_) w;clear w a n d1 next l hd b4 a4 b5 b6 b7 b8 b9 c0 c6 a8 b0 b1 b2
   go_wp2
   all_goals first|exact⟨rfl,k⟩|exact k
  .obtain⟨c7,c8,c9⟩:=a.eval (i:=5) (d:=38) (v:=pt (h+2) (s*10)) (by simp[jH]) (hd 5 (by simp[rh]));obtain⟨e0,g3,f7,a0,a1,Z⟩:=l.cg;obtain⟨g9,h0,h1,h2,h3,h4,h5,h6,h7,h8,f8⟩:=TT l.gs;refine pN l (v:=.agg t) b9 (by rfl) (by decide) (by decide) (by simp[jH]) a (λc k a6 a5 T=>?_) w;rw[f8]at Z⊢
   have g5:=n (j:=s*10) (v:=g9) a0 a1 (Z 0 (by decide)) c k;have c1:=n (j:=s*10+1) (v:=h0) a0 a1 (Z 1 (by decide)) c k;have c2:=n (j:=s*10+2) (v:=h1) a0 a1 (Z 2 (by decide)) c k;have c3:=n (j:=s*10+3) (v:=h2) a0 a1 (Z 3 (by decide)) c k;have c4:=n (j:=s*10+4) (v:=h3) a0 a1 (Z 4 (by decide)) c k;have c5:=n (j:=s*10+5) (v:=h4) a0 a1 (Z 5 (by decide)) c k;have g6:=n (j:=s*10+6) (v:=h5) a0 a1 (Z 6 (by decide)) c k;have g7:=n (j:=s*10+7) (v:=h6) a0 a1 (Z 7 (by decide)) c k;have g8:=n (j:=s*10+8) (v:=h7) a0 a1 (Z 8 (by decide)) c k;have i8:=n (j:=s*10+9) (v:=h8) a0 a1 (Z 9 (by decide)) c k;clear w a n d1 next l hd b4 a4 b5 b6 b7 b8 b9 c0 c6 a8 b0 b1 b2 Z a0 a1 f8
   go_wp2
   all_goals first|exact⟨rfl,k⟩|exact k
  ·
   obtain⟨c7,c8,c9⟩:=a.eval (i:=1) (d:=34) (v:=pt u 0) (by simp[jH]) (hd 1 (by simp[rh]));obtain⟨q1,f3,f4⟩:=a.eval (i:=2) (d:=35) (v:=.agg (aP r rq)) (by simp[jH]) (hd 2 (by simp[rh]));obtain⟨k6,k7,k8⟩:=a.eval (i:=6) (d:=39) (v:=.agg t) (by simp[jH]) (hd 6 (by simp[rh]));have e9:=a.pre d5;have i9:o.getD 8 Xf=Xf:=by
    cases X:o.getD 8 Xf with
    |false=>rfl
    |true=>rw[a.d87 X]at d5;cases d5
   refine BT aC (by decide) (by decide) c0 (by rfl) A a.inv a.rel (λa7 U=>∃g own,a7=b.put (C 40) g/\H g own U/\aH ej own q U) (λc k a6 a5 T=>?_) ?_ ?_
   .have d6:=l.Ro c (k.trans e9);generalize d4:(λa7 U=>∃g own,a7=b.put (C 40) g/\H g own U/\aH ej own q U)=e2
    have fin:∀g own a9,H g own a9->aH ej own c a9->e2 (b.put (C 40) g) a9:=λg own a9 d0 a3=>by subst d4;exact⟨g,own,A,d0,a3.heap (k.trans e9).symm⟩
    unfold Oper.wp
    have f1:(execOp b.eval ⟨C 40,.call {callee:=.value (.func 61),args:=#[.tmp 34,.tmp 35,.tmp 39],argTypes:=#[76,107,158]},a6,a5,T,F⟩).run TP c=.ok (.enter 61 #[pt u 0,.agg (aP r rq),.agg t]) c:=by
     generalize aP r rq=k5 at q1 f3 f4⊢
     clear d6 fin d4 w a l;go_simp
    rw[f1,aa3];refine d6.mono ?_
    grind
   .rintro a7 U⟨a4,g2,_,_,a3⟩ W X;obtain⟨d8,d9⟩:=l.VM W X;rw[a3.keep W d8 d9,e9]
   rintro f5 _ e5 U e1 e8 f2⟨a4,g2,rfl,d0,a3⟩;refine w a4 g2 f5 U _ e5 ⟨e1,a.grow.trans e8,f2,by simp[Act.put,a.len],a.defs,λj f0=>?_,?_,λ_=>getD_eq (by omega),a3,λX=>?_,λ_ _=>d0,λX=>?_⟩
   .simp only[Act.put];rw[Ya (by omega)];exact a.old j f0
   .refine DW (Ds ..) (wF ..) (b:=b) (λT d3 d2=>?_) (by simp[jH]) (by rw[a.len];decide);refine a.tab T ?_ d2;simp only[jH,XV,Yd,YS]at d3⊢
    rcases d3 with rfl|rfl|rfl|rfl|rfl|rfl|rfl|rfl
    all_goals first|(simp;done)|(rw[d5]at d2;cases d2)
   .rw[getD_eq (by omega)]at X;cases X
   simp_all
  ·
   have d7:=hd 7 (by simp[rh]);obtain⟨c7,c8,c9⟩:=a.eval (i:=0) (d:=33) (v:=pt u 0) (by simp[jH]) (hd 0 (by simp[rh]));obtain⟨q1,f3,f4⟩:=a.eval (i:=7) (d:=40) (v:=g) (by simp[jH]) d7;refine BT aC (by decide) (by decide) c6 (by rfl) A a.inv a.rel (λa7 U=>∃Y,a7=b.put (C 41) (.tuple #[])/\z Y U/\∃c,c.heap=e.heap/\aH own Y c U) (λc k a6 a5 T=>?_) ?_ ?_
   .have d6:=l.snd g own c (l.mh _ _ _ _ k (a.Ut d7 d5));generalize d4:(λa7 U=>∃Y,a7=b.put (C 41) (.tuple #[])/\z Y U/\∃c,c.heap=e.heap/\aH own Y c U)=e2
    have fin:∀Y a9,z Y a9->aH own Y c a9->e2 (b.put (C 41) (.tuple #[])) a9:=λY a9 d0 a3=>by subst d4;exact⟨Y,A,d0,c,k,a3⟩
    unfold Oper.wp
    have f1:(execOp b.eval ⟨C 41,.call {callee:=.value (.func 60),args:=#[.tmp 33,.tmp 40],argTypes:=#[76,38]},a6,a5,T,F⟩).run TP c=.ok (.enter 60 #[pt u 0,g]) c:=by clear d6 fin d4 w a l;go_simp
    rw[f1,aa3];refine d6.mono ?_
    grind
   .rintro a7 U⟨Y,_,_,c,T,a3⟩ W X;obtain⟨d8,d9⟩:=l.VM W X;have i6:=a.Rj.trans (a3.heap T.symm);rw[i6.keep W d8 d9,a.Rj.keep W d8 d9]
   rintro f5 _ e5 U e1 e8 f2⟨Y,rfl,d0,c,T,a3⟩;have j1:8<o.size:=by omega
   refine w g Y f5 U _ e5 ⟨e1,a.grow.trans e8,f2,by simp[Act.put,a.len],a.defs,λj f0=>?_,λe7 d3 d2=>?_,λ_=>by rw[ef (by decide)];exact d7,a.Rj.trans (a3.heap T.symm),λX=>?_,λ_ X=>?_,λ_=>d0⟩
   .simp only[Act.put];rw[Ya (by omega)];exact a.old j f0
   .have g0:e7.1≠8/\e7.2.1≠41:=by
     simp only[jH,XV,Yd,YS]at d3;rcases d3 with rfl|rfl|rfl|rfl|rfl|rfl|rfl|rfl<;>simp
    rw[ef g0.1]at d2;exact cm (a.tab e7 d3 d2) g0.2
   .rw[ef (by decide),d7]at X;cases X
   simp_all
 .rintro o i1 _ m e b x⟨g,own,a⟩;exact bP (next own m e b x a.inv a.grow a.rel a.len a.defs a.old (a.fin (i1 8 (by omega))) a.Rj)
 all_goals (exfalso;rw[g1]at*;revert hd;simp[Yu,Xk.getElem?_replicate];try (split<;>simp))
end
variable{e:E}{Q:Xp Xw}{t:Xg Xr}{g:M}
def nC(own:E->Prop)(d:Xk Xe):Prop:=∀b c a,d[8]?=C (Xm (C b) c a)->¬own b.block
structure Lw(St:E->(E->Prop)->M->Prop)(q:E->Xe->(E->Prop)->M->Prop)(u e d:E)(m:E->Xj)(rq:E->RV)(p:E->LR):Prop where
 Ro:∀a,a<e->∀own c w,St a own c->cf (p a) d w c->nC own w->Calls TP 61 #[pt u 0,.agg (aP (m a) (rq a)),.agg (w.push (p a).ev)] c λv g=>∃l n,v=Xs l/\q a l n g/\aH own n c g
 snd:∀a,a<e->∀l own c,q a l own c->Calls TP 60 #[pt u 0,l] c λv g=>∃n,v=Xs (.tuple #[])/\St (a+1) n g/\aH own n c g
 sg:∀a own(c g:M),(∀b,b<c.heap.size->g.heap[b]?=c.heap[b]?)->c.heap.size<=g.heap.size->St a own c->St a own g
 sl:∀a own c,St a own c->∀b,own b->b<c.heap.size
 mh:∀a l own(c g:M),g.heap=c.heap->q a l own c->q a l own g
section
variable{s:Goal TP al J f}{St:E->(E->Prop)->M->Prop}{q:E->Xe->(E->Prop)->M->Prop}{o d:E}{m:E->Xj}{rq:E->RV}{p:E->LR}
variable{r:Ren}{h:M}{i:E->Prop}
structure pW(f:E->Prop)(h:M)(u e o d:E)(Q:Xp Xw)(m:E->Xj)(rq:E->RV)(p:E->LR)(i:E->Prop):Prop where
 small:e<2^20
 h2:h.heap[d]?=C (Xn #[pt u 0] 76 (0,0))/\¬i d
 h3:h.heap[d+1]?=C (Xn #[.slice Q e o] 103 (0,0))/\¬i (d+1)
 h4:h.heap[d+3]?=C (Xn #[Xm (C ⟨d+2,0,F⟩) e e] 141 (0,0))/\¬i (d+3)
 Ui:∃n v,h.heap[d+2]?=C (Xn n 158 v)/\∀a,a<e->∃z,cf (p a) d z h/\(∀j,j<9->n[a*10+j]?=z[j]?)/\n[a*10+9]?=C (p a).ev
 Vx:¬i (d+2)
 nfree:∀b,d<=b->¬i b
 list:e=0\/∃l y x D v,Q=C ⟨l,y,F⟩/\h.heap[l]?=C (Xn x D v)/\¬i l/\∀a,a<e->∀j,j<9->x[y+a*9+j]?=(aP (m a) (rq a))[j]?
 Ob:∀w,f w->w<h.heap.size/\¬i w
structure TO(St:E->(E->Prop)->M->Prop)(f:E->Prop)(r:Ren)(h:M)(i:E->Prop)(e o d:E)(Q:Xp Xw)(n:E)(a:Ren)(c:M)(b k:Xu):Prop where
 inv:Inv TP al f a c
 grow:cV f r h a c
 rel:ar al a ⟨[],[]⟩ b k
 size:b.tmps.size=43
 defs:b.defers=[]
 s2:b.tmps[2]?=C (pt d 0)
 s3:b.tmps[3]?=C (pt (d+1) 0)
 s4:b.tmps[4]?=C (pt (d+3) 0)
 Wz:b.tmps[26]?=C (.slice Q e o)
 WA:b.tmps[27]?=C (Xd K e)
 WB:b.tmps[28]?=C (Xd K n)
 st:∃own,St n own c/\aH i own h c
theorem FG{own d:E->Prop}(e:aH own d c g){b:E}(i:b<c.heap.size)(h:¬own b):¬d b:=λf=>by
 rcases e.more b f with a|a
 .exact h a
 omega
theorem KA(z:Lw St q u e d m rq p)(w:pW f h u e o d Q m rq p i)(i9:St 0 i h)(h3:Inv TP al f r h)(j2:ar al r ⟨[],[]⟩ b k)(j1:b.tmps.size=43)(i3:b.defers=[])
 (f5:b.tmps[2]?=C (pt d 0))(g9:b.tmps[3]?=C (pt (d+1) 0))(f6:b.tmps[4]?=C (pt (d+3) 0))
 (next:∀own H c b k,Inv TP al f H c->cV f r h H c->ar al H ⟨[],[]⟩ b k->b.defers=[]->St e own c->aH i own h c->s.G H c (rg ((base 39).at k []) t)):
 s.G r h (rg ((base 39).at k [.code (tl (tl (tl (tl (tl lH)))))]) t):=by
 show s.G r h (rg ((base 39).at k [.code (.seq _ _)]) t);obtain⟨h0,f8⟩:=b;simp only at j1 i3 f5 g9 f6;obtain⟨X,Y,k1,k5,k6,d0,d1,e1,e2,d2,Z,a0,a1,a2,a3,a4,a5,a6,a7,a8,a9,b0,b1,b2,b3,b4,k2,k3,k4,h1,d8,d9,e0,b5,b6,b7,b8,b9,c0,c6,c7,c8,c9,rfl⟩:=uU j1;simp only[Yo,Yv,Yq,Yh]at f5 g9 f6;subst f5 g9 f6 i3;have g0:∀{n:E}{e8:Obj},h.heap[n]?=C e8->n<h.heap.size:=by grind
 refine bz (bT aC (by decide) (by decide) (z:=[]) A (by rfl) h3 j2 (λx v=>x=⟨#[X,Y,pt d 0,pt (d+1) 0,pt (d+3) 0,d0,d1,e1,e2,d2,Z,a0,a1,a2,a3,a4,a5,a6,a7,a8,a9,b0,b1,b2,b3,b4,.slice Q e o,Xd K e,Xd K (0:E),h1,d8,d9,e0,b5,b6,b7,b8,b9,c0,c6,c7,c8,c9],[]⟩/\v.heap=h.heap) (λg y _ _ _=>?_) (λx v a n _=>by rw[a.2]) ?_)
 .have g1:g.cell? ⟨d+1,0,F⟩=C (.slice Q e o):=by simp[M.cell?,y,w.h3.1]
  go_wp2
  exact⟨A,y⟩
 rintro x0 _ t4 s5 h4 h8 j3⟨rfl,g3⟩;refine ie ?_;refine qw (c:=λ_:Unit=>s) (λj _ H c k=>∃l b,l+j=e/\TO St f r h i e o d Q l H c b k) ?_ ?_ e (a:=()) ⟨0,_,by omega,⟨h4,h8,j3,A,A,A,A,A,A,A,A,i,z.sg 0 i h s5 (λb _=>by rw[g3]) (by simp_all) i9,⟨by simp_all,λb _ _=>by rw[g3],λb a=>Xh a⟩⟩⟩
 .clear j3 h4 h8 g3 j2 i9 h3;rintro j j5 _ H c k⟨l,b,m9,a⟩;have W:l<e:=by omega
  obtain⟨own,d3,U⟩:=a.st;obtain⟨h0,f8⟩:=b;obtain⟨X,Y,k1,k5,k6,d0,d1,e1,e2,d2,Z,a0,a1,a2,a3,a4,a5,a6,a7,a8,a9,b0,b1,b2,b3,b4,k2,k3,k4,h1,d8,d9,e0,b5,b6,b7,b8,b9,c0,c6,c7,c8,c9,rfl⟩:=uU a.size;have hd:=a.defs;subst hd;have e9:=a.s2;have f3:=a.s3;have f4:=a.s4;have f0:=a.Wz;have f1:=a.WA;have f2:=a.WB;simp only[Yo,Yv,Yq,Yh]at e9 f3 f4 f0 f1 f2;subst e9 f3 f4 f0 f1 f2;have u9:(l:Xj)<e:=by omega
  refine bz (bT aC (by decide) (by decide) (z:=[]) A (by rfl) a.inv a.rel (λx v=>x=⟨#[X,Y,pt d 0,pt (d+1) 0,pt (d+3) 0,d0,d1,e1,e2,d2,Z,a0,a1,a2,a3,a4,a5,a6,a7,a8,a9,b0,b1,b2,b3,b4,.slice Q e o,Xd K e,Xd K l,.bool J,d8,d9,e0,b5,b6,b7,b8,b9,c0,c6,c7,c8,c9],[]⟩/\v.heap=c.heap) (λg y _ _ _=>?_) (λx v a n _=>by rw[a.2]) ?_)
  .go_wp2
   exact⟨by simp[W],y⟩
  rintro k9 _ h5 v T e3 R⟨rfl,d4⟩;refine bz (iO (k:=J) (iP T.base R (by decide) A) (sq (bz (ie (bz ?_)))));obtain⟨L,d6,l3,o7,l8,rfl,f9,i0,h9⟩:=w.list.resolve_left (by omega);have i1:v.heap[L]?=C (Xn l3 o7 l8):=by rw[d4,U.keep L (g0 f9) i0,f9]
  refine bT aC (by decide) (by decide) (z:=[]) A (by rfl) T R (λx D=>x=⟨#[X,Y,pt d 0,pt (d+1) 0,pt (d+3) 0,d0,d1,Xd K l,pt v.heap.size 0,d2,Z,a0,a1,a2,a3,a4,a5,a6,a7,a8,a9,b0,b1,b2,b3,b4,Xm (C ⟨L,d6,F⟩) e o,Xd K e,Xd K l,.bool J,Xd K l,pt L (d6+l*9),.agg (aP (m l) (rq l)),b5,b6,b7,b8,b9,c0,c6,c7,c8,c9],[]⟩/\D.heap=v.heap.push (.cells (aP (m l) (rq l)) 107 (0,0))) (λg y _ _ _=>?_) ?_ ?_
  .obtain⟨⟨n9,o0,o1,o2,o3,o4,o5,n5,n7,n6⟩,i8⟩:∃n8,rq l=n8:=by simp
   have g2:=h9 l W;rw[i8]at g2⊢
   unfold aP at g2⊢
   rw[<-y]at i1;have cell:∀j k7,j<9->#[Xd K (m l),Xd K n9,Xd K o0,.string o1,.string o2,Xd K o3,Xd K o4,.bool o5,.slice n5 n7 n6][j]?=C k7->g.cell? ⟨L,d6+l*9+j,F⟩=C k7:=by simp_all [M.cell?]
   have t9:g.cell? ⟨L,d6+l*9,F⟩=C (Xd K (m l)):=cell 0 _ (by decide) A;have c1:=cell 1 _ (by decide) A;have c2:=cell 2 _ (by decide) A;have c3:=cell 3 _ (by decide) A;have c4:=cell 4 _ (by decide) A;have c5:=cell 5 _ (by decide) A;have u0:=cell 6 _ (by decide) A;have u1:=cell 7 _ (by decide) A;have l7:=cell 8 _ (by decide) A;rw[<-y];clear j5 a next z w d3 U cell g2 h9 f9 i0 i1 i8 d4 R e3 T y
   go_wp2
   exact⟨A,A⟩
  .grind [yW]
  rintro x1 _ t5 D l0 m0 j4⟨rfl,u7⟩;obtain⟨l6,l9,g1,m7⟩:=w.Ui;obtain⟨d7,j0,v2,v1⟩:=m7 l W;have v3:=j0.size;have i4:c.heap.size<=D.heap.size:=by simp_all
  have i6:∀n,n<c.heap.size->D.heap[n]?=c.heap[n]?:=by grind
  have m5:=z.sg l own c D i6 i4 d3;have i2:=U.trans ⟨i4,λn e4 _=>i6 n e4,λn a=>Xh a⟩;have N:∀{n:E}{e8:Obj},h.heap[n]?=C e8->¬i n->D.heap[n]?=C e8/\¬own n:=λa i7=>⟨by rw[i2.keep _ (g0 a) i7,a],FG U (g0 a) i7⟩
  have g4:∀g:M,g.heap=D.heap->cf (p l) d d7 g/\nC own d7:=by
   intro g O;obtain⟨g7,sl,j7,d5⟩:=j0;refine⟨⟨g7,sl,j7,?_⟩,λl4 n3 f7 e4=>?_⟩
   .rcases d5 with d5|⟨j8,h6,f7,k0,h7,g5,e6,g6,j6⟩
    .exact Xh d5
    exact Xi ⟨j8,h6,f7,k0,h7,g5,e6,by rw[O];exact(N g6 (w.nfree _ e6)).1,j6⟩
   have e5:d7.toList[8]?=C (Xm (C l4) n3 f7):=by grind
   rw[j7,<-Yp,YP (by simp[g7])]at e5;simp[g7]at e5;rcases d5 with⟨d5,_⟩|⟨j8,h6,c3,k0,h7,g5,e6,g6,j6⟩
   .simp_all
   rw[g5]at e5;cases e5;exact(N g6 (w.nfree _ e6)).2
  have m6:¬own v.heap.size:=λn0=>by have:=z.sl l own c d3 _ n0;simp_all
  refine NZ (u:=u) (h:=d) (N:=v.heap.size) (p:=e) (s:=l) (r:=m l) (rq:=rq l) (t:=d7.push (p l).ev) (ej:=own) (H:=q l) (z:=St (l+1)) {
   s2:=A
   s4:=A
   s7:=A
   s8:=A
   mn:=W
   ns:=w.small
   c2:=N w.h2.1 w.h2.2
   c4:=N w.h4.1 w.h4.2
   c8:=⟨by simp_all,m6⟩
   cg:=⟨l6,158,l9,(N g1 w.Vx).1,(N g1 w.Vx).2,λj u8=>by grind⟩
   gs:=by simp_all
   VM:=λn e4=>by
    obtain⟨w8,w9⟩:=w.Ob n e4
    grind
   Ro:=λg O=>z.Ro l W own g d7 (z.sg l own D g (λb _=>by rw[O]) (by simp_all) m5) (g4 g O).1 (g4 g O).2
   snd:=λg8 own g a=>z.snd l W g8 own g a
   mh:=λg8 own c g=>z.mh l g8 own c g
   fh:=λown c g O=>z.sg (l+1) own c g (λb _=>by rw[O]) (by simp_all)} A (by decide+kernel) (λm8=>Hf (R:=9) A (by decide+kernel) m8)
   ⟨_,A,A,A,A⟩ ⟨_,A,A,A,A⟩ ⟨_,A,A,A,A⟩ ⟨_,A,A,A,A⟩ ⟨_,A,A,A,A⟩ ⟨_,A,A,A,A⟩ ⟨_,A,A,A,A⟩ ⟨_,A,A,A,A⟩ ⟨_,A,A,A,A⟩ l0 j4 A rfl ?_
  intro j9 x2 k8 l5 t6 l1 m1 n1 n4 u3 S m3 m4;have s6:=S 2 (by omega);have t0:=S 3 (by omega);have t1:=S 4 (by omega);have s7:=S 26 (by omega);have s8:=S 27 (by omega);have s9:=S 28 (by omega);clear S j4 R g4 N;obtain⟨h0,f8⟩:=l5;obtain⟨o8,o9,w1,w5,w6,s0,s1,s2,s3,s4,p0,p1,p2,p3,p4,p5,p6,p7,p8,p9,q0,q2,q3,q4,q5,q6,w2,w3,w4,q7,q8,q9,r0,r1,r2,r3,r4,r5,r6,r7,r8,r9,w7,rfl⟩:=uU n4;simp only[Yo,Yv,Yq,Yh]at s6 t0 t1 s7 s8 s9;refine BU (bT aC (by decide) (by decide) (z:=[]) A (by rfl) l1 n1 (λx h2=>x=⟨#[o8,o9,pt d 0,pt (d+1) 0,pt (d+3) 0,s0,s1,s2,s3,s4,p0,p1,p2,p3,p4,p5,p6,p7,p8,p9,q0,q2,q3,q4,q5,q6,Xm (C ⟨L,d6,F⟩) e o,Xd K e,Xd K ((l+1:E):Xj),q7,q8,q9,r0,r1,r2,r3,r4,r5,r6,r7,r8,r9,Xd K ((l+1:E):Xj)],[]⟩/\h2.heap=k8.heap) (λg y _ _ _=>?_) (λx v a n _=>by rw[a.2]) ?_)
  .have v0:=w.small
   go_wp2
   exact⟨A,y⟩
  rintro x3 _ t7 h2 l2 m2 n2⟨rfl,i5⟩;refine j5 () _ _ _ ⟨l+1,_,by omega,⟨l2,(((a.grow.trans e3).trans m0).trans m1).trans m2,n2,A,A,A,A,A,A,A,A,j9,z.sg (l+1) j9 k8 h2 (λb _=>by rw[i5]) (by simp_all) m3,?_⟩⟩;exact(i2.trans m4).trans ⟨by simp_all,λb _ _=>by rw[i5],λb a=>Xh a⟩
 rintro _ H c k⟨l,b,m9,a⟩;obtain rfl:e=l:=by omega
 obtain⟨own,d3,U⟩:=a.st;obtain⟨h0,f8⟩:=b;obtain⟨X,Y,k1,k5,k6,d0,d1,e1,e2,d2,Z,a0,a1,a2,a3,a4,a5,a6,a7,a8,a9,b0,b1,b2,b3,b4,k2,k3,k4,h1,d8,d9,e0,b5,b6,b7,b8,b9,c0,c6,c7,c8,c9,rfl⟩:=uU a.size;have hd:=a.defs;have e9:=a.s2;have f3:=a.s3;have f4:=a.s4;have f0:=a.Wz;have f1:=a.WA;have f2:=a.WB;simp only[Yo,Yv,Yq,Yh]at e9 f3 f4 f0 f1 f2;refine bz (bT aC (by decide) (by decide) (z:=[]) A (by rfl) a.inv a.rel (λx v=>x=⟨#[X,Y,pt d 0,pt (d+1) 0,pt (d+3) 0,d0,d1,e1,e2,d2,Z,a0,a1,a2,a3,a4,a5,a6,a7,a8,a9,b0,b1,b2,b3,b4,.slice Q e o,Xd K e,Xd K e,.bool Xf,d8,d9,e0,b5,b6,b7,b8,b9,c0,c6,c7,c8,c9],[]⟩/\v.heap=c.heap) (λg y _ _ _=>?_) (λx v a n _=>by rw[a.2]) ?_)
 .go_wp2
  exact⟨by simp,y⟩
 rintro k9 _ h5 v T e3 R⟨rfl,d4⟩;refine bz (iO (k:=Xf) (iP T.base R (by decide) A) (sb (a:=[]) A ?_));exact next own k9 v _ h5 T (a.grow.trans e3) R A (z.sg e own c v (λb _=>by rw[d4]) (by simp_all) d3) (U.trans ⟨by simp_all,λb _ _=>by rw[d4],λb a=>Xh a⟩)
end
variable{c:Xe}{a:M}{b:E}
def nA(a d:M):Prop:=a.heap.size<=d.heap.size/\∀b,b<a.heap.size->d.heap[b]?=a.heap[b]?\/∃c e f g,aT c/\a.heap[b]?=C (Obj.cells c e f)/\d.heap[b]?=C (Obj.cells c e g)
structure QW(St:E->(E->Prop)->M->Prop)(f m:E->Prop)(a:M)(v:E->LR)(N:E->Xj)(rq:E->RV)(ej:E->Prop)(u x b O t:E)(Q:Xp Xw):Prop where
 KX:∀d,f d->∃g w,a.heap[d]?=C (Xn g w (0,g.size))/\0<g.size/\(∀(k:E) h,g[k]?=C h->aR f h)/\¬aT g
 Io:∀r,(0<r\/r=TP.globals.size)->r<=TP.globals.size->f r
 xt:∀d,m d->(∃g w i,a.heap[d]?=C (Xn g w i)/\0<g.size/\i.2<=g.size/\¬aT g/\∀(k:E) h,g[k]?=C h->aR m h)\/∃D e,a.heap[d]?=C (.map D e)/\∀q∈D.toList,aR m q.key/\aR m q.val
 TA:m x
 hc:∃l y i,a.heap[u]?=C (Xn l y i)/\i.2<=l.size/\l[1]?=C (Xd K t)/\l[2]?=C (pt x 0)/\¬aT l/\∀(k:E) h,l[k]?=C h->IM h
 hA:Q=F/\b=0\/∃s H o y i,Q=C ⟨s,H,F⟩/\a.heap[s]?=C (Xn o y i)/\0<o.size/\i.2<=o.size/\(∀(k:E) h,o[k]?=C h->Calm h)/\¬ej s/\∀e,e<b->∀j,j<9->o[H+e*9+j]?=(aP (N e) (rq e))[j]?
 small:b<2^20
 Ib:1<=t/\t<2^16
 ev:∀e,Plain (v e).ev
 look:∀e,e<b->∀n:M,(∀d,m d\/f d->n.heap[d]?=(a.heap[d]?).map Obj.whole)->a.heap.size<=n.heap.size->Calls TP 58 #[pt x 0,.string (rq e).path] n λq p=>∃L,q=Xs (.tuple #[.agg L,(v e).ev])/\cf (v e) n.heap.size L p/\Below n.heap.size n p
 init:∀p,nA a p->St 0 ej p
 Wv:∀d,ej d->d<a.heap.size
 Ww:∀d,f d->¬ej d
theorem FJ(a:∀b,c≠.int .u8 b):¬aT #[c]:=λ⟨e,f,d⟩=>a f (one_cell (P:=λg=>c=g) A e _ d)
theorem results39(c:Xk Xe)(a:M):(results Tryz.f39 c).run TP a=.ok (.tuple #[]) a:=by have b:Tryz.f39.results=#[]:=A;unfold results;rw[b];simp[go_sem]
theorem Qy{b1:cZ}{St:E->(E->Prop)->M->Prop}{d4:E->Xe->(E->Prop)->M->Prop}{a1:E->Prop}{Z:E->LR}{a8:E->Xj}{rq:E->RV}{ej:E->Prop}{c0 w b9:E}
 (P:QW St f a1 a Z a8 rq ej u c0 b w b9 Q)(b0:Lw St d4 u b a.heap.size a8 rq Z)(e5:kg b1 f):
 Co (goalAt TP b1 F z al f) 39 #[pt u 0,.slice Q b w] a λc t=>∃own O,c=.tuple #[]/\nA a O/\St b own t/\aH ej own O t:=by
 intro j2 h9 n d8 c9 e8 next
 have m:∀{g:E}{g3:Obj},a.heap[g]?=C g3->g<a.heap.size:=λe=>(XN.1 e).1;refine Tj (a:=b) (e:=w) (Q:=Q) (by have:=P.small;omega) c9 e8 λj4 v h7 d1 b6 g0⟨cl,f0,y⟩=>?_;have i8:v.heap.size=a.heap.size+4:=by rw[y];simp
 have s:∀g,g<a.heap.size->v.heap[g]?=a.heap[g]?:=λg r=>by rw[y,bY (by simp;omega),bY (by simp;omega),bY (by simp;omega),bY r]
 have b2:v.heap[a.heap.size]?=C (Xn #[pt u 0] 76 (0,0)):=by rw[y,bY (by simp;omega),bY (by simp;omega),bY (by simp)];simp
 have b3:v.heap[a.heap.size+1]?=C (Xn #[.slice Q b w] 103 (0,0)):=by rw[y,bY (by simp),bY (by simp),Ze,XC (by simp)]
 have e0:v.heap[a.heap.size+2]?=C (Xn cl 158 (0,0)):=by rw[y,bY (by simp),Ze,XC (by simp)]
 have b4:v.heap[a.heap.size+3]?=C (Xn #[Xm (C ⟨a.heap.size+2,0,F⟩) b b] 141 (0,0)):=by rw[y,Ze,XC (by simp)]
 have a9:∀d,f d\/a1 d->d<a.heap.size:=by
  rintro d(i|i)
  .obtain⟨_,_,e,_⟩:=P.KX d i;exact m e
  rcases P.xt d i with⟨_,_,_,e,_⟩|⟨_,_,e,_⟩<;>exact m e
 obtain⟨c7,g9,e1,a6,e9⟩:=P.hc
 have c8:jZ f a1 v Z (λp=>(rq p).path) u c0 a.heap.size b w b9 Q:={
  KX:=λd i=>by obtain⟨n,l,k,h⟩:=P.KX d i;exact⟨n,l,(s d (m k)).trans k,h⟩
  Io:=P.Io
  xt:=λd i=>by
   rcases P.xt d i with⟨n,l,o,k,h⟩|⟨d9,p,k,h⟩
   .exact Xh ⟨n,l,o,(s d (m k)).trans k,h⟩
   exact Xi ⟨d9,p,(s d (m k)).trans k,h⟩
  TA:=P.TA
  hc:=⟨c7,g9,e1,(s u (m a6)).trans a6,e9⟩
  hA:=by
   rcases P.hA with e|⟨x,Y,R,a0,o,k,h,T,U,b7,a3,W⟩
   .exact Xh e
   exact Xi ⟨x,Y,R,a0,o,k,m h,(s x (m h)).trans h,T,U,b7,λp L=>(W p L 3 (by decide)).trans A⟩
  h2:=b2
  h3:=b3
  h4:=b4
  AZ:=⟨cl,f0,e0⟩
  low:=⟨a9,m a6⟩
  small:=P.small
  Ib:=P.Ib
  ev:=P.ev
  look:=λp L h1 g2 i6=>P.look p L h1 (λd i=>by rw[g2 d i,s d (a9 d i.symm)]) (by omega)}
 refine Om c8 e5 d1 g0 λj3 t d h8 d0 b5 b8 f5 f9 f8 f1 g4 g5 g6=>?_;have i7:=b5.size
 have a4:nA a t:=⟨by omega,λd i=>by
  rcases b8 d (by omega) (by omega)with e|⟨n,l,a2,S,D,q,H⟩
  .exact Xh (e.trans (s d i))
  exact Xi ⟨n,l,a2,S,D,(s d i).symm.trans q,H⟩⟩
 have same:∀{g:E}{c:Xe}{l:Xq}{o:E×E},g≠a.heap.size+2->(∀X,c≠.int .u8 X)->v.heap[g]?=C (Xn #[c] l o)->t.heap[g]?=C (Xn #[c] l o):=by
  intro g c l o f6 a7 r;rcases b8 g (XN.1 r).1 f6 with e|⟨n,l,a2,S,D,q,H⟩
  .exact e.trans r
  rw[r]at q;cases q;exact absurd D (FJ a7)
 have N:∀d,a.heap.size<=d->¬ej d:=λd i f7=>by have:=P.Wv d f7;omega
 obtain⟨d7,e2,f3,i4,i5,f4⟩:=f5
 have d5:pW f t u b w a.heap.size Q a8 rq Z ej:={
  small:=P.small
  h2:=⟨same (by omega) (λX e=>by cases e) b2,N _ (XS _)⟩
  h3:=⟨same (by omega) (λX e=>by cases e) b3,N _ (by omega)⟩
  h4:=⟨same (by omega) (λX e=>by cases e) b4,N _ (by omega)⟩
  Ui:=⟨d7,e2,f3,λp L=>by
   obtain⟨g8,D,q,H⟩:=f4 p L
   exact⟨g8,D.mono (by omega) λ_ _=>rfl,q,H⟩⟩
  Vx:=N _ (by omega)
  nfree:=N
  list:=by
   rcases P.hA with⟨_,e⟩|⟨x,Y,R,a0,o,k,h,T,U,b7,a3,W⟩
   .exact Xh e
   right;rcases a4.2 x (m h)with e|⟨n,l,a2,S,D,q,H⟩
   .exact⟨x,Y,R,a0,o,k,e.trans h,a3,W⟩
   rw[h]at q;cases q;exact⟨x,Y,R,a0,S,k,H,a3,W⟩
  Ob:=λg r=>⟨by have:=a9 g (Xh r);omega,P.Ww g r⟩}
 refine KA b0 d5 (P.init t a4) d0 f9 f8 f1 g4 g5 g6 λown h4 h2 i0 d6 d2 e3 g1 f2 e7 a5=>?_;refine Goal.pure _ A rfl (g₁:=rg {(base 39).at d6 []with mode:=.returning} (n::d8)) (λh6=>by rw[bu A];simp[stepG.exec,Frame.at,rg]) ?_;refine qj (S:=λc c6=>∃own O,c=.tuple #[]/\nA a O/\St b own c6/\aH ej own O c6) aC (by decide) A (fn:=Tryz.f39) Tryz.func39 d2 A g1 f2 (Tp.all λl=>⟨_,results39 _ _,own,t,A,a4,?_,?_⟩) λc h0 h3 d3 e4 a7 e6=>next h4 c h0 h3 d3 (((b6.trans b5).trans e3).trans e4) a7 e6
 .exact b0.sg b own h2 _ (λ_ _=>rfl) (XS _) e7
 exact⟨a5.size,a5.keep,a5.more⟩
variable{a:Xr}{c:Xu}{e:Xg Item}{d:Xg Xr}{g:E}{f:Xg E}{h:Xe}{q:M}
theorem FE(q:M):(Instr.makeChan 99 (Xd K 4)).runT TP q #[]=(.ok (.chan (C q.heap.size)) {q with heap:=q.heap.push (.chan 4 #[] Xf 0 0 Xf)},#[]):=by rfl
section
variable{main:Xo}
theorem tQ{i:Xp Tmp}{r:Op}{p:M}(u:a.kind≠.early)(w:bN D g i r)(v:∀fn,TP.funcs[a.fn]?=C fn->fn.norace=Xf)(b:∀o n k,(execOp c.eval ⟨i,r,o,n,k,F⟩).runT TP q #[]=(.ok (.value h) p,#[])):
 stepG TP main (rg (a.at c (Xv D (g::f)::e)) d) q=.go (rg (a.at (c.put i h) (Xv D f::e)) d) p:=by
 obtain⟨⟨y,H,o,n,k,z⟩,s,l,m,t⟩:=w;subst l m t;have b:=b o n k;rw[s_]at b;have l:=(t_ b).1;have m:=(t_ b).2;have:=Go.Conc.stepG_value (P:=TP) (main:=main) (a:=c) (b:=a) (k:=e) (cs:=d) (rest:=f) s A u l;refine abr this ?_;rw[listed,m,seen_cells v (by simp)];rfl
theorem xJ{b:XJ}(h:a.kind≠.early)(k:bN D g (C j) (.makeChan 99 b))(l:c.eval b=Xd K 4)(i:∀fn,TP.funcs[a.fn]?=C fn->fn.norace=Xf)(q:M):
 stepG TP main (rg (a.at c (Xv D (g::f)::e)) d) q=.go (rg (a.at (c.put (C j) (.chan (C q.heap.size))) (Xv D f::e)) d) {q with heap:=q.heap.push (.chan 4 #[] Xf 0 0 Xf)}:=
 tQ h k i λo n m=>by show Xz.runT TP ((Instr.makeChan 99 (c.eval b)).bind _) q #[]=_;rw[l,Go.Sem.runT_bind',FE];rfl
theorem GU{i:Tmp}{b:E}(p:a.kind≠.early)(r:bN D g (C j) (.recv 99 (.tmp i) J))(z:c.tmps[i]?=C (.chan (C b)))(y:∀fn,TP.funcs[a.fn]?=C fn->fn.norace=Xf):
 AtRecv TP b .nilIface (rg (a.at c (Xv D (g::f)::e)) d) (rg (a.at c (Xv D (g::f)::e)) d):=by
 refine⟨A,A,λq=>?_⟩;obtain⟨⟨w,H,u,t,k,x⟩,l,m,n,o⟩:=r;subst m n o
 have s:(execOp c.eval ⟨C j,.recv 99 (.tmp i) J,u,t,k,F⟩).run TP q=.ok (.comm #[rcase b .nilIface] J (.recv J)) q:=by go_simp;rfl
 have:=stepG_comm (P:=TP) (main:=J) (b:=a) (a:=c) (k:=e) (cs:=d) (rest:=f) l A p s;exact this
theorem za(i:∃b,bN D g (C j) b):Go.Conc.served (rg (a.at c (Xv D (g::f)::e)) d) h=rg (a.at (c.put (C j) h) (Xv D f::e)) d:=by obtain⟨b,o,k,l,m,n⟩:=i;simp_all [YK,Go.Conc.served,rg]
end
variable{d:Xu}{f:Xg Item}{l:Xg Xr}{e:E}{g:Xg E}{h:Xk Xe}
theorem Tl(q:M)(a:Xk XF):(Go.sizeOf 99).runT TP q a=(.ok 1 q,a):=by rfl
section
variable{main:Xo}
theorem AO{k m:Tmp}{B b:E}{Y:Xq}{o:E×E}(L:a.kind≠.early)(Q:bN D e F (.store 99 (.tmp k) (.tmp m)))(S:d.tmps[k]?=C (pt B 0))(U:d.tmps[m]?=C (.chan (C b)))(O:∀fn,TP.funcs[a.fn]?=C fn->fn.norace=Xf)
 (a5:q.heap[B]?=C (Xn h Y o))(a3:0<h.size)(a7:o.1=o.2):
 stepG TP main (rg (a.at d (Xv D (e::g)::f)) l) q=.go (rg (a.at d (Xv D g::f)) l) (q.setCell ⟨B,0,F⟩ (.chan (C b))) #[⟨.cell ⟨B,0,F⟩,J,Xf⟩]:=by
 obtain⟨⟨a0,a8,u,t,c,a2⟩,r,i,x,y⟩:=Q;subst i x y;have T:=(cB S).1;have W:=(cB U).1;have z:q.cell? ⟨B,0,F⟩=C h[0]:=by simp_all [M.cell?]
 have H:q.frozen? ⟨B,0,F⟩=Xf:=by simp_all [M.frozen?]
 have R:(execOp d.eval ⟨F,.store 99 (.tmp k) (.tmp m),u,t,c,F⟩).runT TP q #[]=(.ok .skip (q.setCell ⟨B,0,F⟩ (.chan (C b))),#[⟨.cell ⟨B,0,F⟩,J,Xf⟩]):=by
  unfold execOp;simp only[T,W];show((Instr.storeAt 99 (pt B 0) (.chan (C b))).bind λ_=>(Sem.pure Next.skip:Xz Next)).runT TP q #[]=_;have v:(Instr.storeAt 99 (pt B 0) (.chan (C b)))=(Go.sizeOf 99).bind λX=>if(Value.chan (C b)).cells.size≠X then stuck "storeVar: the value has not the size of the variable"else storeCells ⟨B,0,F⟩ [.chan (C b)]:=A;rw[J_,v,J_,Tl];simp only;rw[Xx (by simp[Value.cells])]
  have a1:(storeCells ⟨B,0,F⟩ [.chan (C b)]).runT TP q #[]=(.ok () (q.setCell ⟨B,0,F⟩ (.chan (C b))),#[⟨.cell ⟨B,0,F⟩,J,Xf⟩]):=by show Xz.runT TP ((store ⟨B,0,F⟩ (.chan (C b))).bind _) q #[]=_;rw[J_,tM A z H];rfl
  simp_all
 have N:∀c∈(#[⟨.cell ⟨B,0,F⟩,J,Xf⟩]:Xk XF),∀s,c.loc≠.mark s:=λc a4 s a6=>by simp_all
 obtain⟨p,n⟩:=d;obtain⟨Z,w,i⟩:=fM (P:=TP) (a.at ⟨p,n⟩ (Xv D (e::g)::f)) l (execOp (Act.eval ⟨p,n⟩) ⟨F,.store 99 (.tmp k) (.tmp m),u,t,c,F⟩) q;rw[jv r A,w];rw[R]at i⊢
 rw[i L trivial];simp only[eQ,stepG.apply,Xz.runT,Yc,YW,aX,aN,rg,GStep.after];rw[show(a.at ⟨p,n⟩ (Xv D (e::g)::f)).fn=a.fn from A,seen_cells O N];simp[YK,r,Act.put]
end
variable{a:M}{g:Xe}{c:Xk Xe}{d:M}{h:Set}{f:E->Prop}{e:Xg Xr}
noncomputable def eK:XG:=(Tryz.f31.body).getD .skip
def opsOf:XG->Xk Oper
 |.region _ a _=>a
 |_=>#[]
theorem lp:∀fn,TP.funcs[(base 31).fn]?=C fn->fn.norace=Xf:=λfn a=>by have:TP.funcs[31]?=C fn:=a;cases this;rfl
structure Ls(k:E->Prop)(a:M)(Q:Xp Xw)(b D:E)(rq:E->RV)(t:E->Xe):Prop where
 closed:Closed k a
 bF:∀l,(0<l\/l=TP.globals.size)->l<=TP.globals.size->k l
 list:∀p,Q=C p->k p.block
 elem:∀i,i<b->∃q r o x w,Q=C ⟨q,r,F⟩/\a.heap[q]?=C (Xn o x w)/\∀j,j<8->o[r+i*8+j]?=(rq i).jf[j]?
 NS:∀i,i<b->∀d:M,(∀n,k n->(d.heap[n]?).map Obj.whole=(a.heap[n]?).map Obj.whole)->Calls TP 38 #[Xd K i,.agg (rq i).jf] d λv y=>v=Xs (t i)/\Below d.heap.size d y
 only:∀i,fj k (t i)
 small:b<2^20
def uA(b:E->Prop)(s:E)(a:E):Prop:=b a\/a=s\/a=s+1
def LB(u s b a:E)(Q:Xp Xw):Xu:=⟨#[pt u 0,.slice Q b a,I,pt s 0,Xm F 0 0,pt (s+1) 0,I,I,I,I,pt u 0,pt u 0,pt u 8,I,I,I,I,I,I,I,I,I,I,I,I,I,I,I,I,I,I,I,I,I,I,I,I,I,I,I,I,I],[]⟩
theorem Eh(a:Obj):Obj.whole (Obj.whole a)=Obj.whole a:=by cases a<;>rfl
theorem yv(d:E->Prop)(a:M)(b:E):((jR d a).heap[b]?).map Obj.whole=(a.heap[b]?).map Obj.whole:=by
 by_cases e:d b
 .grind [iN,Eh]
 rw[uq e]
def Es(b:Xk Obj)(a:M):Prop:=a.heap=b
structure Eu(a i:M)(u b p:E)(Q:Xp Xw)(n:Xk Xe)(q:Xq)(o:E×E):Prop where
 size:i.heap.size=a.heap.size+2
 xo:i.heap[u]?=C (Xn (n.setIfInBounds 8 (Xm F 0 0)) q o)
 old:∀k,k<a.heap.size->k≠u->i.heap[k]?=a.heap[k]?
 h3:i.heap[a.heap.size]?=C (Xn #[.slice Q b p] 25 (0,0))
 h5:i.heap[a.heap.size+1]?=C (Xn #[I] 99 (0,0))
omit[Inhabited aM]in
theorem aA{i l:E}{n:Xq}{k:E×E}(o:a.heap[i]?=C (Xn c n k)):(a.setCell ⟨i,l,F⟩ g).heap[i]?=C (Xn (c.setIfInBounds l g) n k):=by simp[M.setCell,Zf,o]
omit[Inhabited aM]in
theorem ai{d f b:E}(e:b≠d):(a.setCell ⟨d,f,F⟩ g).heap[b]?=a.heap[b]?:=by simp[M.setCell,Zf,YX e]
omit[Inhabited aM]in
theorem aS{b:Xw}:(a.setCell b g).heap.size=a.heap.size:=by simp
theorem Qr{a3:M}{a:E}{a5:Xe}(b1:d.cell? ⟨u,8,F⟩=C a5)(b2:d.frozen? ⟨u,8,F⟩=Xf)(b0:d.heap=a3.heap){m Y Z a0 a1 a2 a6 a7 a8 e f g h i k l n o p q r t v w x y z D H L N O R S T U W X:Xe}:
 wpList TP (opsOf (hd (tl eK))) (eP (λa4 a9=>a4=⟨#[pt u 0,.slice Q b a,m,pt s 0,Xm F 0 0,Y,Z,a0,a1,a2,pt u 0,pt u 0,pt u 8,e,f,g,h,i,k,l,n,o,p,q,r,t,v,w,x,y,z,D,H,L,N,O,R,S,T,U,W,X],[]⟩/\Es (a3.setCell ⟨u,8,F⟩ (Xm F 0 0)).heap a9)) (opsOf (hd (tl eK))).toList ⟨#[pt u 0,.slice Q b a,m,pt s 0,Xm F 0 0,Y,Z,a0,a1,a2,a6,a7,a8,e,f,g,h,i,k,l,n,o,p,q,r,t,v,w,x,y,z,D,H,L,N,O,R,S,T,U,W,X],[]⟩ d:=by
 show wpList TP _ _ [⟨C 10,.move (.tmp 0),_,_,_,_⟩,⟨C 11,.nilCheck (.tmp 10),_,_,_,_⟩,⟨C 12,.fieldAddr 98 (.tmp 11) 8,_,_,_,_⟩,⟨F,.store 43 (.tmp 12) (.const (Xm F 0 0)),_,_,_,_⟩] _ _
 go_wp2
 exact⟨A,by simp_all [Es,M.setCell]⟩
theorem Oa(d:my h f a){b:E}(i:f b):(a.heap[b]?).map Obj.whole=a.heap[b]?:=by
 obtain⟨k,e,g⟩:=d b i;rw[e];cases k with
 |cells c m l=>obtain⟨rfl,_⟩:=g;rfl
 |_=>rfl
theorem MQ{o:E->Prop}{r:E}{rq:E->RV}{b6:E->Xe}{y:Xk Xe}{c:Xr}{O:Xk Xe}{b1:Xq}{H:E×E}
 (s:Ls o a Q b r rq b6)(d6:a.heap[u]?=C (Xn O b1 H))(h8:8<O.size)(f6:H.1=H.2)(d9:¬o u)
 (c8:∀i,f i->o i)(g0:∀i,Im i->f i)(c9:Inv TP al f m a)(p:aw al m #[pt u 0,.slice Q b r] y)
 (next:∀a5(b4:M) a6 a4 q,q.n=b->q.τ=b6->q.sh=o->Eu a b4 u b r Q O b1 H->Closed (uA o a.heap.size) b4->Inv TP al (uA o a.heap.size) a5 (jR (uA o a.heap.size) b4)->cV f m a a5 (jR (uA o a.heap.size) b4)->a5 (a.heap.size+1) q.bx->
   ar al a5 ⟨[],[]⟩ (LB u a.heap.size b r Q) a6->sW TP (C (a4,q,0)) F z al (uA o a.heap.size) a5 (jR (uA o a.heap.size) b4) (rg ((base 31).at a6 [.code (tl (tl (tl (tl eK))))]) (c::e))):
 sW TP F F z al f m a (rg (Frame.enter TP 31 y .normal) (c::e)):=by
 show(goalAt TP F F z al f).G m a _
 have f0:Frame.enter TP 31 y .normal=(base 31).at ⟨y++Array.replicate (42-y.size) I,[]⟩ [.code eK]:=by rfl
 rw[f0];obtain⟨b2,b3,rfl⟩:∃b2 b3,y=#[b2,b3]:=by have:=p.1;simp at this;exact⟨y[0],y[1],by apply aaj (by simp[<-this]);intro v c6 l6;rcases(by omega:v=0\/v=1)with rfl|rfl<;>simp⟩
 have g7:an al m (pt u 0) b2:=p.2 0 _ _ A rfl;have g8:an al m (.slice Q b r) b3:=p.2 1 _ _ A rfl;have g5:=aY (h:=al) (m:=m)
 simp only[Yt,Yl,Zd,E.reduceAdd,E.reduceSub,Zh,
  Zi,Zt,Zn,Zj,Yp]
 have e1:ar al m ⟨[],[]⟩ ⟨#[pt u 0,.slice Q b r,I,I,I,I,I,I,I,I,I,I,I,I,I,I,I,I,I,I,I,I,I,I,I,I,I,I,I,I,I,I,I,I,I,I,I,I,I,I,I,I],[]⟩ ⟨#[b2,b3,I,I,I,I,I,I,I,I,I,I,I,I,I,I,I,I,I,I,I,I,I,I,I,I,I,I,I,I,I,I,I,I,I,I,I,I,I,I,I,I],[]⟩:=by
  refine⟨?_,⟨[],A,.nil⟩,by simp⟩;refine aZ.arr (.cons g7 (.cons g8 ?_))
  repeat (first|exact .nil|refine .cons g5 ?_)
 generalize (⟨#[b2,b3,I,I,I,I,I,I,I,I,I,I,I,I,I,I,I,I,I,I,I,I,I,I,I,I,I,I,I,I,I,I,I,I,I,I,I,I,I,I,I,I],[]⟩:Xu)=a6 at e1⊢
 have i2:=(XN.1 d6).1;have S:∀i,f i->i<a.heap.size:=λi p=>by obtain⟨_,_,_,n,_⟩:=s.closed i (c8 i p);exact(XN.1 n).1
 have e5:∀i,f i->i≠u:=by grind
 refine bz (bT aC (by decide) (by decide) (z:=[]) A (by decide+kernel) c9 e1 (λa7 b5=>a7=⟨#[pt u 0,.slice Q b r,I,pt a.heap.size 0,Xm F 0 0,I,I,I,I,I,I,I,I,I,I,I,I,I,I,I,I,I,I,I,I,I,I,I,I,I,I,I,I,I,I,I,I,I,I,I,I,I],[]⟩/\b5.heap=a.heap.push (.cells #[.slice Q b r] 25)) (λd X _ _ _=>?_) (λ_ _ n l k=>by rw[n.2,bY (S l k)]) ?_)
 .go_wp2
  exact⟨A,by simp[World.alloc,X]⟩
 rintro a5 _ k8 b5 e7 R g3⟨rfl,b9⟩;have d7:b5.heap[u]?=C (Xn O b1 H):=by rw[b9,bY i2];exact d6
 refine bz (bT aC (by decide) (by decide) (z:=[]) A (by decide+kernel) e7 g3 (λa7 T=>a7=⟨#[pt u 0,.slice Q b r,I,pt a.heap.size 0,Xm F 0 0,I,I,I,I,I,pt u 0,pt u 0,pt u 8,I,I,I,I,I,I,I,I,I,I,I,I,I,I,I,I,I,I,I,I,I,I,I,I,I,I,I,I,I],[]⟩/\Es (b5.setCell ⟨u,8,F⟩ (Xm F 0 0)).heap T) (λd X l0 l1 l2=>?_) (λ_ _ n l k=>by rw[show _=_ from n.2];exact ai (e5 l k)) ?_)
 .have f7:d.heap[u]?=C (Xn O b1 H):=by rw[X];exact d7
  have i1:d.cell? ⟨u,8,F⟩=C O[8]:=by simp[M.cell?,f7,h8]
  have i5:d.frozen? ⟨u,8,F⟩=Xf:=by obtain⟨l4,l5⟩:=H;simp only at f6;subst f6;simp[M.frozen?,f7]
  exact Qr i1 i5 X
 rintro e6 _ d1 T e8 d4 e2⟨rfl,a1⟩;have a1:T.heap=(b5.setCell ⟨u,8,F⟩ (Xm F 0 0)).heap:=a1;have g2:T.heap.size=a.heap.size+1:=by rw[a1,aS,b9];simp
 refine bz (eA ?_);show sW TP F F z al f e6 T (rg ((base 31).at d1 (.inRegion (opsOf (hd (tl (tl eK)))) (0::[1,2])::[.code (tl (tl (tl eK)))])) (c::e));refine Nq (d:=.chan 4 #[] Xf 0 0 Xf) (k:=λq=>rg ((base 31).at (d1.put (C 13) (.chan (C q))) (.inRegion (opsOf (hd (tl (tl eK)))) [1,2]::[.code (tl (tl (tl eK)))])) (c::e)) A (λ_=>rfl) (λt=>xJ (by decide) ⟨_,A,A,A,A⟩ A lp t) λq=>?_
 have g4:ar al e6 ⟨[],[(13,.chan (C q))]⟩ ⟨#[pt u 0,.slice Q b r,I,pt a.heap.size 0,Xm F 0 0,I,I,I,I,I,pt u 0,pt u 0,pt u 8,I,I,I,I,I,I,I,I,I,I,I,I,I,I,I,I,I,I,I,I,I,I,I,I,I,I,I,I,I],[]⟩ (d1.put (C 13) (.chan (C q))):=by have Z:=e2.put (C 13) A (.bS (v:=.chan (C q)) trivial);refine ar.more (d0:=⟨[],[]⟩) Z ?_;simp[Act.put,<-e2.tmps.1]
 show(PE TP q (.chan 4 #[] Xf 0 0 Xf) z al f).G e6 T _;refine vH aC (by decide) (by decide) (H:=C 5) (S:=.alloc 99) ⟨_,A,A,A,A⟩ (W:=[13]) A (by decide+kernel) (by decide) e8 g4 (λa7 U=>a7=⟨#[pt u 0,.slice Q b r,I,pt a.heap.size 0,Xm F 0 0,pt (a.heap.size+1) 0,I,I,I,I,pt u 0,pt u 0,pt u 8,I,I,I,I,I,I,I,I,I,I,I,I,I,I,I,I,I,I,I,I,I,I,I,I,I,I,I,I,I],[]⟩/\U.heap=T.heap.push (.cells #[.chan F] 99)) (λd X _ _ _ k2 a4 D=>?_) (λ_ _ n l k=>by rw[n.2,bY (by have:=S l k;omega)]) ?_
 .clear next p f0 e1 g3 e2 g4 g7 g8 g5 c9 s e7 e8 R d4 a1 b9 d7 d6 S e5 c8 g0
  go_wp2
  show d.heap.push _=_;rw[X]
 rintro N _ w U e9 f1 a2⟨rfl,c0⟩;obtain⟨B,a8,f2⟩:=lr (j:=5) (a:=a.heap.size+1) a2 A;have c7:U.heap[a.heap.size+1]?=C (Xn #[.chan F] 99 (0,0)):=by rw[c0,<-g2];simp
 refine JF (k:=q) (u:=zl B q) A λt f3=>?_;obtain⟨l7,l8,f8,f9,i7⟩:=f3.obj _ _ a8;rw[c7]at f8;cases f8;cases i7 with
 |cells _ i3 i4=>
 rename_i h1 b7;have i0:h1.size=1:=i3.1.symm;have j4:b7.1=b7.2:=by rcases i4 with n|⟨n,_⟩;exact n;exact absurd A n
 have i8:=AO (main:=J) (a:=base 31) (d:=w) (f:=[.code (tl (tl (tl eK)))]) (l:=c::e) (D:=opsOf (hd (tl (tl eK)))) (e:=2) (g:=[]) (by decide) ⟨_,A,A,A,A⟩ f2 (a2.kn (13,.chan (C q)) (by simp)) lp f9 (by omega) j4;have h9:=Ed (v:=I) (L:=.chan (C q)) f3 (a:=⟨a.heap.size+1,0,F⟩) (g:=⟨B,0,F⟩) ⟨a8,A,A⟩ (.bS trivial) (b:=.chan F) (by simp[M.cell?,c7]) (by simp[M.frozen?,c7]) Xf U.tape
 refine⟨_,N,U.setCell ⟨a.heap.size+1,0,F⟩ I,_,_,_,i8,h9,λi p=>ai (by have:=S i p;omega),λD f5 _ i p=>by
  simp at f5;subst f5
  exact⟨by simp,λl k=>by cases k;have:=S i p;simp;omega⟩,A,?_,?_⟩
 .refine⟨99,b7,?_⟩;rw[aA f9]
  congr 2
  apply aaj
  .simp[i0]
  intro v Z d5;have:v=0:=by simp at d5;omega
  subst this;simp
 have d0:Inv TP al f N (U.setCell ⟨a.heap.size+1,0,F⟩ I):=e9.keep e9.base (λi p=>ai (by have:=S i p;omega));obtain⟨L,b0⟩:∃L,L=U.setCell ⟨a.heap.size+1,0,F⟩ I:=by simp
 rw[<-b0]at d0⊢
 have a9:∀i,i<a.heap.size->i≠u->L.heap[i]?=a.heap[i]?:=by grind [ai,bY]
 have W:Eu a L u b r Q O b1 H:={
  size:=by rw[b0,aS,c0];simp[g2]
  xo:=by rw[b0,ai (by omega),c0,bY (by omega),a1,aA d7]
  old:=a9
  h3:=by rw[b0,ai (by omega),c0,bY (by omega),a1,ai (by omega),b9];simp
  h5:=by rw[b0,aA c7];rfl}
 have d8:∀i,o i->i<a.heap.size:=λi p=>by obtain⟨_,_,_,n,_⟩:=s.closed i p;exact(XN.1 n).1
 have a0:Closed (uA o a.heap.size) L:=by
  rintro i(p|rfl|rfl)
  .obtain⟨q1,e3,e4,j7,j8,j9,k0,k1⟩:=s.closed i p;exact⟨q1,e3,e4,by rw[a9 i (d8 i p) (λD=>d9 (D▸p))];exact j7,j8,j9,λv l k=>(k0 v l k).mono λ_ n=>Xh n,k1⟩
  .refine⟨_,_,_,W.h3,by simp,by simp,λv l k=>?_,mZ (by intro b n;cases n)⟩;obtain⟨c6,k⟩:=XN.1 k;have:v=0:=by simp at c6;omega
   subst this;subst k;cases Q with
   |none=>exact .aO _ _
   |some i=>exact .slice (Xh (s.list i A)) _ _
  refine⟨_,_,_,W.h5,by simp,by simp,λv l k=>?_,mZ (by intro b n;cases n)⟩;obtain⟨c6,k⟩:=XN.1 k;have:v=0:=by simp at c6;omega
  subst this;subst k;exact .bS
 have SA:∃x,w.tmps[3]?=C x/\an al N (pt a.heap.size 0) x:=by
  have g1:3<w.tmps.size:=by rw[<-a2.tmps.1];simp
  exact⟨w.tmps[3],XP g1,a2.tmps.2 3 _ _ A (XP g1)⟩
 obtain⟨x,h6,j0⟩:=SA;have b8:∀(t:M) b,zl B q t->zl B q (t.at b):=λ_ _ n=>n;refine nK b8 A rfl (λt=>iT) ?_;refine nK b8 A rfl (i:=rg ((base 31).at w [.code (hd (tl (tl (tl eK)))),.code (tl (tl (tl (tl eK))))]) (c::e)) (λt=>by rfl) ?_;refine nK b8 A rfl (i:=rg ((base 31).at w [.inRegion (opsOf (hd (tl (tl (tl eK))))) [0,1],.code (tl (tl (tl (tl eK))))]) (c::e)) (λt=>by rfl) ?_
 refine nK b8 A rfl (i:=rg ((base 31).at (w.put (C 14) (.func (.func 37) #[] #[pt B 0,x])) [.inRegion (opsOf (hd (tl (tl (tl eK))))) [1],.code (tl (tl (tl (tl eK))))]) (c::e)) (λt=>tQ (i:=C 14) (r:=.makeFunc (.func 37) #[] #[.tmp 5,.tmp 3]) (by decide) ⟨_,A,A,A,A⟩ lp (λk2 a4 D=>by
  simp[execOp,Act.eval,f2,h6]
  constructor<;>rfl)) ?_
 have i6:14<w.tmps.size:=by rw[<-a2.tmps.1];simp
 have h4:(w.put (C 14) (.func (.func 37) #[] #[pt B 0,x])).tmps[14]?=C (.func (.func 37) #[] #[pt B 0,x]):=by simp[Act.put,i6]
 have f4:∀Y,(0<Y\/Y=TP.globals.size)->Y<=TP.globals.size->uA o a.heap.size Y:=λY Z d5=>Xh (s.bF Y Z d5)
 have j3:∀l,o l->((jR (uA o a.heap.size) L).heap[l]?).map Obj.whole=(a.heap[l]?).map Obj.whole:=λl k=>by rw[yv,a9 l (d8 l k) (λD=>d9 (D▸k))]
 have j1:an aJ (λi d2=>uA o a.heap.size i/\N i d2) (pt a.heap.size 0) x:=by
  cases j0 with
  |ptr p=>exact .ptr ⟨⟨Xi (Xh A),p.1⟩,p.2.1,p.2.2⟩
 refine JG (c:=b) (a6:=a.heap.size+1) (a5:=b6) (X:=uA o a.heap.size) (W:=o) (Sp:=aJ) A (λt=>go_step (j:=14) (by decide) ⟨_,A,A,A,A⟩ lp h4 t) A a0 f4 (λi n=>Xh n) a8 (Xi (Xi A)) (λi n=>Xh (c8 i n)) g0
  (Kk (h:=a.heap.size+1) (n:=a.heap.size) (Q:=Q) (S:=r) (rq:=rq) {
    x5:=Xi (Xi A)
    x3:=Xi (Xh A)
    h5:=⟨_,_,by rw[iN (.inr (.inr A)),W.h5];rfl⟩
    h3:=⟨_,_,by rw[iN (.inr (.inl A)),W.h3];rfl⟩
    elem:=λa3 e0=>by obtain⟨d3,j5,g9,k3,b7,q1,e3,e4⟩:=s.elem a3 e0;have k:=s.list _ q1;exact⟨d3,j5,g9,k3,_,q1,Xh k,by rw[iN (.inl k),a9 d3 (d8 d3 k) (λD=>d9 (D▸k)),e3];rfl,e4⟩
    NS:=λa3 e0 d j2 _=>s.NS a3 e0 d λl k=>by rw[j2 l (.inl k)];exact j3 l k
    only:=λa3 _=>s.only a3
    small:=by have:=s.small;show b<2^40;omega} ⟨kX d0.base f4,ru a0,we a0⟩ ⟨Xi (Xi A),a8⟩ j1) λa4=>?_
 show(goalAt TP (C (a4,⟨q,b,b6,o,dy (uA o a.heap.size) N,B⟩,0)) F z al (uA o a.heap.size)).G N (jR (uA o a.heap.size) L) _;refine bP ?_
 have i9:ar al N ⟨[],[]⟩ (LB u a.heap.size b r Q) (w.put (C 14) (.func (.func 37) #[] #[pt B 0,x])):=by have Z:=a2.put (C 14) A (.bS (v:=.func (.func 37) #[] #[pt B 0,x]) trivial);exact ar.less (d0:=⟨[],[]⟩) Z A (by simp)
 refine next N L _ a4 _ A rfl rfl W a0 ⟨d0.base,ru a0,we a0⟩ ?_ a8 i9
 refine⟨((R.trans d4).trans f1).le,λl k4 n=>((R.trans d4).trans f1).fresh l k4 n,?_,λl k=>?_⟩
 .rw[qy,W.size];omega
 rw[iN (.inl (c8 l k)),a9 l (S l k) (e5 l k)];exact Oa c9.cO k
end
end Go.Sim
namespace Go.Sv
open Go.MapKept Go.Proofs Go.RowKit Go.Lib Go.WideShapes Go.Sort Go.Sim Wt
variable{c:M}{w':M}{e:Xe}{h:E}{d:E}{f:E}
def spot(d:Xo)(a:B):Xe:=.agg #[.bool d,.string (bs a)]
def yd(a:Xe):Prop:=∃d b,a=.agg #[.bool d,.string b]
theorem Oq(d:Xo)(a:B):yd (spot d a):=⟨d,bs a,A⟩
theorem Ot{d b:Xo}{c e:B}(a:spot d c=spot b e):d=b/\c=e:=by unfold spot at a;simp only[Value.agg.injEq,Xk.mk.injEq,Xg.cons.injEq,Xe.bool.injEq,Value.string.injEq,and_true]at a;exact⟨a.1,zB a.2⟩
theorem UM:TP.stoodInHeld 253=Xf:=by decide+kernel
theorem Rb:∃f d,TP.underlying 253=C (.struct #[f,d])/\f.type=4/\d.type=9/\f.offset=0/\d.offset=1/\f.name≠ "_"/\d.name≠ "_":=⟨_,_,A,A,A,A,A,by decide,by decide⟩
theorem UP:TP.underlying 4=C .bool:=A
theorem abt(a b:Xe)(c:M):(part 4 #[a,b] 0).run TP c=.ok a c:=A
theorem abu(b a:Xe)(c:M):(part 9 #[b,a] 1).run TP c=.ok a c:=A
theorem Uc(d h:Xo)(f g:XB)(c:M):(Op.equal 253 (.agg #[.bool d,.string f]) (.agg #[.bool h,.string g])).run TP c=.ok (d==h&&f==g) c:=by
 obtain⟨v,w,o,t,u,r,s,p,q⟩:=Rb
 have k:∀a b e,(Op.equalIn (e+1) 4 (.bool a) (.bool b)).run TP c=.ok (a==b) c:=λa b e=>by unfold Op.equalIn;simp[YL UP,Result.andThen]
 have l:∀a b e,(Op.equalIn (e+1) 9 (.string a) (.string b)).run TP c=.ok (a==b) c:=λa b e=>by unfold Op.equalIn;simp[YL xf,Result.andThen]
 have n:(program).run TP c=.ok TP c:=A;show(Op.equalIn (9998+1+1) 253 _ _).run TP c=_;rw[Op.equalIn];simp only[Zp,YL o,Result.andThen,n,UM,Yi,Yf];simp[t,u,r,s,p,q,Zp,abt,k,Result.andThen];have i:=l f g 9998;cases m:(f==g)<;>cases d<;>cases h<;>simp[i,m,abu,Result.andThen,Zp,show(9998+1:E)=9999 from A]at i⊢<;>simp[i,Result.andThen,Zp]
theorem RX(d:Xo)(n:XB)(em:Xo)(c:M):(Instr.checkKey em 10000 253 (.agg #[.bool d,.string n])).run TP c=.ok () c:=by obtain⟨q,r,g,o,p,l,m,i,k⟩:=Rb;have e:∀b a,(Instr.checkKey em (a+1) 4 (.bool b)).run TP c=.ok () c:=λb a=>F_ (k:=.bool b) UP trivial em a;have f:∀b a,(Instr.checkKey em (a+1) 9 (.string b)).run TP c=.ok () c:=λb a=>F_ (k:=.string b) xf trivial em a;show(Instr.checkKey em (9998+1+1) 253 _).run TP c=_;rw[Instr.checkKey];simp only[Zp,YL g,Result.andThen];simp[o,p,l,m,i,k,Zp,abt,abu,e,f,Result.andThen]
theorem LK{k:Xe}(w:yd k)(c:M):∀(b:Xg XH)(f:E),(∀h∈b,yd h.key)->((Instr.findAsking 253 k b f).run TP c=.ok F c/\∀h∈b,h.key≠k)\/∃j e,(Instr.findAsking 253 k b f).run TP c=.ok (C (f+j,e.val)) c/\b[j]?=C e/\e.key=k
 |[],f,_=>Xh ⟨A,by simp⟩
 |e::b,f,g=>by
  obtain⟨d,a,rfl⟩:=w;obtain⟨m,l,q⟩:=g e (.head _);have n:=Uc d m a l c;rw[<-q]at n;by_cases s:d=m/\a=l
  .obtain⟨rfl,rfl⟩:=s;refine Xi ⟨0,e,?_,A,q⟩;unfold Instr.findAsking;rw[Zp,n];have:(a==a)=J:=(bytes_beq a a).2 A;simp[Result.andThen,this]
  have x:e.key≠.agg #[.bool d,.string a]:=λg=>s (by rw[q]at g;simp at g;exact⟨g.1.symm,g.2.symm⟩)
  have v:(d==m&&a==l)=Xf:=by
   cases r:(d==m&&a==l)with
   |false=>rfl
   |true=>simp only[Yg,aaM]at r;exact absurd ⟨r.1,(bytes_beq a l).1 r.2⟩ s
  rw[v]at n
  have y:(Instr.findAsking 253 (.agg #[.bool d,.string a]) (e::b) f).run TP c=(Instr.findAsking 253 (.agg #[.bool d,.string a]) b (f+1)).run TP c:=by rw[Instr.findAsking,Zp,n];rfl
  rw[y];rcases LK ⟨d,a,A⟩ c b (f+1) (λh i=>g h (.tail _ i))with⟨o,p⟩|⟨j,t,o,p,u⟩
  .exact Xh ⟨o,λh i=>by
    cases i with
    |head=>exact x
    |tail _ i=>exact p h i⟩
  exact Xi ⟨j+1,t,by rw[o,abl,abn 1 j],by simpa using p,u⟩
theorem sw:Et TP 253 yd where
 TX:=λe c em⟨d,a,b⟩=>by subst b;exact RX d a em c
 Vw:=λe c i g h=>by rw[run_findKey_eq c A];have:=LK g c i 0 h;simpa using this
 same:=λe⟨d,a,b⟩=>by subst b;have f:(a==a)=J:=(bytes_beq a a).2 A;show Instr.sameBits (9998+1+1) _ _=J;simp[Instr.sameBits,f]
theorem Gz:TP.underlying 196=C (.map 253 61):=A
theorem TC(c:M):(zeroValue 61).run TP c=.ok (Xm F 0 0) c:=A
abbrev i64(a:Xj):Xe:=Xd K a
def rR(c:M)(e:Xe)(b:Xg Xj):Prop:=
 (b=[]/\∃f,e=.slice f 0 0)\/∃h a d,e=Xm (C ⟨h,0,F⟩) b.length a/\c.heap[h]?=C (Xn d 3 (0,0))/\0<a/\b.length<=a/\a<=maxLen/\d.size=a/\d.toList.take b.length=b.map i64/\∀i∈d.toList,∃g,i=i64 g
def rowOf:Xe->Xp E
 |Xm (C f) _ (_+1)=>C f.block
 |_=>F
theorem OH(c:M):rR c (Xm F 0 0) []:=Xh ⟨A,F,A⟩
theorem rR.stay{i:Xg Xj}(b:rR c e i)(o:∀h,rowOf e=C h->w'.heap[h]?=c.heap[h]?):rR w' e i:=by
 rcases b with b|⟨h,a,k,rfl,l,m,n⟩
 .exact Xh b
 refine Xi ⟨h,a,k,A,?_,m,n⟩;rw[o h ?_]
 .exact l
 obtain⟨g,rfl⟩:∃g,a=g+1:=⟨a-1,by omega⟩;rfl
theorem rR.lt{k:Xg Xj}(g:rR c e k)(d:rowOf e=C h):h<c.heap.size:=by
 rcases g with⟨_,f,rfl⟩|⟨m,b,l,rfl,i,n,_⟩
 .cases f<;>cases d
 obtain⟨a,rfl⟩:∃a,b=a+1:=⟨b-1,by omega⟩;cases d;exact(XN.1 i).1
def DF(a:Xk Xe):E->Xg Xe->Xk Xe
 |_,[]=>a
 |b,e::c=>DF (a.setIfInBounds b e) (b+1) c
theorem fZ:∀(d:Xg Xe)(a:Xk Xe)(b:E),(DF a b d).size=a.size
 |[],a,b=>rfl
 |e::c,a,b=>by unfold DF;rw[fZ c];simp
theorem ju:∀(c:Xg Xe)(b:Xk Xe)(a:E),a+c.length<=b.size->(DF b a c).toList=b.toList.take a++c++b.toList.drop (a+c.length)
 |[],b,a,f=>by
  unfold DF;simp
 |e::d,b,a,f=>by
  simp only[Yl]at f;unfold DF;rw[ju d _ _ (by simp;omega)];have g:a<b.toList.length:=by simp;omega
  rw[Xk.toList_setIfInBounds,Xg.take_set,Xg.drop_set,Yl]
  have h:(b.toList.take (a+1)).set a e=b.toList.take a++[e]:=by rw[K_ g,Xg.set_append_right _ _ (by simp;omega)];have i:min a b.toList.length=a:=aaX (aaS g);rw[Zy,i,E.sub_self];rfl
  rw[h,XC (by omega),show a+(d.length+1)=a+1+d.length by omega];simp
theorem fY:∀(i:Xg Xe)(a:E){c:M}{b:Xk Xe}{g:Xq}{f:E×E},c.heap[d]?=C (Xn b g f)->(c.setCells d a i).heap[d]?=C (Xn (DF b a i) g f)
 |[],a,c,b,g,f,h=>h
 |e::k,a,c,b,g,f,h=>fY k (a+1) (aA h)
theorem dO(b:f≠d):∀(h:Xg Xe)(a:E){c:M},(c.setCells d a h).heap[f]?=c.heap[f]?
 |[],a,c=>rfl
 |e::g,a,c=>by show((c.setCell ⟨d,a,F⟩ e).setCells d (a+1) g).heap[f]?=_;rw[dO b g (a+1),ai b]
theorem kB:∀(f:Xg Xe)(a:E){c:M},(c.setCells d a f).heap.size=c.heap.size
 |[],a,c=>rfl
 |e::b,a,c=>by show((c.setCell ⟨d,a,F⟩ e).setCells d (a+1) b).heap.size=_;rw[kB b (a+1),aS]
variable{b:E}{c:E}{a:M}{d:Xe}
theorem lV{f:Xj}:∀{e:Xg Xj},rK e->(∀g∈e.take (e.countP (·<f)),g<f)/\(∀g∈e.drop (e.countP (·<f)),f<=g)/\e.countP (·<f)<=e.length
 |[],_=>by simp
 |i::e,k=>by
  obtain⟨l,m⟩:=YJ.1 k;obtain⟨p,q,r⟩:=lV (f:=f) m;by_cases n:i<f
  .simp_all
  have o:(i::e).countP (·<f)=0:=by
   rw[aah];intro g h;rcases XV.1 h with rfl|h
   .simpa using n
   have:=l g h;simp;omega
  grind
theorem Fq{b:Xj}{a:Xg Xj}(c:rK a)(g:b∉a):dF b a=a.take (a.countP (·<b))++b::a.drop (a.countP (·<b)):=by
 obtain⟨d,e,f⟩:=lV (f:=b) c
 grind [Ho]
theorem OI(d:E):∀a∈(Builtin.zeroCells (Xe.int K 0).cells d).toList,∃c,a=i64 c:=λa b=>by
 unfold Builtin.zeroCells at b;refine⟨0,?_⟩;have e:(Xe.int K 0).cells=#[i64 0]:=A
 grind
def GN(d:Xe)(h:Xg Xj)(a:M)(g:Ending)(f:M):Prop:=∃e,g=Xs e/\rR f e h/\a.heap.size<=f.heap.size/\(∀c,c<a.heap.size->rowOf d≠C c->f.heap[c]?=a.heap[c]?)/\∀b,rowOf e=C b->rowOf d=C b\/a.heap.size<=b
theorem vM{b:Xg Xj}:∀d∈b.map i64,d.oneCell'=J:=λd a=>by obtain⟨c,_,rfl⟩:=YB.1 a;rfl
theorem uC{k:M}{f:Xk Xe}{e:E}{g:Xg Xj}{i:Xg Xe}(n:k.heap[b]?=C (Xn f 3 (0,0)))(h:f.toList=g.map i64++i)(o:f.size=e)(m:0<e)(p:e<=maxLen)(s:∀l∈i,∃c,l=i64 c)(r:c=g.length):rR k (Xm (C ⟨b,0,F⟩) c e) g:=by
 subst r;have q:g.length<=e:=by have:=YU List.length h;simp at this;omega
 refine Xi ⟨b,e,f,A,n,m,q,p,o,?_,λl t=>?_⟩
 .rw[h,aab (by simp)]
 grind
theorem iF{a:E}(e:0<a):rowOf (Xm (C ⟨b,0,F⟩) c a)=C b:=by
 obtain⟨d,rfl⟩:∃d,a=d+1:=by simp_all
 rfl
theorem Uq{e:Xg Xj}{g:Xj}(c6:rR a d e)(b6:rK e)(e2:g∉e)(e9:e.length<2^40){n:E}{a4:Xq}(e1:a.heap[n]?=C (Xn #[i64 g] a4 (0,0)))(f0:rowOf d≠C n):
 Calls TP 135 #[d,Xd K ((e.countP (·<g):E):Xj),Xm (C ⟨n,0,F⟩) 1 1] a (GN d (dF g e) a):=by
 have T:∀j m,([i64 g]:Xg Xe)[j]?=C m->a.cell? ⟨n,0+j,F⟩=C m:=by simp_all [M.cell?]
 have L:∀m∈[i64 g],m.oneCell'=J:=λm y=>by simp at y;subst y;rfl
 obtain⟨c1,c2,c3⟩:=lV (f:=g) b6;have d6:=Fq b6 e2;obtain⟨f,d5⟩:∃f,f=e.countP (·<g):=by simp
 rw[<-d5]at c1 c2 c3 d6⊢
 have Q:(dF g e).length=e.length+1:=by grind
 have R:(dF g e).map i64=(e.map i64).take f++i64 g::(e.map i64).drop f:=by simp_all
 have D:Tryz.tv.t 3=3:=A
 have d2:∀t,(Builtin.zeroCells (Xe.int K 0).cells t).size=t:=λt=>by rw[aba];exact E.mul_one t
 have e6:∀(base:Xp Xw)(q:E),e.length<=q->q<e.length+1->(base=F->e.length=0)->(∀U,base=C U->∀j m,(e.map i64)[j]?=C m->a.cell? (U.add j)=C m)->f=e.length->Calls TP 135 #[.slice base e.length q,Xd K ((f:E):Xj),Xm (C ⟨n,0,F⟩) 1 1] a (GN d (dF g e) a):=λbase q q1 e3 e4 e5 b9=>by
  have v:=Any2.slices_Insert_int_end_grow Tryz.uu base e.length q n 0 1 1 (e.map i64) [i64 g] a (by decide) q1 e3 (by omega) (by simp) A e4 e5 T L;rw[b9];refine aaU v λu a5⟨w,i⟩=>⟨_,w,?_,?_,?_,λb x=>Xi ?_⟩
  .have b3:=aau a (e.length+1) q 3;have a0:=D_ a (e.length+1) q 3 (by unfold maxLen;omega);rw[i,D];refine uC (Yn a.drew _) (g:=dF g e) (i:=(Builtin.zeroCells (Xe.int K 0).cells (grownCap a (e.length+1) q 3-(e.length+1))).toList) ?_ ?_ (by omega) a0 (OI _) Q.symm
   .rw[R,b9];have a6:(e.map i64).take e.length=e.map i64:=Zs (by simp);have z:(e.map i64).drop e.length=[]:=by simp
    rw[a6,z];simp
   simp_all
  .rw[i];simp
  .intro p s _;rw[i];exact aao a.drew _ s
  have b3:=aau a (e.length+1) q 3;rw[D,iF (by omega)]at x;simp_all
 rcases c6 with⟨rfl,U,rfl⟩|⟨b,l,r,rfl,x,H,c7,W,a7,c8,a8⟩
 .simp_all
 have e7:=(XN.1 x).1
 have b1:∀j m,(e.map i64)[j]?=C m->a.cell? ⟨b,0+j,F⟩=C m:=λj m y=>by
  rw[<-c8,ZQ]at y;split at y
  .simp only[M.cell?,x,Zk];simp_all
  cases y
 have b2:∀j,a.frozen? ⟨b,j,F⟩=Xf:=λj=>by simp[M.frozen?,x]
 have e0:∀j,j<l->(a.cell? ⟨b,j,F⟩).isSome=J:=λj S=>by grind [World.cell?]
 have d4:b≠n:=by simp_all [iF]
 have b8:∀t,t<=e.length->r.toList.take t=(e.map i64).take t:=by grind
 by_cases b4:f=e.length
 .by_cases a1:e.length+1<=l
  ·
   have v:=Any2.slices_Insert_int_end_room Tryz.uu b 0 e.length l n 0 1 1 [i64 g] a (by decide) a1 (by unfold maxLen at W;omega) A (λj S=>e0 _ (by omega)) (λj S=>b2 _) T L;rw[b4];refine aaU v λu a5⟨w,i⟩=>⟨_,w,?_,?_,?_,λp s=>Xh (by rw[iF H]at s⊢;exact s)⟩
   .rw[i];refine uC (fY [i64 g] (0+e.length) x) (g:=dF g e) (i:=r.toList.drop (e.length+1)) ?_ (by rw[fZ];exact a7) H W (λo h=>a8 o (X' h)) Q.symm;rw[ju _ _ _ (by simp;omega),R,b4,Zk,b8 _ (XS _)];have z:(e.map i64).drop e.length=[]:=by simp
    rw[z];rfl
   .rw[i,kB];exact XS _
   intro p s Z;rw[i,dO (λu=>Z (by rw[iF H,u]))]
  simp_all [qe]
 have b5:f<e.length:=by omega
 by_cases a1:e.length+1<=l
 ·
  have d9:a.shape? b=C (3,l):=by simp_all [M.shape?]
  have d8:a.shape? n=C (a4,1):=by simp[M.shape?,e1]
  have v:=Any2.slices_Insert_int_shift Tryz.uu b 0 e.length l f n 0 1 1 (e.map i64) [i64 g] a b5 (by decide) a1 (by simp_all [maxLen]) (λu=>d4 u.symm) (by simp) A b1 (λj S=>by grind) (λj S=>b2 _) T vM L a4 3 1 l d8 d9 (by omega) (by grind [World.frozen?]) (by grind [World.frozen?]);refine aaU v λu a5⟨w,i⟩=>⟨_,w,?_,?_,?_,λp s=>Xh (by simp_all [iF])⟩
  .have d3:a.drew.heap[b]?=C (Xn r 3 (0,0)):=x;have X:=fY ((e.map i64).drop f) (0+(f+1)) d3;have Y:=fY [i64 g] (0+f) X;rw[i];refine uC Y (g:=dF g e) (i:=r.toList.drop (e.length+1)) ?_ (by rw[fZ,fZ];exact a7) H W (λo h=>a8 o (X' h)) Q.symm;have O:((e.map i64).drop f).length=e.length-f:=by simp
   rw[ju _ _ _ (by rw[fZ];simp;omega),ju _ _ _ (by omega),R,O,Zk,Zk];have c0:f+1+(e.length-f)=e.length+1:=by omega
   have a6:(r.toList.take (f+1)++(e.map i64).drop f++r.toList.drop (e.length+1)).take f=(e.map i64).take f:=by rw[ZJ,X_ (by simp;omega),aan,aaX (by omega),b8 f (by omega)]
   have z:(r.toList.take (f+1)++(e.map i64).drop f++r.toList.drop (e.length+1)).drop (f+[i64 g].length)=(e.map i64).drop f++r.toList.drop (e.length+1):=by rw[ZJ];exact Xg.drop_left' (by simp;omega)
   simp_all
  .simp_all [kB]
  intro p s Z;have a9:p≠b:=by grind [iF]
  rw[i,dO a9,dO a9];rfl
 ·
  have v:=Any2.slices_Insert_int_grow Tryz.uu b 0 e.length l f n 0 1 1 (e.map i64) [i64 g] a b5 (by decide) c7 (by omega) (by omega) (by simp) A b1 T vM L;have b3:=aau a (e.length+1) l 3;have a0:=D_ a (e.length+1) l 3 (by grind [maxLen]);refine aaU v λu a5⟨w,i⟩=>⟨_,w,?_,?_,?_,λp s=>Xi ?_⟩
  .obtain⟨k,N⟩:∃k,k=((e.map i64).take f).toArray++Builtin.zeroCells (Xe.int K 0).cells (e.length+1-f)++Builtin.zeroCells (Xe.int K 0).cells (grownCap a (e.length+1) l 3-(e.length+1)):=by simp
   have b7:k.size=grownCap a (e.length+1) l 3:=by rw[N];simp only[p_,Yt,Zy,ZU,d2];omega
   have f1:k.toList.take f=(e.map i64).take f:=by rw[N];simp only[ZK,ZJ];rw[X_ (by simp;omega),aan,E.min_self]
   have d7:∀o∈k.toList,∃c,o=i64 c:=λo h=>by
    rw[N]at h;simp only[ZK,YC]at h;rcases h with(h|h)|h
    .obtain⟨c,_,rfl⟩:=YB.1 (Xg.mem_of_mem_take h);exact⟨c,A⟩
    .exact OI _ o h
    exact OI _ o h
   rw[D,<-N]at i;rw[i,D];have c9:(a.alloc (.cells k 3)).drew.heap[a.heap.size]?=C (Xn k 3 (0,0)):=Yn a _;have X:=fY [i64 g] f c9;have d0:(((a.alloc (.cells k 3)).drew.setCells a.heap.size f [i64 g]).drew).heap[a.heap.size]?=C (Xn (DF k f [i64 g]) 3 (0,0)):=X;have Y:=fY ((e.map i64).drop f) (f+1) d0;have O:((e.map i64).drop f).length=e.length-f:=by simp
   refine uC Y (g:=dF g e) (i:=k.toList.drop (e.length+1)) ?_ (by rw[fZ,fZ];exact b7) (by omega) a0 (λo h=>d7 o (X' h)) Q.symm;rw[ju _ _ _ (by rw[fZ,O,b7];omega),ju _ _ _ (by simp;omega),R,O];have c0:f+1+(e.length-f)=e.length+1:=by omega
   have e8:f+[i64 g].length=f+1:=A
   have z:(k.toList.take f++[i64 g]++k.toList.drop (f+1)).drop (e.length+1)=k.toList.drop (e.length+1):=by
    rw[Xg.drop_append,Xg.drop_of_length_le (by simp;omega),Zj,Xg.drop_drop]
    congr 1
    simp;omega
   grind
  .simp_all [kB]
  .intro p d1 Z;rw[i];have b0:p≠a.heap.size:=by omega
   rw[dO b0];show((a.alloc _).drew.setCells a.heap.size f [i64 g]).heap[p]?=_;rw[dO b0];exact aao a _ d1
  rw[D,iF (by omega)]at s;simp_all
variable{w:M}{d:Xq}{h:Xe}{g:E}{O:E}
def NB(b:Xe):Prop:=∀a,b≠.int .u8 a
theorem VN:∃a b,TP.underlying 193=C (.slice 1)/\(TP.info? 1=C a/\a.zero=C b/\a.size=1/\a.bytes<=1000/\b.cells.size=1/\0<1)/\∀c∈b.cells.toList,NB c:=by refine⟨_,_,A,⟨A,A,A,by decide,A,by decide⟩,?_⟩;intro c e f d;subst d;have:Xe.int .u8 f∈[Xe.nilFunc]:=e;simp at this
theorem frozenAt{a:Xk Xe}{c:Xq}(b:w.heap[f]?=C (Xn a c (0,0)))(j:E):w.frozen? ⟨f,j,F⟩=Xf:=by simp[M.frozen?,b]
theorem Jz{i:M}{n a:Obj}{e:Xe}(k:(w.alloc n).grownBy i e.ownBlock)(b:w.heap[f]?=C a)(m:e.ownBlock≠C f):i.heap[f]?=C a:=by have l:=(XN.1 b).1;rw[k.block f (by show _<(w.heap.push _).size;simp;omega) (λd=>m d.symm),XQ _ _ _ l,b]
theorem cr.alloc{a:Xe->Prop}{size:E}{e:Xg Xe}(b:cr a w d size h g e)(l:Obj):cr a (w.alloc l) d size h g e:=b.stay λk i=>XQ _ _ _ (b.lt k i)
def Ly(O:E)(h i f:Xe)(e:Xg Xe)(g:Xe)(w:M)(d:Ending)(a:M):Prop:=d=Xs (.tuple #[])/\w.heap.size<=a.heap.size/\(∀c,c<w.heap.size->c≠O->f.ownBlock≠C c->a.heap[c]?=w.heap[c]?)/\
 ∃b,a.heap[O]?=C (Xn #[h,i,b] 195 (0,0))/\cr NB a 1 1 b (e.length+1) (e++[g])/\kU w f b
theorem GA{x y a:Xe}{k:Xg Xe}(fn:Fn)(l m:Xk Xe)(v:w.heap[O]?=C (Xn #[x,y,a] 195 (0,0)))(u:cr NB w 1 1 a k.length k)(a5:k.length<2^20):Calls TP 183 #[pt O 0,.func fn l m] w (Ly O x y a k (.func fn l m) w):=by
 obtain⟨a6,b2,i,S,X⟩:=VN
 have U:a.ownBlock≠C O:=λd=>by obtain⟨L,b,_⟩:=u.blk O d;simp_all
 have c2:w.cell? ⟨O,2,F⟩=C a:=aa v 2 A;have H:=Xl v;have W:=λZ=>u.alloc (w:=w) Z;have z:=Xl U;go_enter Tryz.func183,Tryz.ntmps183
 go_wp2_with (at_builtin;refine mr A _ _ 193 A rfl (W _) i S X A [.func fn l m] A (cell_one_new _ _ _) (by intro a9 i;simp at i;subst i;exact⟨A,by intro a7 d;cases d⟩) (by omega) ?_;intro b0 b1 p o t;obtain⟨a0,a8,a2,rfl⟩:=p.slice;have e:=Jz (e:=a) o H.out z.out;have a1:=aa e 2 A;have a3:=frozenAt e 2;have q:=Xl e;have r:=Xl o;have D:=Xl t;clear e t;have s:=Xl p;clear p o)
 go_end0
 refine⟨A,?_,λc a4 b Q=>?_,_,aA q.out,?_,λN R=>?_⟩
 .rw[aS];exact XZ (by simp) r.out.size
 .rw[ai b,r.out.block c (by simp;omega) (λd=>Q d.symm)];simp_all [XQ]
 .refine s.out.stay λY T=>ai λd=>?_;obtain⟨L,b,_⟩:=s.out.blk Y T;rw[d,q.out]at b;cases b
 rcases D.out N R with n|n
 .exact Xh n
 exact Xi (XZ (by simp) n)
theorem NJ(w:M)(a b:Obj)(d:c<w.heap.size):((w.alloc a).alloc b).heap[c]?=w.heap[c]?:=by grind [Below.heap_alloc]
theorem Nz(w:M)(a b:Obj):((w.alloc a).alloc b).heap[w.heap.size]?=C a:=by grind [Below.heap_alloc,World.alloc_heap_new]
theorem vY(w:M)(b a:Obj):((w.alloc b).alloc a).heap[w.heap.size+1]?=C a:=by have:=YN (w.alloc b) a;simp_all
inductive Un where
 |head (g:E) (b:Xk Xe)
 |add (a g:E)
 |drop (a g:E)
def uR(O:E)(w:M)(b:Xe):Un->Prop
 |.head g a=>∃c f,b=.func (.func 190) #[] #[pt c 0,pt f 0]/\w.heap[c]?=C (Xn a 190 (0,0))/\w.heap[f]?=C (Xn #[pt g 0] 187 (0,0))
 |.add d g=>∃c f a,b=.func (.func 217) #[] #[pt c 0,pt f 0,pt a 0]/\w.heap[c]?=C (Xn #[pt d 0] 187 (0,0))/\w.heap[f]?=C (Xn #[pt g 0] 187 (0,0))/\w.heap[a]?=C (Xn #[pt O 0] 94 (0,0))
 |.drop d g=>∃c f a,b=.func (.func 184) #[] #[pt c 0,pt f 0,pt a 0]/\w.heap[c]?=C (Xn #[pt g 0] 187 (0,0))/\w.heap[f]?=C (Xn #[pt d 0] 187 (0,0))/\w.heap[a]?=C (Xn #[pt O 0] 94 (0,0))
def IT(O:E)(h i g:Xe)(f:Xg Xe)(k:Un)(w:M)(d:Ending)(a:M):Prop:=d=Xs (.tuple #[])/\w.heap.size<=a.heap.size/\(∀c,c<w.heap.size->c≠O->g.ownBlock≠C c->a.heap[c]?=w.heap[c]?)/\
 ∃b e,a.heap[O]?=C (Xn #[h,i,b] 195 (0,0))/\cr NB a 1 1 b (f.length+1) (f++[e])/\kU w g b/\uR O a e k
theorem AU{z D k:Xe}{b:Xg Xe}(y:w.heap[O]?=C (Xn #[z,D,k] 195 (0,0)))(Z:cr NB w 1 1 k b.length b)(X:b.length<2^20)
 {l m:XB}{n o p q r s t u:Xj}{a4 a5:Xe}(a:w.heap[g]?=C (Xn #[.string l,.string m,Xd K n,Xd K o,Xd K p,Xd K q,Xd K r,Xd K s,Xd K t,Xd K u,a4,a5] 192 (0,0))):
 Calls TP 157 #[pt O 0,pt g 0] w (IT O z D k b (.head g #[.string l,.string m,Xd K n,Xd K o,Xd K p,Xd K q,Xd K r,Xd K s,Xd K t,Xd K u]) w):=by
 have W:=(XN.1 y).1;have b4:=(XN.1 a).1;have a6:=aa a 0 A;have c1:=aa a 1 A;have c2:=aa a 2 A;have c3:=aa a 3 A;have c4:=aa a 4 A;have c5:=aa a 5 A;have a7:=aa a 6 A;have a8:=aa a 7 A;have a9:=aa a 8 A;have b0:=aa a 9 A;have H:=Xl y;have e:=Xl Z;go_enter Tryz.func157,Tryz.ntmps157;have T:=H.out;have Y:=(e.out.alloc (.cells #[pt g 0] 187)).alloc (.cells #[.string l,.string m,Xd K n,Xd K o,Xd K p,Xd K q,Xd K r,Xd K s,Xd K t,Xd K u] 190);have L:=Xl (GA (.func 190) #[] #[pt (w.heap.size+1) 0,pt w.heap.size 0] (by rw[NJ _ _ _ W];exact T) Y X)
 go_wp2_with (go_at_call 183;refine L.out.mono ?_;rintro d b5⟨rfl,a0,x,a3,Q,R,S⟩)
 go_end0
 have i:∀a1 a2,((w.alloc a1).alloc a2).heap.size=w.heap.size+2:=by simp
 rw[i]at a0;refine⟨A,by omega,λc b3 b1 b2=>?_,a3,_,Q,R,λN U=>?_,_,_,A,?_,?_⟩
 .grind [NJ]
 .rcases S N U with v|v
  .exact Xh v
  grind
 .rw[x _ (by rw[i];omega) (by omega) (λd=>by have:=e.out.lt _ d;omega)]
  grind [vY]
 rw[x _ (by rw[i];omega) (by omega) (λd=>by have:=e.out.lt _ d;omega)];simp[Nz]
variable{d:M}{e:E}{s:E}{S:Xk XH}
abbrev OM(c d:XB)(e f g h i k l m:Xj)(a b:Xe):Xk Xe:=#[.string c,.string d,Xd K e,Xd K f,Xd K g,Xd K h,Xd K i,Xd K k,Xd K l,Xd K m,a,b]
abbrev PM(a b:XB)(c d e f g h i k:Xj):Xk Xe:=#[.string a,.string b,Xd K c,Xd K d,Xd K e,Xd K f,Xd K g,Xd K h,Xd K i,Xd K k]
theorem qV(d:M)(a b e:Obj)(f:c<d.heap.size):(((d.alloc a).alloc b).alloc e).heap[c]?=d.heap[c]?:=by grind [Below.heap_alloc]
theorem wQ{b:Obj}(a:c≠f):(ud d f b).heap[c]?=d.heap[c]?:=by simp[ud,YX a]
theorem Ir{a:Obj}(b:f<d.heap.size):(ud d f a).heap[f]?=C a:=by simp[ud,b]
theorem uR.stay{i:Xe}{h:Un}(g:uR O d i h)(o:∀(c:E)(a:Xk Xe)(b:Xq),d.heap[c]?=C (Obj.cells a b (0,0))->b=190\/b=187\/b=94->w'.heap[c]?=d.heap[c]?):uR O w' i h:=by
 cases h with
 |head e a=>obtain⟨c,f,rfl,k,l⟩:=g;exact⟨c,f,A,by grind,by grind⟩
 |add n e=>obtain⟨c,f,a,rfl,k,l,m⟩:=g;exact⟨c,f,a,A,by grind,by grind,by grind⟩
 |drop n e=>obtain⟨c,f,a,rfl,k,l,m⟩:=g;exact⟨c,f,a,A,by grind,by grind,by grind⟩
structure OP(O a e s:E)(H m Q:Xe)(N:Xj)(k:Xg Xe)(o p:XB)(q r t u v w x y:Xj)(D:B->Xp E)(L:B)(d:M)(z:Ending)(w':M):Prop where
 end_:z=Xs (.tuple #[])
 size:d.heap.size<=w'.heap.size
 kept:∀c,c<d.heap.size->c≠O->c≠a->c≠s->m.ownBlock≠C c->w'.heap[c]?=d.heap[c]?
 tree:∃b h i,w'.heap[O]?=C (Xn #[H,Xd K (N+1),b] 195 (0,0))/\cr NB w' 1 1 b (k.length+2) (k++[h,i])/\kU d m b/\uR O w' h (.head a (PM o p q r t u v w x y))/\uR O w' i (.add a e)
 nd:w'.heap[a]?=C (Xn (OM o p q r t (u+1) v w (x+1) y Q (.map (C s))) 192 (0,0))
 kd:∃S g,w'.heap[s]?=C (.map S g)/\Kids S g λn=>if n=L then C e else D n
theorem TS{a:E}{e5 a8:Xe}{r:Xj}{v:Xg Xe}(a5:d.heap[O]?=C (Xn #[e5,Xd K r,a8] 195 (0,0)))(e3:cr NB d 1 1 a8 v.length v)(l0:v.length<2^19)
 {b0 b1:XB}{b2 b3 b4 m b5 b6 n b7:Xj}{a9:Xe}(a3:d.heap[a]?=C (Xn (OM b0 b1 b2 b3 b4 m b5 b6 n b7 a9 (.map (C s))) 192 (0,0)))
 {w:E}{d1:B->Xp E}{D:B}(e0:d.heap[s]?=C (.map S w))(f3:Kids S w d1)(g5:d1 D=F){b8:Xk Xe}(e1:d.heap[e]?=C (Xn b8 192 (0,0)))(f8:b8[0]?=C (.string (bs D)))
 (k7:0<=m/\m<2^62)(k8:0<=n/\n<2^62)(l1:0<=r/\r<2^62):
 Calls TP 187 #[pt O 0,pt a 0,pt e 0] d (OP O a e s e5 a8 a9 r v b0 b1 b2 b3 b4 m b5 b6 n b7 d1 D d):=by
 have i7:=(XN.1 a5).1;have g0:=(XN.1 a3).1;have i9:=(XN.1 e1).1;have i8:=(XN.1 e0).1;have f2:=Xl (AU (w:=((d.alloc (.cells #[pt O 0] 94)).alloc (.cells #[pt a 0] 187)).alloc (.cells #[pt e 0] 187)) (O:=O) (g:=a) (b:=v) (by rw[qV _ _ _ _ i7];exact a5) (((e3.alloc _).alloc _).alloc _) (by omega) (by rw[qV _ _ _ _ g0];exact a3));have c9:=Xl a5;have W:=Xl e3;have c0:=Xl a3;have c6:=Xl e1;have b9:=Xl e0;have h2:=Xl f3;have h9:=Xl g5;have HC:=Xl f8;clear a5 e3 a3 e1 e0 f3 g5 f8;go_enter Tryz.func187,Tryz.ntmps187
 go_wp2_with (go_at_call 157;refine f2.out.mono ?_;rintro g i⟨rfl,j3,f9,T,f6,g8,g4,g2,t⟩)
 have d0:∀a7 j4 j5,(((d.alloc a7).alloc j4).alloc j5).heap.size=d.heap.size+3:=by simp
 rw[d0]at j3;have j0:=W.out.lt;have y:∀c f5,c≠O->a8.ownBlock≠C c->(((d.alloc (.cells #[pt O 0] 94)).alloc (.cells #[pt a 0] 187)).alloc (.cells #[pt e 0] 187)).heap[c]?=C f5->i.heap[c]?=C f5:=by grind
 have d4:i.heap[d.heap.size]?=C (Xn #[pt O 0] 94 (0,0)):=y _ _ (by omega) (λg=>by simp_all) (by rw[XQ _ _ _ (by simp;omega)];simp[Nz]);have d6:i.heap[d.heap.size+1]?=C (Xn #[pt a 0] 187 (0,0)):=y _ _ (by omega) (λg=>by grind) (by rw[Below.heap_alloc _ _ _ (by simp)];grind [vY])
 have d8:i.heap[d.heap.size+1+1]?=C (Xn #[pt e 0] 187 (0,0)):=y _ _ (by omega) (λg=>by grind) (by
  have:=vY (d.alloc (.cells #[pt O 0] 94)) (.cells #[pt a 0] 187) (.cells #[pt e 0] 187)
  simp_all)
 have e2:i.heap[a]?=C (Xn (OM b0 b1 b2 b3 b4 m b5 b6 n b7 a9 (.map (C s))) 192 (0,0)):=y _ _ (λg=>by have:=c0.out;rw[g,c9.out]at this;cases this) (λg=>by
  obtain⟨X,u,_⟩:=W.out.blk _ g
  rw[c0.out]at u;cases u) (by rw[qV _ _ _ _ g0];exact c0.out)
 have g3:i.heap[e]?=C (Xn b8 192 (0,0)):=y _ _ (λg=>by have:=c6.out;rw[g,c9.out]at this;cases this) (λg=>by
  obtain⟨X,u,_⟩:=W.out.blk _ g
  rw[c6.out]at u;cases u) (by rw[qV _ _ _ _ i9];exact c6.out)
 have a1:i.heap[s]?=C (.map S w):=y _ _ (λg=>by have:=b9.out;rw[g,c9.out]at this;cases this) (λg=>by
  obtain⟨X,u,_⟩:=W.out.blk _ g
  rw[b9.out]at u;cases u) (by rw[qV _ _ _ _ i8];exact b9.out)
 have k2:=aa d4 0 A;have k3:=aa d6 0 A;have k4:=aa d8 0 A;have k5:=aa e2 11 A;have k6:=aa g3 0 HC.out;obtain⟨j1,f4⟩:=Qw (c:=i.drew) a1 h2.out h9.out e;obtain⟨p,N⟩:∃p,ud i.drew s (.map (S.push ⟨.string (bs D),pt e 0,w⟩) (w+1))=p:=by simp
 rw[N]at j1;have L:s≠O:=by grind
 have a2:s≠a:=by grind
 have a6:O≠a:=by grind
 have x:∀c,c≠s->p.heap[c]?=i.heap[c]?:=λc d3=>by rw[<-N];exact wQ d3
 have g1:p.heap[s]?=C (.map (S.push ⟨.string (bs D),pt e 0,w⟩) (w+1)):=by rw[<-N];exact Ir (XN.1 a1).1
 have g6:p.heap.size=i.heap.size:=by rw[<-N];simp[ud]
 have z:=(x a (YX a2)).trans e2;have a4:=(x O (YX L)).trans g8;have d5:=(x d.heap.size (by omega)).trans d4;have d7:=(x (d.heap.size+1) (by omega)).trans d6;have d9:=(x (d.heap.size+1+1) (by omega)).trans d8;have l5:=aa d5 0 A;have l6:=aa d7 0 A;have l7:=aa d9 0 A;have l8:=aa z 5 A;have l9:=aa z 8 A;have m0:=aa a4 1 A;have m1:=frozenAt z 5;have m2:=frozenAt z 8;have m3:=frozenAt a4 1;have e6:=Xl d5;have e7:=Xl d7;have e8:=Xl d9;have c7:=Xl z;have c8:=Xl a4;have h6:=Xl g1;have e9:=Xl a1;have h4:=Xl f4;have h3:=Xl f9;have k:=Xl x;have U:=Xl g4;have i2:=Xl t;have f0:=Xl g2;have i0:=Xl g6;clear d4 d6 d8 e2 g3 a1 f4 f9 g4 g8 t g2 y j0 d0 f2 d5 d7 d9 z a4 g1 x N g6
 have q1:(((p.setCell ⟨a,5,F⟩ (Xd K (m+1))).setCell ⟨a,8,F⟩ (Xd K (n+1))).setCell ⟨O,1,F⟩ (Xd K (r+1))).heap[O]?=C (Xn #[e5,Xd K (r+1),T] 195 (0,0)):=by have:=aA (l:=1) (g:=Xd K (r+1)) (a:=(p.setCell ⟨a,5,F⟩ (Xd K (m+1))).setCell ⟨a,8,F⟩ (Xd K (n+1))) (i:=O) (by rw[ai a6,ai a6];exact c8.out);simp_all
 have g9:(((p.setCell ⟨a,5,F⟩ (Xd K (m+1))).setCell ⟨a,8,F⟩ (Xd K (n+1))).setCell ⟨O,1,F⟩ (Xd K (r+1))).heap[a]?=C (Xn (OM b0 b1 b2 b3 b4 (m+1) b5 b6 (n+1) b7 a9 (.map (C s))) 192 (0,0)):=by rw[ai (YX a6)];have:=aA (l:=8) (g:=Xd K (n+1)) (aA (l:=5) (g:=Xd K (m+1)) c7.out);simp_all
 have e4:∀c,c≠O->c≠a->(((p.setCell ⟨a,5,F⟩ (Xd K (m+1))).setCell ⟨a,8,F⟩ (Xd K (n+1))).setCell ⟨O,1,F⟩ (Xd K (r+1))).heap[c]?=p.heap[c]?:=by simp_all [ai]
 have h0:(((p.setCell ⟨a,5,F⟩ (Xd K (m+1))).setCell ⟨a,8,F⟩ (Xd K (n+1))).setCell ⟨O,1,F⟩ (Xd K (r+1))).heap.size=i.heap.size:=by rw[aS,aS,aS,i0.out]
 have i6:=U.out.lt
 have t:∀b,T.ownBlock=C b->b≠O/\b≠a/\b≠s/\b≠d.heap.size/\b≠d.heap.size+1/\b≠d.heap.size+1+1:=λb h=>by
  obtain⟨X,l,_⟩:=U.out.blk b h;refine⟨?_,?_,?_,?_,?_,?_⟩<;>rintro rfl
  .rw[<-k.out _ (YX L),c8.out]at l;cases l
  .rw[<-k.out _ (YX a2),c7.out]at l;cases l
  .rw[e9.out]at l;cases l
  .rw[<-k.out _ (by omega),e6.out]at l;cases l
  .rw[<-k.out _ (by omega),e7.out]at l;cases l
  rw[<-k.out _ (by omega),e8.out]at l;cases l
 have i1:=Xl (GA (k:=v++[f6]) (.func 217) #[] #[pt (d.heap.size+1) 0,pt (d.heap.size+1+1) 0,pt d.heap.size 0] q1 (by
  rw[Yw]
  exact U.out.stay λb h=>by rw[e4 _ (t b h).1 (t b h).2.1,k.out _ (t b h).2.2.1]) (by simp;omega))
 have h7:=Xl g9;have f1:=Xl e4;have h8:=Xl h0;have h5:=Xl t;clear q1 g9 e4 h0 i6 t;generalize g7:bs D=l3 at*
 have k0:=Xl g7;clear g7
 go_still_tail 10,(by kernel_rfl)
 change wpList _ _ _ _ _ i.drew
 go_wp2_with (go_at_call 183;refine i1.out.mono ?_;rintro g j9⟨rfl,j2,a0,j8,j6,l2,j7⟩)
 go_end0
 rw[h8.out]at j2 a0;have H:=h5.out
 have Q:∀c,c≠O->c≠a->c≠s->T.ownBlock≠C c->c<i.heap.size->j9.heap[c]?=i.heap[c]?:=λc o Y d2 Z i3=>by rw[a0 c i3 o Z,f1.out c o Y,k.out c d2]
 have R:∀c,(∀b,T.ownBlock=C b->b≠c)->T.ownBlock≠C c:=λc q g=>q c g A;have d0:(((d.alloc (.cells #[pt O 0] 94)).alloc (.cells #[pt a 0] 187)).alloc (.cells #[pt e 0] 187)).heap.size=d.heap.size+3:=by simp
 refine⟨A,by omega,λc d3 o Y d2 Z=>?_,⟨j8,f6,.func (.func 217) #[] #[pt (d.heap.size+1) 0,pt (d.heap.size+1+1) 0,pt d.heap.size 0],j6,?_,λf7 i4=>?_,?_,?_⟩,?_,?_⟩
 .rw[Q c o Y d2 (λg=>?_) (by omega),h3.out c (by omega) o Z,qV _ _ _ _ d3];rcases f0.out c g with q|q
  .exact Z q
  omega
 .grind
 .rcases j7 f7 i4 with q|q
  .rcases f0.out f7 q with q|q
   .exact Xh q
   exact Xi (by omega)
  grind
 .refine i2.out.stay λc X l4 o Y=>?_;have i5:=(XN.1 o).1;refine Q c ?_ ?_ ?_ (λg=>?_) i5
  .rintro rfl;rw[<-k.out _ (YX L),c8.out]at o;grind
  .rintro rfl;rw[<-k.out _ (YX a2),c7.out]at o;grind
  .rintro rfl;rw[e9.out]at o;cases o
  obtain⟨k1,k9,_⟩:=U.out.blk c g
  grind
 .exact⟨_,_,_,A,by
   rw[Q _ (by omega) (by omega) (by omega) (R _ λb h=>(H b h).2.2.2.2.1) (by omega),<-k.out _ (by omega)];exact e7.out,by
   rw[Q _ (by omega) (by omega) (by omega) (R _ λb h=>(H b h).2.2.2.2.2) (by omega),<-k.out _ (by omega)];exact e8.out,by
   rw[Q _ (by omega) (by omega) (by omega) (R _ λb h=>(H b h).2.2.2.1) (by omega),<-k.out _ (by omega)];exact e6.out⟩
 .rw[a0 a (by omega) (YX a6) (R _ λb h=>(H b h).2.1)];exact h7.out
 refine⟨_,_,?_,h4.out⟩;rw[a0 s (by omega) L (R _ λb h=>(H b h).2.2.1),f1.out s L a2];exact h6.out
variable{a:Tree}{c:Path}
def pJ(a:Tree)(b e:Path->E)(O d:E):Prop:=d=O\/∃c,(Wt.find a c).isSome=J/\(d=b c\/d=e c)
def wH(d:M)(O b:E):Prop:=∃c e a,d.heap[O]?=C (Xn #[c,e,a] 195 (0,0))/\a.ownBlock=C b
def gu(O:E)(d:M):Xg Xe->Xg Un->Prop
 |[],[]=>True
 |a::b,c::i=>uR O d a c/\gu O d b i
 |_,_=>False
theorem gu.stay(l:∀(k:E)(n:Xk Xe)(a:Xq),d.heap[k]?=C (Obj.cells n a (0,0))->a=190\/a=187\/a=94->w'.heap[k]?=d.heap[k]?):∀{m:Xg Xe}{i:Xg Un},gu O d m i->gu O w' m i
 |[],[],_=>trivial
 |_::_,_::_,g=>⟨g.1.stay l,gu.stay l g.2⟩
 |[],_::_,g=>g.elim
 |_::_,[],g=>g.elim
theorem gu.app:∀{b c:Xg Xe}{i e:Xg Un},gu O d b i->gu O d c e->gu O d (b++c) (i++e)
 |[],_,[],_,_,a=>a
 |_::_,_,_::_,_,a,f=>⟨a.1,gu.app a.2 f⟩
 |[],_,_::_,_,a,_=>a.elim
 |_::_,_,[],_,a,_=>a.elim
theorem gu.len:∀{b:Xg Xe}{i:Xg Un},gu O d b i->b.length=i.length
 |[],[],_=>rfl
 |_::_,_::_,a=>by rw[Yl,Yl,gu.len a.2]
 |[],_::_,a=>a.elim
 |_::_,[],a=>a.elim
structure pW(a:Tree)(b e:Path->E)(O:E)(i:Xg Un)(d:M):Prop where
 lg:bw a b e d
 top:∃k g,d.heap[O]?=C (Xn #[pt (b []) 0,Xd K a.length,k] 195 (0,0))/\cr NB d 1 1 k g.length g/\gu O d g i
structure ye(O:E)(a:Tree)(b e:Path->E)(h:Tree)(m k:Path->E)(d w':M):Prop where
 size:d.heap.size<=w'.heap.size
 kept:∀g,g<d.heap.size->¬pJ a b e O g->¬wH d O g->w'.heap[g]?=d.heap[g]?
 news:∀g,pJ h m k O g->pJ a b e O g\/d.heap.size<=g
 row:∀g,wH w' O g->wH d O g\/d.heap.size<=g
theorem ye.trans{u v:Tree}{b e s q t r:Path->E}{w x:M}(l:ye O a b e u s q d w)(n:ye O u s q v t r w x):ye O a b e v t r d x where
 size:=XZ l.size n.size
 kept:=λk m o p=>by
  rw[n.kept k (XY m l.size) (λg=>?_) (λg=>?_),l.kept k m o p]
  .rcases l.news k g with g|g
   .exact o g
   omega
  rcases l.row k g with g|g
  .exact p g
  omega
 news:=λk m=>by
  rcases n.news k m with g|g
  .exact l.news k g
  exact Xi (XZ l.size g)
 row:=λk m=>by
  rcases n.row k m with g|g
  .exact l.row k g
  exact Xi (XZ l.size g)
section
variable{h:Tree}{b e:Path->E}{i:Xg Un}
theorem bw.lt(g:bw a b e d)(i:(Wt.find a c).isSome=J):b c<d.heap.size/\e c<d.heap.size:=by obtain⟨f,h⟩:=XR.1 i;obtain⟨m,l,k,_⟩:=g.kd c f h;exact⟨(XN.1 (g.nd c f h)).1,(XN.1 k).1⟩
theorem bw.ne(h:bw a b e d){g:Path}(l:(Wt.find a c).isSome=J)(m:(Wt.find a g).isSome=J):b c≠e g:=λp=>by obtain⟨f,i⟩:=XR.1 l;obtain⟨n,k⟩:=XR.1 m;obtain⟨q,o,r,_⟩:=h.kd g n k;have:=h.nd c f i;simp_all
theorem bw.stay(g:bw a b e d)(l:∀c,(Wt.find a c).isSome=J->w'.heap[b c]?=d.heap[b c]?/\w'.heap[e c]?=d.heap[e c]?):bw a b e w' where
 nd:=λc f k=>by rw[(l c (by rw[k];rfl)).1];exact g.nd c f k
 kd:=λc f k=>by
  obtain⟨n,m,o,p⟩:=g.kd c f k
  grind
 inj:=g.inj
 xM:=g.xM
theorem bw.old(g:bw a b e d)(l:∀k,k<d.heap.size->w'.heap[k]?=d.heap[k]?):bw a b e w':=g.stay λc m=>⟨l _ (g.lt m).1,l _ (g.lt m).2⟩
theorem Cg(d:∀c,(Wt.find h c).isSome=(Wt.find a c).isSome)(b:Path->E)(c:Path):bX h b c=bX a b c:=by grind [bX]
theorem bw.upd(k:bw a b e d){f v:Nd}(D:Wt.find a c=C f)(H:∀g,Wt.find h g=if g=c then C v else Wt.find a g)
 (Q:w'.heap[b c]?=C (Xn (cU c v (b c.dropLast) (e c)) 192 (0,0)))(t:∀i,i<d.heap.size->i≠b c->(∃g,(Wt.find a g).isSome=J/\(i=b g\/i=e g))->w'.heap[i]?=d.heap[i]?):bw h b e w':=by
 have u:(Wt.find a c).isSome=J:=by rw[D];rfl
 have n:∀g,(Wt.find h g).isSome=(Wt.find a g).isSome:=by grind
 refine⟨λg w o=>?_,λg w o=>?_,λi m q r=>k.inj i m (n i▸q) (n m▸r),λi m q r=>k.xM i m (n i▸q) (n m▸r)⟩
 .have l:(Wt.find a g).isSome=J:=by grind
  rw[H]at o;by_cases s:g=c
  .simp_all
  rw[Xx s]at o;rw[t _ (k.lt l).1 (λp=>s (k.inj g c l u p)) ⟨g,l,.inl A⟩];exact k.nd g w o
 have l:(Wt.find a g).isSome=J:=by grind
 obtain⟨N,L⟩:=XR.1 l;obtain⟨y,x,z,O⟩:=k.kd g N L;refine⟨y,x,?_,by grind [Cg]⟩;rw[t _ (k.lt l).2 (λp=>k.ne u l p.symm) ⟨g,l,.inr A⟩];exact z
def wR(b:Path->E)(a:Path)(f:E):Path->E:=λc=>if c=a then f else b c
theorem dP{b:Path->E}{a:Path}:wR b a f a=f:=XC A
theorem bG{b:Path->E}{a:Path}(d:c≠a):wR b a f c=b c:=Xx d
theorem uT(a:Path)(b:B):a≠a++[b]:=λc=>by simp_all
theorem GQ{b c:Path}{a d:B}(e:c++[d]=b++[a]):c=b/\d=a:=by simp_all
theorem bw.add(q:bw a b e d){i:Path}{k:B}{a3 S T:Nd}{z:E}(a1:Wt.find a i=C a3)(a5:Wt.find a (i++[k])=F)(a8:∀l,Wt.find a (i++[k]++[l])=F)
 (b1:∀c,c≠[]->(Wt.find a c).isSome=J->(Wt.find a c.dropLast).isSome=J)
 (R:∀g,Wt.find h g=if g=i++[k]then C T else if g=i then C S else Wt.find a g)
 (b0:w'.heap[b i]?=C (Xn (cU i S (b i.dropLast) (e i)) 192 (0,0)))
 (a0:∃s o,w'.heap[e i]?=C (.map s o)/\Kids s o λl=>if l=k then C f else bX a b i l)
 (a9:w'.heap[f]?=C (Xn (cU (i++[k]) T (b i) z) 192 (0,0)))(Z:∃o,w'.heap[z]?=C (.map #[] o)/\Stamped #[] o)
 (a7:∀g,(Wt.find a g).isSome=J->b g≠f/\e g≠z)
 (O:∀m,m<d.heap.size->m≠b i->m≠e i->(∃g,(Wt.find a g).isSome=J/\(m=b g\/m=e g))->w'.heap[m]?=d.heap[m]?):bw h (wR b (i++[k]) f) (wR e (i++[k]) z) w':=by
 have y:(Wt.find a i).isSome=J:=by rw[a1];rfl
 have Q:∀g,g≠i++[k]->(Wt.find h g).isSome=(Wt.find a g).isSome:=by grind
 have a6:∀g,(Wt.find a g).isSome=J->g≠i++[k]:=by grind
 have X:∀g,(Wt.find a g).isSome=J->wR b (i++[k]) f g.dropLast=b g.dropLast:=by grind [bG]
 refine⟨λg l t=>?_,λg l t=>?_,λm r U W n=>?_,λm r U W n=>?_⟩
 .by_cases n:g=i++[k]
  .simp_all [dP,bG]
  have p:(Wt.find a g).isSome=J:=by grind
  rw[bG n,bG n,X g p];rw[R,Xx n]at t;by_cases u:g=i
  .simp_all
  rw[Xx u]at t;rw[O _ (q.lt p).1 (λv=>u (q.inj g i p y v)) (q.ne p y) ⟨g,p,.inl A⟩];exact q.nd g l t
 .by_cases n:g=i++[k]
  .subst n;obtain⟨o,w,L⟩:=Z;rw[dP];refine⟨#[],o,w,L,by simp,λl r t=>?_⟩;unfold bX at t;simp_all
  have p:(Wt.find a g).isSome=J:=by grind
  rw[bG n];by_cases u:g=i
  .subst u;obtain⟨s,o,w,L⟩:=a0;refine⟨s,o,w,?_⟩
   have Y:bX h (wR b (g++[k]) f) g=λl=>if l=k then C f else bX a b g l:=by
    funext l
    unfold bX;by_cases N:l=k
    .subst N;rw[R,XC A,XC A,dP];rfl
    have x:g++[l]≠g++[k]:=by simp_all
    rw[Q _ x,bG x,Xx N]
   simp_all
  obtain⟨a4,a2⟩:=XR.1 p;obtain⟨s,o,w,L⟩:=q.kd g a4 a2;refine⟨s,o,?_,?_⟩
  .rw[O _ (q.lt p).2 (λv=>q.ne y p v.symm) (λv=>u (q.xM g i p y v)) ⟨g,p,.inr A⟩];exact w
  have Y:bX h (wR b (i++[k]) f) g=bX a b g:=by
   funext l
   unfold bX;have x:g++[l]≠i++[k]:=by simp_all
   rw[Q _ x,bG x]
  simp_all
 .by_cases D:m=i++[k]
  .grind [dP,bG]
  by_cases H:r=i++[k]
  .simp_all [dP,bG]
  rw[bG D,bG H]at n;exact q.inj m r (by simp_all) (by simp_all) n
 by_cases D:m=i++[k]
 .grind [dP,bG]
 by_cases H:r=i++[k]
 .simp_all [dP,bG]
 rw[bG D,bG H]at n;exact q.xM m r (by simp_all) (by simp_all) n
theorem bw.del(o:bw a b e d){l:Path}{w:B}{a0 T:Nd}(Y:Wt.find a l=C a0)
 (S:∀k,Wt.find h k=if k=l++[w]then F else if k=l then C T else Wt.find a k)
 (a2:w'.heap[b l]?=C (Xn (cU l T (b l.dropLast) (e l)) 192 (0,0)))
 (X:∃t r,w'.heap[e l]?=C (.map t r)/\Kids t r λn=>if n=w then F else bX a b l n)
 (Q:∀m,m<d.heap.size->m≠b l->m≠e l->(∃k,(Wt.find a k).isSome=J/\(m=b k\/m=e k))->w'.heap[m]?=d.heap[m]?):bw h b e w':=by
 have y:(Wt.find a l).isSome=J:=by rw[Y];rfl
 have R:∀k,k≠l++[w]->(Wt.find h k).isSome=(Wt.find a k).isSome:=by grind
 have u:∀k,(Wt.find h k).isSome=J->k≠l++[w]/\(Wt.find a k).isSome=J:=by grind
 refine⟨λk n v=>?_,λk n v=>?_,λm x H L=>o.inj m x (u m H).2 (u x L).2,λm x H L=>o.xM m x (u m H).2 (u x L).2⟩
 .obtain⟨N,p⟩:=u k (by rw[v];rfl);rw[S,Xx N]at v;by_cases s:k=l
  .simp_all
  rw[Xx s]at v;rw[Q _ (o.lt p).1 (λq=>s (o.inj k l p y q)) (o.ne p y) ⟨k,p,.inl A⟩];exact o.nd k n v
 obtain⟨N,p⟩:=u k (by rw[v];rfl);by_cases s:k=l
 .subst s;obtain⟨t,r,D,U⟩:=X;refine⟨t,r,D,?_⟩
  have W:bX h b k=λn=>if n=w then F else bX a b k n:=by
   funext n
   unfold bX;by_cases z:n=w
   .subst z;rw[S,XC A,XC A];rfl
   rw[R _ (λq=>z (GQ q).2),Xx z]
  simp_all
 obtain⟨a1,Z⟩:=XR.1 p;obtain⟨t,r,D,U⟩:=o.kd k a1 Z;refine⟨t,r,?_,?_⟩
 .rw[Q _ (o.lt p).2 (λq=>o.ne y p q.symm) (λq=>s (o.xM k l p y q)) ⟨k,p,.inr A⟩];exact D
 have W:bX h b k=bX a b k:=by
  funext n
  unfold bX;rw[R _ (λq=>s (GQ q).1)]
 simp_all
end
variable{a:M}
def uQ(a:M):Prop:=TabIs TP a "internal/strconv.uint64pow10" .u64 pow10Tab
theorem pQ:TP.globalNamed "internal/strconv.uint64pow10"=C 4:=by rfl
theorem uQ.stay(c:uQ a)(d:(w'.heap[4]?).map Sim.Obj.whole=(a.heap[4]?).map Sim.Obj.whole):uQ w':=by
 unfold uQ TabIs M.var? at c⊢
 rw[pQ]at c⊢
 simp only[ZO]at c⊢
 cases e:a.heap[4]? with
 |none=>simp_all
 |some g=>
  rw[e]at c d;cases g with
  |cells i n l=>
   cases f:w'.heap[4]? with
   |none=>simp_all
   |some h=>
    rw[f]at d;cases h with
    |cells k o m=>simp_all [Sim.Obj.whole]
    |_=>simp[Sim.Obj.whole]at d
  |_=>cases c
theorem dd(a:E)(b:10<=a):decDigits a=decDigits (a/10)++[UInt8.ofNat (48+a%10)]:=by rw[decDigits,dif_neg (by omega)]
theorem WN(a:E)(b:a<10):decDigits a=[UInt8.ofNat (48+a)]:=by rw[decDigits,abi b]
theorem Fv{a:Xj}(c:0<=a)(h:a<=999):itoa (1000+a)=49::Wt.three a:=by
 obtain⟨b,rfl⟩:=Xj.eq_ofNat_of_zero_le c;unfold itoa;rw[Xx (by omega),show(1000+(b:Xj)).toNat=1000+b by omega,dd _ (by omega),dd _ (by omega),dd _ (by omega),WN _ (by omega)];have d:(1000+b)/10/10/10=1:=by omega
 have e:(1000+b)/10/10%10=b/100:=by omega
 have f:(1000+b)/10%10=b/10%10:=by omega
 have g:(1000+b)%10=b%10:=by omega
 simp_all [Wt.three]
theorem EC{d:Xk Obj}:Below a.heap.size a (grow (a.drewN b) d):=
 ⟨A,A,A,by simp[grow],λe c=>by simp[grow,aa6,c]⟩
def GO(d:XB)(c:Xj)(a:M)(b:Ending)(w':M):Prop:=b=Xs (.string (d++bs (Wt.three c)))/\Below a.heap.size a w'
theorem NI(g:uQ a)(f:XB){c:Xj}(l:0<=c)(m:c<=999)(q:f.size<2^30):Calls TP 186 #[.string f,Xd K c] a (GO f c a):=by
 have e:=Tryz.strconv_Itoa (1000+c) (by omega) (by omega) a g;rw[Fv l m]at e;obtain⟨d,hd⟩:∃d,(⟨(49::Wt.three c).toArray⟩:XB)=d:=⟨_,A⟩;rw[hd]at e;have p:d.size=4:=by rw[<-hd];rfl
 have h:d.extract 1 4=bs (Wt.three c):=by rw[<-hd];rfl
 have i:=Xl e;have k:=Xl h;have n:(bs (Wt.three c)).size=3:=A;clear e g hd h n;go_enter Tryz.func186,Tryz.ntmps186
 go_wp2_with (go_at_call 216;refine i.out.mono ?_;rintro o w'⟨rfl,b,r,rfl⟩)
 go_ret;exact⟨AG (by rw[k.out];rfl),EC⟩
variable{P:Xy}{k:Xe}{m:E}{d:E}{n:E}{T:E}{j:E}{e:Tree}{h:M}
theorem pO{fn:Func}{c f:Tmp}{e:Xq}(g:fn.results=#[.cell c e,.tmp f]){b:Xk Xe}{d:Xw}(h:b.getD c I=XA (C d))(i:(loadVar e d).run P a=.ok k a):
 (results fn b).run P a=.ok (.tuple #[k,b.getD f I]) a:=by
 simp_all [asAddr,results]
theorem Ae{b:Xk Xe}{c:E×E}(d:a.heap[m]?=C (Xn b 154 c))(e:b.size=9):(loadVar 154 ⟨m,0,F⟩).run TP a=.ok (.agg b) a:=
 run_loadVar_row a m 154 154 b c _ d A rfl (by rw[e];rfl)
def WW(a:Wt.Stat):Xg Xj:=[a.made,a.set,a.aE,a.ez,a.own,a.size,a.kids]
def od:Bb->LR
 |.no b=>⟨⟨#[]⟩,[0,0,0,0,0,0,0],[],.iface 32 (Xd K b)⟩
 |.yes a=>⟨bs a.data,WW a.stat,a.names.map bs,.nilIface⟩
def mC(b:LR)(a:M)(d:Ending)(h:M):Prop:=∃c,d=Xs (.tuple #[.agg c,b.ev])/\cf b a.heap.size c h/\Below a.heap.size a h
def nV:Xk Xe:=#[.string ⟨#[]⟩,Xd K 0,Xd K 0,Xd K 0,Xd K 0,Xd K 0,Xd K 0,Xd K 0,Xm F 0 0]
theorem ck(a:M)(c:Obj):Below a.heap.size a (a.alloc c):=⟨A,A,A,by simp,λd b=>XQ _ _ _ b⟩
theorem gQ(a:M)(c:Obj):Below a.heap.size a (a.drew.alloc c):=⟨A,A,A,by simp,λd b=>XQ a.drew _ _ b⟩
theorem alloc_drew(a:M)(b:Obj):(a.alloc b).drew=a.drew.alloc b:=A
theorem Iq{b:Xj}:cf (od (.no b)) s nV a:=⟨A,Xm F 0 0,A,Xh ⟨A,A⟩⟩
abbrev uc(a:M)(d:E)(b c e f g h i k l:Xe):M:=((((((((a.setCell ⟨d,0,F⟩ b).setCell ⟨d,1,F⟩ c).setCell ⟨d,2,F⟩ e).setCell ⟨d,3,F⟩ f).setCell ⟨d,4,F⟩ g).setCell ⟨d,5,F⟩ h).setCell ⟨d,6,F⟩ i).setCell ⟨d,7,F⟩ k).setCell ⟨d,8,F⟩ l
theorem AF{v w x y z D H L N b g i o p q r t u:Xe}{e:Xq}(Q:a.heap[d]?=C (Xn #[v,w,x,y,z,D,H,L,N] e (0,0))):
 (uc a d b g i o p q r t u).heap[d]?=C (Xn #[b,g,i,o,p,q,r,t,u] e (0,0)):=by
 simp[M.setCell,Zf,Q]
theorem fg{b:E}(c:b<=d):Below b a (a.setCell ⟨d,n,F⟩ k):=
 ⟨A,A,A,ZZ aS.symm,λf e=>ai (by omega)⟩
theorem pL{c:E}{e f g h i k l m n:Xe}(b:c<=d):Below c a (uc a d e f g h i k l m n):=
 ((((((((fg b).trans (fg b)).trans (fg b)).trans (fg b)).trans (fg b)).trans (fg b)).trans (fg b)).trans (fg b)).trans (fg b)
theorem vi(b:T≠d):(a.setCell ⟨d,n,F⟩ k).cell? ⟨T,j,F⟩=a.cell? ⟨T,j,F⟩:=by grind [World.cell?,ai]
theorem Kl{b c e f g h i k l:Xe}(m:T≠d):(uc a d b c e f g h i k l).cell? ⟨T,j,F⟩=a.cell? ⟨T,j,F⟩:=by simp_all [vi]
section
variable{f l:Path->E}
theorem PX(d:XB){s:Xj}(u:a.cell? ⟨1,0,F⟩=C (Xd K s))(l:d.size<2^31)(i:Wt.split d.data.toList=F):Calls TP 58 #[pt O 0,.string d] a (mC (od (.no 4)) a):=by
 have t:1<a.heap.size:=by grind [World.cell?]
 have e:=nT d s (a.alloc (.cells nV 154)) l (by simp_all [Yx]);unfold cE at e;rw[i]at e;have g:=Xl e;go_enter Tryz.func58,Tryz.ntmps58
 go_wp2_with (go_at_call 95;refine g.out.mono ?_;rintro q R⟨c,rfl⟩;have b:=(c.block _ (by simp)).trans (YN a _);have m:=aa b 0 A;have c1:=aa b 1 A;have c2:=aa b 2 A;have c3:=aa b 3 A;have c4:=aa b 4 A;have c5:=aa b 5 A;have n:=aa b 6 A;have o:=aa b 7 A;have p:=aa b 8 A;have r:=frozenAt b;have h:=Xl b;have f:=Xl c;clear b c)
 have k:=AF (b:=.string ⟨#[]⟩) (g:=Xd K 0) (i:=Xd K 0) (o:=Xd K 0) (p:=Xd K 0) (q:=Xd K 0) (r:=Xd K 0) (t:=Xd K 0) (u:=Xm F 0 0) h.out;refine Zm (pO A rfl (Ae k A)) A ?_;have c:=f.out;have v:(a.alloc (.cells nV 154)).heap.size=a.heap.size+1:=by simp
 exact⟨_,A,Iq,((ck a _).trans (c.mono (by omega))).trans (pL (XS _))⟩
theorem TJ.row{f:E}(b:TJ k c f a):Row k c a:=by
 rcases b with⟨rfl,rfl⟩|⟨d,rfl,_,_,e⟩
 .exact Xh ⟨A,A⟩
 refine Xi ⟨d,_,A,XS _,(XN.1 e).1,λh i g=>?_⟩;simp_all [M.cell?]
theorem TJ.slice{g:E}(f:TJ k c g a):∃b s e,k=.slice b s e:=by
 rcases f with⟨rfl,rfl⟩|⟨d,rfl,_,_,h⟩
 .exact⟨_,_,_,A⟩
 simp
theorem sM{a:XB}(b:Wt.split a.data.toList=C c):c.length<2^31:=by grind [rD]
theorem yK(u:mg e f l a)(w:a.cell? ⟨O,0,F⟩=C (pt (f []) 0))(x:(Wt.find e []).isSome=J)(H:∀c,c≠[]->(Wt.find e c).isSome=J->(Wt.find e c.dropLast).isSome=J)
 (i:XB){s:Xj}(Q:a.cell? ⟨1,0,F⟩=C (Xd K s))(y:i.size<2^31)(t:Wt.split i.data.toList=C c)(g:Obj):
 Calls TP 95 #[.string i] (a.alloc g) λb m=>∃n q o,b=Xs (.tuple #[.slice n q o,.bool J])/\Below (a.heap.size+1) (a.alloc g) m/\Calls TP 96 #[pt O 0,.slice n q o] m λb h=>b=Xs (gU (if(Wt.find e c).isSome then C (f c)else F))/\m=h:=by
 have L:1<a.heap.size:=by grind [World.cell?]
 have D:O<a.heap.size:=by grind [World.cell?]
 refine(nT i s (a.alloc g) y (by simp_all [Yx])).mono ?_;intro b m p;unfold cE at p;rw[t]at p;obtain⟨d,k,rfl,r⟩:=p;obtain⟨n,q,o,rfl⟩:=r.slice;have z:(a.alloc g).heap.size=a.heap.size+1:=by simp
 rw[z]at d;refine⟨_,_,_,A,d,zP (u.old λv N=>by rw[d.block v (by omega)];simp_all [XQ]) ?_ x H r.row (sM t)⟩;rw[d.cell (p:=⟨O,0,F⟩) (by grind),World.cell?_alloc_lt _ _ _ D];exact w
theorem FC(r:mg e f l a)(u:a.cell? ⟨O,0,F⟩=C (pt (f []) 0))(w:(Wt.find e []).isSome=J)(y:∀c,c≠[]->(Wt.find e c).isSome=J->(Wt.find e c.dropLast).isSome=J)
 (g:XB){s:Xj}(v:a.cell? ⟨1,0,F⟩=C (Xd K s))(x:g.size<2^31)(k:Wt.split g.data.toList=C c)(d:Wt.find e c=F):Calls TP 58 #[pt O 0,.string g] a (mC (od (.no 7)) a):=by
 have m:=yK r u w y g v x k (.cells nV 154);simp only[d,gU,Xp.isSome_none,Yi,Yf,Xp.map_none]at m;have p:=Xl m;go_enter Tryz.func58,Tryz.ntmps58
 go_wp2_with (first
  |(go_at_call 95;refine p.out.mono ?_;rintro t a3⟨z,S,Q,rfl,i,d⟩;have o:=Xl d;clear d;have b:=(i.block _ (by omega)).trans (YN a _);have D:=aa b 0 A;have c1:=aa b 1 A;have c2:=aa b 2 A;have c3:=aa b 3 A;have c4:=aa b 4 A;have c5:=aa b 5 A;have H:=aa b 6 A;have L:=aa b 7 A;have N:=aa b 8 A;have R:=frozenAt b;have q:=Xl b;have n:=Xl i;clear b i)
  |(go_at_call 96;refine o.out.mono ?_;rintro t h⟨rfl,rfl⟩))
 have k:=AF (b:=.string ⟨#[]⟩) (g:=Xd K 0) (i:=Xd K 0) (o:=Xd K 0) (p:=Xd K 0) (q:=Xd K 0) (r:=Xd K 0) (t:=Xd K 0) (u:=Xm F 0 0) q.out;refine Zm (pO A rfl (Ae k A)) A ?_;exact⟨_,A,Iq,((ck a _).trans (n.out.mono (by omega))).trans (pL (XS _))⟩
theorem zo.slice{f:Xg B}{e:E}(d:zo k f e a):∃b s c,k=.slice b s c:=by
 rcases d with⟨rfl,_⟩|⟨_,_,_,rfl,_⟩
 .exact⟨_,_,_,A⟩
 simp
theorem Nu{f:Xg B}{b e:E}(l:zo k f b a)(q:e<=b)(p:∀d,b<=d->h.heap[d]?=a.heap[d]?):gr (f.map bs) e k h:=by
 rcases l with⟨rfl,rfl⟩|⟨d,i,g,rfl,c,r,m,o,s,t⟩
 .exact Xh ⟨A,A⟩
 refine Xi ⟨d,i,g,9,(0,0),by simp,XZ q c,by rw[p d c];exact m,A,by simpa using o,by omega,λn v u=>?_⟩
 grind
theorem JO(a0:mg e f l a)(b0:a.cell? ⟨O,0,F⟩=C (pt (f []) 0))(b8:(Wt.find e []).isSome=J)(c7:∀c,c≠[]->(Wt.find e c).isSome=J->(Wt.find e c.dropLast).isSome=J)
 (y:XB){s:Xj}(b6:a.cell? ⟨1,0,F⟩=C (Xd K s))(b9:y.size<2^31)(Y:Wt.split y.data.toList=C c){b:Nd}(z:Wt.find e c=C b)
 (f2:Wt.Ord e)(b4:∀c9,(Wt.find e c9).isSome=J->∀f9∈c9,f9.length<=maxLen)(c6:∀L U,Kids L U (bX e f c)->L.size<=2^20):Calls TP 58 #[pt O 0,.string y] a (mC (od (.yes ⟨b.data,b.stat,be e c⟩)) a):=by
 have a4:=yK a0 b0 b8 c7 y b6 b9 Y (.cells nV 154);simp only[z,gU,Xp.isSome_some,Yc,Zo]at a4;have a7:=Xl a4;have Q:=Xl a0;clear a4 a0 b0 b8 c7 b6 b9 Y;go_enter Tryz.func58,Tryz.ntmps58
 go_wp2_with (first
  |(go_at_call 95;refine a7.out.mono ?_;rintro D g⟨a1,a5,a2,rfl,N,z⟩;have d2:=Xl z;clear z;have m:=(N.block _ (by omega)).trans (YN a _);have d4:=Xl m;have Z:=Xl N;clear m N)
  |(go_at_call 96;refine d2.out.mono ?_;rintro D h⟨rfl,rfl⟩))
 have f3:(Wt.find e c).isSome=J:=by rw[z];rfl
 have e7:∀H,H<a.heap.size->g.heap[H]?=a.heap[H]?:=λH h2=>by rw[Z.out.block H (by omega)];simp_all [XQ]
 obtain⟨d9,h3⟩:=Q.out.nd c b z;have n:g.heap[f c]?=C (Xn (cU c b (f c.dropLast) (l c)) 192 d9):=by grind
 obtain⟨L,U,f0,R⟩:=Q.out.kd c b z;have b7:g.heap[l c]?=C (.map L U):=by grind
 have i6:=(Q.out.lt f3).1;have f5:=Z.out.size
 have e8:a.heap.size<g.heap.size:=by have:(a.alloc (.cells nV 154)).heap.size=a.heap.size+1:=by simp
                                     omega
 have c0:=λ(h:M)(e0:h.heap[l c]?=C (.map L U))=>DL (c:=h) e0 R (c6 _ _ R) (λy d N=>b4 (c++[y]) (by
  simp_all [bX]) y (by simp)) (b:=be e c) (λy=>by
  simp[ei,bX]) (fC f2)
 have a8:=Xl c0;clear c0;obtain⟨c8,a3⟩:∃f7,be e c=f7:=by simp
 rw[a3]at a8;have d3:=Xl a3;have h6:g.cell? ⟨f c,1,F⟩=C (.string (bs b.data)):=aa n 1 A;have h8:g.cell? ⟨f c,2,F⟩=C (Xd K b.stat.made):=aa n 2 A;have h9:g.cell? ⟨f c,3,F⟩=C (Xd K b.stat.set):=aa n 3 A;have i0:g.cell? ⟨f c,4,F⟩=C (Xd K b.stat.aE):=aa n 4 A;have i1:g.cell? ⟨f c,5,F⟩=C (Xd K b.stat.ez):=aa n 5 A;have i2:g.cell? ⟨f c,6,F⟩=C (Xd K b.stat.own):=aa n 6 A;have i3:g.cell? ⟨f c,7,F⟩=C (Xd K b.stat.size):=aa n 7 A;have i4:g.cell? ⟨f c,8,F⟩=C (Xd K b.stat.kids):=aa n 8 A;have h7:g.cell? ⟨f c,11,F⟩=C (.map (C (l c))):=aa n 11 A;have a6:=Xl b7;have g1:=Xl n;have g0:=Xl R;clear e7 n f0 R b7 a3 c6 b4 Q a7 f5;generalize l c=s at*
 generalize f c=T at*
 have f6:T<g.heap.size:=by omega
 have h4:=(XN.1 a6.out).1;generalize b3:bs b.data=W at*
 have d1:=Xl b3;clear b3
 have S:∀i,Below g.heap.size g i->i.cell? ⟨T,1,F⟩=C (.string W)/\i.cell? ⟨T,2,F⟩=C (Xd K b.stat.made)/\i.cell? ⟨T,3,F⟩=C (Xd K b.stat.set)/\i.cell? ⟨T,4,F⟩=C (Xd K b.stat.aE)/\i.cell? ⟨T,5,F⟩=C (Xd K b.stat.ez)/\i.cell? ⟨T,6,F⟩=C (Xd K b.stat.own)/\i.cell? ⟨T,7,F⟩=C (Xd K b.stat.size)/\i.cell? ⟨T,8,F⟩=C (Xd K b.stat.kids)/\i.cell? ⟨T,11,F⟩=C (.map (C s)):=λi e2=>by refine⟨?_,?_,?_,?_,?_,?_,?_,?_,?_⟩<;>(rw[e2.cell (p:=⟨T,_,F⟩) f6];assumption)
 have a9:Calls TP 97 #[.func (.func 132) #[] #[pt g.heap.size 0]] (g.alloc (.cells #[.map (C s)] 188)).drew λD h=>∃a1 a5 a2,D=Xs (.slice a1 a5 a2)/\zo (.slice a1 a5 a2) c8 (g.heap.size+1) h/\Below g.heap.size g h:=by have f4:=a8.out g.drew a6.out;refine f4.mono ?_;rintro D h⟨k,rfl,b1,e1⟩;obtain⟨g4,g5,g6,rfl⟩:=b1.slice;exact⟨_,_,_,A,b1,(gQ g _).trans (e1.mono (ZN _))⟩
 have e4:Below g.heap.size g (g.alloc (.cells #[.map (C s)] 188)).drew:=by simp[alloc_drew,gQ]
 have e5:Below g.heap.size g (g.drew.alloc (.cells #[.map (C s)] 188)):=gQ g _;have d0:=Xl a9;clear a9;have i5:T≠a.heap.size:=by omega
 have d6:∀i o p q r t u v w x,Below g.heap.size g i->(uc i a.heap.size o p q r t u v w x).cell? ⟨T,1,F⟩=C (.string W)/\(uc i a.heap.size o p q r t u v w x).cell? ⟨T,2,F⟩=C (Xd K b.stat.made)/\(uc i a.heap.size o p q r t u v w x).cell? ⟨T,3,F⟩=C (Xd K b.stat.set)/\(uc i a.heap.size o p q r t u v w x).cell? ⟨T,4,F⟩=C (Xd K b.stat.aE)/\(uc i a.heap.size o p q r t u v w x).cell? ⟨T,5,F⟩=C (Xd K b.stat.ez)/\(uc i a.heap.size o p q r t u v w x).cell? ⟨T,6,F⟩=C (Xd K b.stat.own)/\(uc i a.heap.size o p q r t u v w x).cell? ⟨T,7,F⟩=C (Xd K b.stat.size)/\(uc i a.heap.size o p q r t u v w x).cell? ⟨T,8,F⟩=C (Xd K b.stat.kids)/\(uc i a.heap.size o p q r t u v w x).cell? ⟨T,11,F⟩=C (.map (C s)):=by simp_all [Kl]
 have e3:Below g.heap.size g g.drew:=⟨A,A,A,XS _,λ_ _=>rfl⟩
 go_region_held3 (λi=>i.cell? ⟨T,1,F⟩=C (.string W)/\i.cell? ⟨T,2,F⟩=C (Xd K b.stat.made)/\i.cell? ⟨T,3,F⟩=C (Xd K b.stat.set)/\i.cell? ⟨T,4,F⟩=C (Xd K b.stat.aE)/\i.cell? ⟨T,5,F⟩=C (Xd K b.stat.ez)/\i.cell? ⟨T,6,F⟩=C (Xd K b.stat.own)/\i.cell? ⟨T,7,F⟩=C (Xd K b.stat.size)/\i.cell? ⟨T,8,F⟩=C (Xd K b.stat.kids)/\i.cell? ⟨T,11,F⟩=C (.map (C s)))
  (first|with_reducible exact S _ e3|with_reducible exact S _ e4|with_reducible exact S _ e5|with_reducible exact S _ X|with_reducible exact d6 _ _ _ _ _ _ _ _ _ _ X)
  (first
    |(go_at_call 98;refine(MZ _).mono ?_;rintro D g3⟨rfl,e6⟩;subst e6)
    |(go_at_call 97;refine d0.out.mono ?_;rintro D g2⟨d7,f8,d8,rfl,f1,X⟩;have m:=(X.block _ e8).trans d4.out;have g7:=aa m 0 A;have c1:=aa m 1 A;have c2:=aa m 2 A;have c3:=aa m 3 A;have c4:=aa m 4 A;have c5:=aa m 5 A;have g8:=aa m 6 A;have g9:=aa m 7 A;have h0:=aa m 8 A;have h1:=frozenAt m;have d5:=Xl m;clear m))
 go_wp2
 have Y:=AF (b:=.string W) (g:=Xd K b.stat.made) (i:=Xd K b.stat.set) (o:=Xd K b.stat.aE) (p:=Xd K b.stat.ez) (q:=Xd K b.stat.own) (r:=Xd K b.stat.size) (t:=Xd K b.stat.kids) (u:=.slice d7 f8 d8) d5.out;refine Zm (pO A rfl (Ae Y A)) A ?_;rw[d3.out];have b2:=(ck a _).trans (Z.out.mono (ZN _));have b5:=b2.size;have e9:=E.le_succ_of_le b5;refine⟨_,A,⟨A,_,?_,Nu f1 e9 λd N=>?_⟩,b2.trans ((X.mono b5).trans (pL (XS _)))⟩
 .show _=Value.string (bs b.data)::_;rw[d1.out];rfl
 have h5:d≠a.heap.size:=by omega
 simp_all [ai]
end
variable{a:Tree}{b:M}
theorem Am{a:B}(b:cz a=J):a.length<=12:=by simp_all [cz]
theorem GF(f:WF a){d:Path}(g:(Wt.find a d).isSome=J):∀e∈d,e.length<=maxLen:=λe i=>by
 obtain⟨k,h⟩:=XR.1 g;have:=Am ((f.names d k h).2 e i)
 grind [maxLen]
theorem sC{i:E}{g:Path->E}(h:Kids S i (bX a g c))(e:WF a):S.size=(be a c).length:=by
 have l:∀d f,bX a g c d=C f->d.length<=maxLen:=λd f b=>by
  unfold bX at b;split at b
  .rename_i k;exact GF e k d (by simp)
  cases b
 have b:=(h.strKeys l (names:=be a c) (λd=>by rw[ei];unfold bX;split<;>simp_all) (fC e.ord)).length_eq;rw[b];show _=(Xg.map _ _).length;simp[length_sorted]
theorem ld(a:Tree)(c:Path):(be a c).length<=a.length:=B_ _ _
theorem Hu{n s:Path->E}(f:mg a n s b)(g:b.cell? ⟨O,0,F⟩=C (pt (n []) 0))(d:WF a)(e:XB){r:Xj}(i:b.cell? ⟨1,0,F⟩=C (Xd K r))(m:e.size<2^31):
 Calls TP 58 #[pt O 0,.string e] b (mC (od (Wt.look a e.data.toList)) b):=by
 obtain⟨v,q,_⟩:=d.root;have l:(Wt.find a []).isSome=J:=by rw[q];rfl
 unfold Wt.look;cases k:Wt.split e.data.toList with
 |none=>simp_all [PX]
 |some c=>
  simp only;cases h:Wt.find a c with
  |none=>exact FC f g l d.up e i m k h
  |some u=>
   exact JO f g l d.up e i m k h d.ord (λw p=>GF d p) (λS t o=>by
    rw[sC o d];have:=ld a c;have:=d.len
    omega)
theorem SI{d l:Path->E}(e:bw a d l b)(g:b.cell? ⟨O,0,F⟩=C (pt (d []) 0))(f:WF a)(c:XB){k:Xj}(h:b.cell? ⟨1,0,F⟩=C (Xd K k))(i:c.size<2^31):
 Calls TP 58 #[pt O 0,.string c] b (mC (od (Wt.look a c.data.toList)) b):=
 Hu e.VV g f c h i
variable{c:Tree}{a:M}{d:M}
def Uo(b:Path)(a:Nd):Xk Xe:=PM (bs (vZ b)) (bs a.data) a.stat.made a.stat.set a.stat.aE a.stat.ez a.stat.own a.stat.size a.stat.kids a.next
theorem NF(a:Path)(y:B):vZ (a++[y])=y:=by simp[vZ]
theorem Jq(w:Wt.Ord c){t:Path}{y:B}{s:Nd}(H:Wt.find c t=C s)(l:Path):Wt.find (Wt.drop c (t++[y])) l=if l=t++[y]then F else if l=t then C (vw s)else Wt.find c l:=by simp_all [Wt.drop,vC,fe,cD]
structure lA(O b T s:E)(k i z:Xe)(f:Xj)(e:Xg Xe)(m n:XB)(o p q g r u h v:Xj)(x:B->Xp E)(y:B)(a d:M):Prop where
 size:a.heap.size<=d.heap.size
 kept:∀t,t<a.heap.size->t≠O->t≠b->t≠s->i.ownBlock≠C t->d.heap[t]?=a.heap[t]?
 tree:∃w L N,d.heap[O]?=C (Xn #[k,Xd K (f-1),w] 195 (0,0))/\cr NB d 1 1 w (e.length+2) (e++[L,N])/\kU a i w/\uR O d L (.head b (PM m n o p q g r u h v))/\uR O d N (.drop b T)
 nd:d.heap[b]?=C (Xn (OM m n o p q (g+1) r u (h-1) v z (.map (C s))) 192 (0,0))
 kd:∃S H,d.heap[s]?=C (.map S H)/\Kids S H λQ=>if Q=y then F else x Q
section
variable{b:E}{k i z:Xe}{f:Xj}{e:Xg Xe}{m n:XB}{o p q g r u h v:Xj}{x:B->Xp E}{y:B}{D:M}
theorem lA.later(t:lA O b T s k i z f e m n o p q g r u h v x y a d)(a2:d.heap.size<=D.heap.size)(H:∀l,l<d.heap.size->D.heap[l]?=d.heap[l]?):lA O b T s k i z f e m n o p q g r u h v x y a D where
 size:=XZ t.size a2
 kept:=λl N w L Z a0=>by rw[H l (XY N t.size)];exact t.kept l N w L Z a0
 tree:=by obtain⟨a6,X,Y,a8,U,a3,a4,a5⟩:=t.tree;have Q:=λ(l:E)(W:Xk Xe)(c:Xq)(w:d.heap[l]?=C (Obj.cells W c (0,0)))(_:c=190\/c=187\/c=94)=>H l (XN.1 w).1;exact⟨a6,X,Y,by grind,U.stay λR a1=>H R (U.lt R a1),a3,a4.stay Q,a5.stay Q⟩
 nd:=by rw[H _ (XN.1 t.nd).1];exact t.nd
 kd:=by
  obtain⟨S,a7,w,L⟩:=t.kd
  grind
def OS(O b T s:E)(k i z:Xe)(f:Xj)(e:Xg Xe)(m n:XB)(o p q g r u h v:Xj)(x:B->Xp E)(y:B)(l t:XB)(a:M)(w:Ending)(d:M):Prop:=
 lA O b T s k i z f e m n o p q g r u h v x y a d/\∃c,w=Xs (Xm (C ⟨c,0,F⟩) 2 2)/\a.heap.size<=c/\d.heap[c]?=C (Xn #[Xd K 2,.string l,Xd K 4,.string t] 269 (0,0))
theorem My{f3 f4:XB}(d8:a.heap[O]?=C (Xn #[k,Xd K f,i] 195 (0,0)))(d6:cr NB a 1 1 i e.length e)(o6:e.length<2^19)
 (d3:a.heap[b]?=C (Xn (OM m n o p q g r u h v z (.map (C s))) 192 (0,0)))
 {c7:E}(g5:a.heap[s]?=C (.map S c7))(h9:Kids S c7 x)(j6:x y=C T){e3:Xk Xe}(d5:a.heap[T]?=C (Xn e3 192 (0,0)))(i4:e3[0]?=C (.string (bs y)))(i5:e3[10]?=C (pt b 0))
 (o4:0<=g/\g<2^62)(o5:0<=h/\h<2^62)(o9:0<=f/\f<2^62)(p2:T≠b)
 (i6:∀t,t.heap.size=a.heap.size+3->(∀l,l<a.heap.size->t.heap[l]?=a.heap[l]?)->Calls TP 156 #[pt T 0] t λw d=>w=Xs (.string f3)/\Below t.heap.size t d)
 (i7:∀t,lA O b T s k i z f e m n o p q g r u h v x y a t->Calls TP 156 #[pt b 0] t λw d=>w=Xs (.string f4)/\Below t.heap.size t d):
 Calls TP 153 #[pt O 0,pt T 0] a (OS O b T s k i z f e m n o p q g r u h v x y f3 f4 a):=by
 have m8:=(XN.1 d8).1;have j0:=(XN.1 d3).1;have n0:=(XN.1 d5).1;have m9:=(XN.1 g5).1;have c8:∀e0 n1 n2,(((a.alloc e0).alloc n1).alloc n2).heap.size=a.heap.size+3:=by simp
 have h5:=Xl (i6 (((a.alloc (.cells #[pt O 0] 94)).alloc (.cells #[pt T 0] 187)).alloc (.cells #[pt b 0] 187)) (c8 _ _ _) λl a1=>qV _ _ _ _ a1);have h8:=Xl λ(t:M)(a6:Below (a.heap.size+3) (((a.alloc (.cells #[pt O 0] 94)).alloc (.cells #[pt T 0] 187)).alloc (.cells #[pt b 0] 187)) t)=>AU (w:=t) (O:=O) (g:=b) (z:=k) (D:=Xd K f) (b:=e) (by rw[a6.block _ (by omega),qV _ _ _ _ m8];exact d8) (d6.stay λH L=>by have:=d6.lt H L;rw[a6.block _ (by omega),qV _ _ _ _ this]) (by omega) (by rw[a6.block _ (by omega),qV _ _ _ _ j0];exact d3);have l1:=Xl i7;have n7:=aa d5 10 i5;have f2:=Xl d8;have c0:=Xl d6;have e7:=Xl d3;have e8:=Xl d5;have e5:=Xl g5;have k7:=Xl h9;have l3:=Xl j6;have HC:=Xl i4;clear d8 d6 d3 d5 g5 h9 j6 i4 i5 i6 i7;rw[c8]at h5
 have i1:∀t,Below (a.heap.size+3) (((a.alloc (.cells #[pt O 0] 94)).alloc (.cells #[pt T 0] 187)).alloc (.cells #[pt b 0] 187)) t->t.heap[a.heap.size]?=C (Xn #[pt O 0] 94 (0,0))/\t.heap[a.heap.size+1]?=C (Xn #[pt T 0] 187 (0,0))/\t.heap[a.heap.size+1+1]?=C (Xn #[pt b 0] 187 (0,0)):=λt a6=>by
  refine⟨?_,?_,?_⟩
  .rw[a6.block _ (by omega),XQ _ _ _ (by simp;omega)];exact Nz _ _ _
  .rw[a6.block _ (by omega),XQ _ _ _ (by simp)];exact vY _ _ _
  rw[a6.block _ (by omega)];have:=vY (a.alloc (.cells #[pt O 0] 94)) (.cells #[pt T 0] 187) (.cells #[pt b 0] 187);simpa using this
 have k6:=Xl i1;clear i1;go_enter Tryz.func153,Tryz.ntmps153
 go_wp2_with (first
  |(go_at_call 156;refine h5.out.mono ?_;rintro w g9⟨rfl,b2⟩;have b5:=Xl b2;clear b2;obtain⟨f5,f6,f7⟩:=k6.out _ b5.out;have l9:=aa f5 0 A;have m0:=aa f6 0 A;have m1:=aa f7 0 A;have k3:=Xl f5;have k4:=Xl f6;have k5:=Xl f7;clear f5 f6 f7)
  |(go_at_call 157;refine(h8.out _ b5.out).mono ?_;rintro w t⟨rfl,p1,i9,a2,c9,j9,j5,j3,a3⟩))
 have p0:a.heap.size+3<=g9.heap.size:=by have:=b5.out.size;rw[c8]at this;exact this
 have d4:=c0.out.lt;have a9:∀l b1,l≠O->i.ownBlock≠C l->g9.heap[l]?=C b1->t.heap[l]?=C b1:=by grind
 have b7:∀l b1,l<a.heap.size->a.heap[l]?=C b1->g9.heap[l]?=C b1:=λl b1 a1 Q=>by rw[b5.out.block _ (by omega),qV _ _ _ _ a1,Q]
 have b2:=a9 _ _ (by omega) (λw=>by have:=d4 _ w;omega) k3.out;have g0:=a9 _ _ (by omega) (λw=>by have:=d4 _ w;omega) k4.out;have g2:=a9 _ _ (by omega) (λw=>by have:=d4 _ w;omega) k5.out
 have g6:=a9 _ _ (λw=>by have:=e7.out;rw[w,f2.out]at this;cases this) (λw=>by
  obtain⟨c6,a4,_⟩:=c0.out.blk _ w
  rw[e7.out]at a4;cases a4) (b7 _ _ j0 e7.out)
 have j4:=a9 _ _ (λw=>by have:=e8.out;rw[w,f2.out]at this;cases this) (λw=>by
  obtain⟨c6,a4,_⟩:=c0.out.blk _ w
  rw[e8.out]at a4;cases a4) (b7 _ _ n0 e8.out)
 have d1:=a9 _ _ (λw=>by have:=e5.out;rw[w,f2.out]at this;cases this) (λw=>by
  obtain⟨c6,a4,_⟩:=c0.out.blk _ w
  rw[e5.out]at a4;cases a4) (b7 _ _ m9 e5.out)
 have n9:=aa b2 0 A;have o0:=aa g0 0 A;have o1:=aa g2 0 A;have o2:=aa g6 11 A;have o3:=aa j4 0 HC.out;obtain⟨i3,m6,i0⟩:=Qv (c:=t.drew) d1 k7.out l3.out 0;obtain⟨X,b8⟩:∃X,ud t.drew s (.map i3 c7)=X:=by simp
 rw[b8]at m6;have b6:s≠O:=by grind
 have d2:s≠b:=by grind
 have d9:O≠b:=by grind
 have a7:∀l,l≠s->X.heap[l]?=t.heap[l]?:=λl a1=>by rw[<-b8];exact wQ a1
 have j1:X.heap[s]?=C (.map i3 c7):=by rw[<-b8];exact Ir (XN.1 d1).1
 have j7:X.heap.size=t.heap.size:=by rw[<-b8];simp[ud]
 have b3:=(a7 b (YX d2)).trans g6;have d7:=(a7 O (YX b6)).trans j9;have f9:=(a7 a.heap.size (by omega)).trans b2;have g1:=(a7 (a.heap.size+1) (by omega)).trans g0;have g3:=(a7 (a.heap.size+1+1) (by omega)).trans g2;have p5:=aa f9 0 A;have p6:=aa g1 0 A;have p7:=aa g3 0 A;have p8:=aa b3 5 A;have p9:=aa b3 8 A;have q0:=aa d7 1 A;have q2:=frozenAt b3 5;have q3:=frozenAt b3 8;have q4:=frozenAt d7 1;have h1:=Xl f9;have h2:=Xl g1;have e4:=Xl g3;have f0:=Xl b3;have f1:=Xl d7;have l0:=Xl j1;have h3:=Xl d1;have k9:=Xl i0;have k8:=Xl i9;have R:=Xl a7;have e9:=Xl j5;have l6:=Xl a3;have h4:=Xl j3;have l4:=Xl j7;have n3:=Xl b7;clear b2 g0 g2 g6 j4 d1 i0 i9 j5 j9 a3 j3 a9 d4 c8 h8 f9 g1 g3 b3 d7 j1 a7 b8 j7 b7 l9 m0 m1
 have q1:(((X.setCell ⟨b,5,F⟩ (Xd K (g+1))).setCell ⟨b,8,F⟩ (Xd K (h-1))).setCell ⟨O,1,F⟩ (Xd K (f-1))).heap[O]?=C (Xn #[k,Xd K (f-1),a2] 195 (0,0)):=by have:=aA (l:=1) (g:=Xd K (f-1)) (a:=(X.setCell ⟨b,5,F⟩ (Xd K (g+1))).setCell ⟨b,8,F⟩ (Xd K (h-1))) (i:=O) (by rw[ai d9,ai d9];exact f1.out);simpa using this
 have k0:(((X.setCell ⟨b,5,F⟩ (Xd K (g+1))).setCell ⟨b,8,F⟩ (Xd K (h-1))).setCell ⟨O,1,F⟩ (Xd K (f-1))).heap[b]?=C (Xn (OM m n o p q (g+1) r u (h-1) v z (.map (C s))) 192 (0,0)):=by rw[ai (YX d9)];have:=aA (l:=8) (g:=Xd K (h-1)) (aA (l:=5) (g:=Xd K (g+1)) f0.out);simpa using this
 have g8:∀l,l≠O->l≠b->(((X.setCell ⟨b,5,F⟩ (Xd K (g+1))).setCell ⟨b,8,F⟩ (Xd K (h-1))).setCell ⟨O,1,F⟩ (Xd K (f-1))).heap[l]?=X.heap[l]?:=λl N Z=>by rw[ai N,ai Z,ai Z]
 have k1:(((X.setCell ⟨b,5,F⟩ (Xd K (g+1))).setCell ⟨b,8,F⟩ (Xd K (h-1))).setCell ⟨O,1,F⟩ (Xd K (f-1))).heap.size=t.heap.size:=by rw[aS,aS,aS,l4.out]
 have a3:∀H,a2.ownBlock=C H->H≠O/\H≠b/\H≠s/\H≠a.heap.size/\H≠a.heap.size+1/\H≠a.heap.size+1+1:=λH L=>by
  obtain⟨c6,W,_⟩:=e9.out.blk H L;refine⟨?_,?_,?_,?_,?_,?_⟩<;>rintro rfl
  .rw[<-R.out _ (YX b6),f1.out]at W;cases W
  .rw[<-R.out _ (YX d2),f0.out]at W;cases W
  .rw[h3.out]at W;cases W
  .rw[<-R.out _ (by omega),h1.out]at W;cases W
  .rw[<-R.out _ (by omega),h2.out]at W;cases W
  rw[<-R.out _ (by omega),e4.out]at W;cases W
 have l5:=Xl (GA (k:=e++[c9]) (.func 184) #[] #[pt (a.heap.size+1) 0,pt (a.heap.size+1+1) 0,pt a.heap.size 0] q1 (by
  rw[Yw]
  exact e9.out.stay λH L=>by rw[g8 _ (a3 H L).1 (a3 H L).2.1,R.out _ (a3 H L).2.2.1]) (by simp;omega))
 have l2:=Xl k0;have h6:=Xl g8;have h7:=Xl k1;have a5:=a3;have b0:∀l,(∀H,a2.ownBlock=C H->H≠l)->a2.ownBlock≠C l:=λl Q w=>Q l w A
 have Ut:∀Y a0,t.heap.size<=Y.heap.size->(∀l,l<t.heap.size->l≠O->a2.ownBlock≠C l->Y.heap[l]?=(((X.setCell ⟨b,5,F⟩ (Xd K (g+1))).setCell ⟨b,8,F⟩ (Xd K (h-1))).setCell ⟨O,1,F⟩ (Xd K (f-1))).heap[l]?)->Y.heap[O]?=C (Xn #[k,Xd K (f-1),a0] 195 (0,0))->
  cr NB Y 1 1 a0 ((e++[c9]).length+1) (e++[c9]++[.func (.func 184) #[] #[pt (a.heap.size+1) 0,pt (a.heap.size+1+1) 0,pt a.heap.size 0]])->(∀U,a0.ownBlock=C U->a2.ownBlock=C U\/t.heap.size<=U)->
  lA O b T s k i z f e m n o p q g r u h v x y a Y/\Y.heap[a.heap.size+1+1]?=C (Xn #[pt b 0] 187 (0,0)):=λY a0 g7 a8 e1 b9 e2=>by
  have b4:∀l,l≠O->l≠b->l≠s->a2.ownBlock≠C l->l<t.heap.size->Y.heap[l]?=t.heap[l]?:=λl N Z f8 d0 m2=>by rw[a8 l m2 N d0,h6.out l N Z,R.out l f8]
  refine⟨?_,by rw[b4 _ (by omega) (by omega) (by omega) (b0 _ λH L=>(a5 H L).2.2.2.2.2) (by omega),<-R.out _ (by omega)];exact e4.out⟩;refine⟨by omega,λl a1 N Z f8 d0=>?_,⟨a0,c9,.func (.func 184) #[] #[pt (a.heap.size+1) 0,pt (a.heap.size+1+1) 0,pt a.heap.size 0],e1,?_,λU g4=>?_,?_,?_⟩,?_,?_⟩
  .rw[b4 l N Z f8 (λw=>?_) (by omega),k8.out l (by omega) N d0,b5.out.block _ (by omega),qV _ _ _ _ a1];rcases h4.out l w with Q|Q
   .exact d0 Q
   omega
  .rw[Yw,ZJ]at b9;exact b9
  .rcases e2 U g4 with Q|Q
   .rcases h4.out U Q with Q|Q
    .exact Xh Q
    exact Xi (by omega)
   exact Xi (by omega)
  .refine l6.out.stay λl c6 c N Z=>?_;have m7:=(XN.1 N).1;refine b4 l ?_ ?_ ?_ (λw=>?_) m7
   .rintro rfl;rw[<-R.out _ (YX b6),f1.out]at N;cases N;revert Z;decide
   .rintro rfl;rw[<-R.out _ (YX d2),f0.out]at N;cases N;revert Z;decide
   .rintro rfl;rw[h3.out]at N;cases N
   obtain⟨n6,m5,_⟩:=e9.out.blk l w;rw[m5]at N;cases N;revert Z;decide
  .exact⟨_,_,_,A,by
    rw[b4 _ (by omega) (by omega) (by omega) (b0 _ λH L=>(a5 H L).2.2.2.2.1) (by omega),<-R.out _ (by omega)];exact h2.out,by
    rw[b4 _ (by omega) (by omega) (by omega) (b0 _ λH L=>(a5 H L).2.2.2.2.2) (by omega),<-R.out _ (by omega)];exact e4.out,by
    rw[b4 _ (by omega) (by omega) (by omega) (b0 _ λH L=>(a5 H L).2.2.2.1) (by omega),<-R.out _ (by omega)];exact h1.out⟩
  .rw[a8 b (by omega) (YX d9) (b0 _ λH L=>(a5 H L).2.1)];exact l2.out
  refine⟨_,_,?_,k9.out⟩;rw[a8 s (by omega) b6 (b0 _ λH L=>(a5 H L).2.2.1),h6.out s b6 d2];exact l0.out
 have l7:=Xl Ut;have m4:∀Y:M,t.heap.size<=Y.heap.size->True:=by simp
 clear q1 k0 g8 k1 a3 Ut a5 b0 m4;generalize j8:bs y=p4 at*
 have n4:=Xl j8;clear j8
 go_still_tail 9,(by kernel_rfl)
 change wpList _ _ _ _ _ t.drew
 have l8:=Xl λ(a0:Xe)(Q:kU _ a2 a0)=>(λU g4=>by have:=Q U g4;rw[h7.out]at this;exact this:∀U,a0.ownBlock=C U->a2.ownBlock=C U\/t.heap.size<=U)
 go_wp2_with (first
  |(go_at_call 183;refine l5.out.mono ?_;rintro w Y⟨rfl,g7,a8,a0,e1,b9,e2⟩;(rw[h7.out]at g7 a8);obtain⟨j2,i2⟩:=l7.out Y a0 g7 a8 e1 b9 (l8.out _ e2);have n8:=aa i2 0 A;have e6:=Xl j2;clear j2 i2 a8 e1 b9 e2)
  |(go_at_call 156;refine(l1.out _ e6.out).mono ?_;rintro w h0⟨rfl,i8⟩))
 have o8:=i8.size;have o7:=e6.out.size;have a1:(h0.alloc (.cells #[Xd K 2,.string f3,Xd K 4,.string f4] 269)).heap.size=h0.heap.size+1:=by simp
 go_ret;exact⟨e6.out.later (by rw[a1];omega) λl m3=>by rw[XQ _ _ _ (by omega),i8.block l m3],h0.heap.size,A,by omega,YN _ _⟩
end
structure uF(c:Tree)(t H:Path->E)(O:E)(N:Xg Un)(l:Path)(y:B)(s:Nd)(a:M)(L:Ending)(d:M):Prop where
 tree:pW (Wt.drop c (l++[y])) t H O (N++[.head (t l) (Uo l s),.drop (t l) (t (l++[y]))]) d
 op:ye O c t H (Wt.drop c (l++[y])) t H a d
 lz:∃w,L=Xs (Xm (C ⟨w,0,F⟩) 2 2)/\a.heap.size<=w/\d.heap[w]?=C (Xn #[Xd K 2,.string (bs (Wt.join (l++[y]))),Xd K 4,.string (bs (Wt.join l))] 269 (0,0))
theorem eB(g:WF c){b:Path}{f:Nd}(h:Wt.find c b=C f):b.length<2^30/\([47].intercalate b).length<2^31:=by
 have p:=(g.names b f h).1;have q:=λd e=>Am ((g.names b f h).2 d e);refine⟨by omega,?_⟩
 have:∀(a:Xg B),(∀d∈a,d.length<=12)->([47].intercalate a).length<=a.length*13:=λa i=>by
  induction a with
  |nil=>simp
  |cons l k m=>
   cases k with
   |nil=>simp[Xg.intercalate];grind
   |cons o k=>
    have n:=m (λd e=>i d (Ym _ e));have:=i l (by simp);simp[Xg.intercalate]at n⊢
    omega
 grind
theorem Sf{g r:Path->E}{R:Xg Un}(U:pW c g r O R a)(k:WF c){f:Path}{y:B}{x s:Nd}(v:Wt.find c (f++[y])=C x)(t:Wt.find c f=C s)(b0:x.stat.kids=0)(e9:R.length<2^18)(d9:0<=s.stat.ez/\s.stat.ez<2^61):
 Calls TP 153 #[pt O 0,pt (g (f++[y])) 0] a (uF c g r O R f y s a):=by
 obtain⟨i,e,N,L,X⟩:=U.top;have e8:=X.len;have Q:(Wt.find c (f++[y])).isSome=J:=by rw[v];rfl
 have w:(Wt.find c f).isSome=J:=by rw[t];rfl
 have p:=U.lg;have b2:=p.nd _ _ t;have b3:=p.nd _ _ v;obtain⟨S,d5,b1,a0⟩:=p.kd _ _ t;have b8:bX c g f y=C (g (f++[y])):=by simp_all [bX]
 have e2:=(XN.1 N).1;have e5:=(p.lt w).1;have e4:=(p.lt Q).1;have e3:=(p.lt w).2;have e0:0<=s.stat.kids/\s.stat.kids<2^61:=by rw[k.kids f s t];have:=ld c f;have:=k.len;omega
 have e7:(c.length:Xj)<2^61:=by have:=k.len;omega
 have a3:(cU (f++[y]) x (g (f++[y]).dropLast) (r (f++[y])))[10]?=C (pt (g f) 0):=by show C (Xe.pointer (if f++[y]=[]then F else C ⟨g (f++[y]).dropLast,0,F⟩))=_;simp
 have a2:(cU (f++[y]) x (g (f++[y]).dropLast) (r (f++[y])))[0]?=C (.string (bs y)):=by show C (Value.string (bs (vZ (f++[y]))))=_;rw[NF]
 have c6:g (f++[y])≠g f:=λh=>uT f y (p.inj _ _ w Q h.symm);have b9:=Jq k.ord t (y:=y);have a6:=k.gone (by simp) v b0;have c0:Wt.find (Wt.drop c (f++[y])) f=C (vw s):=by simp_all
 have b7:∀o,(Wt.find c o).isSome=J->i.ownBlock≠C (g o)/\i.ownBlock≠C (r o)/\g o≠O/\r o≠O:=λo D=>by
  obtain⟨f6,Y⟩:=XR.1 D;obtain⟨d7,d6,e6,_⟩:=p.kd _ _ Y;have f0:=p.nd _ _ Y;refine⟨λh=>?_,λh=>?_,λh=>?_,λh=>?_⟩
  .obtain⟨W,o,_⟩:=L.blk _ h;simp_all
  .obtain⟨W,o,_⟩:=L.blk _ h;simp_all
  .simp_all
  simp_all
 have lg:∀T,lA O (g f) (g (f++[y])) (r f) (pt (g []) 0) i (.pointer (if f=[]then F else C ⟨g f.dropLast,0,F⟩)) c.length e (bs (vZ f)) (bs s.data) s.stat.made s.stat.set s.stat.aE s.stat.ez s.stat.own s.stat.size s.stat.kids s.next (bX c g f) y a T->bw (Wt.drop c (f++[y])) g r T:=λT n=>
  p.del t b9 n.nd n.kd λl z m u⟨o,D,b6⟩=>by
   have H:=b7 o D;rcases b6 with rfl|rfl
   .exact n.kept _ z H.2.2.1 m u H.1
   exact n.kept _ z H.2.2.2 m u H.2.1
 have hd:=My (f3:=bs (Wt.join (f++[y]))) (f4:=bs (Wt.join f)) N L (by omega) b2 b1 a0 b8 b3 a2 a3 (by omega) (by omega) (by omega) c6
  (λZ _ b4=>sH (p.old b4) k.up Q (eB k v).1 (eB k v).2)
  (λZ n=>sH (lg Z n) a6.up (by rw[c0];rfl) (eB k t).1 (eB k t).2)
 refine hd.mono ?_;rintro h d⟨n,a1,a9,a7,a8⟩;obtain⟨d1,a4,a5,c7,f1,c8,c9,d0⟩:=n.tree
 have e1:((Wt.drop c (f++[y])).length:Xj)=c.length-1:=by
  have m:=pz (fe k.ord (b:=f) (d:=vw s)) (b:=f++[y]) (by rw[cD k.ord,Xx (uT f y).symm,v];rfl);rw[dc k.ord w]at m
  grind [Wt.drop]
 have b5:∀l,pJ (Wt.drop c (f++[y])) g r O l->pJ c g r O l:=λl q=>by
  rcases q with rfl|⟨o,D,q⟩
  .exact Xh A
  refine Xi ⟨o,?_,q⟩
  grind
 refine⟨⟨lg d n,d1,e++[a4,a5],by simp_all,by simp_all,?_⟩,⟨n.size,λl z m u=>?_,λl q=>Xh (b5 l q),λl q=>?_⟩,a1,a9,a7,a8⟩
 .refine gu.app (gu.stay (λl W f4 m u=>?_) X) ⟨c9,d0,trivial⟩;refine n.kept l (XN.1 m).1 ?_ ?_ ?_ ?_
  .grind
  .grind
  .grind
  intro h;obtain⟨d4,d8,_⟩:=L.blk l h
  grind
 .exact n.kept l z (λh=>m (Xh h)) (λh=>m (Xi ⟨f,w,Xh h⟩)) (λh=>m (Xi ⟨f,w,Xi h⟩)) (λh=>u ⟨_,_,i,N,h⟩)
 obtain⟨f2,f3,f5,m,u⟩:=q;rw[c7]at m;cases m;rcases c8 l u with q|q
 .exact Xh ⟨_,_,i,N,q⟩
 omega
variable{n:M}
abbrev gM(i:Xj)(e f:XB)(aE d:Xj):Xk Xe:=#[Xd K i,.string e,.string f,Xd K aE,Xd K d]
def fu(a:M)(O:E)(i:Xk Xe)(e h:XB)(b c:E)(o:Xe):Prop:=
 Calls TP 95 #[.string e] (a.alloc (.cells i 28)) λg d=>∃f,g=Xs (.tuple #[Xm (C ⟨f,0,F⟩) b b,.bool J])/\Below (a.heap.size+1) (a.alloc (.cells i 28)) d/\d.cell? ⟨f,c,F⟩=C (.string h)/\
  Calls TP 96 #[pt O 0,Xm (C ⟨f,0,F⟩) c b] d λg n=>g=Xs o/\d=n
def rN(b:Xj)(a:M)(c:Ending)(n:M):Prop:=c=Xs (.tuple #[XA F,Xm F 0 0,.iface 32 (Xd K b)])/\Below a.heap.size a n
structure rM(a:M)(O g:E)(ow nx sz:Xj)(s:E):Prop where
 ow:a.cell? ⟨g,6,F⟩=C (Xd K ow)
 nx:a.cell? ⟨g,9,F⟩=C (Xd K nx)
 mp:a.cell? ⟨g,11,F⟩=C (.map (C s))
 sz:a.cell? ⟨O,1,F⟩=C (Xd K sz)
theorem rM.old{g:E}{k l m:Xj}(p:rM a O g k l m s)(u:O<a.heap.size)(t:g<a.heap.size)(r:∀q,q<a.heap.size->n.heap[q]?=a.heap[q]?):rM n O g k l m s:=by
 refine⟨?_,?_,?_,?_⟩<;>simp only[M.cell?,r _ u,r _ t]
 .exact p.ow
 .exact p.nx
 .exact p.mp
 exact p.sz
theorem bI{c:M}{e:Obj}(d:Below (a.heap.size+1) (a.alloc e) c):∀b,b<a.heap.size->c.heap[b]?=a.heap[b]?:=λb f=>by rw[d.block b (by omega)];simp_all [XQ]
theorem bd{c:M}{b:Obj}(d:Below (a.heap.size+1) (a.alloc b) c):Below a.heap.size a c:=(ck a b).trans (d.mono (ZN _))
theorem cS{c:M}{b:Xk Xe}(d:Below (a.heap.size+1) (a.alloc (.cells b 28)) c):c.heap[a.heap.size]?=C (Xn b 28 (0,0)):=(d.block _ (by omega)).trans (YN a _)
section
variable{g b c:E}{i aE d ak aL k l m:Xj}{e f h Y:XB}{o:Xe}
theorem Sc(v:((b:Xj)==0)=Xf)(w:wrap64 ((b:Xj)-1)=c)(u:(c:Xj)<b)(p:fu a O (gM i e f aE d) e h b c o)(t:8<(h.size:Xj)):
 Calls TP 155 #[pt O 0,.agg (gM i e f aE d),Xd K ak,Xd K aL] a (rN 4 a):=by
 have n:=Xl p;go_enter Tryz.func155,Tryz.ntmps155
 go_wp2_with (first
  |(go_at_call 95;refine n.out.mono ?_;rintro s H⟨r,rfl,k,x,l⟩;have g:=cS k;have y:=aa g 1 A;have z:=aa g 2 A;have D:=aa g 4 A;have m:=Xl k;have q:=Xl l;clear k l g))
 go_ret3;exact⟨A,bd m.out⟩
theorem Pp(w:((b:Xj)==0)=Xf)(x:wrap64 ((b:Xj)-1)=c)(v:(c:Xj)<b)(p:fu a O (gM i e f aE d) e h b c o)(u:¬8<(h.size:Xj))(t:16<(f.size:Xj)):
 Calls TP 155 #[pt O 0,.agg (gM i e f aE d),Xd K ak,Xd K aL] a (rN 5 a):=by
 have n:=Xl p;go_enter Tryz.func155,Tryz.ntmps155
 go_wp2_with (first
  |(go_at_call 95;refine n.out.mono ?_;rintro s L⟨r,rfl,k,y,l⟩;have g:=cS k;have z:=aa g 1 A;have D:=aa g 2 A;have H:=aa g 4 A;have m:=Xl k;have q:=Xl l;clear k l g))
 go_ret3;exact⟨A,bd m.out⟩
theorem Mn(x:((b:Xj)==0)=Xf)(y:wrap64 ((b:Xj)-1)=c)(w:(c:Xj)<b)(p:fu a O (gM i e f aE d) e h b c o)(v:¬8<(h.size:Xj))(t:¬16<(f.size:Xj))(u:(bits .andNot K d 3 !=0)=J):
 Calls TP 155 #[pt O 0,.agg (gM i e f aE d),Xd K ak,Xd K aL] a (rN 6 a):=by
 have n:=Xl p;go_enter Tryz.func155,Tryz.ntmps155
 go_wp2_with (first
  |(go_at_call 95;refine n.out.mono ?_;rintro s N⟨r,rfl,k,z,l⟩;have g:=cS k;have D:=aa g 1 A;have H:=aa g 2 A;have L:=aa g 4 A;have m:=Xl k;have q:=Xl l;clear k l g))
 go_ret3;exact⟨A,bd m.out⟩
theorem Pq(w:((b:Xj)==0)=Xf)(x:wrap64 ((b:Xj)-1)=c)(v:(c:Xj)<b)(q:fu a O (gM i e f aE d) e h b c (XA F))(u:¬8<(h.size:Xj))(s:¬16<(f.size:Xj))(t:(bits .andNot K d 3 !=0)=Xf):
 Calls TP 155 #[pt O 0,.agg (gM i e f aE d),Xd K ak,Xd K aL] a (rN 7 a):=by
 have o:=Xl q;go_enter Tryz.func155,Tryz.ntmps155
 go_wp2_with (first
  |(go_at_call 95;refine o.out.mono ?_;rintro p L⟨r,rfl,k,y,l⟩;have g:=cS k;have z:=aa g 1 A;have D:=aa g 2 A;have H:=aa g 4 A;have m:=Xl k;have n:=Xl l;clear k l g)
  |(go_at_call 96;refine n.out.mono ?_;rintro p N⟨rfl,rfl⟩))
 go_ret3;exact⟨A,bd m.out⟩
theorem Sd(Y:((b:Xj)==0)=Xf)(a0:wrap64 ((b:Xj)-1)=c)(W:(c:Xj)<b)(u:fu a O (gM i e f aE d) e h b c (pt g 0))(U:¬8<(h.size:Xj))(S:¬16<(f.size:Xj))(T:(bits .andNot K d 3 !=0)=Xf)(D:O<a.heap.size)(z:g<a.heap.size)(r:rM a O g k l m s)(Z:(k !=0)=J):
 Calls TP 155 #[pt O 0,.agg (gM i e f aE d),Xd K ak,Xd K aL] a (rN 11 a):=by
 have q:=Xl u;have X:(0:Xj)<=c:=by omega
 have w:=Xl r;clear r;unfold fu at q;clear u;go_enter Tryz.func155,Tryz.ntmps155
 go_wp2_with (first
  |(go_at_call 95;refine q.out.mono ?_;rintro y a5⟨R,rfl,o,a1,t⟩;have n:=cS o;have a2:=aa n 1 A;have a3:=aa n 2 A;have a4:=aa n 4 A;have p:=Xl o;have x:=Xl t;clear o t n)
  |(go_at_call 96;refine x.out.mono ?_;rintro y a6⟨rfl,rfl⟩;have v:=w.out.old D z (bI p.out);obtain⟨H,L,N,Q⟩:=v))
 go_ret3;exact⟨A,bd p.out⟩
theorem Mm(Z:((b:Xj)==0)=Xf)(a2:wrap64 ((b:Xj)-1)=c)(X:(c:Xj)<b)(u:fu a O (gM i e f aE d) e h b c (pt g 0))(W:¬8<(h.size:Xj))(S:¬16<(f.size:Xj))(U:(bits .andNot K d 3 !=0)=Xf)(D:O<a.heap.size)(z:g<a.heap.size)(r:rM a O g k l m s)(a1:(k !=0)=Xf)(T:(bits .and K d 2 !=0)=J)(a0:(l==1000)=J):
 Calls TP 155 #[pt O 0,.agg (gM i e f aE d),Xd K ak,Xd K aL] a (rN 12 a):=by
 have q:=Xl u;have Y:(0:Xj)<=c:=by omega
 have w:=Xl r;clear r;unfold fu at q;clear u;go_enter Tryz.func155,Tryz.ntmps155
 go_wp2_with (first
  |(go_at_call 95;refine q.out.mono ?_;rintro y a7⟨R,rfl,o,a3,t⟩;have n:=cS o;have a4:=aa n 1 A;have a5:=aa n 2 A;have a6:=aa n 4 A;have p:=Xl o;have x:=Xl t;clear o t n)
  |(go_at_call 96;refine x.out.mono ?_;rintro y a8⟨rfl,rfl⟩;have v:=w.out.old D z (bI p.out);obtain⟨H,L,N,Q⟩:=v))
 go_ret3;exact⟨A,bd p.out⟩
theorem EM(a5:((b:Xj)==0)=Xf)(a7:wrap64 ((b:Xj)-1)=c)(a3:(c:Xj)<b)(x:fu a O (gM i e f aE d) e h b c (pt g 0))(a2:¬8<(h.size:Xj))(Z:¬16<(f.size:Xj))(a1:(bits .andNot K d 3 !=0)=Xf)(Q:O<a.heap.size)(N:g<a.heap.size)(u:rM a O g k l m s)(a6:(k !=0)=Xf)(a0:(bits .and K d 2 !=0)=Xf)(v:∀o:M,(∀q,q<a.heap.size->o.heap[q]?=a.heap[q]?)->(Instr.lookup 188 (.map (C s)) (.string h) Xf).run TP o=.ok (pt T 0) o):
 Calls TP 155 #[pt O 0,.agg (gM i e f aE d),Xd K ak,Xd K aL] a (rN 8 a):=by
 have t:=Xl x;have a4:(0:Xj)<=c:=by omega
 have z:=Xl u;clear u;have H:=Xl v;clear v;unfold fu at t;clear x;go_enter Tryz.func155,Tryz.ntmps155
 go_wp2_with (first
  |(go_at_call 95;refine t.out.mono ?_;rintro L R⟨Y,rfl,r,a8,w⟩;have n:=cS r;have b0:=aa n 1 A;have b1:=aa n 2 A;have b2:=aa n 4 A;have p:=Xl r;have D:=Xl w;clear r w n)
  |(go_at_call 96;refine D.out.mono ?_;rintro L o⟨rfl,rfl⟩;have y:=z.out.old Q N (bI p.out);obtain⟨S,U,W,X⟩:=y;have a9:=H.out R (bI p.out)))
 go_ret3;exact⟨A,bd p.out⟩
theorem EN(b8:((b:Xj)==0)=Xf)(c6:wrap64 ((b:Xj)-1)=c)(b6:(c:Xj)<b)(S:fu a O (gM i e f aE d) e h b c (pt g 0))(b5:¬8<(h.size:Xj))(b2:¬16<(f.size:Xj))(b4:(bits .andNot K d 3 !=0)=Xf)(U:O<a.heap.size)(R:g<a.heap.size)(z:rM a O g k l m s)(c0:(k !=0)=Xf)(b3:(bits .and K d 2 !=0)=J)(b9:(l==1000)=Xf)(H:∀q:M,(∀o,o<a.heap.size->q.heap[o]?=a.heap[o]?)->Calls TP 186 #[.string h,Xd K l] q λr n=>r=Xs (.string Y)/\Below q.heap.size q n)(D:∀u:M,(∀o,o<a.heap.size->u.heap[o]?=a.heap[o]?)->(Instr.lookup 188 (.map (C s)) (.string Y) Xf).run TP u=.ok (pt T 0) u):
 Calls TP 155 #[pt O 0,.agg (gM i e f aE d),Xd K ak,Xd K aL] a (rN 8 a):=by
 have y:=Xl S;have b7:(0:Xj)<=c:=by omega
 have w:=Xl z;clear z;have x:=Xl D;clear D;have a1:=Xl H;clear H;unfold fu at y;clear S;go_enter Tryz.func155,Tryz.ntmps155
 go_wp2_with (first
  |(go_at_call 95;refine y.out.mono ?_;rintro r q⟨a7,rfl,v,c7,Q⟩;have t:=cS v;have d0:=aa t 1 A;have d1:=aa t 2 A;have d2:=aa t 4 A;have p:=Xl v;have a0:=Xl Q;clear v Q t)
  |(go_at_call 96;refine a0.out.mono ?_;rintro r u⟨rfl,rfl⟩;have X:=w.out.old U R (bI p.out);obtain⟨a3,a4,a5,a6⟩:=X;have c8:=x.out q (bI p.out))
  |(go_at_call 186;refine(a1.out q (bI p.out)).mono ?_;rintro r a2⟨rfl,N⟩;have W:=λo L=>(N.block o (XY L (bd p.out).size)).trans (bI p.out o L);have Z:=w.out.old U R W;obtain⟨a8,a9,b0,b1⟩:=Z;have c9:=x.out a2 W))
 go_ret3;exact⟨A,(bd p.out).trans (N.mono (bd p.out).size)⟩
theorem Mo(a4:((b:Xj)==0)=Xf)(a6:wrap64 ((b:Xj)-1)=c)(a2:(c:Xj)<b)(x:fu a O (gM i e f aE d) e h b c (pt g 0))(a1:¬8<(h.size:Xj))(Y:¬16<(f.size:Xj))(a0:(bits .andNot K d 3 !=0)=Xf)(Q:O<a.heap.size)(N:g<a.heap.size)(u:rM a O g k l m s)(a5:(k !=0)=Xf)(Z:(bits .and K d 2 !=0)=Xf)(v:∀o:M,(∀q,q<a.heap.size->o.heap[q]?=a.heap[q]?)->(Instr.lookup 188 (.map (C s)) (.string h) Xf).run TP o=.ok (XA F) o)(a8:(m==60)=J):
 Calls TP 155 #[pt O 0,.agg (gM i e f aE d),Xd K ak,Xd K aL] a (rN 13 a):=by
 have t:=Xl x;have a3:(0:Xj)<=c:=by omega
 have z:=Xl u;clear u;have H:=Xl v;clear v;unfold fu at t;clear x;go_enter Tryz.func155,Tryz.ntmps155
 go_wp2_with (first
  |(go_at_call 95;refine t.out.mono ?_;rintro L R⟨X,rfl,r,a7,w⟩;have n:=cS r;have b0:=aa n 1 A;have b1:=aa n 2 A;have b2:=aa n 4 A;have p:=Xl r;have D:=Xl w;clear r w n)
  |(go_at_call 96;refine D.out.mono ?_;rintro L o⟨rfl,rfl⟩;have y:=z.out.old Q N (bI p.out);obtain⟨S,T,U,W⟩:=y;have a9:=H.out R (bI p.out)))
 go_ret3;exact⟨A,bd p.out⟩
theorem Mq(b7:((b:Xj)==0)=Xf)(c0:wrap64 ((b:Xj)-1)=c)(b5:(c:Xj)<b)(S:fu a O (gM i e f aE d) e h b c (pt g 0))(b4:¬8<(h.size:Xj))(b1:¬16<(f.size:Xj))(b3:(bits .andNot K d 3 !=0)=Xf)(T:O<a.heap.size)(R:g<a.heap.size)(z:rM a O g k l m s)(b9:(k !=0)=Xf)(b2:(bits .and K d 2 !=0)=J)(b8:(l==1000)=Xf)(H:∀q:M,(∀o,o<a.heap.size->q.heap[o]?=a.heap[o]?)->Calls TP 186 #[.string h,Xd K l] q λr n=>r=Xs (.string Y)/\Below q.heap.size q n)(D:∀u:M,(∀o,o<a.heap.size->u.heap[o]?=a.heap[o]?)->(Instr.lookup 188 (.map (C s)) (.string Y) Xf).run TP u=.ok (XA F) u)(c7:(m==60)=J):
 Calls TP 155 #[pt O 0,.agg (gM i e f aE d),Xd K ak,Xd K aL] a (rN 13 a):=by
 have y:=Xl S;have b6:(0:Xj)<=c:=by omega
 have w:=Xl z;clear z;have x:=Xl D;clear D;have a0:=Xl H;clear H;unfold fu at y;clear S;go_enter Tryz.func155,Tryz.ntmps155
 go_wp2_with (first
  |(go_at_call 95;refine y.out.mono ?_;rintro r q⟨a6,rfl,v,c6,Q⟩;have t:=cS v;have d0:=aa t 1 A;have d1:=aa t 2 A;have d2:=aa t 4 A;have p:=Xl v;have Z:=Xl Q;clear v Q t)
  |(go_at_call 96;refine Z.out.mono ?_;rintro r u⟨rfl,rfl⟩;have W:=w.out.old T R (bI p.out);obtain⟨a2,a3,a4,a5⟩:=W;have c8:=x.out q (bI p.out))
  |(go_at_call 186;refine(a0.out q (bI p.out)).mono ?_;rintro r a1⟨rfl,N⟩;have U:=λo L=>(N.block o (XY L (bd p.out).size)).trans (bI p.out o L);have X:=w.out.old T R U;obtain⟨a7,a8,a9,b0⟩:=X;have c9:=x.out a1 U))
 go_ret3;exact⟨A,(bd p.out).trans (N.mono (bd p.out).size)⟩
end
variable{e:E}
structure sV(O c s e o:E)(H k L:Xe)(i:Xj)(f:Xg Xe)(q r:XB)(t u v g x z h D N:Xj)(d:Xk Xe)(m:B->Xp E)(y:B)(a b:M):Prop where
 size:a.heap.size<=b.heap.size
 lo:a.heap.size<=e/\a.heap.size<=o/\e≠o
 kept:∀n,n<a.heap.size->n≠O->n≠c->n≠s->k.ownBlock≠C n->b.heap[n]?=a.heap[n]?
 tree:∃w T U,b.heap[O]?=C (Xn #[H,Xd K (i+1),w] 195 (0,0))/\cr NB b 1 1 w (f.length+2) (f++[T,U])/\kU a k w/\uR O b T (.head c (PM q r t u v g x z h D))/\uR O b U (.add c e)
 nd:b.heap[c]?=C (Xn (OM q r t u v (g+1) x z (h+1) N L (.map (C s))) 192 (0,0))
 kd:∃S R,b.heap[s]?=C (.map S R)/\Kids S R λW=>if W=y then C e else m W
 new:b.heap[e]?=C (Xn d 192 (0,0))/\b.heap[o]?=C (.map #[] 0)
section
variable{c o:E}{H k L:Xe}{i:Xj}{f:Xg Xe}{q r:XB}{t u v g x z h D N:Xj}{d:Xk Xe}{m:B->Xp E}{y:B}{Q p:M}
theorem sV.later(l:sV O c s e o H k L i f q r t u v g x z h D N d m y a b)(a5:b.heap.size<=Q.heap.size)(p:∀n,n<b.heap.size->Q.heap[n]?=b.heap[n]?):sV O c s e o H k L i f q r t u v g x z h D N d m y a Q where
 size:=XZ l.size a5
 lo:=l.lo
 kept:=λn U w T a2 a3=>by rw[p n (XY U l.size)];exact l.kept n U w T a2 a3
 tree:=by obtain⟨a9,a0,a1,b1,Y,a6,a7,a8⟩:=l.tree;have W:=λ(n:E)(Z:Xk Xe)(R:Xq)(w:b.heap[n]?=C (Obj.cells Z R (0,0)))(_:R=190\/R=187\/R=94)=>p n (XN.1 w).1;exact⟨a9,a0,a1,by grind,Y.stay λX a4=>p X (Y.lt X a4),a6,a7.stay W,a8.stay W⟩
 nd:=by rw[p _ (XN.1 l.nd).1];exact l.nd
 kd:=by
  obtain⟨S,b0,w,T⟩:=l.kd
  grind
 new:=⟨by rw[p _ (XN.1 l.new.1).1];exact l.new.1,by rw[p _ (XN.1 l.new.2).1];exact l.new.2⟩
theorem sV.next(n:sV O c s e o H k L i f q r t u v g x z h D N d m y a b)(b4:c<a.heap.size)(U:Xj):sV O c s e o H k L i f q r t u v g x z h D U d m y a (b.setCell ⟨c,9,F⟩ (Xd K U)):=by
 have T:∀l,l≠c->(b.setCell ⟨c,9,F⟩ (Xd K U)).heap[l]?=b.heap[l]?:=by grind [ai]
 obtain⟨b2,a4,a5,b5,Z,a9,b0,b1⟩:=n.tree;obtain⟨S,a3,w,W⟩:=n.kd
 have a7:∀(l:E)(Q:Xk Xe)(p:Xq),b.heap[l]?=C (Obj.cells Q p (0,0))->p≠192->l≠c:=λl Q p w W R=>by rw[R,n.nd]at w;simp_all
 have Y:=λ(l:E)(Q:Xk Xe)(p:Xq)(w:b.heap[l]?=C (Obj.cells Q p (0,0)))(W:p=190\/p=187\/p=94)=>T l (a7 l Q p w (by grind));refine⟨by rw[aS];exact n.size,n.lo,λl a6 a0 X a1 a2=>by rw[T l X];exact n.kept l a6 a0 X a1 a2,⟨b2,a4,a5,by grind,Z.stay λa8 R=>?_,a9,b0.stay Y,b1.stay Y⟩,?_,⟨S,a3,?_,W⟩,?_,?_⟩
 .obtain⟨Q,b3,_⟩:=Z.blk a8 R
  grind
 .have:=aA (l:=9) (g:=Xd K U) n.nd;simp_all
 .rw[T s λR=>by rw[R,n.nd]at w;cases w];exact w
 .rw[T e (by have:=n.lo.1;omega)];exact n.new.1
 rw[T o (by have:=n.lo.2.1;omega)];exact n.new.2
theorem Sa(Y:a.heap[O]?=C (Xn #[H,Xd K i,k] 195 (0,0)))(T:cr NB a 1 1 k f.length f)(b8:f.length<2^19)
 (X:a.heap[c]?=C (Xn (OM q r t u v g x z h D L (.map (C s))) 192 (0,0)))
 {U:E}(b7:a.heap[s]?=C (.map S U))(a1:Kids S U m)(b9:m y=F)(a9:0<=g/\g<2^62)(b0:0<=h/\h<2^62)(c0:0<=i/\i<2^62)
 (b1:d[0]?=C (.string (bs y)))(d4:∀l,l<a.heap.size->p.heap[l]?=a.heap[l]?)(d5:a.heap.size<=p.heap.size):
 Calls TP 187 #[pt O 0,pt c 0,pt (p.heap.size+1) 0] ((p.alloc (.map #[] 0)).alloc (.cells d 192)) λw a0=>w=Xs (.tuple #[])/\sV O c s (p.heap.size+1) p.heap.size H k L i f q r t u v g x z h D D d m y a a0:=by
 have R:∀l,l<a.heap.size->((p.alloc (.map #[] 0)).alloc (.cells d 192)).heap[l]?=a.heap[l]?:=by grind [NJ]
 have d2:((p.alloc (.map #[] 0)).alloc (.cells d 192)).heap.size=p.heap.size+2:=by simp
 have b5:=(XN.1 Y).1;have b6:=(XN.1 X).1;have d3:=(XN.1 b7).1;refine(TS (by rw[R _ b5];exact Y) (T.stay λZ b4=>R Z (T.lt Z b4)) b8 (by rw[R _ b6];exact X) (by simp_all) a1 b9 (vY _ _ _) b1 a9 b0 c0).mono ?_;intro w a0 n;obtain⟨d1,a6,a7,c6,c7,c8,c9,d0⟩:=n.tree;have d6:=n.size;refine⟨n.end_,by omega,⟨by omega,by omega,by omega⟩,λl b2 a2 a3 a4 a5=>?_,⟨d1,a6,a7,c6,c7,λa8 b3=>?_,c9,d0⟩,n.nd,n.kd,?_,?_⟩
 .rw[n.kept l (by omega) a2 a3 a4 a5,R l b2]
 .rcases c8 a8 b3 with W|W
  .exact Xh W
  omega
 .rw[n.kept _ (by omega) (by omega) (by omega) (by omega) (λw=>by have:=T.lt _ w;omega)]
  grind [vY]
 rw[n.kept _ (by omega) (by omega) (by omega) (by omega) (λw=>by have:=T.lt _ w;omega)];simp[Nz]
end
abbrev Vb(e c:XB)(aL own:Xj)(b a:E):Xk Xe:=OM e c aL aL 0 0 own c.size 0 0 (pt b 0) (.map (C a))
def Lf(g:E->E->M->Prop)(k l:XB)(f:Ending)(d:M):Prop:=∃e h a c,g e h a/\a.heap.size<=d.heap.size/\(∀b,b<a.heap.size->d.heap[b]?=a.heap[b]?)/\f=Xs (.tuple #[pt e 0,Xm (C ⟨c,0,F⟩) 2 2,.nilIface])/\a.heap.size<=c/\d.heap[c]?=C (Xn #[Xd K 1,.string k,Xd K 4,.string l] 269 (0,0))
section
variable{b h f:E}{o aE d ak aL p i q:Xj}{m c e Y k l:XB}{g n:E->E->M->Prop}
theorem Hb{N:Xo}{R:Xj}(e3:((h:Xj)==0)=Xf)(e7:wrap64 ((h:Xj)-1)=f)(e1:(f:Xj)<h)(a7:fu a O (gM o m c aE d) m e h f (pt b 0))(e0:¬8<(e.size:Xj))(d7:¬16<(c.size:Xj))(d9:(bits .andNot K d 3 !=0)=Xf)(c8:O<a.heap.size)(c7:b<a.heap.size)(a0:rM a O b p i q s)(e6:(p !=0)=Xf)(d8:(bits .and K d 2 !=0)=Xf)(a2:∀z:M,(∀n,n<a.heap.size->z.heap[n]?=a.heap[n]?)->(Instr.lookup 188 (.map (C s)) (.string e) Xf).run TP z=.ok (XA F) z)(e9:(q==60)=Xf)(d6:(bits .and K d 1 !=0)=N)(c6:Xf=N/\0=R\/J=N/\ak=R)(a1:∀t:M,(∀n,n<a.heap.size->t.heap[n]?=a.heap[n]?)->a.heap.size<=t.heap.size->Calls TP 187 #[pt O 0,pt b 0,pt (t.heap.size+1) 0] ((t.alloc (.map #[] 0)).alloc (.cells (Vb e c aL R b t.heap.size) 192)) λr a8=>r=Xs (.tuple #[])/\g (t.heap.size+1) t.heap.size a8)(a3:∀y Q u,g y Q u->Calls TP 156 #[pt y 0] u λr S=>r=Xs (.string k)/\Below u.heap.size u S)(a4:∀y Q u w,g y Q u->Below u.heap.size u w->Calls TP 156 #[pt b 0] w λr S=>r=Xs (.string l)/\Below w.heap.size w S):
 Calls TP 155 #[pt O 0,.agg (gM o m c aE d),Xd K ak,Xd K aL] a (Lf g k l):=by
 rcases c6 with⟨rfl,rfl⟩|⟨rfl,rfl⟩
 all_goals
  have Z:=Xl a7;have e2:(0:Xj)<=f:=by omega
  have e5:=λb7=>aav (P:=TP) 188 b7;have b0:=Xl a0;have b3:=Xl a2;have b1:=Xl a1;have b4:=Xl a3;have b5:=Xl a4;clear a0 a2 a1 a3 a4;unfold fu at Z;clear a7;go_enter Tryz.func155,Tryz.ntmps155
  go_wp2_with (first
   |(go_at_call 95;refine Z.out.mono ?_;rintro r t⟨d5,rfl,D,e8,a6⟩;have v:=cS D;have f1:=aa v 1 A;have f2:=aa v 2 A;have f3:=aa v 4 A;have d0:=Xl v;have e4:=(XN.1 v).1;have x:=Xl D;have b2:=Xl a6;clear D a6 v)
   |(go_at_call 96;refine b2.out.mono ?_;rintro r z⟨rfl,rfl⟩;have a9:=b0.out.old c8 c7 (bI x.out);obtain⟨d1,d2,d3,d4⟩:=a9;have f0:=b3.out t (bI x.out);have q1:=Xl (b1.out t (bI x.out) (bd x.out).size))
   |(go_at_call 187;refine q1.out.mono ?_;rintro r a8⟨rfl,L⟩;have X:=b4.out _ _ _ L;have W:=Xl L;have Y:=Xl X;clear L X)
   |(go_at_call 156;refine Y.out.mono ?_;rintro r w⟨rfl,H⟩;have T:=Xl H;have b6:=Xl (b5.out _ _ _ _ W.out H);clear H Y)
   |(go_at_call 156;refine b6.out.mono ?_;rintro r c9⟨rfl,a5⟩;have U:=Xl a5;clear a5))
  have b8:=T.out.size;have b9:=U.out.size;go_ret3;exact⟨_,_,_,c9.heap.size,W.out,XZ b8 (XZ b9 (by simp)),λn c0=>by rw[XQ _ _ _ (by omega),U.out.block n (by omega),T.out.block n c0],A,by omega,YN _ _⟩
theorem Hc{Z:Xo}{a0:Xj}(g2:((h:Xj)==0)=Xf)(g8:wrap64 ((h:Xj)-1)=f)(g0:(f:Xj)<h)(c7:fu a O (gM o m c aE d) m e h f (pt b 0))(f9:¬8<(e.size:Xj))(f6:¬16<(c.size:Xj))(f8:(bits .andNot K d 3 !=0)=Xf)(c8:O<a.heap.size)(c6:b<a.heap.size)(b0:rM a O b p i q s)(g7:(p !=0)=Xf)(f7:(bits .and K d 2 !=0)=J)(g3:(i==1000)=Xf)(b6:∀t:M,(∀r,r<a.heap.size->t.heap[r]?=a.heap[r]?)->Calls TP 186 #[.string e,Xd K i] t λu L=>u=Xs (.string Y)/\Below t.heap.size t L)(g6:0<=i/\i<2^62)(b2:∀S:M,(∀r,r<a.heap.size->S.heap[r]?=a.heap[r]?)->(Instr.lookup 188 (.map (C s)) (.string Y) Xf).run TP S=.ok (XA F) S)(h0:(q==60)=Xf)(f5:(bits .and K d 1 !=0)=Z)(e2:Xf=Z/\0=a0\/J=Z/\ak=a0)(b1:∀t:M,(∀r,r<a.heap.size->t.heap[r]?=a.heap[r]?)->a.heap.size<=t.heap.size->Calls TP 187 #[pt O 0,pt b 0,pt (t.heap.size+1) 0] ((t.alloc (.map #[] 0)).alloc (.cells (Vb Y c aL a0 b t.heap.size) 192)) λu y=>u=Xs (.tuple #[])/\g (t.heap.size+1) t.heap.size y)(b3:∀x H y,g x H y->y.cell? ⟨b,9,F⟩=C (Xd K i)/\y.frozen? ⟨b,9,F⟩=Xf/\n x H (y.setCell ⟨b,9,F⟩ (Xd K (i+1))))(b4:∀x H w,n x H w->Calls TP 156 #[pt x 0] w λu L=>u=Xs (.string k)/\Below w.heap.size w L)(b5:∀x H w N,n x H w->Below w.heap.size w N->Calls TP 156 #[pt b 0] N λu L=>u=Xs (.string l)/\Below N.heap.size N L):
 Calls TP 155 #[pt O 0,.agg (gM o m c aE d),Xd K ak,Xd K aL] a (Lf n k l):=by
 rcases e2 with⟨rfl,rfl⟩|⟨rfl,rfl⟩
 all_goals
  have a9:=Xl c7;have g1:(0:Xj)<=f:=by omega
  have g5:=λd9=>aav (P:=TP) 188 d9;have a1:=Xl b0;have a5:=Xl b2;have a2:=Xl b1;have d6:=Xl b4;have d7:=Xl b5;have d4:=Xl b6;have d5:=Xl b3;clear b6 b3;clear b0 b2 b1 b4 b5;unfold fu at a9;clear c7;go_enter Tryz.func155,Tryz.ntmps155
  go_wp2_with (first
   |(go_at_call 95;refine a9.out.mono ?_;rintro u t⟨f0,rfl,T,g9,b8⟩;have D:=cS T;have h4:=aa D 1 A;have h5:=aa D 2 A;have h6:=aa D 4 A;have d2:=Xl D;have b9:=(XN.1 D).1;have v:=Xl T;have d3:=Xl b8;clear T b8 D)
   |(go_at_call 96;refine d3.out.mono ?_;rintro u S⟨rfl,rfl⟩;have d0:=a1.out.old c8 c6 (bI v.out);obtain⟨e6,e7,e8,e9⟩:=d0;have h1:=a5.out t (bI v.out);have q1:=Xl (a2.out t (bI v.out) (bd v.out).size))
   |(go_at_call 186;refine(d4.out t (bI v.out)).mono ?_;rintro u c9⟨rfl,z⟩;have g4:=XY b9 z.size;have R:=λr Q=>(z.block r (XY Q (bd v.out).size)).trans (bI v.out r Q);have d1:=a1.out.old c8 c6 R;obtain⟨f1,f2,f3,f4⟩:=d1;have h2:=a5.out c9 R;have W:=(z.block _ b9).trans d2.out;have h7:=aa W 2 A;have h8:=aa W 4 A;have e3:=Xl (a2.out c9 R (XZ (bd v.out).size z.size));have e5:=Xl z;clear W R z)
   |(go_at_call 187;refine e3.out.mono ?_;rintro u y⟨rfl,c0⟩;obtain⟨h3,h9,X⟩:=d5.out _ _ _ c0;have a7:=d6.out _ _ _ X;have a6:=Xl X;have a8:=Xl a7;clear c0 X a7)
   |(go_at_call 156;refine a8.out.mono ?_;rintro u N⟨rfl,U⟩;have a3:=Xl U;have d8:=Xl (d7.out _ _ _ _ a6.out U);clear U a8)
   |(go_at_call 156;refine d8.out.mono ?_;rintro u e4⟨rfl,b7⟩;have a4:=Xl b7;clear b7))
  have e0:=a3.out.size;have e1:=a4.out.size;go_ret3;exact⟨_,_,_,e4.heap.size,a6.out,XZ e0 (XZ e1 (by simp)),λr Q=>by rw[XQ _ _ _ (by omega),a4.out.block r (by omega),a3.out.block r Q],A,by omega,YN _ _⟩
end
variable{a:E}
theorem Pw{a:Xj}(b:0<=a)(c:a<=3):(bits .and K a 2 !=0)=decide (2<=a):=by rcases(by omega:a=0\/a=1\/a=2\/a=3)with rfl|rfl|rfl|rfl<;>decide
theorem Va{a:Xj}(b:0<=a)(c:a<=3):(bits .and K a 1 !=0)=decide (a%2=1):=by rcases(by omega:a=0\/a=1\/a=2\/a=3)with rfl|rfl|rfl|rfl<;>decide
theorem MI{a:Xj}(b:0<=a)(c:a<=3):(bits .andNot K a 3 !=0)=Xf:=by rcases(by omega:a=0\/a=1\/a=2\/a=3)with rfl|rfl|rfl|rfl<;>decide
theorem OX(b:BitVec 64):b&&& ~~~3#64=(b >>> 2) <<< 2:=by
 apply BitVec.eq_of_getLsbD_eq;intro a e;simp only[BitVec.getLsbD_and,BitVec.getLsbD_not,BitVec.getLsbD_shiftLeft,BitVec.getLsbD_ushiftRight];rcases(by omega:a=0\/a=1\/2<=a)with rfl|rfl|c
 .simp
 .simp
 have d:(3#64).getLsbD a=Xf:=by rw[BitVec.getLsbD_ofNat];have:=E.testBit_lt_two_pow (XY (by decide:3<2^2) (E.pow_le_pow_right (by decide) c));simp[this]
 simp_all
theorem QL(b:0<a)(c:a<2^64):IntKind.i64.wrap (a:Xj)≠0:=by have d:((a:Xj)%(2^IntKind.i64.bits:Xj))=a:=Xj.emod_eq_of_lt (by omega) (by show(a:Xj)<18446744073709551616;omega);show(if(IntKind.i64.signed&&decide ((a:Xj)%(2^IntKind.i64.bits:Xj)>=(2^(IntKind.i64.bits-1):Xj)))=J then(a:Xj)%(2^IntKind.i64.bits:Xj)-(2^IntKind.i64.bits:Xj)else(a:Xj)%(2^IntKind.i64.bits:Xj))≠0;omega
theorem Vv{a:Xj}(h:-2^63<=a)(k:a<2^63)(c:a<0\/3<a):(bits .andNot K a 3 !=0)=J:=by
 have d:bits .andNot K a 3=IntKind.i64.wrap (((BitVec.ofInt 64 a)&&& ~~~(3#64)).toNat:Xj):=A;rw[d,OX];have i:(BitVec.ofInt 64 a).toNat=(a%2^64).toNat:=BitVec.toNat_ofInt ..
 have e:4<=(BitVec.ofInt 64 a).toNat:=by
  rcases c with c|c
  .omega
  omega
 have f:=(BitVec.ofInt 64 a).isLt;generalize BitVec.ofInt 64 a=b at e f
 have g:(b >>> 2 <<< 2).toNat=b.toNat/4*4:=by
  rw[BitVec.toNat_shiftLeft,BitVec.toNat_ushiftRight,E.shiftRight_eq_div_pow,E.shiftLeft_eq];have:b.toNat/2^2*2^2<2^64:=by omega
  rw[Q' this]
 grind [QL]
variable{a:Path}
theorem Mr{l L:Path->E}(r:bw c l L b)(m:WF c)(t:b.cell? ⟨O,0,F⟩=C (pt (l []) 0))(i:Xk Xe)(g:XB){p:Xj}(T:b.cell? ⟨1,0,F⟩=C (Xd K p))(z:g.size<2^31)(w:Wt.split g.data.toList=C a)(o:a≠[]):
 fu b O i g (bs (a.getLast o)) a.length (a.length-1) (gU (if(Wt.find c a.dropLast).isSome then C (l a.dropLast)else F)):=by
 have Q:1<b.heap.size:=by grind [World.cell?]
 have H:O<b.heap.size:=by grind [World.cell?]
 obtain⟨X,x,_⟩:=m.root;have U:=y_.2 o;refine(nT g p (b.alloc (.cells i 28)) z (by simp_all [Yx])).mono ?_;intro N q k;unfold cE at k;rw[w]at k;obtain⟨e,Y,rfl,v⟩:=k;have D:(b.alloc (.cells i 28)).heap.size=b.heap.size+1:=by simp
 rw[D]at e;rcases v with⟨rfl,_⟩|⟨d,rfl,S,_,u⟩
 .simp_all
 have n:∀(f:E) h,a[f]?=C h->q.cell? ⟨d,f,F⟩=C (.string (bs h)):=by simp_all [M.cell?]
 refine⟨d,A,e,n _ _ (by grind),?_⟩
 have y:Row (Xm (C ⟨d,0,F⟩) (a.length-1) a.length) a.dropLast q:=Xi ⟨d,a.length,by simp,by simp,(XN.1 u).1,λf h W=>n f h (by grind)⟩
 exact zP (r.old λs R=>by rw[e.block s (by omega)];simp_all [XQ]).VV (by
  rw[e.cell (p:=⟨O,0,F⟩) (by grind),World.cell?_alloc_lt _ _ _ H]
  exact t) (by rw[x];rfl) m.up y (by grind [sM])
def TD(c:Tree):Prop:=∀a b,Wt.find c a=C b->(0<=b.stat.ez/\b.stat.ez<2^61)/\0<=b.stat.aE/\b.stat.aE<2^61
structure qc(d:Wt.Op):Prop where
 path:d.path.length<2^30
 data:d.data.length<2^30
 WQ:-2^63<=d.flags
 WO:d.flags<2^63
abbrev ub(a:Wt.Op):Xk Xe:=gM a.kind (bs a.path) (bs a.data) a.aE a.flags
theorem TZ(c:a.length<=4)(b:a≠[]):(((a.length:Xj)==0)=Xf)/\wrap64 ((a.length:Xj)-1)=(a.length-1:E)/\((a.length-1:E):Xj)<a.length:=by grind [List.length_pos_iff,wrap64]
theorem kZ{h g:Path->E}(m:bw c h g b){d:Path}{l:Nd}(n:Wt.find c d=C l)(k:B){i:Xp E}(t:bX c h d k=i):∀e:M,(∀f,f<b.heap.size->e.heap[f]?=b.heap[f]?)->(Instr.lookup 188 (.map (C (g d))) (.string (bs k)) Xf).run TP e=.ok (gU i) e:=λe r=>by
 obtain⟨q,p,s,o⟩:=m.kd d l n
 grind [pP]
theorem EO(m:uQ b)(l:4<b.heap.size){d:B}(o:d.length<2^29){c:Xj}(i:0<=c)(k:c<=999):∀a:M,(∀e,e<b.heap.size->a.heap[e]?=b.heap[e]?)->Calls TP 186 #[.string (bs d),Xd K c] a λf g=>f=Xs (.string (bs (d++Wt.three c)))/\Below a.heap.size a g:=λa h=>(NI (m.stay (by rw[h 4 l])) (bs d) i k (by grind [cR])).mono λf g n=>by simp_all [GO,LU]
theorem fH{a b:Xj}(c:a≠b):(a==b)=Xf:=by simpa using c
theorem zy{a b:Xj}(c:a=b):(a !=b)=Xf:=by simpa using c
theorem uj{a b:Xj}(c:a≠b):(a !=b)=J:=by simpa using c
theorem rU{a6 a5:Path->E}{b4:Xg Un}(X:pW c a6 a5 O b4 b)(N:WF c){d:Wt.Op}(T:qc d){ak aL:Xj}{b3:Xj}(a9:b.cell? ⟨1,0,F⟩=C (Xd K b3))(a2:uQ b)(Y:4<b.heap.size){W:Xj}(g:Wt.create c d ak aL=.no W)
 (b0:∀a,Wt.split d.path=C a->a≠[])(b1:(Wt.split d.path).isSome=J):Calls TP 155 #[pt O 0,.agg (ub d),Xd K ak,Xd K aL] b (rN W b):=by
 obtain⟨b8,b7,U,b5,b6⟩:=X.top;obtain⟨a,L⟩:=XR.1 b1;have i:=b0 a L;have t:=X.lg;have e:=TZ (rD L).1 i;have o:=Mr t N (aa U 0 A) (ub d) (bs d.path) a9 (by rw[cR];have:=T.path;omega) (a:=a) L i;have y:=(XN.1 U).1;unfold Wt.create at g;rw[L]at g;cases a with
 |nil=>simp_all
 |cons f h=>
  simp only at g;have c0:((bs ((f::h).getLast i)).size:Xj)=((f::h).getLast i).length:=by rw[cR]
  have b9:((bs d.data).size:Xj)=d.data.length:=by rw[cR]
  by_cases a8:8<((f::h).getLast i).length
  .grind [Sc]
  rw[Xx a8]at g;have s:¬8<((bs ((f::h).getLast i)).size:Xj):=by omega
  by_cases a7:16<d.data.length
  .grind [Pp]
  rw[Xx a7]at g;have r:¬16<((bs d.data).size:Xj):=by omega
  by_cases R:d.flags<0\/3<d.flags
  .rw[XC R]at g;cases g;exact Mn e.1 e.2.1 e.2.2 o s r (Vv T.WQ T.WO R)
  rw[Xx R]at g;have m:0<=d.flags:=by omega
  have n:d.flags<=3:=by omega
  cases p:Wt.find c (f::h).dropLast with
  |none=>rw[p]at g o;cases g;exact Pq e.1 e.2.1 e.2.2 o s r (MI m n)
  |some l=>
   rw[p]at g o;simp only at g;have b2:(Wt.find c (f::h).dropLast).isSome=J:=by rw[p];rfl
   have S:=t.nd _ _ p;have w:rM b O (a6 (f::h).dropLast) l.stat.own l.next c.length (a5 (f::h).dropLast):=⟨aa S 6 A,aa S 9 A,aa S 11 A,aa U 1 A⟩;have z:=(t.lt b2).1;by_cases H:l.stat.own≠0
   .rw[XC H]at g;cases g;exact Sd e.1 e.2.1 e.2.2 o s r (MI m n) y z w (uj H)
   rw[Xx H]at g;have D:=zy (by simpa using H);by_cases x:2<=d.flags/\l.next=1000
   .rw[XC x]at g;cases g;exact Mm e.1 e.2.1 e.2.2 o s r (MI m n) y z w D (by rw[Pw m n];simpa using x.1) (by simpa using x.2)
   rw[Xx x]at g
   have Z:2<=d.flags->l.next<=999:=λk=>by have:=(N.next _ _ p).2;omega
   have a1:=N.next _ _ p;have a0:((f::h).getLast i).length<2^29:=by omega
   by_cases q:(Wt.find c ((f::h).dropLast++[Wt.nameOf d.flags ((f::h).getLast i) l.next])).isSome=J
   .rw[XC q]at g;cases g;by_cases k:2<=d.flags
    .have v:Wt.nameOf d.flags ((f::h).getLast i) l.next=(f::h).getLast i++Wt.three l.next:=XC k;rw[v]at q;have u:=kZ t p ((f::h).getLast i++Wt.three l.next) (i:=C _) (XC q);exact EN e.1 e.2.1 e.2.2 o s r (MI m n) y z w D (by rw[Pw m n];simpa using k) (fH λQ=>x ⟨k,Q⟩) (EO a2 Y a0 a1.1 (Z k)) u
    have v:Wt.nameOf d.flags ((f::h).getLast i) l.next=(f::h).getLast i:=Xx k;rw[v]at q;have u:=kZ t p ((f::h).getLast i) (i:=C _) (XC q);exact EM e.1 e.2.1 e.2.2 o s r (MI m n) y z w D (by rw[Pw m n];simpa using k) u
   rw[Xx q]at g;by_cases a3:c.length=60
   .rw[XC a3]at g;cases g;have a4:((c.length:Xj)==60)=J:=by rw[a3];rfl
    by_cases k:2<=d.flags
    .have v:Wt.nameOf d.flags ((f::h).getLast i) l.next=(f::h).getLast i++Wt.three l.next:=XC k;rw[v]at q;have u:=kZ t p ((f::h).getLast i++Wt.three l.next) (i:=F) (Xx q);exact Mq e.1 e.2.1 e.2.2 o s r (MI m n) y z w D (by rw[Pw m n];simpa using k) (fH λQ=>x ⟨k,Q⟩) (EO a2 Y a0 a1.1 (Z k)) u a4
    have v:Wt.nameOf d.flags ((f::h).getLast i) l.next=(f::h).getLast i:=Xx k;rw[v]at q;have u:=kZ t p ((f::h).getLast i) (i:=F) (Xx q);exact Mo e.1 e.2.1 e.2.2 o s r (MI m n) y z w D (by rw[Pw m n];simpa using k) u a4
   simp_all
variable{b:Tree}{f:M}{o:M}
def ib(b:Xg Wt.Ev):Xk Xe:=(b.flatMap λa=>[Xe.int K a.1,.string (bs a.2)]).toArray
def rO(b:Tree)(d h:Path->E)(O:E)(q:Xg Un)(g:Tree)(l:Xg Wt.Ev)(m:B)(f:M)(k:Ending)(o:M):Prop:=∃c i n p e a,k=Xs (.tuple #[pt (c e) 0,Xm (C ⟨a,0,F⟩) 2 2,.nilIface])/\pW g c i O (q++[n,p]) o/\ye O b d h g c i f o/\f.heap.size<=a/\o.heap[a]?=C (Xn (ib l) 269 (0,0))/\m=Wt.join e/\(Wt.find g e).isSome=J
abbrev WZ(c:Path)(d:Path->E):Xe:=.pointer (if c=[]then F else C ⟨d c.dropLast,0,F⟩)
abbrev xZ(b:Tree)(d h:Path->E)(O:E)(g:Xe)(i:Xg Xe)(a:Path)(c:Nd)(y:B)(e:Wt.Op)(aL own p:Xj)(f:M)(m l:E)(o:M):Prop:=
 sV O (d a) (h a) m l (pt (d []) 0) g (WZ a d) b.length i (bs (vZ a)) (bs c.data) c.stat.made c.stat.set c.stat.aE c.stat.ez c.stat.own c.stat.size c.stat.kids c.next p (Vb (bs y) (bs e.data) aL own (d a) l) (bX b d a) y f o
section
variable{d h:Path->E}{g:Xe}{i:Xg Xe}{a:Path}{c:Nd}{y:B}{e:Wt.Op}{ak aL own p:Xj}{k:M}{l:E}{q:Xg Un}
theorem Ea(k:bw b d h f)(q:f.heap[O]?=C (Xn #[pt (d []) 0,Xd K b.length,g] 195 (0,0)))(l:cr NB f 1 1 g i.length i){a:Path}(p:(Wt.find b a).isSome=J):g.ownBlock≠C (d a)/\g.ownBlock≠C (h a)/\d a≠O/\h a≠O:=by
 obtain⟨t,m⟩:=XR.1 p;obtain⟨s,r,o,_⟩:=k.kd _ _ m;have e:=k.nd _ _ m;refine⟨λc=>?_,λc=>?_,λc=>?_,λc=>?_⟩
 .obtain⟨n,a,_⟩:=l.blk _ c;rw[e]at a;cases a
 .obtain⟨n,a,_⟩:=l.blk _ c;rw[o]at a;cases a
 .rw[c,q]at e;cases e
 simp_all
theorem iv(f:Wt.Ord b){d e:Nd}(c:Path):Wt.find (Wt.put (Wt.put b a d) (a++[y]) e) c=if c=a++[y]then C e else if c=a then C d else Wt.find b c:=by simp_all [cD,fe]
theorem zL(u:bw b d h f)(v:WF b)(R:f.heap[O]?=C (Xn #[pt (d []) 0,Xd K b.length,g] 195 (0,0)))(Q:cr NB f 1 1 g i.length i)(S:Wt.find b a=C c)(L:Wt.find b (a++[y])=F)
 (H:p=(mA c e.flags).next)(W:own=(eV e ak aL).stat.own)(n:xZ b d h O g i a c y e aL own p f m l k):
 bw (Wt.put (Wt.put b a (mA c e.flags)) (a++[y]) (eV e ak aL)) (wR d (a++[y]) m) (wR h (a++[y]) l) k:=by
 refine u.add S L (λz=>?_) v.up (iv v.ord) ?_ n.kd ?_ ⟨0,n.new.2,Go.MapKept.stamped_empty 0⟩ (λT w=>?_) λU x r s⟨T,w,N⟩=>?_
 .cases D:Wt.find b (a++[y]++[z])with
  |none=>rfl
  |some X=>have:=v.up (a++[y]++[z]) (by simp) (by rw[D];rfl);simp_all
 .rw[n.nd,H];rfl
 .rw[n.new.1];have r:=NF a y;have s:(if a++[y]=[]then F else C (⟨d a,0,F⟩:Xw))=C ⟨d a,0,F⟩:=by simp
  grind [eV,cR,cU]
 .have r:=u.lt w;have s:=n.lo;omega
 have t:=Ea u R Q w;rcases N with rfl|rfl
 .exact n.kept _ x t.2.2.1 r s t.1
 exact n.kept _ x t.2.2.2 r s t.2.1
theorem zK(U:pW b d h O q f)(v:WF b)(L:f.heap[O]?=C (Xn #[pt (d []) 0,Xd K b.length,g] 195 (0,0)))(R:cr NB f 1 1 g i.length i)(a9:gu O f i q)(z:Wt.find b a=C c)(Q:Wt.find b (a++[y])=F)
 (Z:p=(mA c e.flags).next)(a5:own=(eV e ak aL).stat.own){n:Ending}
 (r:Lf (λm l k=>xZ b d h O g i a c y e aL own p f m l k) (bs (Wt.join (a++[y]))) (bs (Wt.join a)) n o):
 rO b d h O q (Wt.put (Wt.put b a (mA c e.flags)) (a++[y]) (eV e ak aL)) [(1,Wt.join (a++[y])),(4,Wt.join a)] (Wt.join (a++[y])) f n o:=by
 obtain⟨m,l,k,W,H,a8,a3,rfl,a1,a2⟩:=r;have N:(Wt.find b a).isSome=J:=by rw[z];rfl
 have D:=U.lg;have u:=H.later a8 a3;have T:=zL (ak:=ak) D v L R z Q Z a5 u;obtain⟨b4,X,Y,b0,c8,b1,b2,b3⟩:=u.tree;have c7:=D.nd _ _ z;obtain⟨b8,b7,c6,_⟩:=D.kd _ _ z;have a4:Wt.find (Wt.put b a (mA c e.flags)) (a++[y])=F:=by rw[cD v.ord,Xx (uT a y).symm];exact Q
 have c0:((Wt.put (Wt.put b a (mA c e.flags)) (a++[y]) (eV e ak aL)).length:Xj)=b.length+1:=by rw[jD a4,dc v.ord N];rfl
 have a6:(Wt.find (Wt.put (Wt.put b a (mA c e.flags)) (a++[y]) (eV e ak aL)) (a++[y])).isSome=J:=by rw[iv v.ord,XC A];rfl
 refine⟨wR d (a++[y]) m,wR h (a++[y]) l,_,_,a++[y],W,by rw[dP],⟨T,b4,i++[X,Y],?_,by simp_all,gu.app (gu.stay (λt b5 d1 s x=>?_) a9) ⟨b2,b3,trivial⟩⟩,⟨u.size,λt a0 s x=>?_,λt r=>?_,λt r=>?_⟩,XZ H.size a1,a2,A,a6⟩
 .simp_all [bG]
 .refine u.kept t (XN.1 s).1 ?_ ?_ ?_ ?_
  .grind
  .grind
  .grind
  intro n;obtain⟨b6,b9,_⟩:=R.blk t n
  grind
 .exact u.kept t a0 (λn=>s (Xh n)) (λn=>s (Xi ⟨a,N,Xh n⟩)) (λn=>s (Xi ⟨a,N,Xi n⟩)) (λn=>x ⟨_,_,g,L,n⟩)
 .rcases r with rfl|⟨S,a7,r⟩
  .exact Xh (Xh A)
  by_cases w:S=a++[y]
  .subst w;rw[dP,dP]at r;have:=H.lo;right;omega
  rw[bG w,bG w]at r;rw[iv v.ord,Xx w]at a7;refine Xh (Xi ⟨S,?_,r⟩)
  grind
 obtain⟨c9,d0,d2,s,x⟩:=r;rw[b0]at s;cases s;rcases b1 t x with r|r
 .exact Xh ⟨_,_,g,L,r⟩
 omega
theorem ql(z:pW b d h O q f)(s:WF b)(Q:f.heap[O]?=C (Xn #[pt (d []) 0,Xd K b.length,g] 195 (0,0)))(N:cr NB f 1 1 g i.length i)(R:Wt.find b a=C c)(H:Wt.find b (a++[y])=F)
 (n:WF (Wt.put (Wt.put b a (mA c e.flags)) (a++[y]) (eV e ak aL)))(D:p=(mA c e.flags).next)(L:own=(eV e ak aL).stat.own):
 (∀m l k,xZ b d h O g i a c y e aL own p f m l k->Calls TP 156 #[pt m 0] k λv o=>v=Xs (.string (bs (Wt.join (a++[y]))))/\Below k.heap.size k o)/\
 (∀m l k r,xZ b d h O g i a c y e aL own p f m l k->Below k.heap.size k r->Calls TP 156 #[pt (d a) 0] r λv o=>v=Xs (.string (bs (Wt.join a)))/\Below r.heap.size r o):=by
 have w:Wt.find (Wt.put (Wt.put b a (mA c e.flags)) (a++[y]) (eV e ak aL)) (a++[y])=C (eV e ak aL):=by rw[iv s.ord,XC A]
 have x:Wt.find (Wt.put (Wt.put b a (mA c e.flags)) (a++[y]) (eV e ak aL)) a=C (mA c e.flags):=by rw[iv s.ord,Xx (uT a y),XC A]
 refine⟨λm l k u=>?_,λm l k r u U=>?_⟩
 .have t:=zL (ak:=ak) z.lg s Q N R H D L u;have:=sH t n.up (by rw[w];rfl) (eB n w).1 (eB n w).2;rw[dP]at this;exact this
 have t:=(zL (ak:=ak) z.lg s Q N R H D L u).old λS T=>U.block S T;have:=sH t n.up (by rw[x];rfl) (eB n x).1 (eB n x).2;rw[bG (uT a y)]at this;exact this
end
variable{a:Tree}{b:M}
theorem zM{n x:Path->E}{a2:Xg Un}(m:pW a n x O a2 b)(h:WF a)(c6:TD a){d:Wt.Op}(d5:qc d){ak aL:Xj}{d9:Xj}(c9:b.cell? ⟨1,0,F⟩=C (Xd K d9))(d7:uQ b)(c0:4<b.heap.size)(e7:a2.length<2^18)
 {b5:Tree}{b4:B}{a5:Xg Wt.Ev}(a6:Wt.create a d ak aL=.yes b5 b4 a5):
 Calls TP 155 #[pt O 0,.agg (ub d),Xd K ak,Xd K aL] b (rO a n x O a2 b5 a5 b4 b):=by
 have H:=nH h a6;obtain⟨c,e,f,y,a9,e3,e2,L,N,g,d3,d2,b0,q,e5,rfl,rfl,rfl⟩:=gR a6;obtain⟨b7,b6,k,p,w⟩:=m.top;have t:=m.lg;have i:=TZ (rD a9).1 (Q_ c e);have s:=Mr t h (aa k 0 A) (ub d) (bs d.path) c9 (by rw[cR];have:=d5.path;omega) (a:=c::e) a9 (Q_ c e);have R:=(XN.1 k).1;have b1:(Wt.find a (c::e).dropLast).isSome=J:=by rw[g];rfl
 rw[XC b1]at s;have u:¬8<((bs ((c::e).getLast (Q_ c e))).size:Xj):=by grind [cR]
 have z:¬16<((bs d.data).size:Xj):=by grind [cR]
 have S:=t.nd _ _ g;obtain⟨em,e1,d0,b8⟩:=t.kd _ _ g;have D:rM b O (n (c::e).dropLast) f.stat.own f.next a.length (x (c::e).dropLast):=⟨aa S 6 A,aa S 9 A,aa S 11 A,aa k 1 A⟩;have v:=(t.lt b1).1;have U:((a.length:Xj)==60)=Xf:=by grind
 have a8:bX a n (c::e).dropLast y=F:=by simp_all [bX]
 have Q:=kZ t g y a8;have e4:=(c6 _ _ g).1;have c7:0<=f.stat.kids/\f.stat.kids<2^62:=by rw[h.kids _ f g];have:=ld a (c::e).dropLast;have:=h.len;omega
 have d8:(0:Xj)<=a.length/\(a.length:Xj)<2^62:=by have:=h.len;omega
 have e6:=w.len;have c8:((c::e).getLast (Q_ c e)).length<2^29:=by omega
 have d1:=h.next _ _ g;have add:=λ(own:Xj)(a4:M) d4 d6=>Sa (d:=Vb (bs y) (bs d.data) aL own (n (c::e).dropLast) a4.heap.size) (p:=a4) k p (by omega) S d0 b8 a8 (by omega) c7 d8 A d4 d6;have T:=zy d3;by_cases Z:2<=d.flags
 .have a0:=b0.trans (XC Z);have o:f.next+1=(mA f d.flags).next:=by simp_all [mA]
  have a1:=EO d7 c0 c8 d1.1 (by omega);rw[<-a0]at a1;have kR:=λ(own:Xj) b3 b2 W(X:xZ a n x O b7 b6 (c::e).dropLast f y d aL own f.next b b3 b2 W)=>(⟨aa X.nd 9 A,frozenAt X.nd 9,X.next v (f.next+1)⟩:W.cell? ⟨n (c::e).dropLast,9,F⟩=C (Xd K f.next)/\W.frozen? ⟨n (c::e).dropLast,9,F⟩=Xf/\xZ a n x O b7 b6 (c::e).dropLast f y d aL own (f.next+1) b b3 b2 (W.setCell ⟨n (c::e).dropLast,9,F⟩ (Xd K (f.next+1))));have a7:=fH (d2 Z);by_cases b9:d.flags%2=1
  .have l:ak=(eV d ak aL).stat.own:=by simp_all [eV]
   have P:=ql m h k p g q H o l;exact(Hc i.1 i.2.1 i.2.2 s u z (MI L N) R v D T (by grind [Pw]) a7 a1 (by omega) Q U (by grind [Va]) (Xi ⟨A,A⟩) (add ak) (kR ak) P.1 P.2).mono λY a3 r=>zK m h k p w g q o l r
  have l:(0:Xj)=(eV d ak aL).stat.own:=by simp_all [eV]
  have P:=ql m h k p g q H o l;exact(Hc i.1 i.2.1 i.2.2 s u z (MI L N) R v D T (by grind [Pw]) a7 a1 (by omega) Q U (by grind [Va]) (Xh ⟨A,A⟩) (add 0) (kR 0) P.1 P.2).mono λY a3 r=>zK m h k p w g q o l r
 have a0:=b0.trans (Xx Z);have o:f.next=(mA f d.flags).next:=by grind [mA]
 rw[<-a0]at s u;by_cases b9:d.flags%2=1
 .have l:ak=(eV d ak aL).stat.own:=by grind [eV]
  have P:=ql m h k p g q H o l;exact(Hb i.1 i.2.1 i.2.2 s u z (MI L N) R v D T (by grind [Pw]) Q U (by grind [Va]) (Xi ⟨A,A⟩) (add ak) P.1 P.2).mono λY a3 r=>zK m h k p w g q o l r
 have l:(0:Xj)=(eV d ak aL).stat.own:=by grind [eV]
 have P:=ql m h k p g q H o l;exact(Hb i.1 i.2.1 i.2.2 s u z (MI L N) R v D T (by grind [Pw]) Q U (by grind [Va]) (Xh ⟨A,A⟩) (add 0) P.1 P.2).mono λY a3 r=>zK m h k p w g q o l r
variable{a:M}{b:Tree}
theorem Ml{f aE e ak aL:Xj}{b d:XB}{l:Xj}(c:Xo)(u:a.cell? ⟨1,0,F⟩=C (Xd K l))(r:b.size<2^31)(q:Wt.split b.data.toList=if c then C []else F):
 Calls TP 155 #[pt O 0,.agg (gM f b d aE e),Xd K ak,Xd K aL] a (rN 4 a):=by
 have t:1<a.heap.size:=by grind [World.cell?]
 have s:Calls TP 95 #[.string b] (a.alloc (.cells (gM f b d aE e) 28)) λg k=>g=Xs (.tuple #[Xm F 0 0,.bool c])/\Below (a.heap.size+1) (a.alloc (.cells (gM f b d aE e) 28)) k:=by
  refine(nT b l (a.alloc (.cells (gM f b d aE e) 28)) r (by simp_all [Yx])).mono ?_;intro g k h;unfold cE at h;rw[q]at h;cases c with
  |false=>simp_all
  |true=>
   obtain⟨i,v,rfl,p⟩:=h;rcases p with⟨_,rfl⟩|⟨_,_,_,o,_⟩
   .simp_all
   simp at o
 have n:=Xl s;cases c<;>
 .go_enter Tryz.func155,Tryz.ntmps155
  go_wp2_with (go_at_call 95;refine n.out.mono ?_;rintro g k⟨rfl,i⟩;have m:=Xl i;clear i)
  go_ret3;exact⟨A,bd m.out⟩
def uE(b:Tree)(i h:Path->E)(O:E)(m:Xg Un)(a:M)(f:UU)(c:Ending)(d:M):Prop:=match f with
 |.no e=>rN e a c d
 |.yes l k g=>rO b i h O m l g k a c d
theorem Mt{q p:Path->E}{g:Xg Un}(i:pW b q p O g a)(k:WF b)(r:TD b){c:Wt.Op}(e:qc c){ak aL:Xj}{t:Xj}(d:a.cell? ⟨1,0,F⟩=C (Xd K t))(o:uQ a)(l:4<a.heap.size)(s:g.length<2^18):
 Calls TP 155 #[pt O 0,.agg (ub c),Xd K ak,Xd K aL] a (uE b q p O g a (Wt.create b c ak aL)):=by
 cases m:Wt.create b c ak aL with
 |yes H z w=>exact zM i k r e d o l s m
 |no h=>
  have n:(bs c.path).size<2^31:=by rw[cR];have:=e.path;omega
  cases f:Wt.split c.path with
  |none=>
   have:h=4:=by simp_all [Wt.create]
   subst this;exact Ml Xf d n f
  |some u=>
   cases u with
   |nil=>
    have:h=4:=by simp_all [Wt.create]
    subst this;exact Ml J d n f
   |cons v D=>exact rU i k e d o l m (λy x=>by simp_all) (by rw[f];rfl)
variable{d:Tree}{b:M}{e:M}{c:E}
def uD(a:Xj)(b:M)(c:Ending)(e:M):Prop:=c=Xs (.tuple #[.string ⟨#[]⟩,Xm F 0 0,.iface 32 (Xd K a)])/\Below b.heap.size b e
def Ru(a:Xg Wt.Ev)(d:Xe)(e:E)(b:M):Prop:=(a=[]/\d=Xm F 0 0)\/∃c,d=Xm (C ⟨c,0,F⟩) a.length a.length/\0<a.length/\e<=c/\b.heap[c]?=C (Xn (ib a) 269 (0,0))
def TH(d:Tree)(g f:Path->E)(O:E)(h:Xg Un)(i:Tree)(n:Xg Wt.Ev)(o:B)(b:M)(m:Ending)(e:M):Prop:=∃c a k l,m=Xs (.tuple #[.string (bs o),l,.nilIface])/\pW i c a O (h++k) e/\k.length<=2/\ye O d g f i c a b e/\Ru n l b.heap.size e
def gN(d:Tree)(g f:Path->E)(O:E)(h:Xg Un)(b:M)(i:UU)(a:Ending)(e:M):Prop:=match i with
 |.no c=>uD c b a e
 |.yes m l k=>TH d g f O h m k l b a e
section
variable{g f:Path->E}{h:Xg Un}
theorem pW.old(i:pW d g f O h b)(a:∀c,c<b.heap.size->e.heap[c]?=b.heap[c]?):pW d g f O h e:=by obtain⟨q,p,s,k,o⟩:=i.top;exact⟨i.lg.old a,q,p,by grind,k.stay λl n=>a l (k.lt l n),o.stay λc r t m _=>a c (XN.1 m).1⟩
theorem Dy(a:pW d g f O h b)(i:∀c,c<b.heap.size->e.heap[c]?=b.heap[c]?):wH e O c↔wH b O c:=by
 obtain⟨o,n,l,k,m⟩:=a.top
 grind [wH]
theorem ye.same(k:pW d g f O h b)(m:b.heap.size<=e.heap.size)(i:∀c,c<b.heap.size->e.heap[c]?=b.heap[c]?):ye O d g f d g f b e:=
 ⟨m,λc l _ _=>i c l,λc a=>Xh a,λc a=>Xh ((Dy k i).1 a)⟩
theorem xx(R:pW d g f O h b)(T:WF d)(b0:TD d){a:Wt.Op}(Y:qc a){ak aL:Xj}{b6:Xj}(b3:b.cell? ⟨1,0,F⟩=C (Xd K b6))(b4:uQ b)(a9:4<b.heap.size)(b5:h.length<2^18)(X:a.kind=3):
 Calls TP 113 #[pt O 0,.agg (ub a),Xd K ak,Xd K aL] b (gN d g f O h b (Wt.create d a ak aL)):=by
 obtain⟨c6,b7,a6,aE,a7⟩:=a;simp only at X;subst X;obtain⟨a,L⟩:∃a:Wt.Op,a=⟨3,b7,a6,aE,a7⟩:=by simp
 rw[<-L]at Y⊢
 have H:∀c,c<b.heap.size->(b.alloc (.cells (ub a) 28)).heap[c]?=b.heap[c]?:=by simp_all [XQ]
 have a8:1<b.heap.size:=by omega
 have c0:(b.alloc (.cells (ub a) 28)).heap.size=b.heap.size+1:=by simp
 have x:=Mt (R.old H) T b0 Y (ak:=ak) (aL:=aL) (by rw[Yx _ _ _ a8];exact b3) (b4.stay (by rw[H 4 a9])) (by omega) b5;cases u:Wt.create d a ak aL with
 |no b9=>
  rw[u]at x;have HC:=Xl x;subst L;go_enter Tryz.func113,Tryz.ntmps113
  go_wp2_with (go_at_call 155;refine HC.out.mono ?_;rintro k i⟨rfl,p⟩;have s:=Xl p;clear p)
  go_ret3;refine⟨A,?_⟩;have U:=s.out
  grind [bd]
 |yes Q a2 y=>
  rw[u]at x;have z:=nH T u
  have b1:∀k i,uE d g f O h (b.alloc (.cells (ub a) 28)) (.yes Q a2 y) k i->∃m n q r N l,k=Xs (.tuple #[pt N 0,Xm (C ⟨l,0,F⟩) 2 2,.nilIface])/\pW Q m n O (h++[q,r]) i/\ye O d g f Q m n b i/\b.heap.size<=l/\i.heap[l]?=C (Xn (ib y) 269 (0,0))/\Calls TP 156 #[pt N 0] i λk e=>k=Xs (.string (bs a2))/\Below i.heap.size i e:=λk i U=>by obtain⟨m,n,q,r,b8,l,rfl,o,t,p,w,rfl,a0⟩:=U;obtain⟨d1,a1⟩:=XR.1 a0;exact⟨m,n,q,r,m b8,l,A,o,(ye.same R (by simp) H).trans t,by omega,w,sH o.lg z.up a0 (eB z a1).1 (eB z a1).2⟩
  have b2:y.length=2:=by obtain⟨c,c7,c9,c8,_,_,_,_,_,_,_,_,_,_,_,_,_,rfl⟩:=gR u;rfl
  have HC:=Xl x;have a3:=Xl b1;subst L;go_enter Tryz.func113,Tryz.ntmps113
  go_wp2_with (first
   |(go_at_call 155;refine HC.out.mono ?_;intro k i W;obtain⟨m,n,q,r,N,l,rfl,o,t,p,w,Z⟩:=a3.out _ _ W;have a4:=Xl Z;have S:=Xl o;have a5:=Xl t;have s:=Xl w;clear Z o t W w)
   |(go_at_call 156;refine a4.out.mono ?_;rintro k d0⟨rfl,v⟩))
  go_ret3;refine⟨m,n,[q,r],_,A,S.out.old λc D=>v.block c D,by simp,a5.out.trans (ye.same S.out v.size λc D=>v.block c D),Xi ⟨l,?_,by omega,p,?_⟩⟩
  .rw[b2];rfl
  rw[v.block _ (XN.1 s.out).1];exact s.out
end
def eR(a:M)(O:E)(f:Xk Xe)(b:XB)(ok:Xo)(e:E)(g:Xe):Prop:=
 Calls TP 95 #[.string b] (a.alloc (.cells f 28)) λc d=>∃h i,c=Xs (.tuple #[.slice h e i,.bool ok])/\Below (a.heap.size+1) (a.alloc (.cells f 28)) d/\
  (ok=J->Calls TP 96 #[pt O 0,.slice h e i] d λc k=>c=Xs g/\d=k)
section
variable{f aE d ak aL:Xj}{b c:XB}{e:E}{g:Xe}
theorem Mc(p:(f==3)=Xf)(l:eR a O (gM f b c aE d) b Xf e g):Calls TP 113 #[pt O 0,.agg (gM f b c aE d),Xd K ak,Xd K aL] a (uD 4 a):=by
 have k:=Xl l;go_enter Tryz.func113,Tryz.ntmps113
 go_wp2_with (go_at_call 95;refine k.out.mono ?_;rintro o q⟨m,n,rfl,h,-⟩;have i:=Xl h;clear h)
 go_ret3;exact⟨A,bd i.out⟩
theorem Pj(k:eR a O (gM 4 b c aE d) b J 0 g):Calls TP 113 #[pt O 0,.agg (gM 4 b c aE d),Xd K ak,Xd K aL] a (uD 4 a):=by
 have i:=Xl k;go_enter Tryz.func113,Tryz.ntmps113
 go_wp2_with (go_at_call 95;refine i.out.mono ?_;rintro n p⟨l,m,rfl,e,-⟩;have f:=cS e;have o:=aa f 0 A;have h:=Xl e;clear e f)
 go_ret3;exact⟨A,bd h.out⟩
theorem Pf(l:eR a O (gM 5 b c aE d) b J e g)(p:16<(c.size:Xj)):Calls TP 113 #[pt O 0,.agg (gM 5 b c aE d),Xd K ak,Xd K aL] a (uD 5 a):=by
 have k:=Xl l;go_enter Tryz.func113,Tryz.ntmps113
 go_wp2_with (go_at_call 95;refine k.out.mono ?_;rintro o s⟨m,n,rfl,f,-⟩;have h:=cS f;have q:=aa h 0 A;have r:=aa h 2 A;have i:=Xl f;clear f h)
 go_ret3;exact⟨A,bd i.out⟩
theorem bW{c:M}{b:Xp Xe}(d:c.heap[T]?=a.heap[T]?)(e:a.cell? ⟨T,j,F⟩=b):c.cell? ⟨T,j,F⟩=b:=by simp_all [M.cell?]
theorem below_drewN(a:M)(b:E):Below a.heap.size a (a.drewN b):=⟨A,A,A,XS _,λ_ _=>rfl⟩
theorem vk{b:M}{e:Obj}(c:Below (a.heap.size+1) (a.alloc e) b)(d:E):Below a.heap.size a (b.drewN d):=(bd c).trans ((below_drewN b d).mono (bd c).size)
theorem LY(q:((e:Xj)==0)=Xf)(n:eR a O (gM 4 b c aE d) b J e (XA F)):Calls TP 113 #[pt O 0,.agg (gM 4 b c aE d),Xd K ak,Xd K aL] a (uD 7 a):=by
 have l:=Xl n;go_enter Tryz.func113,Tryz.ntmps113
 go_wp2_with (first
  |(go_at_call 95;refine l.out.mono ?_;rintro m u⟨o,p,rfl,g,h⟩;have f:=cS g;have r:=aa f 0 A;have s:=aa f 2 A;have t:=aa f 3 A;have k:=Xl (h A);have i:=Xl g;clear g f h)
  |(go_at_call 96;refine k.out.mono ?_;rintro m v⟨rfl,rfl⟩))
 go_ret3;exact⟨A,bd i.out⟩
theorem LZ(q:¬16<(c.size:Xj))(n:eR a O (gM 5 b c aE d) b J e (XA F)):Calls TP 113 #[pt O 0,.agg (gM 5 b c aE d),Xd K ak,Xd K aL] a (uD 7 a):=by
 have l:=Xl n;go_enter Tryz.func113,Tryz.ntmps113
 go_wp2_with (first
  |(go_at_call 95;refine l.out.mono ?_;rintro m u⟨o,p,rfl,g,h⟩;have f:=cS g;have r:=aa f 0 A;have s:=aa f 2 A;have t:=aa f 3 A;have k:=Xl (h A);have i:=Xl g;clear g f h)
  |(go_at_call 96;refine k.out.mono ?_;rintro m v⟨rfl,rfl⟩))
 go_ret3;exact⟨A,bd i.out⟩
theorem Ma(r:(f==3)=Xf)(s:(f==4)=Xf)(t:(f==5)=Xf)(o:eR a O (gM f b c aE d) b J e (XA F)):Calls TP 113 #[pt O 0,.agg (gM f b c aE d),Xd K ak,Xd K aL] a (uD 7 a):=by
 have m:=Xl o;go_enter Tryz.func113,Tryz.ntmps113
 go_wp2_with (first
  |(go_at_call 95;refine m.out.mono ?_;rintro n x⟨p,q,rfl,h,i⟩;have g:=cS h;have u:=aa g 0 A;have v:=aa g 2 A;have w:=aa g 3 A;have l:=Xl (i A);have k:=Xl h;clear h g i)
  |(go_at_call 96;refine l.out.mono ?_;rintro n y⟨rfl,rfl⟩))
 go_ret3;exact⟨A,bd k.out⟩
theorem Pk(v:((e:Xj)==0)=Xf)(l:eR a O (gM 4 b c aE d) b J e (pt T 0)){m:Xj}(r:T<a.heap.size)(i:a.cell? ⟨T,4,F⟩=C (Xd K m))(w:(aE !=-1)=J)(x:(aE !=m)=J):Calls TP 113 #[pt O 0,.agg (gM 4 b c aE d),Xd K ak,Xd K aL] a (uD 9 a):=by
 have h:=Xl l;unfold eR at h;clear l;have o:=Xl i;clear i;go_enter Tryz.func113,Tryz.ntmps113
 go_wp2_with (first
  |(go_at_call 95;refine h.out.mono ?_;rintro q H⟨s,t,rfl,f,k⟩;have g:=cS f;have y:=aa g 0 A;have z:=aa g 2 A;have D:=aa g 3 A;have u:=bW (bI f T r) o.out;have p:=Xl (k A);have n:=Xl f;clear f g k)
  |(go_at_call 96;refine p.out.mono ?_;rintro q L⟨rfl,rfl⟩))
 go_quiet (fail)
 go_wp2
 go_ret3;exact⟨A,vk n.out _⟩
theorem Pm(v:¬16<(c.size:Xj))(l:eR a O (gM 5 b c aE d) b J e (pt T 0)){m:Xj}(r:T<a.heap.size)(i:a.cell? ⟨T,4,F⟩=C (Xd K m))(w:(aE !=-1)=J)(x:(aE !=m)=J):Calls TP 113 #[pt O 0,.agg (gM 5 b c aE d),Xd K ak,Xd K aL] a (uD 9 a):=by
 have h:=Xl l;unfold eR at h;clear l;have o:=Xl i;clear i;go_enter Tryz.func113,Tryz.ntmps113
 go_wp2_with (first
  |(go_at_call 95;refine h.out.mono ?_;rintro q H⟨s,t,rfl,f,k⟩;have g:=cS f;have y:=aa g 0 A;have z:=aa g 2 A;have D:=aa g 3 A;have u:=bW (bI f T r) o.out;have p:=Xl (k A);have n:=Xl f;clear f g k)
  |(go_at_call 96;refine p.out.mono ?_;rintro q L⟨rfl,rfl⟩))
 go_quiet (fail)
 go_wp2
 go_ret3;exact⟨A,vk n.out _⟩
theorem Pn(w:(f==3)=Xf)(x:(f==4)=Xf)(y:(f==5)=Xf)(m:eR a O (gM f b c aE d) b J e (pt T 0)){n:Xj}(s:T<a.heap.size)(k:a.cell? ⟨T,4,F⟩=C (Xd K n))(z:(aE !=-1)=J)(D:(aE !=n)=J):Calls TP 113 #[pt O 0,.agg (gM f b c aE d),Xd K ak,Xd K aL] a (uD 9 a):=by
 have i:=Xl m;unfold eR at i;clear m;have p:=Xl k;clear k;go_enter Tryz.func113,Tryz.ntmps113
 go_wp2_with (first
  |(go_at_call 95;refine i.out.mono ?_;rintro r Q⟨t,u,rfl,g,l⟩;have h:=cS g;have H:=aa h 0 A;have L:=aa h 2 A;have N:=aa h 3 A;have v:=bW (bI g T s) p.out;have q:=Xl (l A);have o:=Xl g;clear g h l)
  |(go_at_call 96;refine q.out.mono ?_;rintro r R⟨rfl,rfl⟩))
 go_quiet (fail)
 go_wp2
 go_ret3;exact⟨A,vk o.out _⟩
end
structure Er(a:M)(T s:E)(d c:Xj):Prop where
 lt:T<a.heap.size
 aE:a.cell? ⟨T,4,F⟩=C (Xd K d)
 mp:a.cell? ⟨T,11,F⟩=C (.map (C s))
 len:∀l:M,(∀k,k<a.heap.size->l.heap[k]?=a.heap[k]?)->(Builtin.len_ #[188] 3 #[.map (C s)]).run TP l=.ok (Xd K c) l
theorem Er.lens{e:M}{k:Obj}{d c:Xj}(g:Er a T s d c)(i:Below (a.heap.size+1) (a.alloc k) e):∀b,(Builtin.len_ #[188] 3 #[.map (C s)]).run TP (e.drewN b)=.ok (Xd K c) (e.drewN b):=λb=>g.len (e.drewN b) λf h=>bI i f h
def Le(b:XB)(a:M)(c:Ending)(d:M):Prop:=c=Xs (.tuple #[.string b,Xm F 0 0,.nilIface])/\Below a.heap.size a d
section
variable{e aE g ak aL d c:Xj}{b f:XB}{h:E}{i:Xe}
theorem GW(x:((h:Xj)==0)=Xf)(p:eR a O (gM 4 b f aE g) b J h (pt T 0))(n:Er a T s d c)(l:(aE !=-1)=Xf\/(aE !=-1)=J/\(aE !=d)=Xf)(D:0<c):Calls TP 113 #[pt O 0,.agg (gM 4 b f aE g),Xd K ak,Xd K aL] a (uD 10 a):=by
 rcases l with l|⟨l,z⟩
 all_goals
  have m:=Xl p;have i:=Xl n;unfold eR at m;clear p n;go_enter Tryz.func113,Tryz.ntmps113
  go_wp2_with (first
   |(go_at_call 95;refine m.out.mono ?_;rintro t R⟨u,v,rfl,e,o⟩;have k:=cS e;have H:=aa k 0 A;have L:=aa k 1 A;have N:=aa k 2 A;have Q:=aa k 3 A;have c4:=bW (bI e T i.out.lt) i.out.aE;have w:=bW (bI e T i.out.lt) i.out.mp;have y:=i.out.lens e;have r:=Xl (o A);have q:=Xl e;clear e k o)
   |(go_at_call 96;refine r.out.mono ?_;rintro t S⟨rfl,rfl⟩))
  go_quiet (fail)
  go_wp2
  go_ret3;exact⟨A,vk q.out _⟩
theorem GX(y:(e==3)=Xf)(z:(e==4)=Xf)(D:(e==5)=Xf)(q:eR a O (gM e b f aE g) b J h (pt T 0))(o:Er a T s d c)(m:(aE !=-1)=Xf\/(aE !=-1)=J/\(aE !=d)=Xf):Calls TP 113 #[pt O 0,.agg (gM e b f aE g),Xd K ak,Xd K aL] a (Le b a):=by
 rcases m with m|⟨m,L⟩
 all_goals
  have n:=Xl q;have k:=Xl o;unfold eR at n;clear q o;go_enter Tryz.func113,Tryz.ntmps113
  go_wp2_with (first
   |(go_at_call 95;refine n.out.mono ?_;rintro u U⟨v,w,rfl,i,p⟩;have l:=cS i;have N:=aa l 0 A;have Q:=aa l 1 A;have R:=aa l 2 A;have S:=aa l 3 A;have c4:=bW (bI i T k.out.lt) k.out.aE;have x:=bW (bI i T k.out.lt) k.out.mp;have H:=k.out.lens i;have t:=Xl (p A);have r:=Xl i;clear i l p)
   |(go_at_call 96;refine t.out.mono ?_;rintro u W⟨rfl,rfl⟩))
  go_quiet (fail)
  go_wp2
  go_ret3;exact⟨A,vk r.out _⟩
end
def QQ(b:XB)(c:M->E->M->Prop)(a:M)(g:Ending)(h:M):Prop:=∃f e,a.heap.size<=e.heap.size/\(∀d,d<a.heap.size->e.heap[d]?=a.heap[d]?)/\g=Xs (.tuple #[.string b,Xm (C ⟨f,0,F⟩) 2 2,.nilIface])/\c e f h
section
variable{i aE f ak aL h g:Xj}{b e:XB}{d:E}{c:M->E->M->Prop}
theorem LX(Z:((d:Xj)==0)=Xf)(L:eR a O (gM 4 b e aE f) b J d (pt T 0))(x:Er a T s h g)(u:(aE !=-1)=Xf\/(aE !=-1)=J/\(aE !=h)=Xf)(a5:¬0<g)
 (y:∀k:M,(∀i,i<a.heap.size->k.heap[i]?=a.heap[i]?)->a.heap.size<k.heap.size->Calls TP 153 #[pt O 0,pt T 0] k λp q=>∃l,p=Xs (Xm (C ⟨l,0,F⟩) 2 2)/\k.heap.size<=l/\l<q.heap.size/\k.heap.size<=q.heap.size/\q.heap[a.heap.size]?=k.heap[a.heap.size]?/\c k l q):
 Calls TP 113 #[pt O 0,.agg (gM 4 b e aE f),Xd K ak,Xd K aL] a (QQ b c a):=by
 rcases u with u|⟨u,a4⟩
 all_goals
  have v:=Xl L;have o:=Xl x;have R:=Xl y;unfold eR at v;clear L x y;go_enter Tryz.func113,Tryz.ntmps113
  go_wp2_with (first
   |(go_at_call 95;refine v.out.mono ?_;rintro p Q⟨i,X,rfl,m,H⟩;have n:=cS m;have a6:=aa n 0 A;have a7:=aa n 1 A;have a9:=aa n 2 A;have b0:=aa n 3 A;have c4:=bW (bI m T o.out.lt) o.out.aE;have Y:=bW (bI m T o.out.lt) o.out.mp;have a3:=o.out.lens m;have U:=Xl (H A);have r:=Xl m;have w:=Xl n;clear m n H)
   |(go_at_call 96;refine U.out.mono ?_;rintro p k⟨rfl,rfl⟩))
  go_quiet (fail)
  have W:=Xl (R.out (Q.drewN nq) (λi t=>bI r.out i t) (XN.1 w.out).1)
  go_wp2_with (go_at_call 153;refine W.out.mono ?_;rintro p b1⟨l,rfl,a0,a1,a2,z,D⟩;have N:=z.trans w.out;have a8:=aa N 1 A;clear N;have S:=Xl D;clear z D)
  go_ret3;exact⟨l,Q.drewN nq,(bd r.out).size,λi t=>bI r.out i t,A,S.out⟩
end
variable{c:M}{k:E}{n:Xe}{d:E}
structure Lv(a:M)(T b:E)(f e i:XB)(r g t:Xj):Prop where
 ne:T≠b
 p0:a.cell? ⟨b,0,F⟩=C (Xd K 5)
 p1:a.cell? ⟨b,1,F⟩=C (.string f)
 p2:a.cell? ⟨b,2,F⟩=C (.string e)
 n1:a.cell? ⟨T,1,F⟩=C (.string i)
 n3:a.cell? ⟨T,3,F⟩=C (Xd K r)
 n4:a.cell? ⟨T,4,F⟩=C (Xd K g)
 n7:a.cell? ⟨T,7,F⟩=C (Xd K t)
 f1:a.frozen? ⟨T,1,F⟩=Xf
 f3:a.frozen? ⟨T,3,F⟩=Xf
 f4:a.frozen? ⟨T,4,F⟩=Xf
 f7:a.frozen? ⟨T,7,F⟩=Xf
abbrev setW(a:M)(T:E)(e:XB)(aL aE:Xj):M:=(((a.setCell ⟨T,1,F⟩ (.string e)).setCell ⟨T,3,F⟩ (Xd K aL)).setCell ⟨T,4,F⟩ (Xd K (aE+1))).setCell ⟨T,7,F⟩ (Xd K e.size)
theorem uk{a:E}(b:c.cell? ⟨k,a,F⟩=C n):k<c.heap.size:=by grind [World.cell?]
theorem QY{a:E}(b:k≠d):(c.setCell ⟨k,a,F⟩ n).cell? ⟨d,m,F⟩=c.cell? ⟨d,m,F⟩:=by simp_all [M.cell?,ai,YX]
def QR(f e:XB)(aL g:Xj)(T:E)(h:M->M->Prop)(c:M)(i:Ending)(k:M):Prop:=∃a b,c.heap.size<=a.heap.size/\(∀d,d<c.heap.size->a.heap[d]?=c.heap[d]?)/\h a b/\i=Xs (.tuple #[.string f,Xm (C ⟨b.heap.size,0,F⟩) 1 1,.nilIface])/\k=(setW b T e aL g).alloc (.cells #[Xd K 3,.string f] 269)
section
variable{q aE l ak aL g p:Xj}{f e:XB}{o:E}{h:M->M->Prop}
theorem Mb(c9:¬16<(e.size:Xj))(Q:eR c O (gM 5 f e aE l) f J o (pt T 0))(z:Er c T s g p)(u:(aE !=-1)=Xf\/(aE !=-1)=J/\(aE !=g)=Xf)(d0:0<=g/\g<2^62)
 (D:∀a:M,(∀d,d<c.heap.size->a.heap[d]?=c.heap[d]?)->c.heap.size<=a.heap.size->Calls TP 157 #[pt O 0,pt T 0] a λq R=>q=Xs (.tuple #[])/\(c.heap.size<a.heap.size->a.heap[c.heap.size]?=C (Xn (gM 5 f e aE l) 28 (0,0))->∃U W X,Lv R T c.heap.size f e U W g X)/\h a R):
 Calls TP 113 #[pt O 0,.agg (gM 5 f e aE l),Xd K ak,Xd K aL] c (QR f e aL g T h c):=by
 rcases u with u|⟨u,d2⟩
 all_goals
  have v:=Xl Q;have b:=Xl z;have Y:=Xl D;unfold eR at v;clear Q z D;go_enter Tryz.func113,Tryz.ntmps113
  go_wp2_with (first
   |(go_at_call 95;refine v.out.mono ?_;rintro q S⟨d,c7,rfl,i,L⟩;have k:=cS i;have b8:=aa k 0 A;have b9:=aa k 1 A;have c0:=aa k 2 A;have c6:=aa k 3 A;have c4:=bW (bI i T b.out.lt) b.out.aE;have a1:=bW (bI i T b.out.lt) b.out.mp;have b4:=b.out.lens i;have a0:=Xl (L A);have n:=Xl i;have w:=Xl k;clear i k L)
   |(go_at_call 96;refine a0.out.mono ?_;rintro q a⟨rfl,rfl⟩))
  go_quiet (fail)
  have b3:=Xl (Y.out (S.drewN nq) (λd t=>bI n.out d t) (bd n.out).size);have d3:T≠c.heap.size:=by have:=b.out.lt;omega
  have b6:=(XN.1 w.out).1
  go_upto_region 24 with(go_at_call 157;refine b3.out.mono ?_;rintro q m⟨rfl,N,H⟩;obtain⟨U,W,X,b2⟩:=N b6 w.out;obtain⟨c8,a2,y,a5,a6,a7,a8,a9,b0,b1,a3,a4⟩:=b2;have Z:=Xl H;clear N H c4 a1 b4 b8 b9 c0 c6)
  go_upto_region 25 with fail
  go_upto_region 26 with fail
  go_upto_region 27 with fail
  go_upto_region 28 with fail
  have b5:=uk y
  have b7:((setW m T e aL g).alloc (.cells #[Xd K 3,.string f] 269)).cell? ⟨c.heap.size,1,F⟩=C (.string f):=by simp_all [Yx,QY]
  have d1:(setW m T e aL g).heap.size=m.heap.size:=by simp
  clear a2 a5 a6 a7 a8 a9 b0 b1 a3 a4
  go_upto_region 29 with fail
  obtain⟨x,r⟩:∃x,((setW m T e aL g).alloc (.cells #[Xd K 3,.string f] 269))=x:=⟨_,A⟩;rw[r]at b7;clear y b5;unfold setW at r
  go_wp2
  go_ret3;exact⟨S.drewN nq,m,(bd n.out).size,λd t=>bI n.out d t,Z.out,A,r.symm⟩
end
end Go.Sv
