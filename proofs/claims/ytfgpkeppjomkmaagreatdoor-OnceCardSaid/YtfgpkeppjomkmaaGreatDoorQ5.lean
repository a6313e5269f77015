/- Proved here: parts of the proof of the claimed theorem, no conditions; the last text states it -/
import Derived.Test.YtfgpkeppjomkmaaGreatDoorQ4
set_option linter.all false
set_option maxRecDepth 100000
set_option maxHeartbeats 16000000
open _root_ renaming rfl->A,Nat->E,List->Xg,Int->Xj,Array->Xk,Bool->Xo,Option->Xp,if_neg->Xx,ByteArray->XB,if_pos->XC
open Option renaming some->C,none->F
open Go renaming undef->I,World->M,Value->Xe,TypeId->Xq,Frame->Xr,Goroutine->Xt,Act->Xu,Addr->Xw,Program->Xy,Sem->Xz,Trace->XD,Event->XF,Code->XG,MapEntry->XH,FuncId->XI,Operand->XJ
open Bool renaming true->J,false->Xf
open Go.Lib renaming hid->Xl
open Go.MemOp renaming ofEvents->XE
open Go.Op renaming operands->XK
open Go.MemAct renaming ofEvent->XM
open Go.IntKind renaming i64->K
open Go.Value renaming int->Xd,slice->Xm,pointer->XA
open Or renaming inl->Xh,inr->Xi
open Go.Obj renaming cells->Xn
open Go.Ending renaming returned->Xs
open Go.Item renaming inRegion->Xv
namespace Go.Sim
open Go.Conc Go.Proofs Go.RowKit
open Go.ConcN (PermW PermW.app PermW.of fork_knows WgLive RelBy sumTo)
open Go.ConcR (KK wgBlock WgAt stA smA rd wr mk DC0)
variable{T:Oper}{q:M}{e:E->Prop}{d:M}{D:Xk Oper}{s:E}{p:Xg Xr}{rest:Xg E}{m:Ren}{f:Xu}{S:Xp Xw}
section
variable[Inhabited aM]
theorem hZ{w:XJ->Xe}{o:XJ}{a:E}{V:Xe}{X:Xq}{U:E×E}(l:T.op=.load 99 o)(a2:w o=XA (C ⟨a,0,F⟩))(W:q.heap[a]?=C (Xn #[V] X U)):
 (execOp w T).run TP q=.ok (.value V) q:=by
 have a1:q.cell? ⟨a,0,F⟩=C V:=by simp[M.cell?,W]
 obtain⟨Z,a3,a5,a4,Y,a0⟩:=T;simp only at l;subst l;go_simp
theorem lx:TP.follows .mixedOrders=J:=by rfl
structure RV where
 ak:Xj
 kind:Xj
 path:XB
 data:XB
 aE:Xj
 flags:Xj
 watch:Xo
 oa:Xp Xw
 on:E
 oc:E
def RV.jf(g:RV):Xk Xe:=#[Xd K g.ak,Xd K g.kind,.string g.path,.string g.data,Xd K g.aE,Xd K g.flags,.bool g.watch,.slice g.oa g.on g.oc]
structure RG(b:PD)(e:E->Prop)(k:M)(h n:E)(S:Xp Xw)(R:E)(rq:E->RV):Prop where
 x5:e h
 x3:e n
 h5:∃l a,k.heap[h]?=C (Xn #[I] l a)
 h3:∃l a,k.heap[n]?=C (Xn #[.slice S b.n R] l a)
 elem:∀c,c<b.n->∃o W U l a,S=C ⟨o,W,F⟩/\e o/\k.heap[o]?=C (Xn U l a)/\∀j,j<8->U[W+c*8+j]?=(rq c).jf[j]?
 NS:∀c,c<b.n->∀d:M,(∀w,e w->d.heap[w]?=k.heap[w]?)->k.heap.size<=d.heap.size->Calls TP 38 #[Xd K c,.agg (rq c).jf] d λX Y=>X=Xs (b.τ c)/\Below d.heap.size d Y
 only:∀c,c<b.n->fj b.sh (b.τ c)
 small:b.n<2^40
structure jY(e:E->Prop)(k:M)(i:E)(g:RV)(d:M):Prop where
 keep:∀o,e o->d.heap[o]?=k.heap[o]?
 size:k.heap.size<=d.heap.size
 box:d.heap[i]?=C (Xn g.jf 31 (0,0))
 out:¬e i
theorem jY.same{k c:M}{i:E}{g:RV}(a:jY e k i g d)(b:c.heap=d.heap):jY e k i g c:=⟨by rw[b];exact a.keep,by rw[b];exact a.size,by rw[b];exact a.box,a.out⟩
section
variable{b:PD}{k:M}{h i c:E}{g:RV}{r:Xg Item}{Q:Xg Deferred}{t y z H L N O u v x:Xe}
theorem fV(b0:bN D 0 (C 12) (.load 99 (.tmp 0))){o:E×E}{w:Xq}(a5:k.heap[h]?=C (Xn #[I] w o))(b2:e h){b1 Y Z a0:Xe}(a1:Inv TP aJ e m d)(U:jY e k i g d)
 (W:ar aJ m ⟨Q,[(0,XA (C ⟨b.bx,0,F⟩))]⟩ ⟨#[XA (C ⟨h,0,F⟩),t,Xd K c,XA (C ⟨i,0,F⟩),y,z,H,L,N,O,u,v,b1,Y,Z,a0,x],[]⟩ f)
 (next:∀l a n,Inv TP aJ e l a->jY e k i g a->ar aJ l ⟨Q,[(12,.chan (C b.rc)),(0,XA (C ⟨b.bx,0,F⟩))]⟩ ⟨#[XA (C ⟨h,0,F⟩),t,Xd K c,XA (C ⟨i,0,F⟩),y,z,H,L,N,O,u,v,I,Y,Z,a0,x],[]⟩ n->(fO TP b aJ e s).G l a (rg ((baseD 37).at n (Xv D rest::r)) p)):
 (fO TP b aJ e s).G m d (rg ((baseD 37).at f (Xv D (0::rest)::r)) p):=by
 obtain⟨⟨b3,b7,X,b8,b4,b5⟩,a4,R,S,T⟩:=b0;simp only at R S T;subst R S T
 have a3:f.eval (.tmp 0)=XA (C ⟨b.bx,0,F⟩):=by have:=W.kn (0,XA (C ⟨b.bx,0,F⟩)) (by simp);simp_all [Act.eval]
 have a8:d.heap[h]?=C (Xn #[I] w o):=by rw[U.keep h b2];exact a5
 refine NP eI (by decide) (by decide) a4 A (show jd TP aJ.fn aJ.bi aJ.bZ (.load 99 (.tmp 0))=J by rfl) A a1 W (j:=12) A (z:=I) (λX=>by rw[hZ (q:={d with tape:=X}) A rfl a8];exact⟨A,A⟩)
  (λq w o a6=>hZ A a3 a6) (by simp) λl n a a2 b6 a7 a9=>next l a n a2 (U.same a7) a9
theorem fW(a9:bN D 1 (C 13) (.move (.tmp 2))){w:Xg (E×Xe)}{a0:Xg E}(a6:w.map (·.1)=a0)(a4:(a0.all λc=>C 13 !=C c)=J){U b0 W X:Xe}(a1:Inv TP aJ e m d)(a5:jY e k i g d)
 (a7:ar aJ m ⟨Q,w⟩ ⟨#[XA (C ⟨h,0,F⟩),t,Xd K c,XA (C ⟨i,0,F⟩),y,z,H,L,N,O,u,v,U,b0,W,X,x],[]⟩ f)
 (next:∀l a o,Inv TP aJ e l a->jY e k i g a->ar aJ l ⟨Q,w⟩ ⟨#[XA (C ⟨h,0,F⟩),t,Xd K c,XA (C ⟨i,0,F⟩),y,z,H,L,N,O,u,v,U,Xd K c,W,X,x],[]⟩ o->(fO TP b aJ e s).G l a (rg ((baseD 37).at o (Xv D rest::r)) p)):
 (fO TP b aJ e s).G m d (rg ((baseD 37).at f (Xv D (1::rest)::r)) p):=by
 refine vH eI (by decide) (by decide) a9 a6 (by decide) a4 a1 a7 (λY a=>Y=⟨#[XA (C ⟨h,0,F⟩),t,Xd K c,XA (C ⟨i,0,F⟩),y,z,H,L,N,O,u,v,U,Xd K c,W,X,x],[]⟩/\a.heap=d.heap) (λb5 b1 _ _ _ b4 b3 Z=>?_) (λY a a3 b6 _=>by rw[a3.2]) ?_
 .go_wp2
 rintro l _ o a a2 b2 a8⟨rfl,Z⟩;exact next l a o a2 (a5.same Z) a8
theorem iH(b2:bN D 2 (C 14) (.load 31 (.tmp 3))){W:Xg (E×Xe)}{a5:Xg E}(b0:W.map (·.1)=a5)(a9:(a5.all λc=>C 14 !=C c)=J){X Y c8 Z:Xe}(a1:Inv TP aJ e m d)(U:jY e k i g d)
 (a4:ar aJ m ⟨Q,W⟩ ⟨#[XA (C ⟨h,0,F⟩),t,Xd K c,XA (C ⟨i,0,F⟩),y,z,H,L,N,O,u,v,X,Y,c8,Z,x],[]⟩ f)
 (next:∀l a o,Inv TP aJ e l a->jY e k i g a->ar aJ l ⟨Q,W⟩ ⟨#[XA (C ⟨h,0,F⟩),t,Xd K c,XA (C ⟨i,0,F⟩),y,z,H,L,N,O,u,v,X,Y,.agg g.jf,Z,x],[]⟩ o->(fO TP b aJ e s).G l a (rg ((baseD 37).at o (Xv D rest::r)) p)):
 (fO TP b aJ e s).G m d (rg ((baseD 37).at f (Xv D (2::rest)::r)) p):=by
 refine vH eI (by decide) (by decide) b2 b0 (by decide) a9 a1 a4 (λa2 a=>a2=⟨#[XA (C ⟨h,0,F⟩),t,Xd K c,XA (C ⟨i,0,F⟩),y,z,H,L,N,O,u,v,X,Y,.agg g.jf,Z,x],[]⟩/\a.heap=d.heap) (λc9 a7 _ _ _ d6 d5 a3=>?_) (λa2 a a8 d7 _=>by rw[a8.2]) ?_
 .have w:=U.box;obtain⟨b6,b7,b8,b9,c0,c6,c7,b3,b5,b4⟩:=g;unfold RV.jf at w⊢
  rw[<-a7]at w
  have cell:∀j a0,#[Xd K b6,Xd K b7,.string b8,.string b9,Xd K c0,Xd K c6,.bool c7,.slice b3 b5 b4][j]?=C a0->c9.cell? ⟨i,j,F⟩=C a0:=λj a0 d4=>by simp_all [M.cell?]
  have d0:=cell 0 _ A;have c1:=cell 1 _ A;have c2:=cell 2 _ A;have c3:=cell 3 _ A;have c4:=cell 4 _ A;have c5:=cell 5 _ A;have d1:=cell 6 _ A;have d2:=cell 7 _ A;clear cell w U a4 next a1
  go_wp2
  rfl
 rintro l _ o a a6 d3 b1⟨rfl,a3⟩;exact next l a o a6 (U.same a3) b1
theorem fU(b5:bN D 3 (C 15) (.call {callee:=.value (.func 38),args:=#[.tmp 13,.tmp 14],argTypes:=#[3,31]}))(a7:∀d:M,(∀a,e a->d.heap[a]?=k.heap[a]?)->k.heap.size<=d.heap.size->Calls TP 38 #[Xd K c,.agg g.jf] d λo l=>o=Xs (b.τ c)/\Below d.heap.size d l)
 {a2:Xg (E×Xe)}{a9:Xg E}(b3:a2.map (·.1)=a9)(b2:(a9.all λc=>C 15 !=C c)=J){a3 b6:Xe}(a0:Inv TP aJ e m d)(w:jY e k i g d)
 (a8:ar aJ m ⟨Q,a2⟩ ⟨#[XA (C ⟨h,0,F⟩),t,Xd K c,XA (C ⟨i,0,F⟩),y,z,H,L,N,O,u,v,a3,Xd K c,.agg g.jf,b6,x],[]⟩ f)
 (next:∀X U Y,Inv TP aJ e X U->jY e k i g U->ar aJ X ⟨Q,a2⟩ ⟨#[XA (C ⟨h,0,F⟩),t,Xd K c,XA (C ⟨i,0,F⟩),y,z,H,L,N,O,u,v,a3,Xd K c,.agg g.jf,b.τ c,x],[]⟩ Y->(fO TP b aJ e s).G X U (rg ((baseD 37).at Y (Xv D rest::r)) p)):
 (fO TP b aJ e s).G m d (rg ((baseD 37).at f (Xv D (3::rest)::r)) p):=by
 have Z:∀a,e a->a<d.heap.size:=λa Z=>by obtain⟨T,c6,_⟩:=a0.cO a Z;grind
 refine vH eI (by decide) (by decide) b5 b3 (by decide) b2 a0 a8 (λa4 U=>a4=⟨#[XA (C ⟨h,0,F⟩),t,Xd K c,XA (C ⟨i,0,F⟩),y,z,H,L,N,O,u,v,a3,Xd K c,.agg g.jf,b.τ c,x],[]⟩/\∃l,l.heap=d.heap/\Below l.heap.size l U) (λl a1 _ _ _ c9 c7 o=>?_) ?_ ?_
 .have a6:=a7 l (λa Z=>by rw[a1];exact w.keep a Z) (by rw[a1];exact w.size);generalize g.jf=c8 at a6⊢
  clear a7 w a8 next a0
  go_wp2_with (go_at_call 38;refine a6.mono ?_;rintro a1 d0⟨rfl,W⟩)
  grind
 .rintro a4 U⟨_,l,o,W⟩ a a5;rw[<-o];exact W.block a (by simp_all)
 rintro X _ Y U b0 c0 b4⟨rfl,l,o,W⟩;have b1:i<l.heap.size:=by rw[o];exact(XN.1 w.box).1
 refine next X U Y b0 ⟨λa a5=>?_,?_,?_,w.out⟩ b4
 .rw[W.block a (by simp_all),o,w.keep a a5]
 .have:=W.size;have:=w.size;grind
 rw[W.block i b1,o];exact w.box
theorem fX(w:bN D 4 F (.send (.tmp 12) (.tmp 15)))(Y:c+(s+1)=b.n)(Z:fj b.sh (b.τ c)){R:Xe}(S:Inv TP aJ e m d)
 (n:ar aJ m ⟨Q,[(12,.chan (C b.rc)),(0,XA (C ⟨b.bx,0,F⟩))]⟩ ⟨#[XA (C ⟨h,0,F⟩),t,Xd K c,XA (C ⟨i,0,F⟩),y,z,H,L,N,O,u,v,I,Xd K c,R,b.τ c,x],[]⟩ f)
 (next:(fO TP b aJ e s).G m d (rg ((baseD 37).at f (Xv D []::r)) p)):
 (fO TP b aJ e (s+1)).G m d (rg ((baseD 37).at f (Xv D (4::[])::r)) p):=by
 obtain⟨⟨T,a0,a2,a1,U,W⟩,a,g,k,l⟩:=w;simp only at g k l;subst g k l
 have o:f.eval (.tmp 12)=.chan (C b.rc):=by have:=n.kn (12,.chan (C b.rc)) (by simp);simp_all [Act.eval]
 have X:an aJ m (b.τ c) (f.eval (.tmp 15)):=n.tmps.getD 15 aY;refine .stop ⟨A,f.eval (.tmp 15),.tuple #[],λq _=>?_,?_,?_,?_⟩
 .exact Gu a A (by decide) A o
 .grind
 .grind
 have:Go.Conc.served (rg ((baseD 37).at f (Xv D (4::[])::r)) p) I=rg ((baseD 37).at f (Xv D []::r)) p:=by simp only[Go.Conc.served,rg,YK,a];rfl
 rw[this];exact next
theorem Oh(U:bN D 0 (C 12) (.load 99 (.tmp 0)))(w:bN D 1 (C 13) (.move (.tmp 2)))(R:bN D 2 (C 14) (.load 31 (.tmp 3)))(S:bN D 3 (C 15) (.call {callee:=.value (.func 38),args:=#[.tmp 13,.tmp 14],argTypes:=#[3,31]}))(b3:bN D 4 F (.send (.tmp 12) (.tmp 15)))
 {a2:E×E}{a3:Xq}(T:k.heap[h]?=C (Xn #[I] a3 a2))(W:e h)(q:∀d:M,(∀Y,e Y->d.heap[Y]?=k.heap[Y]?)->k.heap.size<=d.heap.size->Calls TP 38 #[Xd K c,.agg g.jf] d λa1 a7=>a1=Xs (b.τ c)/\Below d.heap.size d a7)
 (b1:c+(s+1)=b.n)(b2:fj b.sh (b.τ c)){a0:Xg E}(Z:a0∈[[0,1,2,3,4],[0,2,1,3,4],[1,0,2,3,4],[1,2,0,3,4],[1,2,3,0,4],[2,0,1,3,4],[2,1,0,3,4],[2,1,3,0,4]])
 {a4 a5 X a6:Xe}(a:Inv TP aJ e m d)(l:jY e k i g d)
 (n:ar aJ m ⟨Q,[(0,XA (C ⟨b.bx,0,F⟩))]⟩ ⟨#[XA (C ⟨h,0,F⟩),t,Xd K c,XA (C ⟨i,0,F⟩),y,z,H,L,N,O,u,v,a4,a5,X,a6,x],[]⟩ f)
 (next:∀m d f X,Inv TP aJ e m d->jY e k i g d->ar aJ m ⟨Q,[(12,.chan (C b.rc)),(0,XA (C ⟨b.bx,0,F⟩))]⟩ ⟨#[XA (C ⟨h,0,F⟩),t,Xd K c,XA (C ⟨i,0,F⟩),y,z,H,L,N,O,u,v,I,Xd K c,X,b.τ c,x],[]⟩ f->(fO TP b aJ e s).G m d (rg ((baseD 37).at f (Xv D []::r)) p)):
 (fO TP b aJ e (s+1)).G m d (rg ((baseD 37).at f (Xv D a0::r)) p):=by
 simp only[XV,Yd,YS]at Z;rcases Z with rfl|rfl|rfl|rfl|rfl|rfl|rfl|rfl
 .refine fV U T W a l n ?_;intro m d f a l n;refine fW w (a0:=[12,0]) A rfl a l n ?_;intro m d f a l n;refine iH R (a5:=[12,0]) A rfl a l n ?_;intro m d f a l n;refine fU S q (a9:=[12,0]) A rfl a l n ?_;grind [fX]
 .refine fV U T W a l n ?_;intro m d f a l n;refine iH R (a5:=[12,0]) A rfl a l n ?_;intro m d f a l n;refine fW w (a0:=[12,0]) A rfl a l n ?_;intro m d f a l n;refine fU S q (a9:=[12,0]) A rfl a l n ?_;grind [fX]
 .refine fW w (a0:=[0]) A rfl a l n ?_;intro m d f a l n;refine fV U T W a l n ?_;intro m d f a l n;refine iH R (a5:=[12,0]) A rfl a l n ?_;intro m d f a l n;refine fU S q (a9:=[12,0]) A rfl a l n ?_;grind [fX]
 .refine fW w (a0:=[0]) A rfl a l n ?_;intro m d f a l n;refine iH R (a5:=[0]) A rfl a l n ?_;intro m d f a l n;refine fV U T W a l n ?_;intro m d f a l n;refine fU S q (a9:=[12,0]) A rfl a l n ?_;grind [fX]
 .refine fW w (a0:=[0]) A rfl a l n ?_;intro m d f a l n;refine iH R (a5:=[0]) A rfl a l n ?_;intro m d f a l n;refine fU S q (a9:=[0]) A rfl a l n ?_;grind [fV,fX]
 .refine iH R (a5:=[0]) A rfl a l n ?_;intro m d f a l n;refine fV U T W a l n ?_;intro m d f a l n;refine fW w (a0:=[12,0]) A rfl a l n ?_;intro m d f a l n;refine fU S q (a9:=[12,0]) A rfl a l n ?_;grind [fX]
 .refine iH R (a5:=[0]) A rfl a l n ?_;intro m d f a l n;refine fW w (a0:=[0]) A rfl a l n ?_;intro m d f a l n;refine fV U T W a l n ?_;intro m d f a l n;refine fU S q (a9:=[12,0]) A rfl a l n ?_;grind [fX]
 refine iH R (a5:=[0]) A rfl a l n ?_;intro m d f a l n;refine fW w (a0:=[0]) A rfl a l n ?_;intro m d f a l n;refine fU S q (a9:=[0]) A rfl a l n ?_;grind [fV,fX]
end
section
variable{b:PD}{h n R:E}{rq:E->RV}
abbrev FY(b:PD)(Q:Xg Deferred):Rt:=⟨Q,[(0,XA (C ⟨b.bx,0,F⟩))]⟩
theorem Kk(l:RG b e d h n S R rq)(X:Inv TP aJ e m d)(f4:m h b.bx){d5:Xe}(f2:an aJ m (XA (C ⟨n,0,F⟩)) d5):
 jx TP aJ e (IQ b) (iW TP b aJ e b.n) m d (born TP {target:=.fn (.func 37) #[XA (C ⟨b.bx,0,F⟩),d5],args:=#[]}):=by
 show(fO TP b aJ e b.n).G m d _;refine Goal.pure _ A rfl (λq=>vf Tryz.func37 (by decide) A) ?_;rw[enter_atD _ Tryz.func37 A]
 simp only[Tryz.ntmps37,Yt,Yl,Zd,E.reduceAdd,E.reduceSub,Zh,
  Zi,Zt,Zn,Zj,Yp]
 have g4:=aY (h:=aJ) (m:=m)
 have b6:ar aJ m (FY b []) ⟨#[XA (C ⟨h,0,F⟩),XA (C ⟨n,0,F⟩),I,I,I,I,I,I,I,I,I,I,I,I,I,I,I],[]⟩
  ⟨#[XA (C ⟨b.bx,0,F⟩),d5,I,I,I,I,I,I,I,I,I,I,I,I,I,I,I],[]⟩:=by
  refine⟨?_,⟨[],A,.nil⟩,by simp⟩;refine aZ.arr (.cons (.ptr ⟨f4,A,A⟩) (.cons f2 ?_))
  repeat (first|exact .nil|refine .cons g4 ?_)
 generalize (⟨#[XA (C ⟨b.bx,0,F⟩),d5,I,I,I,I,I,I,I,I,I,I,I,I,I,I,I],[]⟩:Xu)=f at b6⊢
 refine bz (eA ?_)
 have f1:f.eval (.tmp 0)=XA (C ⟨b.bx,0,F⟩):=by have:=b6.kn (0,XA (C ⟨b.bx,0,F⟩)) (by simp);simp_all [Act.eval]
 obtain⟨m9,l2,b4⟩:=l.h5
 refine NP eI (by decide) (by decide) A rfl (by rfl) A X b6 (j:=4) A (z:=I) (λe2=>by rw[hZ (q:={d with tape:=e2}) A rfl b4];exact⟨A,A⟩)
  (λq j0 l0 h8=>hZ A f1 h8) (by simp) λj6 g8 Y e5 h5 d6 e1=>?_
 have f3:g8.eval (.tmp 4)=.chan (C b.rc):=by have:=e1.kn (4,.chan (C b.rc)) (by simp);simp_all [Act.eval]
 refine xD (by decide) A rfl rfl rfl f3 e1 A λc8 g9 d2=>bP (bz ?_);replace d2:ar aJ j6 (FY b [cC #[99] 0 b.rc c8]) ⟨#[XA (C ⟨h,0,F⟩),XA (C ⟨n,0,F⟩),I,I,I,I,I,I,I,I,I,I,I,I,I,I,I],[]⟩ g9:=d2.less A (by simp);obtain⟨m8,l1,d0⟩:=l.h3;refine bT eI (by decide) (by decide) (y:=[0]) A (by rfl) e5 d2 (λo Y=>o=⟨#[XA (C ⟨h,0,F⟩),XA (C ⟨n,0,F⟩),I,I,I,.slice S b.n R,Xd K b.n,Xd K 0,I,I,I,I,I,I,I,I,I],[]⟩/\Y.heap=d.heap) (λa2 w _ _ _=>?_) ?_ ?_
 .have l7:a2.cell? ⟨n,0,F⟩=C (.slice S b.n R):=by simp_all [M.cell?]
  rw[d6]at w;clear b6 l d0 d6
  go_wp2
  exact⟨A,w⟩
 .simp_all
 rintro j7 _ h0 j2 e6 h6 a0⟨rfl,f7⟩
 refine ie (Kj (λs m Y f=>∃(c:E)(c0 c6 a5 e3 c7 b8 b9 a7 a8 a1 a9 b0:Xe),c+s=b.n/\Inv TP aJ e m Y/\(∀a,e a->Y.heap[a]?=d.heap[a]?)/\d.heap.size<=Y.heap.size/\
  ar aJ m (FY b [cC #[99] 0 b.rc c8]) ⟨#[XA (C ⟨h,0,F⟩),XA (C ⟨n,0,F⟩),c0,c6,a5,.slice S b.n R,Xd K b.n,Xd K c,e3,c7,b8,b9,a7,a8,a1,a9,b0],[]⟩ f) ?_ ?_ b.n j7 j2 h0
  ⟨0,_,_,_,_,_,_,_,_,_,_,_,_,by omega,e6,λa U=>by rw[f7],by simp_all,a0⟩)
 .clear a0 e6 f7 d2 h6 e1 f3 d6 e5 h5 b6 f1 g4 f2 f4 X;rintro s d3 m Y f⟨c,c0,c6,a5,e3,c7,b8,b9,a7,a8,a1,a9,b0,b3,X,b2,d1,Z⟩;have g0:(c:Xj)<b.n:=by omega
  have d8:c<b.n:=by omega
  have e0:=l.small;refine bz (bT eI (by decide) (by decide) (y:=[0]) A (by rfl) X Z (λo W=>o=⟨#[XA (C ⟨h,0,F⟩),XA (C ⟨n,0,F⟩),c0,c6,a5,.slice S b.n R,Xd K b.n,Xd K c,.bool J,c7,b8,b9,a7,a8,a1,a9,b0],[]⟩/\W.heap=Y.heap) (λa2 w _ _ _=>?_) (λo W a6 a _=>by rw[a6.2]) ?_)
  .clear d3 b3 Z d0 b4 l X b2 d1 e0
   go_wp2
   exact⟨A,w⟩
  rintro j8 _ e8 b1 a3 e9 a0⟨rfl,d7⟩;refine bz (iO (k:=J) (iP a3.base a0 (by decide) A) (sq (bz (ie (bz ?_)))));obtain⟨a4,b7,g6,j1,h4,rfl,l5,h7,c9⟩:=l.elem c d8;obtain⟨⟨i3,i4,i5,i6,i7,i8,i9,i0,i2,i1⟩,g2⟩:∃g,rq c=g:=⟨_,A⟩;refine bT eI (by decide) (by decide) (y:=[0]) A (by rfl) a3 a0 (λo W=>o=⟨#[XA (C ⟨h,0,F⟩),XA (C ⟨n,0,F⟩),Xd K c,XA (C ⟨b1.heap.size,0,F⟩),a5,Xm (C ⟨a4,b7,F⟩) b.n R,Xd K b.n,Xd K c,.bool J,Xd K c,XA (C ⟨a4,b7+c*8,F⟩),.agg (rq c).jf,a7,a8,a1,a9,b0],[]⟩/\W.heap=b1.heap.push (.cells (rq c).jf 31 (0,0))) (λa2 w _ _ _=>?_) ?_ ?_
  .rw[g2]at c9⊢
   unfold RV.jf at c9⊢
   have f5:a2.heap[a4]?=C (Xn g6 j1 h4):=by grind
   have l6:a4<a2.heap.size:=(XN.1 f5).1
   have cell:∀j e4,j<8->#[Xd K i3,Xd K i4,.string i5,.string i6,Xd K i7,Xd K i8,.bool i9,.slice i0 i2 i1][j]?=C e4->a2.cell? ⟨a4,b7+c*8+j,F⟩=C e4:=λj e4 l8 m2=>by grind [World.cell?]
   have h2:=cell 0 _ (by decide) A;have c1:=cell 1 _ (by decide) A;have c2:=cell 2 _ (by decide) A;have c3:=cell 3 _ (by decide) A;have c4:=cell 4 _ (by decide) A;have c5:=cell 5 _ (by decide) A;have k6:=cell 6 _ (by decide) A;have k7:=cell 7 _ (by decide) A;rw[E.add_zero]at h2;rw[<-w];clear d3 b3 Z d0 b4 l X b2 d1 e0 a0 g2 c9 e9 a3 cell w f5
   go_wp2
   exact⟨A,A⟩
  .rintro o W⟨_,h3⟩ a U;rw[h3];obtain⟨T,m1,_⟩:=a3.cO a U
   grind
  rintro n1 _ k4 j3 e7 f0 g3⟨rfl,f8⟩;have g1:∀a,e a->a<b1.heap.size:=λa U=>by obtain⟨T,a6,_⟩:=a3.cO a U;grind
  have b5:jY e d b1.heap.size (rq c) j3:=by
   refine⟨λa U=>?_,?_,?_,λU=>E.lt_irrefl _ (g1 _ U)⟩
   .rw[f0.keep a U,d7,b2 a U]
   .rw[f8,aa2,d7];omega
   grind
  refine Sq lx (i:=[[0,1,2,3,4],[0,2,1,3,4],[1,0,2,3,4],[1,2,0,3,4],[1,2,3,0,4],[2,0,1,3,4],[2,1,0,3,4],[2,1,3,0,4]]) (by decide+kernel) λm3 d9=>?_;refine Oh ⟨_,A,A,A,A⟩ ⟨_,A,A,A,A⟩ ⟨_,A,A,A,A⟩ ⟨_,A,A,A,A⟩ ⟨_,A,A,A,A⟩ b4 l.x5 (l.NS c d8) b3 (l.only c d8) d9 e7 b5 g3 λm j4 f a1 X b5 Z=>bP (BU ?_);have e0:=l.small;have l4:(0:Xj)<=c:=by omega
  have l9:(c:Xj)<2^40:=by omega
  refine bT eI (by decide) (by decide) (y:=[12,0]) A (by rfl) X Z (λo W=>o=⟨#[XA (C ⟨h,0,F⟩),XA (C ⟨n,0,F⟩),Xd K c,XA (C ⟨b1.heap.size,0,F⟩),a5,Xm (C ⟨a4,b7,F⟩) b.n R,Xd K b.n,Xd K ((c+1:E):Xj),.bool J,Xd K c,XA (C ⟨a4,b7+c*8,F⟩),.agg (rq c).jf,I,Xd K c,a1,b.τ c,Xd K ((c+1:E):Xj)],[]⟩/\W.heap=j4.heap) (λa2 w _ _ _=>?_) (λo W a6 a _=>by rw[a6.2]) ?_
  .generalize b.τ c=m6;generalize (rq c).jf=m4;clear l b5 Z g3 e7 f8 f0 c9 h7 g1 d3
   go_wp2
   exact⟨by rfl,w⟩
  rintro j9 _ h1 j5 g7 l3 h9⟨rfl,f9⟩;exact d3 j9 j5 h1 ⟨c+1,_,_,_,_,_,_,_,_,_,_,_,_,by omega,g7,λa U=>by rw[f9,b5.keep a U],by rw[f9];exact b5.size,h9.less A (by simp)⟩
 rintro m Y f⟨c,c0,c6,a5,e3,c7,b8,b9,a7,a8,a1,a9,b0,b3,X,b2,d1,Z⟩;have g0:¬((c:Xj)<b.n):=by omega
 refine bz (bT eI (by decide) (by decide) (y:=[0]) A (by rfl) X Z (λo W=>o=⟨#[XA (C ⟨h,0,F⟩),XA (C ⟨n,0,F⟩),c0,c6,a5,.slice S b.n R,Xd K b.n,Xd K c,.bool Xf,c7,b8,b9,a7,a8,a1,a9,b0],[]⟩/\W.heap=Y.heap) (λa2 w _ _ _=>?_) (λo W a6 a _=>by rw[a6.2]) ?_)
 .have m0:b.n<=c:=by omega
  clear b3 Z d0 b4 l b2 d1 g0
  go_wp2
  exact⟨by simp_all,w⟩
 rintro j8 _ e8 b1 a3 e9 a0⟨rfl,d7⟩;refine bz (iO (k:=Xf) (iP a3.base a0 (by decide) A) (sb A ?_));refine Goal.pure _ A rfl (λq=>by rw[bu A];simp[stepG.exec,Frame.at,rg];rfl) ?_;obtain⟨g5,k8⟩:=e8;obtain⟨k9,f6,d9⟩:=a0.defers;cases d9;simp only[Zj]at f6;subst f6;exact .stop (FZ (P:=TP) (a:=baseD 37) (e:=g5) (d:=[]) (g:=#[99]) (l:=0) (i:=c8) A Tryz.func37 A rfl rfl)
end
variable{P:Xy}{i:E}{h:Set}{f:E->Prop}{R:E}{j:E}{d:E}{v:Xe}{u:Xu}{z:E->Prop}{w:M}{y:Xu}{b:Xe}{k:Xg Item}{W:Xg Xr}{o:Oper}{Y:Xe}
theorem kV.tape{c:WD}{fin:bE->M->Prop}(l:∀cl(w:M) t,fin cl {w with tape:=t}->fin cl w):∀(s:E)(cl:bE)(m:Ren)(w:M)(t:E->Question->E)(g:Xt),kV P c fin i h f s cl m {w with tape:=t} g->kV P c fin i h f s cl m w g
 |0,cl,_,w,t,_,a=>⟨a.1,a.2.1,l cl w t a.2.2⟩
 |s+1,cl,m,w,t,g,a=>by obtain⟨Z,n,x,a6,X,a0,a1,a2,a3,a4,a5⟩:=a;exact⟨Z,n,x,a6,X,a0,a1,a2,a3,a4,(yw P h f (tW c) (kV P c fin i h f s (cl++[(n,x)])) (kV.tape l s _)).tape a5⟩
def iX(P:Xy)(a:WD)(fin:bE->M->Prop)(c:∀cl(w:M) e,fin cl {w with tape:=e}->fin cl w)(i:E)(h:Set)(f:E->Prop)(b:E×bE):Goal P h Xf f:=yw P h f (tW a) (kV P a fin i h f b.1 b.2) (kV.tape c b.1 b.2)
structure WV where
 cb:E
 tp:Xe
 bl:E
 off:E
 n:E
 nc:E
 c:E
 gb:E
 gv:E
 path:XB
abbrev pt(a o:E):Xe:=XA (C ⟨a,o,F⟩)
def wT(V:WV)(r:Xk Xe)(p:Xe):Xg (E×E×Xe):=
 [(0,18,I),(1,19,Xd K V.c),(2,20,I),(3,21,Xd K V.c),(4,22,pt V.cb 0),(5,23,pt V.cb 0),(6,24,pt V.cb 2),(7,25,V.tp),(8,26,Xm (C ⟨V.bl,V.off,F⟩) V.n V.nc),(9,27,Xd K V.c),
  (10,28,pt V.bl (V.off+V.c*9)),(11,29,pt V.bl (V.off+V.c*9)),(12,30,pt V.bl (V.off+V.c*9+1)),(13,31,pt V.bl (V.off+V.c*9+1+1)),(14,32,pt V.bl (V.off+V.c*9+1+1+1)),(15,33,.string V.path),
  (16,34,.tuple #[.agg r,p]),(17,17,.tuple #[.agg r,p]),(18,35,.agg r),(19,36,p),(20,37,I),(21,38,I),(23,39,I),(24,40,I)]
def wK(V:WV):Xg (E×E×Xe):=
 [(0,18,Xm (C ⟨V.gb,0,F⟩) V.n V.n),(2,20,Xm (C ⟨V.gb,0,F⟩) V.n V.n),(20,37,pt V.gb (V.c*10)),(21,38,pt V.gb (V.c*10)),(23,39,pt V.gb (V.c*10)),(24,40,pt V.gb (V.c*10+9))]
def IJ(V:WV)(e:Xk Xo):Xg (E×Xe):=((wK V).filter λa=>e.getD a.1 Xf).map (λa=>(a.2.1,a.2.2))++[(4,pt V.gv 0)]
def dq(i:E):Xg E:=
 [[],[],[],[],[],[4],[5],[6],[],[],[8,9],[10],[11],[12],[13],[14],[7,15],[16],[17],[17],[0,1],[20],[21,18],[2,3,22],[23],[24,19,22]].getD i []
theorem Hf{a:E->Xg E}(n:D.size=R)(g:((Xg.range R).all λi=>(a i).all λj=>((D[i]?).map λo=>o.after.any λc=>c.on==j&&Region.binds .any c).getD Xf)=J){e:Xk Xo}(l:i∈Region.ready .any D e):∀j∈a i,e.getD j Xf=J:=by grind [ls]
structure WR(z:E->Prop)(O:M)(V:WV)(N:Xg Deferred)(U T S L:E)(Q:M)(H:Xk Xe->Xe->M->Prop)(e:Xk Xo)(r:Xk Xe)(p:Xe)(m:Ren)(w:M)(u y:Xu):Prop where
 inv:Inv TP aW z m w
 keep:∀b,z b->w.heap[b]?=O.heap[b]?
 size:O.heap.size<=w.heap.size
 len:u.tmps.size=41
 defs:u.defers=[]
 t1:u.tmps[1]?=C (pt U 0)
 t2:u.tmps[2]?=C (pt T 0)
 t3:u.tmps[3]?=C (pt S 0)
 t4:u.tmps[4]?=C (pt L 0)
 t5:u.tmps[5]?=C (Xd K V.c)
 tab:∀c∈wT V r p,e.getD c.1 Xf=J->u.tmps[c.2.1]?=C c.2.2
 rel:ar aW m ⟨N,IJ V e⟩ u y
 sn:e.getD 16 Xf=J->H r p w
 ord:∀j,j=17\/j=18\/j=19->e.getD j Xf=J->e.getD 16 Xf=J
 Uj:∀a,a<Q.heap.size->w.heap[a]?=Q.heap[a]?
 TE:Q.heap.size<=w.heap.size
theorem iB{n m:Type}{l:n->m}:∀{f:Xg n}{b e:n},(f.map l).Nodup->b∈f->e∈f->l b=l e->b=e
 |p::f,b,e,g,a,c,h=>by
  rw[YG,Xg.nodup_cons]at g;rcases XV.1 a with a|a<;>rcases XV.1 c with c|c
  .rw[a,c]
  .exact absurd (YB.2 ⟨e,c,by rw[<-h,a]⟩) g.1
  .exact absurd (YB.2 ⟨b,a,by rw[h,c]⟩) g.1
  exact iB g.2 a c h
theorem qz{e:Xk Xo}(b:(e.setIfInBounds i J).getD j Xf=J):j=i\/e.getD j Xf=J:=by
 by_cases a:j=i
 .exact Xh a
 simp_all [YX]
theorem Jy{e:Xk Xo}(a:e.getD j Xf=J):(e.setIfInBounds i J).getD j Xf=J:=by
 rw[Yu]at a⊢
 grind
theorem QD{b:Xg (E×E×Xe)}(g:(b.map (·.1)).Nodup)(p:(b.map (·.2.1)).Nodup)(m:(i,d,v)∈b)(hd:d<u.tmps.size){e:Xk Xo}(n:∀a∈b,e.getD a.1 Xf=J->u.tmps[a.2.1]?=C a.2.2):
 ∀a∈b,(e.setIfInBounds i J).getD a.1 Xf=J->(u.put (C d) v).tmps[a.2.1]?=C a.2.2:=by
 intro a l h;simp only[Act.put];rw[YO];by_cases f:d=a.2.1
 .grind [iB]
 rw[Xx f];rcases qz h with c|c
 .have:=iB g l m c;subst this;exact absurd A f
 grind
theorem OC(V:WV)(r:Xk Xe)(p:Xe):((wT V r p).map (·.1)).Nodup:=by show([0,1,2,3,4,5,6,7,8,9,10,11,12,13,14,15,16,17,18,19,20,21,23,24]:Xg E).Nodup;decide
theorem Ef(V:WV)(r:Xk Xe)(p:Xe):((wT V r p).map (·.2.1)).Nodup:=by show([18,19,20,21,22,23,24,25,26,27,28,29,30,31,32,33,34,17,35,36,37,38,39,40]:Xg E).Nodup;decide
theorem GD{V:WV}{a:E×E×Xe}(b:a∈wK V):a.1∈[0,2,20,21,23,24]/\a.2.1∈[18,20,37,38,39,40]:=by
 simp only[wK,XV,Yd,YS]at b
 grind
theorem Ei{V:WV}{e:Xk Xo}{N:Xg Deferred}(b:d∉[4,18,20,37,38,39,40]):(⟨N,IJ V e⟩:Rt).free (C d)=J:=by
 unfold Rt.free IJ;rw[Za];intro g c;simp only[YC,YB,j_,YI]at c;have:g.1≠d:=by
  rcases c with⟨h,⟨f,_⟩,rfl⟩|rfl
  .intro a;have:=(GD f).2;simp only at a;rw[a]at this;exact b (Ym _ this)
  rintro rfl;exact b (by simp)
 grind
theorem AY{V:WV}{e:Xk Xo}(c:i∉[0,2,20,21,23,24]):IJ V (e.setIfInBounds i J)=IJ V e:=by
 unfold IJ
 congr 2
 refine Xg.filter_congr λa f=>?_;have g:a.1≠i:=λb=>c (b▸(GD f).1);simp_all [YX]
section
variable{O:M}{V:WV}{N:Xg Deferred}{U T S L:E}{Q:M}{H:Xk Xe->Xe->M->Prop}{e:Xk Xo}{r:Xk Xe}{p:Xe}
theorem cm(a:u.tmps[j]?=C b)(c:j≠d):(u.put (C d) v).tmps[j]?=C b:=by simp_all [Act.put,YX]
theorem WR.put(a:WR z O V N U T S L Q H e r p m w u y){n:Ren}{l:M}{t:Xu}(a0:i≠16)(a2:i=17\/i=18\/i=19->e.getD 16 Xf=J)(a1:(i,d,v)∈wT V r p)(X:Inv TP aW z n l)(c:l.heap=w.heap)
 (a4:H r p w->H r p l)(a3:ar aW n ⟨N,IJ V (e.setIfInBounds i J)⟩ (u.put (C d) v) t)(hd:17<=d/\d<41):WR z O V N U T S L Q H (e.setIfInBounds i J) r p n l (u.put (C d) v) t where
 inv:=X
 keep:=by rw[c];exact a.keep
 size:=by rw[c];exact a.size
 len:=by simp[Act.put,a.len]
 defs:=a.defs
 t1:=cm a.t1 (by omega)
 t2:=cm a.t2 (by omega)
 t3:=cm a.t3 (by omega)
 t4:=cm a.t4 (by omega)
 t5:=cm a.t5 (by omega)
 tab:=QD (OC V r p) (Ef V r p) a1 (by rw[a.len];exact hd.2) a.tab
 rel:=a3
 sn:=λZ=>a4 (a.sn ((qz Z).resolve_left (YX a0)))
 ord:=λj x hd=>Jy (by
  rcases qz hd with rfl|hd
  .exact a2 x
  exact a.ord j x hd)
 Uj:=by rw[c];exact a.Uj
 TE:=by rw[c];exact a.TE
theorem eX{t:WD}{fin:bE->M->Prop}{x:∀cl(w:M) n,fin cl {w with tape:=n}->fin cl w}{a0:E}{b:E×bE}{l:Op}
 (b0:∀a:M,a.heap=w.heap->H r p w->H r p a)(a7:bN D i (C d) l)(a8:jd TP aW.fn aW.bi aW.bZ l=J)(a5:i∉[0,2,16,20,21,22,23,24,25])(hd:d∉[4,18,20,37,38,39,40]/\17<=d/\d<41)(a6:(i,d,v)∈wT V r p)(a9:i=17\/i=18\/i=19->e.getD 16 Xf=J)
 (g:WR z O V N U T S L Q H e r p m w u y)(run:∀Z:M,Z.heap=w.heap->∀n b1 a3,(⟨C d,l,n,b1,a3,F⟩:Oper).wp TP u Z (λc a=>c=u.put (C d) v/\a.heap=w.heap) (eP λ_ _=>False))
 (next:∀m w u y,WR z O V N U T S L Q H (e.setIfInBounds i J) r p m w u y->(iX TP t fin x a0 aW z b).G m w (rg ((baseD 56).at y (Xv D rest::k)) W)):
 (iX TP t fin x a0 aW z b).G m w (rg ((baseD 56).at y (Xv D (i::rest)::k)) W):=by
 refine BT gS (by decide) (by decide) a7 a8 (Ei hd.1) g.inv g.rel (λc a=>c=u.put (C d) v/\a.heap=w.heap) run (λc a a4 b _=>by rw[a4.2]) ?_;rintro b2 _ a2 a a1 b3 b4⟨rfl,X⟩;refine next b2 a _ a2 (g.put (by rintro rfl;exact a5 (by simp)) a9 a6 a1 X (b0 a X) ?_ hd.2)
 simp_all [AY]
theorem WR.eval(a:WR z O V N U T S L Q H e r p m w u y)(c:(i,d,v)∈wT V r p)(hd:e.getD i Xf=J):u.eval (.tmp d)=v/\u.tmps.getD d I=v/\u.tmps[d]?.getD I=v:=by have:=a.tab _ c hd;simp_all [Act.eval]
theorem cB(a:u.tmps[d]?=C v):u.eval (.tmp d)=v/\u.tmps.getD d I=v/\u.tmps[d]?.getD I=v:=⟨by simp[Act.eval,a],by simp[a],by simp[a]⟩
theorem WR.yr(a:WR z O V N U T S L Q H e r p m w u y)(c:(i,d,v)∈wK V)(hd:e.getD i Xf=J):y.tmps[d]?=C v:=by refine a.rel.kn (d,v) ?_;show(d,v)∈IJ V e;unfold IJ;exact ZF _ (YB.2 ⟨_,j_.2 ⟨c,hd⟩,A⟩)
theorem yC{a:Rt}(b:ar h m a u y){R:Xj}(hd:u.tmps[d]?=C (Xd K R)):y.tmps[d]?=C (Xd K R):=by obtain⟨Y,c,e⟩:=b.tmps.get hd;cases e;exact c
theorem Ej(h:(i,d,v)∈wK V)(m:i<e.size):∀f∈IJ V (e.setIfInBounds i J),f∈(d,v)::IJ V e:=by
 intro f b;unfold IJ at b⊢
 simp only[YC,YB,j_,YI]at b;rcases b with⟨g,⟨c,hd⟩,rfl⟩|rfl
 .rcases qz hd with a|a
  .have l:((wK V).map (·.1)).Nodup:=by
    show([0,2,20,21,23,24]:Xg E).Nodup;decide
   have:=iB l c h a;subst this;exact YZ ..
  exact Ym _ (ZF _ (YB.2 ⟨g,j_.2 ⟨c,a⟩,A⟩))
 simp
theorem zi(b:(i,d,v)∈wK V)(g:e.getD i Xf=Xf):(⟨N,IJ V e⟩:Rt).free (C d)=J:=by
 unfold Rt.free IJ;rw[Za];intro m c;simp only[YC,YB,j_,YI]at c;have hd:=(GD b).2;have:m.1≠d:=by
  rcases c with⟨n,⟨h,a⟩,rfl⟩|rfl
  .intro f
   have l:((wK V).map (·.2.1)).Nodup:=by show([18,20,37,38,39,40]:Xg E).Nodup;decide
   have:=iB l h b f;subst this;simp only at a;rw[g]at a;cases a
  rintro rfl;simp at hd
 grind
theorem tN{g:XJ->Xe}{b:XJ}{a:E}{V:Xe}{t:Xq}{l:E×E}(c:o.op=.load 141 b)(a0:g b=XA (C ⟨a,0,F⟩))(n:q.heap[a]?=C (Xn #[V] t l)):
 (execOp g o).run TP q=.ok (.value V) q:=by
 have Z:q.cell? ⟨a,0,F⟩=C V:=by simp[M.cell?,n]
 obtain⟨d,a1,a3,a2,x,X⟩:=o;simp only at c;subst c;go_simp
theorem yY{c:XJ->Xe}{b f:XJ}{e a:E}(l:c b=Xm (C ⟨e,0,F⟩) R R)(m:c f=Xd K a)(h:a<R)(q:M)(p:Xq)(n:String)(g:Xk Edge):
 (execOp c ⟨C j,.indexAddr 141 b f,p,n,g,F⟩).runT TP q #[]=(.ok (.value (pt e (a*10))) q,#[]):=by
 have r:(a:Xj)<R:=by omega
 rw[s_];refine V_ ?_ ?_
 .simp only;go_simp
 simp only;simp[go_sem,l,m,h]
theorem yX{g:XJ->Xe}{b:XJ}{e c a:E}(l:a=0\/a=1)(f:g b=pt e c)(q:M)(n:Xq)(m:String)(h:Xk Edge):
 (execOp g ⟨C j,.fieldAddr 158 b a,n,m,h,F⟩).runT TP q #[]=(.ok (.value (pt e (c+9*a))) q,#[]):=by
 rw[s_];rcases l with rfl|rfl
 .refine V_ ?_ ?_
  .simp only;go_simp
  simp only;simp[go_sem,f]
 refine V_ ?_ ?_
 .simp only;go_simp
 simp only;simp[go_sem,f]
theorem OD{f:WD}{fin:bE->M->Prop}{s:∀cl(w:M) n,fin cl {w with tape:=n}->fin cl w}{R:E}{b:E×bE}
 (a6:∀c:M,c.heap=w.heap->H r p w->H r p c)(a5:bN D i (C d) (.load 141 (.tmp 4)))(a7:i<e.size)(a4:e.getD i Xf=Xf)(b9:i<16\/19<i)(a3:(i,d,I)∈wT V r p)(x:(i,d,Xm (C ⟨V.gb,0,F⟩) V.n V.n)∈wK V)(hd:17<=d/\d<41)
 (b7:f.gv=V.gv)(c0:f.gs=Xm (C ⟨V.gb,0,F⟩) V.n V.n){h:Xq}{g:E×E}(a1:O.heap[L]?=C (Xn #[I] h g))(b2:z L)(a:WR z O V N U T S L Q H e r p m w u y)
 (next:∀m w u y,WR z O V N U T S L Q H (e.setIfInBounds i J) r p m w u y->(iX TP f fin s R aW z b).G m w (rg ((baseD 56).at y (Xv D rest::k)) W)):
 (iX TP f fin s R aW z b).G m w (rg ((baseD 56).at y (Xv D (i::rest)::k)) W):=by
 have a0:=cB a.t4;have a2:w.heap[L]?=C (Xn #[I] h g):=by rw[a.keep L b2];exact a1
 have b0:y.tmps[4]?=C (pt V.gv 0):=a.rel.kn (4,pt V.gv 0) (n_ _ (by simp))
 refine Tz gS (by decide) (by decide) a5 (by rfl) (zi x a4) a.inv a.rel (R:=I) (w:=Xm (C ⟨V.gb,0,F⟩) V.n V.n) (N:=V.gv) (λq l=>by
  obtain⟨h,g,b8⟩:=l
  simp_all) (λn a9 Z b1=>?_) (λq h g n a9 Z l=>?_) (by rw[a.len];exact hd.2) λb3 Y c X b6 t a8=>next b3 c _ Y (a.put (by omega) (by omega) a3 X t (a6 c t) (a8.less A (Ej x a7)) hd)
 .rw[tN (q:={w with tape:=b1}) A a0.1 a2];exact⟨A,A⟩
 exact tN A (cB b0).1 l
theorem tA:∀fn,TP.funcs[(baseD 56).fn]?=C fn->fn.norace=Xf:=λfn a=>by have:TP.funcs[56]?=C fn:=a;rw[Tryz.func56]at this;cases this;rfl
theorem uB{l:WD}{fin:bE->M->Prop}{n:∀cl(w:M) g,fin cl {w with tape:=g}->fin cl w}{X:E}{b:E×bE}{x:Op}{c o:E}
 (a3:bN D i (C d) x)(a5:i<e.size)(a2:e.getD i Xf=Xf)(a9:i<16\/19<i)(a1:(i,d,I)∈wT V r p)(t:(i,d,pt c o)∈wK V)(hd:17<=d/\d<41)(a:WR z O V N U T S L Q H e r p m w u y)
 (a4:∀q g a7 a0,(execOp y.eval ⟨C d,x,g,a7,a0,F⟩).runT TP q #[]=(.ok (.value (pt c o)) q,#[]))
 (next:∀m w u y,WR z O V N U T S L Q H (e.setIfInBounds i J) r p m w u y->(iX TP l fin n X aW z b).G m w (rg ((baseD 56).at y (Xv D rest::k)) W)):
 (iX TP l fin n X aW z b).G m w (rg ((baseD 56).at y (Xv D (i::rest)::k)) W):=
 Hj (by decide) tA a3 (zi t a2) a.rel (by rw[a.len];exact hd.2) (a:=pt c o) trivial a4 λZ a6=>next m w _ Z (a.put (by omega) (by omega) a1 a.inv A id (a6.less A (Ej t a5)) hd)
theorem Tw{a0:WD}{fin:bE->M->Prop}{a5:∀cl(w:M) Z,fin cl {w with tape:=Z}->fin cl w}{a9:E}{b:E×bE}
 (c9:bN D 16 (C 34) (.call {callee:=.value (.func 58),args:=#[.tmp 25,.tmp 33],argTypes:=#[94,9]}))(d4:e.getD 16 Xf=Xf)(c0:e.getD 7 Xf=J)(b9:e.getD 15 Xf=J)
 (a7:∀w:M,(∀b,z b->w.heap[b]?=O.heap[b]?)->O.heap.size<=w.heap.size->Calls TP 58 #[V.tp,.string V.path] w λg c=>∃r p,g=Xs (.tuple #[.agg r,p])/\H r p c/\Below w.heap.size w c)
 (d6:∀r p(w f:M),f.heap=w.heap->H r p w->H r p f)(a:WR z O V N U T S L Q H e r p m w u y)
 (next:∀r p m w u y,WR z O V N U T S L Q H (e.setIfInBounds 16 J) r p m w u y->(iX TP a0 fin a5 a9 aW z b).G m w (rg ((baseD 56).at y (Xv D rest::k)) W)):
 (iX TP a0 fin a5 a9 aW z b).G m w (rg ((baseD 56).at y (Xv D (16::rest)::k)) W):=by
 have b7:=(a.eval (i:=7) (d:=25) (v:=V.tp) (by simp[wT]) c0);have b8:=(a.eval (i:=15) (d:=33) (v:=.string V.path) (by simp[wT]) b9)
 have d5:∀j,j=17\/j=18\/j=19->e.getD j Xf=J->False:=λj a6 hd=>by have:=a.ord j a6 hd;simp_all
 have t:∀b,z b->b<w.heap.size:=λb t=>by obtain⟨o,a,_⟩:=a.inv.cO b t;grind
 refine BT gS (by decide) (by decide) c9 (by rfl) (Ei (by decide)) a.inv a.rel (λq f=>∃r p,q=u.put (C 34) (.tuple #[.agg r,p])/\H r p f/\∃c,c.heap=w.heap/\Below c.heap.size c f) (λc R Z d1 g=>?_) ?_ ?_
 .have a8:=a7 c (λb t=>by rw[R];exact a.keep b t) (by rw[R];exact a.size);obtain⟨q1,d8,d9⟩:=b7;obtain⟨e0,e1,e2⟩:=b8;generalize a3:(λq f=>∃r p,q=u.put (C 34) (.tuple #[.agg r,p])/\H r p f/\∃c,c.heap=w.heap/\Below c.heap.size c f)=b1
  have fin:∀r p x,H r p x->Below c.heap.size c x->b1 (u.put (C 34) (.tuple #[.agg r,p])) x:=λr p x Y l=>by subst a3;exact⟨r,p,A,Y,c,R,l⟩
  unfold Oper.wp
  have d0:(execOp u.eval ⟨C 34,.call {callee:=.value (.func 58),args:=#[.tmp 25,.tmp 33],argTypes:=#[94,9]},Z,d1,g,F⟩).run TP c=.ok (.enter 58 #[V.tp,.string V.path]) c:=by
   clear a8 fin a3 a7 next a
   go_simp
  rw[d0,aa3];refine a8.mono ?_;simp_all
 .rintro q f⟨_,_,_,_,c,g,l⟩ b a4;rw[<-g];exact l.block b (by simp_all)
 rintro d2 _ b4 f b0 d3 d7⟨n,h,rfl,Y,c,g,l⟩;refine next n h d2 f (u.put (C 34) (.tuple #[.agg n,h])) b4 ?_
 have c7:∀j,j≠16->(e.setIfInBounds 16 J).getD j Xf=e.getD j Xf:=λj a6=>by simp_all [YX]
 refine⟨b0,λb a4=>?_,?_,by simp[Act.put,a.len],a.defs,cm a.t1 (by omega),cm a.t2 (by omega),cm a.t3 (by omega),cm a.t4 (by omega),cm a.t5 (by omega),?_,?_,λ_=>Y,?_,λa1 c6=>?_,?_⟩
 .rw[l.block b (by simp_all),g,a.keep b a4]
 .have:=l.size;have:=a.size;grind
 .intro s X hd;by_cases a2:s.1=16
  .have:=iB (OC V n h) X (show(16,34,Xe.tuple #[.agg n,h])∈wT V n h by simp[wT]) a2;subst this;simp[Act.put,a.len]
  rw[c7 _ a2]at hd
  have c8:s.2.1≠34:=λb6=>by have:=iB (Ef V n h) X (show(16,34,Xe.tuple #[.agg n,h])∈wT V n h by simp[wT]) b6;simp_all
  refine cm ?_ c8;have:s∈wT V r p:=by
   simp only[wT,XV,Yd,YS]at X⊢
   grind
  exact a.tab s this hd
 .simp_all [AY]
 .simp_all
 .have:=a.TE;rw[l.block a1 (by rw[g];omega),g,a.Uj a1 c6]
 have:=l.size;have:=a.TE
 grind
theorem NK(a:an h m b Y)(c:wu b=J):wu Y=J:=by cases a<;>first|rfl|(cases c;done)
theorem IE{l:WD}{fin:bE->M->Prop}{a4:∀cl(w:M) b0,fin cl {w with tape:=b0}->fin cl w}{X:E}{cl:bE}{Z b1 b2 o:E}{b4:Rt}
 (c6:bN D i F (.store Z (.tmp b1) (.tmp b2)))(c9:∀q n,(Go.sizeOf Z).runT TP q n=(.ok R q,n))(hrel:ar aW m b4 u y)(d2:y.tmps[b1]?=C (pt l.gb o))(d4:u.tmps[b2]?=C v)(c0:v.cells.size=R)(b7:∀b∈v.cells,wu b=J)
 (a8:o+R<=l.gn)(own:∀k,k<R->l.own X (o+k))(b5:∀c∈cl,c.1+c.2.size<=o\/o+R<=c.1)
 (next:(iX TP l fin a4 X aW z (s,cl++[(o,v.cells)])).G m w (rg ((baseD 56).at y (Xv D rest::k)) W)):
 (iX TP l fin a4 X aW z (s+1,cl)).G m w (rg ((baseD 56).at y (Xv D (i::rest)::k)) W):=by
 obtain⟨⟨e3,e9,b0,c,b6,e6⟩,b8,a0,a1,a2⟩:=c6;simp only at a0 a1 a2;subst a2;obtain rfl:=a0;obtain rfl:=a1;obtain⟨g,d0,d1⟩:=hrel.tmps.get d4;have t:=dM d1;have a6:g.cells.size=R:=by rw[<-t.1];exact c0
 have c7:∀b∈g.cells.toList,wu b=J:=by
  intro b d3;obtain⟨j,a,rfl⟩:=YQ.1 (by simpa using d3:b∈g.cells);have a5:j<v.cells.size:=by rw[t.1];exact a
  exact NK (t.2 j _ _ (XP a5) (XP a)) (b7 _ (Xk.getElem_mem a5))
 have x:g.cells.toList.length=R:=by simpa using a6
 refine .stop ⟨A,o,v.cells,g.cells,rg ((baseD 56).at y (Xv D rest::k)) W,t,λk e8=>own k (by omega),λc c8=>by rw[a6];exact b5 c c8,A,λq b9=>?_,next⟩;obtain⟨e1,e4,q1,d5,a7⟩:=b9;obtain⟨b3,n,d6,a9,d7,d8,d9,f0⟩:=DO (P:=TP) (main:=Xf) (n:=baseD 56) (l:=k) (t:=W) (rest:=rest) (b:=g.cells.toList) b8 A (by decide) A rfl (cB d2).1 (cB d0).1 A tA (by rw[x];exact c9) c7 d5 q1 (by rw[x,a7];exact a8);refine⟨b3,n,d6,⟨a9.1,a9.2,d7,d8,λe2 f1 e5 a3=>?_⟩,λb6 e7=>?_⟩
 .rw[q1]at a3;cases a3;refine⟨_,d9,yS _ _ _,λj a=>wD _ _ _ _ (by simpa using a),λj a=>?_⟩;rw[Ii _ _ _ _ (by rw[x,a7];exact a8) (by simpa using a)];simp
 simp_all
theorem WR.done(a:WR z O V N U T S L Q H e r p m w u y)(n:i=22\/i=25):WR z O V N U T S L Q H (e.setIfInBounds i J) r p m w u y:=by
 have c:∀j,j≠i->(e.setIfInBounds i J).getD j Xf=e.getD j Xf:=λj g=>by simp_all [YX]
 refine⟨a.inv,a.keep,a.size,a.len,a.defs,a.t1,a.t2,a.t3,a.t4,a.t5,λb f hd=>?_,?_,λl=>a.sn ?_,λj g hd=>?_,a.Uj,a.TE⟩
 .refine a.tab b f ?_;rw[<-c]
  .exact hd
  have:b.1∈(wT V r p).map (·.1):=YB.2 ⟨b,f,A⟩;have h:b.1∈([0,1,2,3,4,5,6,7,8,9,10,11,12,13,14,15,16,17,18,19,20,21,23,24]:Xg E):=this;simp only[XV,Yd,YS]at h;omega
 .rw[AY (by grind)];exact a.rel
 .grind
 rw[c 16 (by omega)];rw[c j (by omega)]at hd;exact a.ord j g hd
end
variable{u:E}{t:E}{c:M}{b:E}{d:Xg Item}{Q:Xg Xr}{h:Xu}{g:Xu}
structure IU(o:WD)(e:E->Prop)(l:M)(q p r u t a0 x T X N v:E)(U:Xe)(y:E->XB)(f:E->Xk Xe->Xe->M->Prop):Prop where
 x3:e q
 h3:∃k a,l.heap[q]?=C (Xn #[Xm (C ⟨T,X,F⟩) t a0] k a)
 x2:e p
 h2:∃k a,l.heap[p]?=C (Xn #[pt u 0] k a)
 xc:e u
 hc:∃w k a,l.heap[u]?=C (Xn w k a)/\w[1]?=C (Xd K x)/\w[2]?=C U
 WX:∃a1,U=pt a1 0
 x4:e r
 h4:∃k a,l.heap[r]?=C (Xn #[I] k a)
 xl:e T
 elem:∃w k a,l.heap[T]?=C (Xn w k a)/\∀d,d<t->w[X+d*9+3]?=C (.string (y d))
 look:∀d,d<t->∀c:M,(∀R,e R->c.heap[R]?=l.heap[R]?)->l.heap.size<=c.heap.size->Calls TP 58 #[U,.string (y d)] c λZ Y=>∃i n,Z=Xs (.tuple #[.agg i,n])/\f d i n Y/\Below c.heap.size c Y
 VS:∀d i n(c W:M),f d i n c->(∀S,S<c.heap.size->W.heap[S]?=c.heap[S]?)->c.heap.size<=W.heap.size->f d i n W
 Vg:∀d i n c,f d i n c->i.size=9/\(∀R∈i,wu R=J)/\wu n=J
 gs:o.gs=Xm (C ⟨o.gb,0,F⟩) t t
 gn:o.gn=t*10
 own:∀d,d<t->d%x=N->∀j,j<10->o.own v (d*10+j)
 small:t<2^40
 Vz:1<=x
 Wu:x<2^20
theorem IU.Vf{o:WD}{l:M}{q p r T x w U N v:E}{W:Xe}{y:E->XB}{f:E->Xk Xe->Xe->M->Prop}(n:IU o e l q p r u t T x w U N v W y f){d:E}{i:Xk Xe}{a:Xe}{k:M}(S:k.heap=c.heap)(R:f d i a c):f d i a k:=
 n.VS d i a c k R (λ_ _=>by rw[S]) (by simp_all)
theorem Qz(a:M)(b:Xk XF):(Go.sizeOf 154).runT TP a b=(.ok 9 a,b):=by rfl
theorem Tk(a:M)(b:Xk XF):(Go.sizeOf 65).runT TP a b=(.ok 1 a,b):=by rfl
def WJ(e:E->Prop)(l:M)(V:WV)(H:Xg Deferred)(z q p r:E)(L:M)(f:Xk Xe->Xe->M->Prop)(s:E)(cl:bE)(a:Xk Xo)(i:E×bE)(m:Ren)(c:M)(h g:Xu):Prop:=
 ∃b d,WR e l V H z q p r L f a b d m c h g/\(a.getD 22 Xf=J->a.getD 16 Xf=J)/\(a.getD 25 Xf=J->a.getD 22 Xf=J)/\
  i=if a.getD 25 Xf then(s,cl++[(V.c*10,b)]++[(V.c*10+9,#[d])])else if a.getD 22 Xf then(s+1,cl++[(V.c*10,b)])else(s+2,cl)
theorem ef{a:Xk Xo}(c:j≠b):(a.setIfInBounds b J).getD j Xf=a.getD j Xf:=by simp_all [YX]
theorem getD_eq{a:Xk Xo}(c:b<a.size):(a.setIfInBounds b J).getD b Xf=J:=by simp_all
section
variable{o:WD}{l:M}{z q p r x N v:E}{V:WV}{y:E->XB}{f:E->Xk Xe->Xe->M->Prop}{H:Xg Deferred}{L:M}
variable{fin:bE->M->Prop}{O:∀cl(c:M) R,fin cl {c with tape:=R}->fin cl c}
theorem OE(Z:IU o e l q p r V.cb V.n V.nc x V.bl V.off N v V.tp y f)(c7:V.c<V.n)(e5:V.c%x=N)(g7:V.path=y V.c)(c8:V.gb=o.gb)(e6:V.gv=o.gv)
 (f0:D.size=26)(g3:Bz D=J)(g2:∀{a4:Xk Xo}{b:E},b∈Region.ready .any D a4->∀j∈dq b,a4.getD j Xf=J)
 (g9:bN D 0 (C 18) (.load 141 (.tmp 4)))(h0:bN D 1 (C 19) (.move (.tmp 5)))(i1:bN D 2 (C 20) (.load 141 (.tmp 4)))(i8:bN D 3 (C 21) (.move (.tmp 5)))(i9:bN D 4 (C 22) (.load 76 (.tmp 3)))(j0:bN D 5 (C 23) (.nilCheck (.tmp 22)))(j1:bN D 6 (C 24) (.fieldAddr 98 (.tmp 23) 2))(j2:bN D 7 (C 25) (.load 94 (.tmp 24)))(j3:bN D 8 (C 26) (.load 103 (.tmp 2)))(j4:bN D 9 (C 27) (.move (.tmp 5)))(h1:bN D 10 (C 28) (.indexAddr 103 (.tmp 26) (.tmp 27)))(h2:bN D 11 (C 29) (.fieldAddr 107 (.tmp 28) 0))(h3:bN D 12 (C 30) (.fieldAddr 105 (.tmp 29) 1))(h4:bN D 13 (C 31) (.fieldAddr 31 (.tmp 30) 1))(h5:bN D 14 (C 32) (.fieldAddr 28 (.tmp 31) 1))(h6:bN D 15 (C 33) (.load 9 (.tmp 32)))(h7:bN D 16 (C 34) (.call {callee:=.value (.func 58),args:=#[.tmp 25,.tmp 33],argTypes:=#[94,9]}))(h8:bN D 17 (C 17) (.move (.tmp 34)))(h9:bN D 18 (C 35) (.extract (.tmp 17) 0))(i0:bN D 19 (C 36) (.extract (.tmp 17) 1))(i2:bN D 20 (C 37) (.indexAddr 141 (.tmp 18) (.tmp 19)))(i3:bN D 21 (C 38) (.fieldAddr 158 (.tmp 37) 0))(i4:bN D 22 F (.store 154 (.tmp 38) (.tmp 35)))(i5:bN D 23 (C 39) (.indexAddr 141 (.tmp 20) (.tmp 21)))(i6:bN D 24 (C 40) (.fieldAddr 158 (.tmp 39) 1))(i7:bN D 25 F (.store 65 (.tmp 40) (.tmp 36)))
 {cl:bE}(g1:∀W∈cl,W.1+W.2.size<=V.c*10){id:E}{f3:Xk Xe}{e1:Xe}(d3:WR e l V H z q p r L (f V.c) (Array.replicate 26 Xf) f3 e1 m c h g)
 (next:∀S k m c h g a4,WR e l V H z q p r L (f V.c) a4 S k m c h g->f V.c S k c->(iX TP o fin O v aW e (s,cl++[(V.c*10,S)]++[(V.c*10+9,#[k])])).G m c (rg ((baseD 56).at g (Xv D []::d)) Q)):
 (iX TP o fin O v aW e (s+2,cl)).G m c (rg ((baseD 56).at g (.code (.region id D J)::d)) Q):=by
 refine Hl (c:=λb6=>iX TP o fin O v aW e b6) lx g3 (WJ e l V H z q p r L (f V.c) s cl) ?_ ?_ (b:=(s+2,cl)) (s:=h) ?_
 .intro a4 b rest k1 e7 c9 b6 m c h g f8;have U:=g2 e7;obtain⟨e8,g6,-⟩:=ls.1 e7;rw[f0]at e8;have a1:∀S k,∀c n:M,n.heap=c.heap->f V.c S k c->f V.c S k n:=λS k c n w d3=>Z.Vf w d3;have b4:b<a4.size:=by omega
  have b2:a4.getD b Xf=Xf:=by simp_all
  obtain⟨S,k,a,f6,e3,b5⟩:=f8
  have a0:b≠22->b≠25->b≠16->∀m c h g,WR e l V H z q p r L (f V.c) (a4.setIfInBounds b J) S k m c h g->(iX TP o fin O v aW e b6).G m c (rg ((baseD 56).at g (Xv D rest::d)) Q):=by
   intro e2 f5 f7 m c h g d4;refine c9 b6 m c h g ⟨S,k,d4,?_,?_,?_⟩
   .rw[ef (YX e2),ef (YX f7)];exact f6
   .rw[ef (YX e2),ef (YX f5)];exact e3
   simp_all
  have c6:∀{b0:E}{b7:Xk Xe}{b3:Xq}{b1:E×E}{j:E}{T:Xe},e b0->l.heap[b0]?=C (Xn b7 b3 b1)->b7[j]?=C T->∀X:M,X.heap=c.heap->X.cell? ⟨b0,j,F⟩=C T:=by
   intro b0 b7 b3 b1 j T f9 a3 c0 X g8;have:X.heap[b0]?=C (Xn b7 b3 b1):=by rw[g8,a.keep b0 f9,a3]
   simp_all [M.cell?]
  have k2:=Z.small;have g0:b=0\/b=1\/b=2\/b=3\/b=4\/b=5\/b=6\/b=7\/b=8\/b=9\/b=10\/b=11\/b=12\/b=13\/b=14\/b=15\/b=16\/b=17\/b=18\/b=19\/b=20\/b=21\/b=22\/b=23\/b=24\/b=25:=by omega
  clear g6 e8;rcases g0 with rfl|rfl|rfl|rfl|rfl|rfl|rfl|rfl|rfl|rfl|rfl|rfl|rfl|rfl|rfl|rfl|rfl|rfl|rfl|rfl|rfl|rfl|rfl|rfl|rfl|rfl
  ·
   obtain⟨b3,b1,a3⟩:=Z.h4;exact OD (λn w=>a1 S k _ n w) g9 b4 b2 (by omega) (by simp[wT]) (by simp[wK]) (by omega) e6.symm (by rw[Z.gs,c8]) a3 Z.x4 a (a0 (by decide) (by decide) (by decide))
  ·
   obtain⟨d0,d1,d2⟩:=cB a.t5;refine eX (λn w=>a1 S k _ n w) h0 (by rfl) (by decide) (by decide) (v:=Xd K V.c) (by simp[wT]) (by omega) a (λX i R W Y=>?_) (a0 (by decide) (by decide) (by decide))
   go_wp2
   first|exact⟨rfl,i⟩|exact i|skip
  ·
   obtain⟨b3,b1,a3⟩:=Z.h4;exact OD (λn w=>a1 S k _ n w) i1 b4 b2 (by omega) (by simp[wT]) (by simp[wK]) (by omega) e6.symm (by rw[Z.gs,c8]) a3 Z.x4 a (a0 (by decide) (by decide) (by decide))
  ·
   obtain⟨d0,d1,d2⟩:=cB a.t5;refine eX (λn w=>a1 S k _ n w) i8 (by rfl) (by decide) (by decide) (v:=Xd K V.c) (by simp[wT]) (by omega) a (λX i R W Y=>?_) (a0 (by decide) (by decide) (by decide))
   go_wp2
   first|exact⟨rfl,i⟩|exact i|skip
  ·
   obtain⟨d0,d1,d2⟩:=cB a.t3;obtain⟨b3,b1,a3⟩:=Z.h2;have a5:=c6 (j:=0) Z.x2 a3 A;refine eX (λn w=>a1 S k _ n w) i9 (by rfl) (by decide) (by decide) (v:=pt V.cb 0) (by simp[wT]) (by omega) a (λX i R W Y=>?_) (a0 (by decide) (by decide) (by decide));replace a5:=a5 X i
   go_wp2
   first|exact⟨rfl,i⟩|exact i|skip
  ·
   obtain⟨a6,a7,a8⟩:=a.eval (i:=4) (d:=22) (v:=pt V.cb 0) (by simp[wT]) (U 4 (by simp[dq]));refine eX (λn w=>a1 S k _ n w) j0 (by rfl) (by decide) (by decide) (v:=pt V.cb 0) (by simp[wT]) (by omega) a (λX i R W Y=>?_) (a0 (by decide) (by decide) (by decide))
   go_wp2
   first|exact⟨rfl,i⟩|exact i|skip
  ·
   obtain⟨a6,a7,a8⟩:=a.eval (i:=5) (d:=23) (v:=pt V.cb 0) (by simp[wT]) (U 5 (by simp[dq]));refine eX (λn w=>a1 S k _ n w) j1 (by rfl) (by decide) (by decide) (v:=pt V.cb 2) (by simp[wT]) (by omega) a (λX i R W Y=>?_) (a0 (by decide) (by decide) (by decide))
   go_wp2
   first|exact⟨rfl,i⟩|exact i|skip
  ·
   obtain⟨a6,a7,a8⟩:=a.eval (i:=6) (d:=24) (v:=pt V.cb 2) (by simp[wT]) (U 6 (by simp[dq]));obtain⟨b7,b3,b1,a3,_,c0⟩:=Z.hc;have a5:=c6 Z.xc a3 c0;refine eX (λn w=>a1 S k _ n w) j2 (by rfl) (by decide) (by decide) (v:=V.tp) (by simp[wT]) (by omega) a (λX i R W Y=>?_) (a0 (by decide) (by decide) (by decide));replace a5:=a5 X i
   go_wp2
   first|exact⟨rfl,i⟩|exact i|skip
  ·
   obtain⟨d0,d1,d2⟩:=cB a.t2;obtain⟨b3,b1,a3⟩:=Z.h3;have a5:=c6 (j:=0) Z.x3 a3 A;refine eX (λn w=>a1 S k _ n w) j3 (by rfl) (by decide) (by decide) (v:=Xm (C ⟨V.bl,V.off,F⟩) V.n V.nc) (by simp[wT]) (by omega) a (λX i R W Y=>?_) (a0 (by decide) (by decide) (by decide));replace a5:=a5 X i
   go_wp2
   first|exact⟨rfl,i⟩|exact i|skip
  ·
   obtain⟨d0,d1,d2⟩:=cB a.t5;refine eX (λn w=>a1 S k _ n w) j4 (by rfl) (by decide) (by decide) (v:=Xd K V.c) (by simp[wT]) (by omega) a (λX i R W Y=>?_) (a0 (by decide) (by decide) (by decide))
   go_wp2
   first|exact⟨rfl,i⟩|exact i|skip
  ·
   obtain⟨a6,a7,a8⟩:=a.eval (i:=8) (d:=26) (v:=Xm (C ⟨V.bl,V.off,F⟩) V.n V.nc) (by simp[wT]) (U 8 (by simp[dq]));obtain⟨k3,k4,k5⟩:=a.eval (i:=9) (d:=27) (v:=Xd K V.c) (by simp[wT]) (U 9 (by simp[dq]));refine eX (λn w=>a1 S k _ n w) h1 (by rfl) (by decide) (by decide) (v:=pt V.bl (V.off+V.c*9)) (by simp[wT]) (by omega) a (λX i R W Y=>?_) (a0 (by decide) (by decide) (by decide))
   go_wp2
   first|exact⟨rfl,i⟩|exact i|skip
  ·
   obtain⟨a6,a7,a8⟩:=a.eval (i:=10) (d:=28) (v:=pt V.bl (V.off+V.c*9)) (by simp[wT]) (U 10 (by simp[dq]));refine eX (λn w=>a1 S k _ n w) h2 (by rfl) (by decide) (by decide) (v:=pt V.bl (V.off+V.c*9)) (by simp[wT]) (by omega) a (λX i R W Y=>?_) (a0 (by decide) (by decide) (by decide))
   go_wp2
   first|exact⟨rfl,i⟩|exact i|skip
  ·
   obtain⟨a6,a7,a8⟩:=a.eval (i:=11) (d:=29) (v:=pt V.bl (V.off+V.c*9)) (by simp[wT]) (U 11 (by simp[dq]));refine eX (λn w=>a1 S k _ n w) h3 (by rfl) (by decide) (by decide) (v:=pt V.bl (V.off+V.c*9+1)) (by simp[wT]) (by omega) a (λX i R W Y=>?_) (a0 (by decide) (by decide) (by decide))
   go_wp2
   first|exact⟨rfl,i⟩|exact i|skip
  ·
   obtain⟨a6,a7,a8⟩:=a.eval (i:=12) (d:=30) (v:=pt V.bl (V.off+V.c*9+1)) (by simp[wT]) (U 12 (by simp[dq]));refine eX (λn w=>a1 S k _ n w) h4 (by rfl) (by decide) (by decide) (v:=pt V.bl (V.off+V.c*9+1+1)) (by simp[wT]) (by omega) a (λX i R W Y=>?_) (a0 (by decide) (by decide) (by decide))
   go_wp2
   first|exact⟨rfl,i⟩|exact i|skip
  ·
   obtain⟨a6,a7,a8⟩:=a.eval (i:=13) (d:=31) (v:=pt V.bl (V.off+V.c*9+1+1)) (by simp[wT]) (U 13 (by simp[dq]));refine eX (λn w=>a1 S k _ n w) h5 (by rfl) (by decide) (by decide) (v:=pt V.bl (V.off+V.c*9+1+1+1)) (by simp[wT]) (by omega) a (λX i R W Y=>?_) (a0 (by decide) (by decide) (by decide))
   go_wp2
   first|exact⟨rfl,i⟩|exact i|skip
  ·
   obtain⟨a6,a7,a8⟩:=a.eval (i:=14) (d:=32) (v:=pt V.bl (V.off+V.c*9+1+1+1)) (by simp[wT]) (U 14 (by simp[dq]));obtain⟨b7,b3,b1,a3,c0⟩:=Z.elem;have a5:=c6 Z.xl a3 (c0 V.c c7);refine eX (λn w=>a1 S k _ n w) h6 (by rfl) (by decide) (by decide) (v:=.string V.path) (by simp[wT]) (by omega) a (λX i R W Y=>?_) (a0 (by decide) (by decide) (by decide));replace a5:=a5 X i
   go_wp2
   first|exact⟨rfl,i⟩|exact i|skip
  ·
   refine Tw h7 b2 (U 7 (by simp[dq])) (U 15 (by simp[dq])) (by rw[g7];exact Z.look V.c c7) a1 a λj6 f4 m c h g d4=>c9 b6 m c h g ⟨j6,f4,d4,?_,?_,?_⟩
   .intro _;exact getD_eq b4
   .rw[ef (by decide),ef (by decide)];exact e3
   simp_all
  ·
   obtain⟨a6,a7,a8⟩:=a.eval (i:=16) (d:=34) (v:=.tuple #[.agg S,k]) (by simp[wT]) (U 16 (by simp[dq]));refine eX (λn w=>a1 S k _ n w) h8 (by rfl) (by decide) (by decide) (v:=.tuple #[.agg S,k]) (by simp[wT]) (by simp_all [dq]) a (λX i R W Y=>?_) (a0 (by decide) (by decide) (by decide))
   go_wp2
   first|exact⟨rfl,i⟩|exact i|skip
  ·
   obtain⟨a6,a7,a8⟩:=a.eval (i:=17) (d:=17) (v:=.tuple #[.agg S,k]) (by simp[wT]) (U 17 (by simp[dq]));refine eX (λn w=>a1 S k _ n w) h9 (by rfl) (by decide) (by decide) (v:=.agg S) (by simp[wT]) (by intro _;exact a.ord 17 (Xh A) (U 17 (by simp[dq]))) a (λX i R W Y=>?_) (a0 (by decide) (by decide) (by decide))
   go_wp2
   first|exact⟨rfl,i⟩|exact i|skip
  ·
   obtain⟨a6,a7,a8⟩:=a.eval (i:=17) (d:=17) (v:=.tuple #[.agg S,k]) (by simp[wT]) (U 17 (by simp[dq]));refine eX (λn w=>a1 S k _ n w) i0 (by rfl) (by decide) (by decide) (v:=k) (by simp[wT]) (by intro _;exact a.ord 17 (Xh A) (U 17 (by simp[dq]))) a (λX i R W Y=>?_) (a0 (by decide) (by decide) (by decide))
   go_wp2
   first|exact⟨rfl,i⟩|exact i|skip
  ·
   refine uB i2 b4 b2 (by omega) (by simp[wT]) (c:=V.gb) (o:=V.c*10) (by simp[wK]) (by omega) a (λb8 R W Y=>?_) (a0 (by decide) (by decide) (by decide));have a9:=a.yr (i:=0) (d:=18) (v:=Xm (C ⟨V.gb,0,F⟩) V.n V.n) (by simp[wK]) (U 0 (by simp[dq]));have j5:=yC a.rel (a.tab (1,19,Xd K V.c) (by simp[wT]) (U 1 (by simp[dq])))
   grind [yY,cB]
  ·
   refine uB i3 b4 b2 (by omega) (by simp[wT]) (c:=V.gb) (o:=V.c*10+9*0) (by simp[wK]) (by omega) a (λb8 R W Y=>?_) (a0 (by decide) (by decide) (by decide));have a9:=a.yr (i:=20) (d:=37) (v:=pt V.gb (V.c*10)) (by simp[wK]) (U 20 (by simp[dq]));exact yX (by omega) (cB a9).1 b8 R W Y
  ·
   have d7:=U 18 (by simp[dq]);have b9:=a.ord 18 (Xi (Xh A)) d7;obtain⟨f1,f2,d6⟩:=Z.Vg _ _ _ _ (a.sn b9);have e0:a4.getD 25 Xf=Xf:=by simp_all
   rw[e0,b2]at b5;subst b5;have a9:=a.yr (i:=21) (d:=38) (v:=pt V.gb (V.c*10)) (by simp[wK]) (U 21 (by simp[dq]));rw[c8]at a9;refine IE (s:=s+1) i4 Qz a.rel a9 (a.tab (18,35,.agg S) (by simp[wT]) d7) f1 f2 (by rw[Z.gn];omega) (λj g5=>Z.own V.c c7 e5 j (by omega)) (λW e9=>Xh (g1 W e9)) ?_;refine c9 _ m c h g ⟨S,k,a.done (Xh A),?_,?_,?_⟩
   .simp_all
   .simp_all
   rw[ef (by decide),e0,getD_eq b4];rfl
  ·
   refine uB i5 b4 b2 (by omega) (by simp[wT]) (c:=V.gb) (o:=V.c*10) (by simp[wK]) (by omega) a (λb8 R W Y=>?_) (a0 (by decide) (by decide) (by decide));have a9:=a.yr (i:=2) (d:=20) (v:=Xm (C ⟨V.gb,0,F⟩) V.n V.n) (by simp[wK]) (U 2 (by simp[dq]));have j5:=yC a.rel (a.tab (3,21,Xd K V.c) (by simp[wT]) (U 3 (by simp[dq])))
   grind [yY,cB]
  ·
   refine uB i6 b4 b2 (by omega) (by simp[wT]) (c:=V.gb) (o:=V.c*10+9*1) (by simp[wK]) (by omega) a (λb8 R W Y=>?_) (a0 (by decide) (by decide) (by decide));have a9:=a.yr (i:=23) (d:=39) (v:=pt V.gb (V.c*10)) (by simp[wK]) (U 23 (by simp[dq]));exact yX (by omega) (cB a9).1 b8 R W Y
  ·
   have d9:=U 22 (by simp[dq]);have d8:=U 19 (by simp[dq]);have b9:=a.ord 19 (Xi (Xi A)) d8;obtain⟨f1,f2,d6⟩:=Z.Vg _ _ _ _ (a.sn b9);rw[b2,d9]at b5;subst b5;have a9:=a.yr (i:=24) (d:=40) (v:=pt V.gb (V.c*10+9)) (by simp[wK]) (U 24 (by simp[dq]));rw[c8]at a9;have g4:k.cells=#[k]:=by generalize k=Y at d6;cases Y<;>first|rfl|(cases d6;done)
   refine IE (s:=s) i7 Tk a.rel a9 (a.tab (19,36,k) (by simp[wT]) d8) (by rw[g4];rfl) (by simp_all) (by rw[Z.gn];omega) (λj g5=>by have:=Z.own V.c c7 e5 (9+j) (by omega);simp_all) (λW e9=>?_) ?_
   .grind
   refine c9 _ m c h g ⟨S,k,a.done (Xi A),?_,?_,?_⟩
   .intro _;rw[ef (by decide)];exact b9
   .intro _;rw[ef (by decide)];exact d9
   simp_all
 .rintro a4 e4 b6 m c h g⟨S,k,a,_,_,b5⟩;rw[e4 25 (by omega)]at b5;subst b5;exact next S k m c h g a4 a (a.sn (e4 16 (by omega)))
 rw[f0];refine⟨f3,e1,d3,?_,?_,?_⟩
 .simp
 .simp
 rfl
end
variable{h:Set}{o:M}{R:Xr}{e:Xg Item}{S:Xg Xr}{Y:E}{p:Xu}{H:Xu}{d:E}
theorem LJ{a5:Type}{p:Xk a5}(a:p.size=41):∃c d q H Y a0 a1 a2 a3 a4 e f g h i k l m n o r s t u v w x y z D L N O Q R S T U W X Z,p=#[c,d,q,H,Y,a0,a1,a2,a3,a4,e,f,g,h,i,k,l,m,n,o,r,s,t,u,v,w,x,y,z,D,L,N,O,Q,R,S,T,U,W,X,Z]:=by
 obtain⟨b⟩:=p
 iterate 41
  rcases b with _|⟨_,b⟩
  simp at a
 obtain rfl:=YR.1 (by simpa using a)
 grind
section
variable{main:Xo}
theorem Fc{a:Goal P h main f}{d:XI}{b:Xk XJ}{k:Xk Xq}{g:Xg (E×Xe)}(t:R.kind≠.early)(u:bN D Y F (.defer {callee:=.value (.func d),args:=b,argTypes:=k}))
 (v:ar h m ⟨[],g⟩ p H)(s:p.defers=[])
 (next:∀c,ar h m ⟨[dcall d (b.map H.eval)],g⟩ p c->a.G m o (rg (R.at c (Xv D rest::e)) S)):a.G m o (rg (R.at H (Xv D (Y::rest)::e)) S):=by
 obtain⟨⟨z,O,T,Q,L,N⟩,l,n,q,r⟩:=u;subst n q r;refine Goal.pure _ A rfl (λi=>?_) (next _ (v.Mx s));exact Go.Conc.stepG_defer (P:=P) (main:=main) (a:=H) (w:=i) (k:=e) (cs:=S) (rest:=rest) l A t A
end
def wG(d c a:E):E:=(d-a+c-1)/c
theorem Kt{c a:E}(e:1<=c)(b:wG d c a=0):d<=a:=by unfold wG at b;apply Classical.byContradiction;intro f;rw[E.div_eq_zero_iff]at b;omega
theorem Ks{c a:E}(g:1<=c)(b:wG d c a=s+1):a<d/\wG d c (a+c)=s:=by
 unfold wG at b⊢
 have f:a<d:=by apply Classical.byContradiction;intro h;rw[show d-a+c-1=c-1 by omega,aaI (by omega)]at b;cases b
 refine⟨f,?_⟩;by_cases hd:c<=d-a
 .have e:d-a+c-1=(d-(a+c)+c-1)+c:=by omega
  rw[e,E.add_div_right _ (by omega)]at b;omega
 rw[show d-(a+c)+c-1=c-1 by omega,aaI (by omega)];have e:d-a+c-1=(d-a-1)+c:=by omega
 rw[e,E.add_div_right _ (by omega),aaI (by omega)]at b;omega
section
variable{g:WD}{L:M}{t r v x O c N Q q T:E}{W:Xe}{U:E->XB}{y:E->Xk Xe->Xe->M->Prop}
def Eg(d c q:E)(y:E->Xk Xe->Xe->M->Prop)(cl:bE)(o:M):Prop:=∀e,e<d->e%c=q->∃b a,(e*10,b)∈cl/\(e*10+9,#[a])∈cl/\y e b a o
theorem zh(b:IU g z L r v x u d O c N Q q T W U y):∀cl(o:M) a,Eg d c q y cl {o with tape:=a}->Eg d c q y cl o:=λcl o a h e m n=>by obtain⟨p,f,i,k,l⟩:=h e m n;exact⟨p,f,i,k,b.Vf (c:={o with tape:=a}) (k:=o) A l⟩
structure TR(g:WD)(z:E->Prop)(L:M)(t r v x d c q:E)(y:E->Xk Xe->Xe->M->Prop)(n:E)(b:E×bE)(a:E)(cl:bE)(m:Ren)(o:M)(p H:Xu):Prop where
 inv:Inv TP aW z m o
 keep:∀b,z b->o.heap[b]?=L.heap[b]?
 size:L.heap.size<=o.heap.size
 len:p.tmps.size=41
 defs:p.defers=[]
 t1:p.tmps[1]?=C (pt t 0)
 t2:p.tmps[2]?=C (pt r 0)
 t3:p.tmps[3]?=C (pt v 0)
 t4:p.tmps[4]?=C (pt x 0)
 t5:p.tmps[5]?=C (Xd K a)
 rel:ar aW m ⟨[dcall 57 #[pt g.Wg 0]],[(4,pt g.gv 0)]⟩ p H
 hx:b=(2*n,cl)
 hr:n=wG d c a
 mod:a%c=q
 small:a<2^41
 cls:∀k∈cl,k.1+k.2.size<=a*10
 Ui:∀e,e<d->e%c=q->e<a->∃w i,(e*10,w)∈cl/\(e*10+9,#[i])∈cl/\y e w i o
theorem Cx{e a c:E}(d:e%c=a%c)(f:a<=e)(g:e<a+c):e=a:=by obtain⟨b,rfl⟩:∃b,e=a+b:=⟨e-a,by omega⟩;have h:=E.sub_mod_eq_zero_of_mod_eq d;simp_all [Q']
theorem Ek(i:IU g z L r v x u d O c N Q q T W U y)(m1:q<c)(p1:z t)(k4:∃i6 k0,L.heap[t]?=C (Xn #[Xd K q] i6 k0))(g9:Inv TP aW z m L)(h3:m x g.gv)(l8:g.ty=151)
 {g0 f9 f8:Xe}(i5:an aW m (pt t 0) g0)(i4:an aW m (pt r 0) f9)(i3:an aW m (pt v 0) f8):
 jx TP aW z (tW g) (kV TP g (Eg d c q y) T aW z (2*wG d c q) []) m L (born TP {target:=.fn (.func 56) #[pt g.Wg 0,g0,f9,f8,pt g.gv 0],args:=#[]}):=by
 show(iX TP g (Eg d c q y) (zh i) T aW z (2*wG d c q,[])).G m L _;refine Goal.pure _ A rfl (λg1=>vf Tryz.func56 (by decide) A) ?_;rw[enter_atD _ Tryz.func56 A]
 simp only[Tryz.ntmps56,Yt,Yl,Zd,E.reduceAdd,E.reduceSub,Zh,
  Zi,Zt,Zn,Zj,Yp]
 have i1:=aY (h:=aW) (m:=m)
 have f2:ar aW m ⟨[],[(0,pt g.Wg 0),(4,pt g.gv 0)]⟩ ⟨#[I,pt t 0,pt r 0,pt v 0,pt x 0,I,I,I,I,I,I,I,I,I,I,I,I,I,I,I,I,I,I,I,I,I,I,I,I,I,I,I,I,I,I,I,I,I,I,I,I],[]⟩ ⟨#[pt g.Wg 0,g0,f9,f8,pt g.gv 0,I,I,I,I,I,I,I,I,I,I,I,I,I,I,I,I,I,I,I,I,I,I,I,I,I,I,I,I,I,I,I,I,I,I,I,I],[]⟩:=by
  refine⟨?_,⟨[],A,.nil⟩,by simp⟩;refine aZ.arr (.cons (.bS trivial) (.cons i5 (.cons i4 (.cons i3 (.cons (.ptr ⟨h3,A,A⟩) ?_)))))
  repeat (first|exact .nil|refine .cons i1 ?_)
 generalize (⟨#[pt g.Wg 0,g0,f9,f8,pt g.gv 0,I,I,I,I,I,I,I,I,I,I,I,I,I,I,I,I,I,I,I,I,I,I,I,I,I,I,I,I,I,I,I,I,I,I,I,I],[]⟩:Xu)=H at f2⊢
 have o9:=i.Wu;have p0:=i.small;refine bz (eA ?_);refine Fc (by decide) ⟨_,A,A,A,A⟩ f2 A λj4 e5=>bP (bz ?_)
 have h2:H.eval (.tmp 0)=pt g.Wg 0:=by have:=f2.kn (0,pt g.Wg 0) (by simp);simp_all [cB]
 replace e5:ar aW m ⟨[dcall 57 #[pt g.Wg 0]],[(4,pt g.gv 0)]⟩ ⟨#[I,pt t 0,pt r 0,pt v 0,pt x 0,I,I,I,I,I,I,I,I,I,I,I,I,I,I,I,I,I,I,I,I,I,I,I,I,I,I,I,I,I,I,I,I,I,I,I,I],[]⟩ j4:=by simp only[Zb,YG,Zl,h2]at e5;exact e5.less A (by simp)
 obtain⟨p5,o2,k8⟩:=k4;refine bT gS (by decide) (by decide) (y:=[4]) A (by rfl) g9 e5 (λX a1=>X=⟨#[I,pt t 0,pt r 0,pt v 0,pt x 0,Xd K q,Xd K q,I,I,I,I,I,I,I,I,I,I,I,I,I,I,I,I,I,I,I,I,I,I,I,I,I,I,I,I,I,I,I,I,I,I],[]⟩/\a1.heap=L.heap) (λa5 Z _ _ _=>?_) (λX a1 a0 l _=>by rw[a0.2]) ?_
 .have h5:a5.cell? ⟨t,0,F⟩=C (Xd K q):=by simp_all [M.cell?]
  go_wp2
  exact⟨A,Z⟩
 rintro p9 _ n8 p8 h0 k2 i0⟨rfl,h7⟩;refine ie ?_
 refine qw (c:=λl=>iX TP g (Eg d c q y) (zh i) T aW z l) (λm4 l m o H=>∃p b cl,TR g z L t r v x d c q y m4 l b cl m o p H) ?_ ?_ (wG d c q) (a:=(2*wG d c q,[]))
  ⟨_,q,[],⟨h0,λl _=>by rw[h7],by simp_all,A,A,A,A,A,A,A,i0,A,A,Q' m1,by omega,by simp,λe f1 g5 h9=>by rw[Q' (by omega)]at g5;omega⟩⟩
 .clear i0 h0 h7 k2 e5 f2 h2 k8 i1 i5 i4 i3 h3 g9;rintro s m2 l m o H⟨p,b,cl,a⟩;obtain⟨h6,l6⟩:=Ks i.Vz a.hr.symm;obtain⟨e7,g2⟩:=p;have a2:=a.len;simp only at a2;obtain⟨a7,i7,i8,i9,j0,j1,d7,f5,f6,f7,f4,d8,d9,e0,e1,e2,e3,a8,a9,b0,b1,b2,b3,b4,b5,b6,b7,b8,b9,c0,c6,c7,c8,c9,d0,d1,d2,d3,d4,d5,d6,rfl⟩:=LJ a2;have hd:=a.defs;simp only at hd;subst hd;have q1:=a.t1;have n:=a.t2;have w:=a.t3;have a3:=a.t4;have a4:=a.t5;simp only[Yo,Yv,Yq,Yh]at q1 n w a3 a4;subst q1 n w a3 a4;have o8:(b:Xj)<d:=by omega
  obtain⟨m7,k1,g4⟩:=i.h3;refine bz (bz (bT gS (by decide) (by decide) (y:=[4]) A (by rfl) a.inv a.rel (λX a1=>X=⟨#[a7,pt t 0,pt r 0,pt v 0,pt x 0,Xd K b,d7,Xd K b,Xm (C ⟨N,Q,F⟩) d O,Xd K d,.bool J,d8,d9,e0,e1,e2,e3,a8,a9,b0,b1,b2,b3,b4,b5,b6,b7,b8,b9,c0,c6,c7,c8,c9,d0,d1,d2,d3,d4,d5,d6],[]⟩/\a1.heap=o.heap) (λa5 Z _ _ _=>?_) (λX a1 a0 l _=>by rw[a0.2]) ?_))
  .have h5:a5.cell? ⟨r,0,F⟩=C (Xm (C ⟨N,Q,F⟩) d O):=by simp[M.cell?,Z,a.keep r i.x3,g4]
   go_wp2
   exact⟨A,Z⟩
  rintro n1 _ h1 g8 e8 k3 e6⟨rfl,e4⟩;refine iO (k:=J) (iP e8.base e6 (by decide) A) (sq (bz (ie ?_)));obtain rfl:=a.hx
  refine OE (V:=⟨u,W,N,Q,d,O,b,g.gb,g.gv,U b⟩) i h6 a.mod A rfl rfl rfl (by decide+kernel) (λl2=>Hf (R:=26) A (by decide+kernel) l2) ⟨_,A,A,A,A⟩ ⟨_,A,A,A,A⟩ ⟨_,A,A,A,A⟩ ⟨_,A,A,A,A⟩ ⟨_,A,A,A,A⟩ ⟨_,A,A,A,A⟩ ⟨_,A,A,A,A⟩ ⟨_,A,A,A,A⟩ ⟨_,A,A,A,A⟩ ⟨_,A,A,A,A⟩ ⟨_,A,A,A,A⟩ ⟨_,A,A,A,A⟩ ⟨_,A,A,A,A⟩ ⟨_,A,A,A,A⟩ ⟨_,A,A,A,A⟩ ⟨_,A,A,A,A⟩ ⟨_,A,A,A,A⟩ ⟨_,A,A,A,A⟩ ⟨_,A,A,A,A⟩ ⟨_,A,A,A,A⟩ ⟨_,A,A,A,A⟩ ⟨_,A,A,A,A⟩ ⟨_,A,A,A,A⟩ ⟨_,A,A,A,A⟩ ⟨_,A,A,A,A⟩ ⟨_,A,A,A,A⟩ (s:=2*s) a.cls (f3:=#[]) (e1:=I) (L:=g8) (c:=g8) (h:=⟨#[a7,pt t 0,pt r 0,pt v 0,pt x 0,Xd K b,d7,Xd K b,Xm (C ⟨N,Q,F⟩) d O,Xd K d,.bool J,d8,d9,e0,e1,e2,e3,a8,a9,b0,b1,b2,b3,b4,b5,b6,b7,b8,b9,c0,c6,c7,c8,c9,d0,d1,d2,d3,d4,d5,d6],[]⟩) (z:=t)
   ⟨e8,λl g6=>by rw[e4,a.keep l g6],by rw[e4];exact a.size,A,A,A,A,A,A,A,λg3 l1 hd=>?_,e6,λa0=>absurd a0 (by decide),λj l3 a0=>?_,λ_ _=>rfl,XS _⟩ ?_
  .exfalso;have:g3.1∈([0,1,2,3,4,5,6,7,8,9,10,11,12,13,14,15,16,17,18,19,20,21,23,24]:Xg E):=YB.2 ⟨g3,l1,A⟩;generalize g3.1=n0 at hd this
   revert hd
   revert n0
   decide
  .exfalso;rcases l3 with rfl|rfl|rfl<;>exact absurd a0 (by decide)
  intro f3 e9 n2 m8 j5 j6 j8 k h4;obtain⟨e7,g2⟩:=j5;have a2:=k.len;simp only at a2;obtain⟨a7,i7,i8,i9,j0,j1,d7,f5,f6,f7,f4,d8,d9,e0,e1,e2,e3,a8,a9,b0,b1,b2,b3,b4,b5,b6,b7,b8,b9,c0,c6,c7,c8,c9,d0,d1,d2,d3,d4,d5,d6,rfl⟩:=LJ a2;have hd:=k.defs;simp only at hd;subst hd;have q1:=k.t1;have n:=k.t2;have w:=k.t3;have a3:=k.t4;have a4:=k.t5;simp only[Yo,Yv,Yq,Yh]at q1 n w a3 a4;subst q1 n w a3 a4
  have l9:ar aW n2 ⟨[dcall 57 #[pt g.Wg 0]],[(4,pt g.gv 0)]⟩ ⟨#[a7,pt t 0,pt r 0,pt v 0,pt x 0,Xd K b,d7,f5,f6,f7,f4,d8,d9,e0,e1,e2,e3,a8,a9,b0,b1,b2,b3,b4,b5,b6,b7,b8,b9,c0,c6,c7,c8,c9,d0,d1,d2,d3,d4,d5,d6],[]⟩ j6:=k.rel.less A (by
   intro i2 a6;simp only[YI]at a6;subst a6
   exact n_ _ (by simp))
  refine bP (BU ?_);obtain⟨p4,o1,k7⟩:=i.h2;obtain⟨n4,p6,o3,k9,k5,_⟩:=i.hc;refine bT gS (by decide) (by decide) (y:=[4]) A (by rfl) k.inv l9 (λX a1=>X=⟨#[a7,pt t 0,pt r 0,pt v 0,pt x 0,Xd K ((b+c:E):Xj),d7,f5,f6,f7,f4,Xd K b,pt u 0,pt u 0,pt u 1,Xd K c,Xd K ((b+c:E):Xj),a8,a9,b0,b1,b2,b3,b4,b5,b6,b7,b8,b9,c0,c6,c7,c8,c9,d0,d1,d2,d3,d4,d5,d6],[]⟩/\a1.heap=m8.heap) (λa5 Z _ _ _=>?_) (λX a1 a0 l _=>by rw[a0.2]) ?_
  .have o6:a5.cell? ⟨v,0,F⟩=C (pt u 0):=by simp[M.cell?,Z,k.keep v i.x2,k7]
   have o7:a5.cell? ⟨u,1,F⟩=C (Xd K c):=by simp[M.cell?,Z,k.keep u i.xc,k9,k5]
   go_wp2
   exact⟨A,Z⟩
  rintro n3 _ j7 m9 j2 o4 m0⟨rfl,f0⟩;refine m2 _ n3 m9 j7 ⟨_,b+c,cl++[(b*10,f3)]++[(b*10+9,#[e9])],⟨j2,λl g6=>by rw[f0,k.keep l g6],by rw[f0];exact k.size,A,A,A,A,A,A,A,m0,A,l6.symm,by rw[E.add_mod_right];exact a.mod,by omega,?_,?_⟩⟩
  .intro i2 a6;have l7:=(i.Vg _ _ _ _ h4).1;simp only[YC,YI]at a6;rcases a6 with(a6|rfl)|rfl
   .have:=a.cls i2 a6;omega
   .simp only[l7];omega
   grind
  intro e f1 h8 l4;by_cases h9:e<b
  .obtain⟨m5,j9,q1,n,w⟩:=a.Ui e f1 h8 h9;refine⟨m5,j9,by simp[q1],by simp[n],i.VS _ _ _ _ _ w (λR o5=>?_) ?_⟩
   .rw[f0,k.Uj R (by simp_all),e4]
   have:=k.TE;simp_all
  have:=Cx (by rw[h8,a.mod]) (by omega) l4;subst this;exact⟨f3,e9,by simp,by simp,i.Vf f0 h4⟩
 rintro l m o H⟨p,b,cl,a⟩;have h6:=Kt i.Vz a.hr.symm;obtain⟨e7,g2⟩:=p;have a2:=a.len;simp only at a2;obtain⟨a7,i7,i8,i9,j0,j1,d7,f5,f6,f7,f4,d8,d9,e0,e1,e2,e3,a8,a9,b0,b1,b2,b3,b4,b5,b6,b7,b8,b9,c0,c6,c7,c8,c9,d0,d1,d2,d3,d4,d5,d6,rfl⟩:=LJ a2;have hd:=a.defs;simp only at hd;subst hd;have q1:=a.t1;have n:=a.t2;have w:=a.t3;have a3:=a.t4;have a4:=a.t5;simp only[Yo,Yv,Yq,Yh]at q1 n w a3 a4;subst q1 n w a3 a4;obtain⟨m7,k1,g4⟩:=i.h3;refine bz (bz (bT gS (by decide) (by decide) (y:=[4]) A (by rfl) a.inv a.rel (λX a1=>X=⟨#[a7,pt t 0,pt r 0,pt v 0,pt x 0,Xd K b,d7,Xd K b,Xm (C ⟨N,Q,F⟩) d O,Xd K d,.bool Xf,d8,d9,e0,e1,e2,e3,a8,a9,b0,b1,b2,b3,b4,b5,b6,b7,b8,b9,c0,c6,c7,c8,c9,d0,d1,d2,d3,d4,d5,d6],[]⟩/\a1.heap=o.heap) (λa5 Z _ _ _=>?_) (λX a1 a0 l _=>by rw[a0.2]) ?_))
 .have h5:a5.cell? ⟨r,0,F⟩=C (Xm (C ⟨N,Q,F⟩) d O):=by simp[M.cell?,Z,a.keep r i.x3,g4]
  go_wp2
  exact⟨by simp_all,Z⟩
 rintro n1 _ h1 g8 e8 k3 e6⟨rfl,e4⟩;refine iO (k:=Xf) (iP e8.base e6 (by decide) A) (sb A ?_);refine Goal.pure _ A rfl (λg1=>by rw[bu A];simp[stepG.exec,Frame.at,rg];rfl) ?_;obtain⟨e7,n9⟩:=h1;obtain⟨j8,l0,l5⟩:=e6.defers;cases l5;subst l0;obtain rfl:=a.hx;refine .stop ⟨A,⟨24,λg1 k=>?_⟩,?_⟩
 .have k6:QuitsD TP 2 0 (rg {(baseD 56).at ⟨e7,[]⟩ []with mode:=.returning} [dx TP]):=yj (l:=[]) A Tryz.func56 A;have hd:=Go.SimW.QH (P:=TP) (L:=kP) IG (f:=g.Wg) (l:={(baseD 56).at ⟨e7,[]⟩ []with mode:=.returning}) (d:=[dx TP]) A k6;rw[l8]at k⊢
  refine Go.SimW.eg (P:=TP) (main:=Xf) (i:=151) (f:=g.Wg) (e:=23) A (λo _=>?_) hd g1 k;rfl
 intro e f1 g5;obtain⟨f3,e9,q1,n,w⟩:=a.Ui e f1 g5 (by omega);exact⟨f3,e9,q1,n,i.Vf e4 w⟩
end
variable{d:Xr}{a:Xu}{f:Xg Item}{e:Xg Xr}{h:E}{g:Xk Xe}
theorem QO(a:M)(b:Xk XF):(zeroValue 151).runT TP a b=(.ok (.agg #[.int .u64 0,.int .u32 0]) a,b):=by
 refine V_ ?_ ?_
 .go_simp
 simp[go_sem]
theorem LI(a:M):(Instr.alloc 151 J (.tuple #[])).runT TP a #[]=(.ok (XA (C ⟨a.heap.size,0,F⟩)) {a with heap:=a.heap.push (Go.ConcR.wgBlock 151 0 0)},#[]):=by show Xz.runT TP ((zeroValue 151).bind _) a #[]=_;rw[Go.Sem.runT_bind',QO];rfl
section
variable{main:Xo}
theorem Ez(p:d.kind≠.early)(r:bN D h (C j) (.alloc 151))(q:∀fn,TP.funcs[d.fn]?=C fn->fn.norace=Xf)(b:M):
 stepG TP main (rg (d.at a (Xv D (h::rest)::f)) e) b=.go (rg (d.at (a.put (C j) (pt b.heap.size 0)) (Xv D rest::f)) e) {b with heap:=b.heap.push (Go.ConcR.wgBlock 151 0 0)}:=by
 obtain⟨⟨t,v,m,l,g,u⟩,n,i,k,o⟩:=r;subst i k o
 have c:(execOp a.eval ⟨C j,.alloc 151,m,l,g,F⟩).runT TP b #[]=(.ok (.value (pt b.heap.size 0)) {b with heap:=b.heap.push (Go.ConcR.wgBlock 151 0 0)},#[]):=by show Xz.runT TP ((Instr.alloc 151 J (.tuple #[])).bind _) b #[]=_;rw[Go.Sem.runT_bind',LI];rfl
 have i:(execOp a.eval ⟨C j,.alloc 151,m,l,g,F⟩).run TP b=.ok (.value (pt b.heap.size 0)) {b with heap:=b.heap.push (Go.ConcR.wgBlock 151 0 0)}:=by rw[s_]at c;exact(t_ c).1
 have k:(execOp a.eval ⟨C j,.alloc 151,m,l,g,F⟩).events TP b #[]=#[]:=by rw[s_]at c;exact(t_ c).2
 have:=Go.Conc.stepG_value (P:=TP) (main:=main) (a:=a) (b:=d) (k:=f) (cs:=e) (rest:=rest) n A p i;refine abr this ?_;rw[listed,k,seen_cells q (by simp)];rfl
theorem go_step{c:XI}(t:d.kind≠.early)(v:bN D h F (.go {callee:=.value (.tmp j),args:=#[],argTypes:=#[]}))(u:∀fn,P.funcs[d.fn]?=C fn->fn.norace=Xf)(s:a.tmps[j]?=C (.func (.func c) #[] g))(b:M):
 stepG P main (rg (d.at a (Xv D (h::rest)::f)) e) b=.spawn (rg (d.at a (Xv D rest::f)) e) (born P {target:=.fn (.func c) g,args:=#[]}) b #[]:=by
 obtain⟨⟨H,O,x,w,p,L⟩,q,k,l,r⟩:=v;subst k l r;have N:a.eval (.tmp j)=.func (.func c) #[] g:=by simp[Act.eval,s]
 have m:(execOp a.eval ⟨F,.go {callee:=.value (.tmp j),args:=#[],argTypes:=#[]},x,w,p,F⟩).runT P b #[]=(.ok (.spawn {target:=.fn (.func c) g,args:=#[]}) b,#[]):=by simp_all [execOp,resolve,Deferred.ofValue]
 rw[s_]at m;have k:=(t_ m).1;have l:=(t_ m).2;have:=Go.Conc.stepG_spawn (P:=P) (main:=main) (a:=a) (b:=d) (k:=f) (cs:=e) (rest:=rest) q A t k A;refine abr this ?_;rw[listed,l,seen_cells u (by simp)];rfl
end
variable{h:Set}{f:E->Prop}{b:M}{a:E}{c:Xp Xw}{d:Xg Xr}
def tl:XG->XG
 |.seq _ b=>b
 |a=>a
def hd:XG->XG
 |.seq b _=>b
 |a=>a
noncomputable def lH:XG:=(Tryz.f39.body).getD .skip
def tc(u d e f g a b:E)(c:Xp Xw):Xu:=⟨#[pt u 0,.slice c a b,pt d 0,pt e 0,pt f 0,I,I,I,I,.slice c a b,Xd K a,Xm (C ⟨g,0,F⟩) a a,I,I,I,I,I,I,I,I,I,I,I,I,I,I,I,I,I,I,I,I,I,I,I,I,I,I,I,I,I,I,I],[]⟩
theorem bY{a:Xk Obj}{d:Obj}{b:E}(c:b<a.size):(a.push d)[b]?=a[b]?:=by rw[J' c,XP c]
theorem yW(c:Inv P h f m b){a:E}(e:f a):a<b.heap.size:=by obtain⟨g,d,_⟩:=c.cO a e;exact(XN.1 d).1
theorem PY(a:E)(k:a<2^30)(b:M):∃cl:Xk Xe,cl.size=a*10/\(Instr.makeSlice 141 (Xd K a) (Xd K a)).run TP b=.ok (Xm (C ⟨b.heap.size,0,F⟩) a a) (b.alloc (.cells cl 158)):=by
 obtain⟨c,f,i,g,d,h⟩:∃c,TP.info? 158=C c/\c.bytes<=1000/\c.size=10/\∃d,c.zero=C d:=by refine⟨_,A,by decide,A,_,A⟩
 have e:=Go.run_make (P:=TP) b 141 158 c d A f h K K a a (by omega) (Int.le_refl _) (by
  have:(c.bytes:Xj)*a<=1000*a:=Xj.mul_le_mul_of_nonneg_right (by omega) (by omega)
  omega) (by omega)
 simp only[Xj.toNat_natCast]at e;exact⟨_,by rw[size_madeCells,g],e⟩
theorem Tj{R:Goal TP al J f}{g:E}{i:Xk Xe}{S:Xr}(a3:a<2^30)
 (l:Inv TP al f m b)(o:aw al m #[pt u 0,.slice c a g] i)
 (next:∀r e x,Inv TP al f r e->cV f m b r e->ar al r ⟨[],[]⟩ (tc u b.heap.size (b.heap.size+1) (b.heap.size+3) (b.heap.size+2) a g c) x->
   (∃cl:Xk Xe,cl.size=a*10/\e.heap=(((b.heap.push (.cells #[pt u 0] 76)).push (.cells #[.slice c a g] 103)).push (.cells cl 158)).push (.cells #[Xm (C ⟨b.heap.size+2,0,F⟩) a a] 141))->
   R.G r e (rg ((base 39).at x [.code (tl (tl lH))]) (S::d))):R.G m b (rg (Frame.enter TP 39 i .normal) (S::d)):=by
 have y:Frame.enter TP 39 i .normal=(base 39).at ⟨i++Array.replicate (43-i.size) I,[]⟩ [.code lH]:=by simp[Frame.enter,Frame.at,base,Tryz.func39];rfl
 rw[y];obtain⟨p,q,rfl⟩:∃p q,i=#[p,q]:=by have:=o.1;simp at this;exact⟨i[0],i[1],by apply aaj (by simp[<-this]);intro W b1 a1;simp at a1;rcases(by omega:W=0\/W=1)with rfl|rfl<;>simp⟩
 have N:an al m (pt u 0) p:=o.2 0 _ _ A rfl;have O:an al m (.slice c a g) q:=o.2 1 _ _ A rfl;have H:=aY (h:=al) (m:=m)
 simp only[Yt,Yl,Zd,E.reduceAdd,E.reduceSub,Zh,
  Zi,Zt,Zn,Zj,Yp]
 have t:ar al m ⟨[],[]⟩ ⟨#[pt u 0,.slice c a g,I,I,I,I,I,I,I,I,I,I,I,I,I,I,I,I,I,I,I,I,I,I,I,I,I,I,I,I,I,I,I,I,I,I,I,I,I,I,I,I,I],[]⟩ ⟨#[p,q,I,I,I,I,I,I,I,I,I,I,I,I,I,I,I,I,I,I,I,I,I,I,I,I,I,I,I,I,I,I,I,I,I,I,I,I,I,I,I,I,I],[]⟩:=by
  refine⟨?_,⟨[],A,.nil⟩,by simp⟩;refine aZ.arr (.cons N (.cons O ?_))
  repeat (first|exact .nil|refine .cons H ?_)
 generalize (⟨#[p,q,I,I,I,I,I,I,I,I,I,I,I,I,I,I,I,I,I,I,I,I,I,I,I,I,I,I,I,I,I,I,I,I,I,I,I,I,I,I,I,I,I],[]⟩:Xu)=x at t⊢
 refine bz (bT aC (by decide) (by decide) (y:=[]) A (by decide+kernel) l t (λn e=>n=⟨#[pt u 0,.slice c a g,pt b.heap.size 0,pt (b.heap.size+1) 0,I,I,I,I,I,I,I,I,I,I,I,I,I,I,I,I,I,I,I,I,I,I,I,I,I,I,I,I,I,I,I,I,I,I,I,I,I,I,I],[]⟩/\e.heap=(b.heap.push (.cells #[pt u 0] 76)).push (.cells #[.slice c a g] 103)) (λv k _ _ _=>?_) ?_ ?_)
 .clear next o y t N O H l
  go_wp2
  exact⟨by simp[k],by simp[World.alloc,k]⟩
 .rintro n e⟨_,z⟩ a7 L;have:=yW l L;rw[z,bY (by simp;omega),bY this]
 rintro r _ a9 e Q T U⟨rfl,s⟩;refine bz (bT aC (by decide) (by decide) (y:=[]) A (by decide+kernel) Q U (λn w=>n=tc u b.heap.size (b.heap.size+1) (b.heap.size+3) (b.heap.size+2) a g c/\∃cl:Xk Xe,cl.size=a*10/\w.heap=((e.heap.push (.cells cl 158)).push (.cells #[Xm (C ⟨b.heap.size+2,0,F⟩) a a] 141))) (λv k _ _ _=>?_) ?_ ?_)
 .have b0:v.cell? ⟨b.heap.size+1,0,F⟩=C (.slice c a g):=by simp[M.cell?,k,s,Xk.getElem_push]
  have a4:v.heap.size=b.heap.size+2:=by rw[k,s];simp
  clear next o y t U N O H l Q T
  go_wp2
  obtain⟨cl,D,a2⟩:=PY a a3 v;rw[a2]
  go_wp2
  exact⟨A,cl,D,by simp[World.alloc,k]⟩
 .rintro n w⟨_,cl,_,z⟩ a7 L;have a4:e.heap.size=b.heap.size+2:=by rw[s];simp
  have:=yW l L;rw[z,bY (by simp;omega),bY (by omega)]
 rintro a8 _ Y w X Z a5⟨rfl,cl,D,a0⟩;exact next a8 w Y X (T.trans Z) a5 ⟨cl,D,by rw[a0,s]⟩
end
end Go.Sim
namespace Go.Sim
open Go.Conc Go.Proofs Go.RowKit
open Go.ConcN (PermW PermW.app PermW.of fork_knows WgLive RelBy sumTo)
open Go.ConcR (KK wgBlock WgAt stA smA rd wr mk DC0)
open Go.ConcR.Gen Go.ConcN.Gen Go.Conc.Lib
variable{P:Xy}{h:Set}{f:E->Prop}{m:Ren}{l:M}{d:Xr}{n:Xg Xr}{q:Xu}{c:Xu}{g:Xg Item}{p:E}{rest:Xg E}{D:Xk Oper}{j:E}{r:Xe}{X:E->Prop}{z:dB}
section
variable[Inhabited aM]
section
variable{Sp:Set}{main:Xo}{s:Goal P h main f}{β':Ren}
variable{t:Rt}
theorem Px(R:Good P h)(Z:h.fr d.fn=J)(a0:d.kind≠.early){k:Xg Oper}{N:Xg E}(a1:t.kn.map (·.1)=N)(a3:lT P h N k.toArray=J)(a2:P.follows .mixedOrders=J)(H:Region.lexB .any k.toArray=J){id:E}(S:Inv P h f m l)(a4:ar h m t q c)(x:Xu->Prop)
 (i:∀O:M,O.heap=l.heap->wpQuiet P k.toArray (λv=>∃u,v=O.drewN u) x k q)
 (next:∀w b y a,Inv P h f w a->cV f m l w a->ar h w t b y->x b->a.heap=l.heap->s.G w a (rg (d.at y g) n)):s.G m l (rg (d.at c (.code (.region id k.toArray J)::g)) n):=by
 refine MJ (o:=λb a=>x b/\a.heap=l.heap) (ot R Z a0 (nf a1 a3) a2 (i:=λb a=>x b/\a.heap=l.heap) (λL=>?_) (λb a i o _=>by rw[i.2]) λb a i=>i) S a4 λw b y a U Y a5 i=>next w b y a U Y a5 i.1 i.2
 simp only[Region.lexB,Yg]at H;refine wpAny_of_quiet (C:=λv=>∃u,v=({l with tape:=L}:M).drewN u) (Q:=x) (λq v a6 i=>?_) _ _ _ _ ⟨0,A⟩ ?_
 .obtain⟨u,rfl⟩:=a6;exact⟨i,A⟩
 have:=wpAnyQ_lex (C:=λv=>∃u,v=({l with tape:=L}:M).drewN u) (md:=.any) H.1 k 0 (Array.replicate k.toArray.size Xf) q (by simp) (by simpa using H.2) (i {l with tape:=L} A);simpa using this
theorem vx{v:Xp Tmp}{b:XI}{e:Xk XJ}{t:Xk Xq}{fn:Func}{u:XG}(y:d.kind≠.early)(H:bN D p v (.call {callee:=.value (.func b),args:=e,argTypes:=t}))
 (r:P.funcs[b]?=C fn)(z:(fn.name== "runtime.NumGoroutine")=Xf)(o:fn.body=C u)(a:M):
 stepG P main (rg (d.at c (Xv D (p::rest)::g)) n) a=.go (rg (Frame.enter P b (e.map c.eval) .normal) (d.at c (Xv D (p::rest)::g)::n)) a:=by
 obtain⟨⟨Q,S,U,T,R,f⟩,x,i,k,m⟩:=H;simp only at i k m;subst i k m
 have:=goes_call (P:=P) (main:=main) (w:=a) (cs:=n) (k:=g) (rest:=rest) (a:=c) (b:=d) (K:=λf l h=>f=rg (Frame.enter P b (e.map c.eval) .normal) (d.at c (Xv D (p::rest)::g)::n)/\l=a/\h=#[]) x A y A r z o ⟨by simp[G,rg,Frame.enter,Frame.at,base,r,o],A,A⟩
 obtain⟨f,l,h,w,rfl,rfl,rfl⟩:=aaG this;exact w
theorem ar.Ni{k:Xe}(b:ar h m t q c)(u:c.tmps[j]?=C k)(w:an h m r k):ar h m t (q.put (C j) r) c:=by
 have y:=(XN.1 u).1;refine⟨⟨by simp[Act.put,b.tmps.1],λp o x a i=>?_⟩,b.defers,b.kn⟩;simp only[Act.put]at a;rw[YO]at a;by_cases v:j=p
 .subst v;rw[XC A]at a;split at a
  .cases a;rw[u]at i;cases i;exact w
  cases a
 rw[Xx v]at a;exact b.tmps.2 p o x a i
theorem ar.part(a:ar h m t q c)(hd:q.defers=[])(i:∀(p:E) o,q.tmps[p]?=C o->aR X o\/bO o)(b:∀o T,X o->m o T->β' o T):ar Sp β' t (Act.jk X q) c:=by have:=(a.jk (Sp:=Sp) hd i).mono (β₁:=β') λo T a=>b o T a.1 a.2;exact this
theorem aR.mono{v:E->Prop}(k:∀q,X q->v q)(a:aR X r):aR v r:=by
 induction a with
 |bS=>exact .bS
 |bool d=>exact .bool d
 |int g b=>exact .int g b
 |string w=>exact .string w
 |cG=>exact .cG
 |ptr a=>exact .ptr (k _ a)
 |aO b i=>exact .aO b i
 |slice a b i=>exact .slice (k _ a) b i
 |iface x _ u=>exact .iface x u
 |nilIface=>exact .nilIface
 |agg _ u=>exact .agg u
 |map a=>exact .map (k _ a)
 |ft=>exact .ft
 |ed=>exact .ed
 |nilFunc=>exact .nilFunc
end
section
variable{s:cZ}{e:dm}{t:Rt}{o T:XJ}
theorem Ps(r:Xe):Frame.enter TP 55 #[r,Xd K 1] .normal=(base 55).at ⟨#[r,Xd K 1,I,I,I,I,I,I,I,I,I,I,I,I,I,I,I,I,I,I,I,I,I,I,I,I,I,I,I,I,I,I,I,I,I,I,I,I,I,I,I,I,I,I,I,I,I,I,I,I,I,I,I,I,I,I,I,I,I,I,I,I,I,I,I,I,I,I,I,I,I,I,I,I,I,I,I,I,I,I,I,I,I,I,I,I,I,I,I,I,I,I,I,I,I,I,I,I,I,I,I,I,I,I,I,I,I,I,I,I,I,I,I,I,I,I,I],[]⟩ [.code (body_add kP)]:=by
 have a:Frame.enter TP 55 #[r,Xd K 1] .normal=(base 55).at ⟨#[r,Xd K 1]++Array.replicate (117-2) I,[]⟩ [.code (body_add kP)]:=by simp[Frame.enter,Frame.at,base,Tryz.func55];rfl
 rw[a];simp only[E.reduceSub,Zh,Zi,Zt,Zn,Zj,Yp]
theorem Pt(r:Xe):Frame.enter TP 59 #[r] .normal=(base 59).at ⟨#[r,I,I,I,I,I,I,I,I,I,I,I,I,I,I,I,I,I,I,I,I,I,I,I,I,I,I,I,I,I,I,I,I,I,I,I,I,I,I,I,I,I,I,I,I,I,I,I,I,I,I,I,I,I,I,I,I,I,I,I,I,I,I,I,I,I,I,I,I,I,I,I,I,I,I,I,I,I,I,I,I,I,I,I],[]⟩ [.code (body_wait kP)]:=by
 have a:Frame.enter TP 59 #[r] .normal=(base 59).at ⟨#[r]++Array.replicate (84-1) I,[]⟩ [.code (body_wait kP)]:=by simp[Frame.enter,Frame.at,base,Tryz.func59];rfl
 rw[a];simp only[E.reduceSub,Zh,Zi,Zt,Zn,Zj,Yp]
theorem LC(S:d.kind≠.early)(y:bN D p (C j) (.call {callee:=.value (.func 55),args:=#[o,T],argTypes:=#[151,3]}))(i:c.eval o=pt e.D.Wg 0)(a0:c.eval T=Xd K 1)(Z:e.wt=0)(U:e.pend=0)(Y:e.D.ty=151)
 (Q:t.free (C j)=J)(W:ar h m t q c)
 (next:∀u,ar h m t (q.put (C j) (.tuple #[])) u->(goalAt TP s (C {e with pend:=1}) z h f).G m l (rg (d.at u (Xv D rest::g)) n)):
 (goalAt TP s (C e) z h f).G m l (rg (d.at c (Xv D (p::rest)::g)) n):=by
 refine Goal.pure _ A rfl (λa=>vx S y Tryz.func55 (by decide) A a) ?_;have L:#[o,T].map c.eval=#[pt e.D.Wg 0,Xd K 1]:=by simp[i,a0]
 rw[L,Ps];obtain⟨b0,N,O,a7,a8⟩:=y;intro v w a sl H k b;have R:G (d.at (c.put ((D[p]?).bind (·.dst)) (.tuple #[])) (Xv D rest::g)) n=rg (d.at (c.put (C j) (.tuple #[])) (Xv D rest::g)) n:=by rw[N];simp only[ZO,O];rfl
 refine No (d:=e) (u:=rg (d.at (c.put (C j) (.tuple #[])) (Xv D rest::g)) n) (s:=20) A Z U A (λa x=>?_) (λv w a sl H k b=>next _ (W.put _ Q (.tuple A λp o b1 i _=>by simp at i)) v w a sl H k b) b;have:=Go.SimW.Tx (P:=TP) (L:=kP) (a:=e.D.Wg) IG R;rw[Y]at x⊢
 exact this a x
theorem KO(a3:d.kind≠.early)(N:bN D p (C j) (.call {callee:=.value (.func 59),args:=#[o],argTypes:=#[151]}))(a6:c.eval o=pt e.D.Wg 0)(a5:e.wt=0)(a4:e.pend=0)(O:e.D.ty=151)
 (a0:∀b i a k u w,dG (aj TP s) 0 b i a k u ⟨h,m,l,f,F⟩ w->rQ TP s e b i a k u ⟨h,m,l,f,F⟩->∃x β' H y,dG (aj TP s) 0 b i a k x ⟨h,β',H,y,F⟩ w/\
   (goalAt TP s F z h y).G β' H (rg (d.at (c.put (C j) (.tuple #[])) (Xv D rest::g)) n)):
 (goalAt TP s (C e) z h f).G m l (rg (d.at c (Xv D (p::rest)::g)) n):=by
 refine Goal.pure _ A rfl (λa=>vx a3 N Tryz.func59 (by decide) A a) ?_;have S:#[o].map c.eval=#[pt e.D.Wg 0]:=by simp[a6]
 rw[S,Pt];obtain⟨c6,W,Y,b6,b7⟩:=N;intro b i a sl k u v;have a2:G (d.at (c.put ((D[p]?).bind (·.dst)) (.tuple #[])) (Xv D rest::g)) n=rg (d.at (c.put (C j) (.tuple #[])) (Xv D rest::g)) n:=by rw[W];simp only[ZO,Y];rfl
 refine JU (d:=e) (Q:=rg (d.at (c.put (C j) (.tuple #[])) (Xv D rest::g)) n) (s:=6) (a3:=Go.SimW.GI kP e.D.Wg (d.at c (Xv D (p::rest)::g)) n) A a5 a4 A ?_ (λa L=>?_) (λU l a1=>⟨30,?_⟩) (λb i a k u w v Z=>?_) v
 .rintro U l⟨e,rfl,_⟩;rfl
 .have:=Go.SimW.QI (P:=TP) (L:=kP) (h:=e.D.Wg) (l:=d) (k:=c) (q:=D) (r:=p) (t:=rest) (s:=g) (a:=n) IG;rw[O]at L⊢
  exact this a L
 .have:=Go.SimW.OF (P:=TP) (L:=kP) (h:=e.D.Wg) IG a2 a1;rw[O];exact this
 obtain⟨x,β',H,y,a7,a8⟩:=a0 b i a k u w v Z;exact⟨x,_,a7,λb i a sl k u v=>a8 b i a sl k u v⟩
end
end
end Go.Sim
namespace Go.Sim
open Go.Conc Go.Proofs Go.RowKit
open Go.ConcN (PermW PermW.app PermW.of fork_knows WgLive RelBy sumTo)
open Go.ConcR (KK wgBlock WgAt stA smA rd wr mk DC0)
variable{R:E->Prop}{b:Xu}{H:Xe}{z:dB}{f:E->Prop}{m:Ren}{d:M}{i:E}{T:Xg Xr}{y:Xg Item}{x:Xu}
section
variable[Inhabited aM]
theorem uU{a7:Type}{b:Xk a7}(a:b.size=43):∃d e q H Y a2 a3 a4 a5 a6 f g h i k l m n o p r s t u v w x y z D L N O Q R S T U W X Z a0 a1,b=#[d,e,q,H,Y,a2,a3,a4,a5,a6,f,g,h,i,k,l,m,n,o,p,r,s,t,u,v,w,x,y,z,D,L,N,O,Q,R,S,T,U,W,X,Z,a0,a1]:=by
 obtain⟨c⟩:=b
 iterate 43
  rcases c with _|⟨_,c⟩
  simp at a
 obtain rfl:=YR.1 (by simpa using a)
 grind
def RH(p:E->LR)(a:E)(y:E)(c:Xk Xe)(b:Xe)(d:M):Prop:=cf (p y) a c d/\b=(p y).ev
def If(i o g a b:E):Prop:=g<=a/\b<i*10/\b/10%o=a-g
def BN(p:E->LR)(a i o g:E):Fin:=λb cl d=>Eg i o (b-g) (RH p a) cl d
def Rn(p:E->LR)(b:E)(e:WD)(i o g a:E):dm:=⟨e,0,0,a,g,g+a,BN p b i o g⟩
structure Ph(u:cZ)(f c t:E->Prop)(m:Ren)(d O:M)(e:WD)(p:E->LR)(D q Q r S s L N i o g:E):Prop where
 h0:aV al m d O
 inv:Inv TP al f m d
 x0:jw c d
 WE:∀b,c b->∀U y,d.heap[b]?≠C (.map U y)
 xw:jw t d
 xg:∀k,(0<k\/k=TP.globals.size)->k<=TP.globals.size->c k/\t k
 nb:zp (λb=>t b/\¬c b) d
 VP:∀b,f b->c b
 hK:kg u f
 lb:RA m
 Vt:e.ty=151
 Wp:e.gv=s
 Vq:e.gb=N
 Ua:e.yA=158
 Wo:e.gn=i*10
 Vs:e.gh=Fe m N O
 Vp:e.g0=C O
 xn:m L N
 AZ:∃cl n,d.heap[L]?=C (Xn cl 158 n)/\n.1=n.2
 Uh:¬c L
 Wq:¬t L
 KW:m S s
 Xc:t S
 Xa:c D/\t D
 Xb:c Q/\t Q
 mine:∀b v,m b v->∀w,az w v->¬f b->¬sY u (λ_=>.ro) w
 small:i<2^20
 Ib:1<=o/\o<2^16
 ev:∀y,y<i->Plain (p y).ev
 Sz:m D q
 SA:m Q r
 walk:∀a l,a<o->a<i->Base TP (nt t m d.heap.size l)->
  jx TP aW (KZ t d.heap.size) (tW e) (kV TP e (BN p d.heap.size i o g (g+a)) (g+a) aW (KZ t d.heap.size) (2*wG i o a) []) (nt t m d.heap.size l) (dJ t d (Xd K a) 3)
   (born TP {target:=.fn (.func 56) #[pt e.Wg 0,pt l 0,pt r 0,pt q 0,pt e.gv 0],args:=#[]})
structure WK(c:E->Prop)(D h k:E)(b:Xu):Prop where
 size:b.tmps.size=43
 defs:b.defers=[]
 Wx:b.tmps[18]?=C (Xd K h)
 Wy:b.tmps[19]?=C (Xd K k)
 all:∀(j:E) a,b.tmps[j]?=C a->aR c a\/bO a
def qG(e:WD)(s r q:E):Xg (E×Xe):=[(5,pt e.Wg 0),(4,pt s 0),(3,pt r 0),(2,pt q 0)]
theorem im{k:Xp Tmp}(l:∀(j:E) a,b.tmps[j]?=C a->aR R a\/bO a)(v:aR R H\/bO H):∀(j:E) a,(b.put k H).tmps[j]?=C a->aR R a\/bO a:=by
 intro j a n;cases k with
 |none=>exact l j a n
 |some w=>grind [Act.put]
theorem wj:∀fn,TP.funcs[(base 39).fn]?=C fn->fn.norace=Xf:=λfn a=>by have:TP.funcs[39]?=C fn:=a;cases this;rfl
noncomputable def Nn:XG:=hd (tl (tl (tl lH)))
section
variable{u:cZ}{c t:E->Prop}{O:M}{e:WD}{p:E->LR}{D q Q r S s L N o g h:E}
noncomputable abbrev Re(u:cZ)(z:dB)(c:E->Prop)(p:E->LR)(d:M)(e:WD)(i o g a:E):Goal TP al J c:=goalAt TP u (C (Rn p d.heap.size e i o g a)) z al c
structure Lk(f c:E->Prop)(m:Ren)(d:M)(e:WD)(q r s D h n:E)(a:Ren)(k:M)(b x:Xu):Prop where
 inv:Inv TP al c a k
 grow:cV c (λb l=>c b/\m b l) (cP c d) a k
 Ih:WK c D h n b
 rel:ar al a ⟨[],qG e s r q⟩ b x
theorem Kz(k:Ph u f c t m d O e p D q Q r S s L N i o g)(n1:h<=o/\h<=i){j5:XG}(k3:(.block 0 (.loop j5):XG)=tl Nn)
 (last:∀e0 d7 b x,Lk f c m d e q r s D h h e0 d7 b x->(Re u z c p d e i o g h).G e0 d7 (rg ((base 39).at x y) T)){e0:Ren}{d7:M}(l:Lk f c m d e q r s D h 0 e0 d7 b x):
 (Re u z c p d e i o g 0).G e0 d7 (rg ((base 39).at x (.code (tl Nn)::y)) T):=by
 show(Re u z c p d e i o g 0).G e0 d7 (rg ((base 39).at x (.code (.block 0 (.loop _))::y)) T);refine ie ?_;refine qw (c:=λa=>Re u z c p d e i o g a) (λh9 a e0 d7 x=>h9+a=h/\∃b,Lk f c m d e q r s D h a e0 d7 b x) ?_ ?_ h (a:=0) ⟨by omega,b,l⟩
 .clear l;rintro h9 h8 a e0 d7 x⟨k5,b,l⟩;obtain⟨i4,h0⟩:=b;have f6:=l.Ih.size;simp only at f6;obtain⟨w,U,a4,b2,c8,d2,f2,d3,d4,d5,W,X,Y,Z,a0,a1,a2,a3,i5,i6,g6,f1,a5,a6,d6,a7,a8,a9,b0,b1,b3,b4,b5,b6,b7,b8,b9,c0,c6,c7,c9,d0,d1,rfl⟩:=uU f6;have hd:=l.Ih.defs;have e9:=l.Ih.Wx;have f0:=l.Ih.Wy;simp only[Yo,Yv,Yq,Yh]at e9 f0 hd;subst e9 f0;have hd:=hd;subst hd;have f5:=l.Ih.all;have k6:(a:Xj)<h:=by omega
  refine bz (bT aC (by decide) (by decide) (y:=[5,4,3,2]) A (by rfl) l.inv l.rel (λd9 n=>d9=⟨#[w,U,a4,b2,c8,d2,f2,d3,d4,d5,W,X,Y,Z,a0,a1,a2,a3,Xd K h,Xd K a,.bool J,f1,a5,a6,d6,a7,a8,a9,b0,b1,b3,b4,b5,b6,b7,b8,b9,c0,c6,c7,c9,d0,d1],[]⟩/\n.heap=d7.heap) (λg7 e3 _ _ _=>?_) (λd9 n l v _=>by rw[l.2]) ?_)
  .go_wp2
   exact⟨by simp[k6],e3⟩
  rintro i8 _ g9 n e4 e7 e5⟨rfl,h3⟩;refine bz (iO (k:=J) (iP e4.base e5 (by decide) A) (sq (bz (ie (bz ?_)))));refine bT aC (by decide) (by decide) (y:=[5,4,3,2]) A (by rfl) e4 e5 (λd9 i7=>d9=⟨#[w,U,a4,b2,c8,d2,pt n.heap.size 0,d3,d4,d5,W,X,Y,Z,a0,a1,a2,a3,Xd K h,Xd K a,.bool J,Xd K a,a5,a6,d6,a7,a8,a9,b0,b1,b3,b4,b5,b6,b7,b8,b9,c0,c6,c7,c9,d0,d1],[]⟩/\i7.heap=n.heap.push (.cells #[Xd K a] 3 (0,0))) (λg7 e3 _ _ _=>?_) ?_ ?_
  .clear h8 l f5 last k3 k hd h3 e5 e4 e7
   go_wp2
   exact⟨A,by simp[World.alloc,e3]⟩
  .grind [yW]
  rintro i9 _ l5 i7 j0 j7 h5⟨rfl,m9⟩;refine bz (eA ?_)
  have m5:∀{v:E},c v->v<d.heap.size:=λe6=>by rcases k.x0 _ e6 with⟨_,_,_,i2,_⟩|⟨_,_,i2,_⟩<;>exact(XN.1 i2).1
  have h1:=(l.grow.trans e7).trans j7;have n3:d.heap.size<=n.heap.size:=by have:=(l.grow.trans e7).size;simp_all [dh]
  have k1:∀(j:E) v,(⟨#[w,U,a4,b2,c8,d2,pt n.heap.size 0,d3,d4,d5,W,X,Y,Z,a0,a1,a2,a3,Xd K h,Xd K a,.bool J,Xd K a,a5,a6,d6,a7,a8,a9,b0,b1,b3,b4,b5,b6,b7,b8,b9,c0,c6,c7,c9,d0,d1],[]⟩:Xu).tmps[j]?=C v->aR c v\/bO v:=
   im (k:=C 6) (H:=pt n.heap.size 0) (im (k:=C 21) (H:=Xd K a) (im (k:=C 20) (H:=.bool J) f5 (Xh (.bool J))) (Xh (.int _ _))) (Xi (show bO (pt n.heap.size 0)from trivial))
  refine LC (e:=Rn p d.heap.size e i o g a) (by decide) ⟨_,A,A,A,A⟩ (by simp[Act.eval,(h5.kn (5,pt e.Wg 0) (by simp[qG])),Rn]) A rfl rfl k.Vt A h5 λf9 f7=>?_;refine bP (eA ?_);have f8:=f7.kn
  obtain⟨d8,h2,j9⟩:∃d8,i9 n.heap.size d8/\f9.tmps[6]?=C (pt d8 0):=by
   have h4:6<f9.tmps.size:=by rw[<-f7.tmps.1];simp[Act.put]
   have:=f7.tmps.2 6 _ _ A (XP h4);rw[XP h4];generalize f9.tmps[6]=o0 at this;cases this with
   |ptr k0=>
    rename_i j4;obtain⟨d8,l1,n8⟩:=j4;obtain⟨n5,n6,n7⟩:=k0
    grind
  refine Hj (o:=goalAt TP u (C {Rn p d.heap.size e i o g a with pend:=1}) z al c) (a:=.func (.func 56) #[] #[pt e.Wg 0,pt d8 0,pt r 0,pt q 0,pt s 0]) (by decide) wj ⟨_,A,A,A,A⟩ A f7 (by simp[Act.put]) trivial (λg8 i3 l2 m0=>?_) λg0 h6=>?_
  .simp[execOp,Act.eval,(f8 (5,pt e.Wg 0) (by simp[qG])),(f8 (4,pt s 0) (by simp[qG])),(f8 (3,pt r 0) (by simp[qG])),(f8 (2,pt q 0) (by simp[qG])),j9];constructor<;>rfl
  have j6:g0.tmps[23]?=C (.func (.func 56) #[] #[pt e.Wg 0,pt d8 0,pt r 0,pt q 0,pt s 0]):=h6.kn (23,_) (by simp)
  have k2:Base TP (nt t m d.heap.size d8):=by
   have m8:TP.globals.size<d.heap.size:=by
    obtain⟨l1,_,e8,_⟩:=k.h0.obj _ _ k.inv.base.types
    grind
   have m4:=(j0.base.2 _ d8 h2).2;refine⟨λf3 f4 e8=>Xh ⟨(k.xg f3 f4 e8).2,k.inv.base.1 f3 f4 e8⟩,?_⟩;rintro v e1(g2|⟨rfl,rfl⟩)
   .exact k.inv.base.2 v e1 g2.2
   omega
  obtain⟨l8,m2,m7,m6⟩:=k.AZ
  refine JA (c:={Rn p d.heap.size e i o g a with pend:=1}) (o:=n.heap.size) (T:=d8) (a7:=a) (b3:=3) (f2:=(0,0)) (x:=rg ((base 39).at g0 _) T) A (λg8=>go_step (j:=23) (by decide) ⟨_,A,A,A,A⟩ wj j6 g8) A
   k.h0 k.inv.base k.x0 k.xw k.xg k.nb h1 k.Vs k.Vp k.Vq k.xn k.Uh k.Wq k.VP k.hK (by grind) A h2 (λe6=>by grind) A rfl (by show a=g+a-g;omega) (by have:=k.Ib;show g+a+1<g+1000000;omega) k.lb
   (by
     have:=k.walk a d8 (by omega) (by omega) k2;rw[k.Wp]at this
     exact this) ?_
  show(Re u z c p d e i o g (a+1)).G _ _ _
  have k4:∀v e1,c v->i9 v e1->(λb g1=>c b/\m b g1) v e1:=λv e1 e6 g2=>by
   rcases h1.fresh v e1 g2 with l|l
   .exact l
   grind [dh]
  have h7:ar al (λb g1=>c b/\m b g1) ⟨[],qG e s r q⟩ _ g0:=(ar.less (d0:=⟨[],qG e s r q⟩) h6 A (λl2 k7=>Ym _ k7)).part (X:=c) A (im (k:=C 23) (H:=I) (im (k:=C 22) (H:=.tuple #[]) k1 (Xh .bS)) (Xh .bS)) k4
  have g4:(Act.jk c (((⟨#[w,U,a4,b2,c8,d2,pt n.heap.size 0,d3,d4,d5,W,X,Y,Z,a0,a1,a2,a3,Xd K h,Xd K a,.bool J,Xd K a,a5,a6,d6,a7,a8,a9,b0,b1,b3,b4,b5,b6,b7,b8,b9,c0,c6,c7,c9,d0,d1],[]⟩:Xu).put (C 22) (.tuple #[])).put (C 23) I)).tmps[18]?=C (Xd K h):=by simp only[Act.jk,Yk];exact YU C (cT (.int _ _))
  have g5:(Act.jk c (((⟨#[w,U,a4,b2,c8,d2,pt n.heap.size 0,d3,d4,d5,W,X,Y,Z,a0,a1,a2,a3,Xd K h,Xd K a,.bool J,Xd K a,a5,a6,d6,a7,a8,a9,b0,b1,b3,b4,b5,b6,b7,b8,b9,c0,c6,c7,c9,d0,d1],[]⟩:Xu).put (C 22) (.tuple #[])).put (C 23) I)).tmps[19]?=C (Xd K a):=by simp only[Act.jk,Yk];exact YU C (cT (.int _ _))
  have i1:(Act.jk c (((⟨#[w,U,a4,b2,c8,d2,pt n.heap.size 0,d3,d4,d5,W,X,Y,Z,a0,a1,a2,a3,Xd K h,Xd K a,.bool J,Xd K a,a5,a6,d6,a7,a8,a9,b0,b1,b3,b4,b5,b6,b7,b8,b9,c0,c6,c7,c9,d0,d1],[]⟩:Xu).put (C 22) (.tuple #[])).put (C 23) I)).tmps.size=43:=by simp[Act.jk,Act.put]
  have i0:∀(j:E) v,(Act.jk c (((⟨#[w,U,a4,b2,c8,d2,pt n.heap.size 0,d3,d4,d5,W,X,Y,Z,a0,a1,a2,a3,Xd K h,Xd K a,.bool J,Xd K a,a5,a6,d6,a7,a8,a9,b0,b1,b3,b4,b5,b6,b7,b8,b9,c0,c6,c7,c9,d0,d1],[]⟩:Xu).put (C 22) (.tuple #[])).put (C 23) I)).tmps[j]?=C v->aR c v\/bO v:=λj v e6=>by
   simp only[Act.jk,Yk]at e6;obtain⟨e1,_,rfl⟩:=YE.1 e6;left;by_cases k9:aR c e1
   .grind [cT]
   rw[px k9];exact .bS
  have l0:(Act.jk c (((⟨#[w,U,a4,b2,c8,d2,pt n.heap.size 0,d3,d4,d5,W,X,Y,Z,a0,a1,a2,a3,Xd K h,Xd K a,.bool J,Xd K a,a5,a6,d6,a7,a8,a9,b0,b1,b3,b4,b5,b6,b7,b8,b9,c0,c6,c7,c9,d0,d1],[]⟩:Xu).put (C 22) (.tuple #[])).put (C 23) I)).defers=[]:=A;generalize Act.jk c (((⟨#[w,U,a4,b2,c8,d2,pt n.heap.size 0,d3,d4,d5,W,X,Y,Z,a0,a1,a2,a3,Xd K h,Xd K a,.bool J,Xd K a,a5,a6,d6,a7,a8,a9,b0,b1,b3,b4,b5,b6,b7,b8,b9,c0,c6,c7,c9,d0,d1],[]⟩:Xu).put (C 22) (.tuple #[])).put (C 23) I)=j3 at h7 g4 g5 i1 i0 l0;obtain⟨i4,h0⟩:=j3;obtain⟨w,U,a4,b2,c8,d2,f2,d3,d4,d5,W,X,Y,Z,a0,a1,a2,a3,i5,i6,g6,f1,a5,a6,d6,a7,a8,a9,b0,b1,b3,b4,b5,b6,b7,b8,b9,c0,c6,c7,c9,d0,d1,rfl⟩:=uU i1;simp only[Yo,Yv,Yq,Yh]at g4 g5;subst g4 g5;refine bP (BU (bT aC (by decide) (by decide) (y:=[5,4,3,2]) A (by rfl) (yD k.inv.base k.x0 (λf3 f4 e8=>(k.xg f3 f4 e8).1) (Xi k.WE)) h7 (λd9 n=>d9=⟨#[w,U,a4,b2,c8,d2,f2,d3,d4,d5,W,X,Y,Z,a0,a1,a2,a3,Xd K h,Xd K ((a+1:E):Xj),g6,f1,a5,a6,Xd K ((a+1:E):Xj),a7,a8,a9,b0,b1,b3,b4,b5,b6,b7,b8,b9,c0,c6,c7,c9,d0,d1],[]⟩/\n.heap=(cP c d).heap) (λg7 e3 _ _ _=>?_) (λd9 n l v _=>by rw[l.2]) ?_))
  .have n2:=k.small
   go_wp2
   exact⟨A,e3⟩
  rintro o3 _ l6 o2 j1 j8 k8⟨rfl,n0⟩;refine h8 (a+1) _ _ _ ⟨by omega,_,j1,j8,⟨A,A,A,A,?_⟩,k8⟩;exact im (k:=C 19) (H:=Xd K ((a+1:E):Xj)) (im (k:=C 24) (H:=Xd K ((a+1:E):Xj)) i0 (Xh (.int _ _))) (Xh (.int _ _))
 clear l;rintro a e0 d7 x⟨k5,b,l⟩;obtain rfl:h=a:=by omega
 obtain⟨i4,h0⟩:=b;have f6:=l.Ih.size;obtain⟨w,U,a4,b2,c8,d2,f2,d3,d4,d5,W,X,Y,Z,a0,a1,a2,a3,i5,i6,g6,f1,a5,a6,d6,a7,a8,a9,b0,b1,b3,b4,b5,b6,b7,b8,b9,c0,c6,c7,c9,d0,d1,rfl⟩:=uU f6;have hd:=l.Ih.defs;have e9:=l.Ih.Wx;have f0:=l.Ih.Wy;simp only[Yo,Yv,Yq,Yh]at e9 f0 hd;subst e9 f0;subst hd;have f5:=l.Ih.all;refine bz (bT aC (by decide) (by decide) (y:=[5,4,3,2]) A (by rfl) l.inv l.rel (λd9 n=>d9=⟨#[w,U,a4,b2,c8,d2,f2,d3,d4,d5,W,X,Y,Z,a0,a1,a2,a3,Xd K h,Xd K h,.bool Xf,f1,a5,a6,d6,a7,a8,a9,b0,b1,b3,b4,b5,b6,b7,b8,b9,c0,c6,c7,c9,d0,d1],[]⟩/\n.heap=d7.heap) (λg7 e3 _ _ _=>?_) (λd9 n l v _=>by rw[l.2]) ?_)
 .go_wp2
  exact⟨by simp,e3⟩
 rintro i8 _ g9 n e4 e7 e5⟨rfl,h3⟩;refine bz (iO (k:=Xf) (iP e4.base e5 (by decide) A) (sb (a:=y) A ?_));exact last i8 n _ g9 ⟨e4,l.grow.trans e7,⟨A,A,A,A,im (k:=C 20) (H:=.bool Xf) f5 (Xh (.bool Xf))⟩,e5⟩
end
variable{s:E}{g:M}{p:M}{q:Xe}{d:Xk Xe}{r:E->Prop}{a:Xe}{u:E}{e:Xp Xw}
theorem gr.mono{w:Xg XB}{v:E}{sl:Xe}(n:gr w s sl g)(N:v<=s)(Q:∀c,c<g.heap.size->p.heap[c]?=g.heap[c]?):gr w v sl p:=by
 rcases n with n|⟨x,y,d,R,z,D,H,t,L⟩
 .exact Xh n
 exact Xi ⟨x,y,d,R,z,D,XZ N H,(Q x (XN.1 t).1).trans t,L⟩
theorem cf.mono{t:LR}{n:E}{v:Xk Xe}(w:cf t s v g)(D:n<=s)(H:∀c,c<g.heap.size->p.heap[c]?=g.heap[c]?):cf t n v p:=by obtain⟨x,sl,y,z⟩:=w;exact⟨x,sl,y,z.mono D H⟩
theorem Plain.one(a:Plain q):wu q=J:=by cases a<;>rfl
theorem cf.VA{h:LR}{c:Xk Xe}(d:cf h s c g):∀a∈c,wu a=J:=by
 obtain⟨_,sl,e,f⟩:=d;intro a b;have b:a∈c.toList:=by simpa using b
 rw[e]at b;rcases XV.1 b with rfl|b
 .rfl
 rcases YC.1 b with b|b
 .obtain⟨i,_,rfl⟩:=YB.1 b;rfl
 have:a=sl:=by simpa using b
 subst this;rcases f with⟨rfl,_⟩|⟨_,_,_,_,_,rfl,_⟩<;>rfl
def IM(a:Xe):Prop:=aR (λ_=>False) a\/bO a
def Calm(a:Xe):Prop:=IM a/\∀i,a≠.int .u8 i
theorem Pd(b:∀(e:E) a,d[e]?=C a->Calm a):¬aT d:=λ⟨f,i,c⟩=>(b f _ c).2 i A
theorem mZ(c:∀i,q≠.int .u8 i):¬aT #[q]:=by
 rintro⟨b,i,a⟩;rcases b with _|b
 .simp at a;exact c i a
 simp at a
structure jZ(f h:E->Prop)(g:M)(m:E->LR)(o:E->XB)(u O b i l k:E)(e:Xp Xw):Prop where
 KX:∀c,f c->∃d L,g.heap[c]?=C (Xn d L (0,d.size))/\0<d.size/\(∀(v:E) a,d[v]?=C a->aR f a)/\¬aT d
 Io:∀D,(0<D\/D=TP.globals.size)->D<=TP.globals.size->f D
 xt:∀c,h c->(∃d L t,g.heap[c]?=C (Xn d L t)/\0<d.size/\t.2<=d.size/\¬aT d/\∀(v:E) a,d[v]?=C a->aR h a)\/∃Q n,g.heap[c]?=C (.map Q n)/\∀z∈Q.toList,aR h z.key/\aR h z.val
 TA:h O
 hc:∃w N t,g.heap[u]?=C (Xn w N t)/\t.2<=w.size/\w[1]?=C (Xd K k)/\w[2]?=C (pt O 0)/\¬aT w/\∀(v:E) a,w[v]?=C a->IM a
 hA:e=F/\i=0\/∃H R y N t,e=C ⟨H,R,F⟩/\H<b/\g.heap[H]?=C (Xn y N t)/\0<y.size/\t.2<=y.size/\(∀(v:E) a,y[v]?=C a->Calm a)/\∀n,n<i->y[R+n*9+3]?=C (.string (o n))
 h2:g.heap[b]?=C (Xn #[pt u 0] 76 (0,0))
 h3:g.heap[b+1]?=C (Xn #[.slice e i l] 103 (0,0))
 h4:g.heap[b+3]?=C (Xn #[Xm (C ⟨b+2,0,F⟩) i i] 141 (0,0))
 AZ:∃cl,cl.size=i*10/\g.heap[b+2]?=C (Xn cl 158 (0,0))
 low:(∀c,f c\/h c->c<b)/\u<b
 small:i<2^20
 Ib:1<=k/\k<2^16
 ev:∀n,Plain (m n).ev
 look:∀n,n<i->∀x:M,(∀c,h c\/f c->x.heap[c]?=(g.heap[c]?).map Obj.whole)->g.heap.size<=x.heap.size->Calls TP 58 #[pt O 0,.string (o n)] x λz p=>∃S,z=Xs (.tuple #[.agg S,(m n).ev])/\cf (m n) x.heap.size S p/\Below x.heap.size x p
def nR(f:E->Prop)(u b:E)(e:Xp Xw):E->Prop:=λa=>f a\/a=b\/a=b+1\/a=u\/∃c,e=C ⟨a,c,F⟩
def tO(f h:E->Prop)(u b:E)(e:Xp Xw):E->Prop:=λa=>nR f u b e a\/h a\/a=b+3
theorem IM.to(b:IM a):aR r a\/bO a:=b.imp (aR.mono λ_ b=>b.elim) id
section
variable{h:E->Prop}{m:E->LR}{o:E->XB}{O b l k:E}
theorem jZ.slice(a:jZ f h g m o u O b i l k e):aR (nR f u b e) (.slice e i l):=by
 rcases a.hA with⟨rfl,_⟩|⟨d,c,_,_,_,rfl,_⟩
 .exact .aO _ _
 exact .slice (Xi (Xi (Xi (Xi ⟨c,A⟩)))) _ _
theorem one_cell{P:Xe->Prop}(t:P q):∀(n:E) a,(#[q]:Xk Xe)[n]?=C a->P a:=by
 intro n a c;have:n=0:=by have:=(XN.1 c).1;simp at this;exact this
 subst this;simp at c;subst c;exact t
theorem jZ.zD(p:jZ f h g m o u O b i l k e):∀x,nR f u b e x->∃d z q,g.heap[x]?=C (Xn d z q)/\0<d.size/\q.2<=d.size/\(∀(n:E) a,d[n]?=C a->aR (nR f u b e) a\/bO a)/\¬aT d:=by
 rintro x(r|rfl|rfl|rfl|⟨S,r⟩)
 .obtain⟨d,z,s,t,v,y⟩:=p.KX x r;exact⟨d,z,_,s,t,XS _,λn a w=>Xh ((v n a w).mono λ_ c=>Xh c),y⟩
 .exact⟨_,_,_,p.h2,by simp,by simp,one_cell (P:=λa=>aR _ a\/bO a) (Xh (.ptr (Xi (Xi (Xi (Xh A)))))),mZ (by intro i c;cases c)⟩
 .exact⟨_,_,_,p.h3,by simp,by simp,one_cell (P:=λa=>aR _ a\/bO a) (Xh p.slice),mZ (by intro i c;cases c)⟩
 .obtain⟨H,D,q,s,t,v,_,N,Q⟩:=p.hc;exact⟨H,D,q,s,by have:=(XN.1 v).1;omega,t,λn a w=>(Q n a w).to,N⟩
 rcases p.hA with⟨c,_⟩|⟨R,T,L,D,q,c,_,s,t,v,y,_⟩
 .rw[c]at r;cases r
 rw[c]at r;cases r;exact⟨L,D,q,s,t,v,λn a w=>(y n a w).1.to,Pd y⟩
theorem jZ.Ig(q:jZ f h g m o u O b i l k e):jw (tO f h u b e) g:=by
 rintro D(w|w|rfl)
 .obtain⟨d,z,r,p,n,s,t,v⟩:=q.zD D w;exact Xh ⟨d,z,r,p,n,s,λy a x=>(t y a x).imp (aR.mono λ_ c=>Xh c) id,v⟩
 .rcases q.xt D w with⟨d,z,r,p,n,s,v,t⟩|⟨N,Q,p,n⟩
  .exact Xh ⟨d,z,r,p,n,s,λy a x=>Xh ((t y a x).mono λ_ c=>Xi (Xh c)),v⟩
  exact Xi ⟨N,Q,p,λH L=>⟨(n H L).1.mono λ_ c=>Xi (Xh c),(n H L).2.mono λ_ c=>Xi (Xh c)⟩⟩
 exact Xh ⟨_,_,_,q.h4,by simp,by simp,one_cell (P:=λa=>aR _ a\/bO a) (Xi trivial),mZ (by intro i c;cases c)⟩
theorem jZ.Uh(d:jZ f h g m o u O b i l k e):¬tO f h u b e (b+2):=by
 have n:=d.low;rintro((a|a|a|a|⟨t,a⟩)|a|a)
 .have:=n.1 _ (Xh a);omega
 .omega
 .omega
 .omega
 .rcases d.hA with⟨c,_⟩|⟨q,v,p,w,r,c,s,_⟩
  .rw[c]at a;cases a
  rw[c]at a;cases a;omega
 .have:=n.1 _ (Xi a);omega
 omega
theorem jZ.En(r:jZ f h g m o u O b i l k e):zp (λc=>tO f h u b e c/\¬nR f u b e c) g:=by
 rintro c⟨q|q|rfl,H⟩ d U Q p t
 .exact H q
 .rcases r.xt c q with⟨L,W,R,n,y,S,z,T⟩|⟨N,v,n,y⟩
  .rw[p]at n;cases n;exact z t
  rw[p]at n;cases n
 rw[r.h4]at p;cases p;obtain⟨v,s,D⟩:=t;have:=one_cell (P:=λa=>∃c w d,a=Value.slice c w d) ⟨_,_,_,A⟩ v _ D;obtain⟨_,_,_,x⟩:=this;cases x
theorem jZ.VX(n:jZ f h g m o u O b i l k e){Q:WD}{X Z H a6 a5:E}(N:e=C ⟨X,Z,F⟩)(b6:Q.gs=Xm (C ⟨a5,0,F⟩) i i)(b4:Q.gb=a5)(b5:Q.gn=i*10)(b7:Q.own=If i k a6)(e1:H<k):
 IU Q (KZ (tO f h u b e) g.heap.size) (dJ (tO f h u b e) g (Xd K H) 3) (b+1) b (b+3) u i l k X Z H (a6+H) (pt O 0) o (RH m g.heap.size):=by
 have b3:=n.Ig
 have lt:∀{t:E},tO f h u b e t->t<g.heap.size:=λw=>by rcases b3 _ w with⟨_,_,_,a9,_⟩|⟨_,_,a9,_⟩<;>exact(XN.1 a9).1
 have rd:∀{t:E}{d:Xk Xe}{y:Xq}{z:E×E},tO f h u b e t->g.heap[t]?=C (Xn d y z)->(dJ (tO f h u b e) g (Xd K H) 3).heap[t]?=C (Xn (d.map (jk (tO f h u b e))) y (0,d.size)):=λw c=>by rw[xj (lt w)];exact dW w c
 have a2:tO f h u b e (b+1):=Xh (Xi (Xi (Xh A)));have a1:tO f h u b e b:=Xh (Xi (Xh A));have W:tO f h u b e u:=Xh (Xi (Xi (Xi (Xh A))));have a4:tO f h u b e X:=Xh (Xi (Xi (Xi (Xi ⟨Z,N⟩))));have a3:tO f h u b e (b+3):=Xi (Xi A);have b9:aR (tO f h u b e) (.slice e i l):=n.slice.mono λ_ c=>Xh c
 exact{
  x3:=Xh a2
  h3:=⟨_,_,by rw[rd a2 n.h3];simp only[Zb,YG,Zl,cT b9];rw[N]⟩
  x2:=Xh a1
  h2:=⟨_,_,by rw[rd a1 n.h2];simp only[Zb,YG,Zl];rw[show jk (tO f h u b e) (pt u 0)=pt u 0 from cT (.ptr W)]⟩
  xc:=Xh W
  hc:=by
   obtain⟨c9,c7,z,v,L,R,S,_,d8⟩:=n.hc;refine⟨_,_,_,rd W v,?_,?_⟩
   .rw[Yk,R];exact YU C (cT (.int _ _))
   rw[Yk,S];exact YU C (cT (.ptr (Xi (Xh n.TA))))
  WX:=⟨O,A⟩
  x4:=Xh a3
  h4:=⟨_,_,by
   rw[rd a3 n.h4];simp only[Zb,YG,Zl]
   rw[px (λc=>by cases c with|slice c=>exact n.Uh c)];rfl⟩
  xl:=Xh a4
  elem:=by
   rcases n.hA with⟨c,_⟩|⟨d1,e2,d0,c7,z,c,_,v,_,_,_,b2⟩
   .rw[c]at N;cases N
   rw[c]at N;cases N;refine⟨_,_,_,rd a4 v,λx T=>?_⟩;rw[Yk,b2 x T];exact YU C (cT (.string _))
  look:=λx T c8 c6 b8=>by
   have d7:(dJ (tO f h u b e) g (Xd K H) 3).heap.size=g.heap.size+1:=by show((cP _ g).heap.push _).size=_;rw[aa2,dh]
   refine(n.look x T c8 (λt w=>?_) (by omega)).mono ?_
   .have U:tO f h u b e t:=w.elim (λc=>Xi (Xh c)) λc=>Xh (Xh c);rw[c6 t (.inl U)]
    have a8:∀d y z,g.heap[t]?=C (Xn d y z)->(∀(D:E) a,d[D]?=C a->aR (tO f h u b e) a)->(dJ (tO f h u b e) g (Xd K H) 3).heap[t]?=(g.heap[t]?).map Obj.whole:=by
     intro d y z c a7;rw[rd U c,c]
     have:d.map (jk (tO f h u b e))=d:=by apply aaj (by simp);intro D v L;rw[Xk.getElem_map];exact cT (a7 D _ (XP L))
     rw[this];rfl
    rcases w with w|w
    .rcases n.xt t w with⟨d,y,z,v,_,_,_,S⟩|⟨d4,x,v,L⟩
     .exact a8 d y z v λD a Y=>(S D a Y).mono λ_ c=>Xi (Xh c)
     rw[xj (lt U),nz U,v];rfl
    obtain⟨d,y,v,_,R⟩:=n.KX t w;exact a8 d y _ v λD a Y=>(R.1 D a Y).mono λ_ c=>Xh (Xh c)
   rintro d2 p⟨a0,rfl,v,L⟩;exact⟨a0,_,A,⟨v.mono (by omega) λ_ _=>rfl,A⟩,L⟩
  VS:=λx a0 b0 g e4 c c0 b8=>⟨c.1.mono (XS _) c0,c.2⟩
  Vg:=λx a0 b0 g c=>⟨c.1.size,c.1.VA,by rw[c.2];exact(n.ev x).one⟩
  gs:=by rw[b4];exact b6
  gn:=b5
  own:=λx T e0 j d9=>by
   rw[b7];refine⟨by omega,by omega,?_⟩;have b1:(x*10+j)/10=x:=by omega
   rw[b1];omega
  small:=by have:=n.small;omega
  Vz:=n.Ib.1
  Wu:=by have:=n.Ib.2;omega}
end
variable{i:M}{c:E}{d:Xp Xw}{l:Xu}{q:Xg Xr}{h:Set}{e:Xu}{j:E}
section
variable{p:cZ}{r:E->Prop}{o:E->LR}{s:E->XB}{O b k g:E}
theorem lr{w:Rt}{a:E}(t:ar h m w e l)(y:e.tmps[j]?=C (pt a 0)):∃B,m a B/\l.tmps[j]?=C (pt B 0):=by
 have n:j<l.tmps.size:=by rw[<-t.tmps.1];grind
 have:=t.tmps.2 j _ _ y (XP n);rw[XP n];generalize l.tmps[j]=R at this;cases this with
 |ptr x=>rename_i v;obtain⟨B,N,Q⟩:=v;obtain⟨D,H,L⟩:=x;simp_all
def Lb(g:E)(i c:M):Prop:=∀e,e<i.heap.size->e≠g->c.heap[e]?=i.heap[e]?\/∃a b d f,aT a/\i.heap[e]?=C (Obj.cells a b d)/\c.heap[e]?=C (Obj.cells a b f)
theorem MU(a:E->Prop):jk a I=I:=cT .bS
theorem Om(a:jZ f r i o s u O b c k g d)(b8:kg p f)(b5:Inv TP al f m i)(a8:ar al m ⟨[],[]⟩ (tc u b (b+1) (b+3) (b+2) c k d) l)
 (next:∀U R e l,Inv TP al f U R->cV f m i U R->Lb (b+2) i R->QU o c (b+2) i.heap.size 158 R->ar al U ⟨[],[]⟩ e l->e.tmps.size=43->e.defers=[]->e.tmps[2]?=C (pt b 0)->e.tmps[3]?=C (pt (b+1) 0)->e.tmps[4]?=C (pt (b+3) 0)->
   (goalAt TP p F z al f).G U R (rg ((base 39).at l [.code (tl (tl (tl (tl (tl lH)))))]) q)):
 (goalAt TP p F z al f).G m i (rg ((base 39).at l [.code (tl (tl lH))]) q):=by
 have n5:=a.low;obtain⟨g7,i2,b9⟩:=a.AZ;obtain⟨a3,Sz,j9⟩:=lr (j:=2) a8 A;obtain⟨a4,SA,k0⟩:=lr (j:=3) a8 A;obtain⟨a5,e0,k1⟩:=lr (j:=4) a8 A;have e5:=a.Uh;have b1:=λn=>e5 (Xh n);have b2:jw (nR f u b d) i:=λe H=>Xh (a.zD e H)
 have c0:∀e,nR f u b d e->∀d7 Q,i.heap[e]?≠C (.map d7 Q):=λe H d7 Q m8=>by obtain⟨b6,k2,d8,D,_⟩:=a.zD e H;simp_all
 show(goalAt TP p F z al f).G m i (rg ((base 39).at l [.code (.seq _ _)]) q);refine bz (eA ?_)
 refine JB (N:=nR f u b d) (a8:=b+3) (a1:=b+2) (i:=c) (b7:=c*10) (yA:=158) (O:=151) (own:=λt h0 X=>If c g t h0 X) (fin:=BN o i.heap.size c g)
  (a2:=λv=>rg ((base 39).at (l.put (C 5) (pt v 0)) (Xv _ []::[.code (tl (tl (tl lH)))])) q) A (λ_=>rfl) (λd5=>Ez (by decide) ⟨_,A,A,A,A⟩ wj d5)
  b2 c0 (λa2 D N=>Xh (a.Io a2 D N)) (λe H=>Xh H) a.h4 ⟨_,e0⟩ (λn=>by grind) b9 A i2 b1 (by omega) (λt j5 j X D N=>?_) b8 ?_
 .obtain⟨o1,o2,o3⟩:=D;obtain⟨o5,o6,o7⟩:=N;omega
 intro T d2 L t hrel KW xn m1 j3 m4 j2;obtain⟨v,x⟩:∃v:WD,v=⟨151,T.heap.size,d2,Xm (C ⟨L,0,F⟩) c c,L,158,c*10,If c g t,Fe m L T,C T⟩:=⟨_,A⟩;show sW TP p (C ⟨⟨151,T.heap.size,d2,Xm (C ⟨L,0,F⟩) c c,L,158,c*10,If c g t,Fe m L T,C T⟩,0,0,0,t,t,BN o i.heap.size c g t⟩) z al _ _ _ (rg ((base 39).at (l.put (C 5) (pt T.heap.size 0)) (Xv _ []::[.code (tl (tl (tl lH)))])) q);rw[<-x];have h6:T.heap.size=v.Wg:=by rw[x]
 rw[h6];show(Re p z (nR f u b d) o i v c g t 0).G _ _ _;have h3:=(hrel.inj _ _ _ _ e0 KW).1 A;subst h3
 have y:Ph p f (nR f u b d) (tO f r u b d) m i T v o b a3 (b+1) a4 (b+3) a5 (b+2) L c g t:={
  h0:=hrel
  inv:=b5
  x0:=b2
  WE:=c0
  xw:=a.Ig
  xg:=λa2 D N=>⟨Xh (a.Io a2 D N),Xh (Xh (a.Io a2 D N))⟩
  nb:=a.En
  VP:=λe H=>Xh H
  hK:=b8
  lb:=j2
  Vt:=by rw[x]
  Wp:=by rw[x]
  Vq:=by rw[x]
  Ua:=by rw[x]
  Wo:=by rw[x]
  Vs:=by rw[x]
  Vp:=by rw[x]
  xn:=xn
  AZ:=⟨g7,_,b9,A⟩
  Uh:=b1
  Wq:=e5
  KW:=KW
  Xc:=Xi (Xi A)
  Xa:=⟨Xi (Xh A),Xh (Xi (Xh A))⟩
  Xb:=⟨Xi (Xi (Xh A)),Xh (Xi (Xi (Xh A)))⟩
  mine:=j3
  small:=a.small
  Ib:=a.Ib
  ev:=λQ _=>a.ev Q
  Sz:=Sz
  SA:=SA
  walk:=λY d3 D N h8=>by
   have h9:∃a6 X,d=C ⟨a6,X,F⟩:=by
    rcases a.hA with⟨_,n⟩|⟨a6,X,_,_,_,n,_⟩
    .omega
    exact⟨a6,X,n⟩
   obtain⟨a6,X,h2⟩:=h9;have z:=a.VX (Q:=v) (H:=Y) (a6:=t) (a5:=L) h2 (by rw[x]) (by rw[x]) (by rw[x]) (by rw[x]) D
   have lt:∀{e:E},tO f r u b d e->e<i.heap.size:=λH=>by rcases a.Ig _ H with⟨_,_,_,d0,_⟩|⟨_,_,d0,_⟩<;>exact(XN.1 d0).1
   have g1:Inv TP aW (KZ (tO f r u b d) i.heap.size) (nt (tO f r u b d) m i.heap.size d3) (dJ (tO f r u b d) i (Xd K Y) 3):=by
    refine⟨h8,?_,Xh A⟩;rintro e(H|rfl)
    .obtain⟨f1,c9,f0⟩:=jJ (h:=aW) a.Ig e H;exact⟨f1,by rw[xj (lt H)];exact c9,f0⟩
    exact⟨_,AX,A,by simp,mZ (by intro c n;cases n)⟩
   have i6:v.gv=a5:=by rw[x]
   have:=Ek z D (t:=i.heap.size) (Xi A) ⟨_,_,AX⟩ g1 (by rw[i6];exact Xh ⟨Xi (Xi A),KW⟩) (by rw[x])
    (g0:=pt d3 0) (f9:=pt a4 0) (f8:=pt a3 0) (.ptr ⟨Xi ⟨A,A⟩,A,A⟩) (.ptr ⟨Xh ⟨Xh (Xi (Xi (Xh A))),SA⟩,A,A⟩) (.ptr ⟨Xh ⟨Xh (Xi (Xh A)),Sz⟩,A,A⟩)
   have e4:BN o i.heap.size c g t (t+Y)=Eg c g Y (RH o i.heap.size):=by
    funext cl R
    show Eg c g (t+Y-t) _ cl R=_;rw[show t+Y-t=Y by omega]
   simp_all}
 have e6:=a.slice;have f6:nR f u b d u:=Xi (Xi (Xi (Xh A)));have f7:nR f u b d b:=Xi (Xh A);have f8:nR f u b d (b+1):=Xi (Xi (Xh A))
 have j4:¬nR f u b d (b+3):=by
  rintro(n|n|n|n|⟨X,n⟩)
  .grind
  .omega
  .omega
  .omega
  rcases a.hA with⟨d9,_⟩|⟨a6,p2,k6,k3,d8,d9,m3,_⟩
  .rw[d9]at n;cases n
  simp_all
 have e2:∀(j:E) w,(tc u b (b+1) (b+3) (b+2) c k d).tmps[j]?=C w->aR (nR f u b d) w\/bO w:=by
  intro j w a0
  have S:w∈(tc u b (b+1) (b+3) (b+2) c k d).tmps.toList:=by grind
  simp only[tc,XV,Yd,YS]at S;have i8:∀b6 g8:E,bO (pt b6 g8):=λ_ _=>trivial;rcases S with rfl|rfl|rfl|rfl|rfl|S
  .simp_all
  .simp_all
  .simp_all
  .simp_all
  .simp_all
  rcases S with rfl|rfl|rfl|rfl|rfl|rfl|rfl|S
  .exact Xh .bS
  .exact Xh .bS
  .exact Xh .bS
  .exact Xh .bS
  .simp_all
  .exact Xh (.int _ _)
  .exact Xi trivial
  have:w=I:=by simp_all
  rw[this];exact Xh .bS
 have c6:=(a8.part (Sp:=al) (X:=nR f u b d) (β':=λe Z=>nR f u b d e/\m e Z) A e2 λw a9 a0 c8=>⟨a0,c8⟩);have n4:=MU (nR f u b d);have i9:jk (nR f u b d) (pt u 0)=pt u 0:=cT (.ptr f6);have j0:=cT e6;have m9:jk (nR f u b d) (pt b 0)=pt b 0:=cT (.ptr f7);have n0:jk (nR f u b d) (pt (b+1) 0)=pt (b+1) 0:=cT (.ptr f8);have n1:jk (nR f u b d) (pt (b+3) 0)=I:=px λn=>by cases n with|ptr n=>exact j4 n
 have n2:jk (nR f u b d) (Xd K c)=Xd K c:=cT (.int _ _);have n3:jk (nR f u b d) (Xm (C ⟨b+2,0,F⟩) c c)=I:=px λn=>by cases n with|slice n=>exact b1 n
 have e1:Act.jk (nR f u b d) (tc u b (b+1) (b+3) (b+2) c k d)=⟨#[pt u 0,.slice d c k,pt b 0,pt (b+1) 0,I,I,I,I,I,.slice d c k,Xd K c,I,I,I,I,I,I,I,I,I,I,I,I,I,I,I,I,I,I,I,I,I,I,I,I,I,I,I,I,I,I,I,I],[]⟩:=by simp_all [Act.jk,tc]
 rw[e1]at c6;have e7:=c6.put (C 5) A (.bS (v:=pt v.Wg 0) trivial)
 have f5:(l.put (C 5) (pt v.Wg 0)).tmps[5]?=C (pt v.Wg 0):=by
  have:l.tmps.size=43:=by rw[<-a8.tmps.1];rfl
  grind [Act.put]
 have b4:∀j a1,j≠5->l.tmps[j]?=C a1->(l.put (C 5) (pt v.Wg 0)).tmps[j]?=C a1:=λj a1 i8 o0=>by simp_all [Act.put,YX]
 have c7:ar al (λe Z=>nR f u b d e/\m e Z) ⟨[],qG v a5 a4 a3⟩ _ _:=(((e7.more (b4 2 _ (by decide) j9)).more (b4 3 _ (by decide) k0)).more (b4 4 _ (by decide) k1)).more f5;generalize l.put (C 5) (pt v.Wg 0)=d6 at c7⊢
 have e8:ar al (λe Z=>nR f u b d e/\m e Z) ⟨[],qG v a5 a4 a3⟩ ⟨#[pt u 0,.slice d c k,pt b 0,pt (b+1) 0,I,I,I,I,I,.slice d c k,Xd K c,I,I,I,I,I,I,I,I,I,I,I,I,I,I,I,I,I,I,I,I,I,I,I,I,I,I,I,I,I,I,I,I],[]⟩ d6:=c7;clear c7 e7 c6 e1 e2 f5 b4;have g0:Inv TP al (nR f u b d) (λe Z=>nR f u b d e/\m e Z) (cP (nR f u b d) i):=yD b5.base b2 (λa2 D N=>Xh (a.Io a2 D N)) (Xi c0);refine bP ?_;show(Re p z (nR f u b d) o i v c g t 0).G _ _ (rg ((base 39).at d6 [.code (.seq (.seq _ _) _)]) q);refine bz (bz ?_);refine Px aC (by decide) (by decide) (N:=[5,4,3,2]) A (by rfl) lx (by decide+kernel) g0 e8 (λg6=>g6=⟨#[pt u 0,.slice d c k,pt b 0,pt (b+1) 0,I,I,I,I,I,.slice d c k,Xd K c,I,pt u 0,pt u 0,pt u 1,Xd K g,.slice d c k,Xd K c,Xd K (min g c:E),Xd K (0:E),I,I,I,I,I,I,I,I,I,I,I,I,I,I,I,I,I,I,I,I,I,I,I],[]⟩) (λd1 b7=>?_) ?_
 .have m5:d1.cell? ⟨b,0,F⟩=C (pt u 0):=by
   simp only[M.cell?,b7,dW f7 a.h2,Zb,YG,Zl,i9];rfl
  have m6:d1.cell? ⟨b+1,0,F⟩=C (.slice d c k):=by simp only[M.cell?,b7,dW f8 a.h3,Zb,YG,Zl,j0];rfl
  have m7:d1.cell? ⟨u,1,F⟩=C (Xd K g):=by obtain⟨k5,k3,d8,c9,f0,j6,_⟩:=a.hc;simp only[M.cell?,b7,dW f6 c9,Yk,j6,Zo];exact YU C (cT (.int _ _))
  repeat (quiet_step (fail))
  grind [wpQuiet_nil]
 rintro q6 _ l1 q0 d4 b0 e9 rfl i7
 have e3:∀(j:E) w,(⟨#[pt u 0,.slice d c k,pt b 0,pt (b+1) 0,I,I,I,I,I,.slice d c k,Xd K c,I,pt u 0,pt u 0,pt u 1,Xd K g,.slice d c k,Xd K c,Xd K (min g c:E),Xd K (0:E),I,I,I,I,I,I,I,I,I,I,I,I,I,I,I,I,I,I,I,I,I,I,I],[]⟩:Xu).tmps[j]?=C w->aR (nR f u b d) w\/bO w:=by
  intro j w a0
  have S:w∈(⟨#[pt u 0,.slice d c k,pt b 0,pt (b+1) 0,I,I,I,I,I,.slice d c k,Xd K c,I,pt u 0,pt u 0,pt u 1,Xd K g,.slice d c k,Xd K c,Xd K (min g c:E),Xd K (0:E),I,I,I,I,I,I,I,I,I,I,I,I,I,I,I,I,I,I,I,I,I,I,I],[]⟩:Xu).tmps.toList:=by grind
  simp only[XV,Yd,YS]at S
  repeat (first
   |exact m2 _ S
   |(rcases S with rfl|S
     first
      |exact Xh .bS
      |exact Xh e6
      |exact Xh (.int _ _)
      |exact Xi (show bO (pt _ _)from trivial)))
 have n9:=a.small;have n8:=a.Ib;refine Kz y (h:=min g c) ⟨E.min_le_left _ _,E.min_le_right _ _⟩ (y:=[.code (tl (tl (tl (tl lH))))]) A ?_ ⟨d4,b0,⟨A,A,A,A,e3⟩,e9⟩;clear e3 e9 b0 i7 d4 e8;intro f9 k4 e g5 W;show(Re p z (nR f u b d) o i v c g t (min g c)).G f9 k4 (rg ((base 39).at g5 [.code (.seq _ _)]) q);have j7:=W.rel.kn (5,pt v.Wg 0) (by simp[qG]);refine bz (eA (KO (e:=Rn o i.heap.size v c g t (min g c)) (j:=25) (by decide) ⟨_,A,A,A,A⟩ (by simp[Act.eval,j7,Rn]) A rfl y.Vt λl5 l7 d5 k2 k8 b0 i0 h5=>?_));have i4:TP.globals.size<=i.heap.size:=by
  obtain⟨f1,_,N,_⟩:=hrel.obj _ _ b5.base.types
  grind
 obtain⟨g2,U,R,i1,h4,a7,h7,i5⟩:=PG (g:=Rn o i.heap.size v c g t (min g c)) (x:=i.heap.size) (p:=b+2) (k:=L) (d:=c) (a:=o) i0 h5 W.grow b2 y.VP y.inv y.Vs y.Vp y.Vq y.Ua y.Wo y.h0 y.xn b9 A b1 y.hK y.mine (λQ j1=>by
  have n7:Q%g<g:=abm _ (by omega);have n6:Q%g<=Q:=E.mod_le _ _;refine⟨t+Q%g,by show t<=_;omega,by show _<t+min g c;omega,λcl R e4=>?_⟩;obtain⟨p4,g9,D,N,l9,m0⟩:=e4 Q j1 (by omega)
  grind) y.ev i4
 refine⟨g2,U,R,f,i1,bP ?_⟩
 have i3:∀w a9,nR f u b d w->f9 w a9->U w a9:=λw a9 a0 c8=>by
  rcases W.grow.fresh w a9 c8 with n|n
  .exact a7.le _ _ n.2
  rw[dh]at n;obtain⟨_,_,_,d0,_⟩:=a.zD w a0;simp_all
 have f2:=((W.rel.part (Sp:=al) W.Ih.defs W.Ih.all i3).put (C 25) A (.tuple (c:=#[]) (c':=#[]) A λj5 w q2 a0 _=>by simp at a0));have f3:=f2.Ni (j:=2) (r:=pt b 0) (f2.kn (2,pt a3 0) (by simp[qG])) (.ptr ⟨a7.le _ _ Sz,A,A⟩);have f4:=f3.Ni (j:=3) (r:=pt (b+1) 0) (f3.kn (3,pt a4 0) (by simp[qG])) (.ptr ⟨a7.le _ _ SA,A,A⟩);have j8:=f4.Ni (j:=4) (r:=pt (b+3) 0) (f4.kn (4,pt a5 0) (by simp[qG])) (.ptr ⟨a7.le _ _ KW,A,A⟩);have b3:=W.Ih.size
 exact next U R _ _ h4 a7 h7 i5 (j8.less A (by simp)) (by simp[Act.put,Act.jk,b3]) W.Ih.defs
  (by simp[Act.put,Act.jk,b3]) (by simp[Act.put,Act.jk,b3]) (by simp[Act.put,Act.jk,b3])
end
variable{P:Xy}{e:M}{d:Xr}{g:Xu}{c:Xg Item}{n:Xg Xr}{i:Xu}
section
variable{main:Xo}
theorem Fz{p:XG}{k:Xu->M->Prop}(c:Xg Item)(a:Tp (λe=>p.wp P (eP k) g e) e):
 xq P (λt e=>∃o,t=d.at o [df c]/\k o e) (d.at g [.code p,df c]) [] e:=by
 obtain⟨r,b,u,a⟩:=a.low;refine qH (p:=r) (x:=b) ⟨u,λy w=>?_⟩;obtain⟨s,i,z,q,arr⟩:=a y w d [df c] [dp];cases s with
 |normal=>obtain⟨x,v⟩:=arr;exact⟨x,_,z,v,⟨i,A,q⟩,A,Xi ⟨A,c,A⟩⟩
 |_=>exact q.elim
theorem QE{v u:Xo}{p:Xg Item}(G:Good P h)(s:jG c=J)(k:jy P h Xf u m [df c] p):p=c:=by
 generalize b:[df c]=y at k;cases k with
 |nil=>cases b
 |tail w t=>have:=Xg.cons.inj b;have o:=this.1;simp only[df,Item.code.injEq,XG.cond.injEq]at o;exact(BF s t o.2.1).symm
 |cons r x=>
  obtain⟨rfl,_⟩:=Xg.cons.inj b;cases r with
  |code _ a=>
   rcases a with a|⟨a,_⟩
   .cases a
   rw[G.code]at a;simp only[df,codeOk,Yg]at a;have q:du P h.fn (.const (XA (C ⟨0,0,F⟩)))=Xf:=A;rw[q]at a;cases a.1.1
end
section
variable{main:Xo}{l:Goal P h main f}
theorem g_lone(L:Good P h)(a3:h.fr d.fn=J)(R:d.kind=.normal){k:XG}(a1:h.code k=J)(T:jG c=J)(t:Inv P h f m e)(W:ar h m ⟨[],[]⟩ g i)(v:Xu->M->Prop)
 (w:∀u:M,u.heap=e.heap->u.drawn=e.drawn->u.os=e.os->u.output=e.output->k.wp P (eP v) g u)(a6:∀a b,v a b->∀s,f s->b.heap[s]?=e.heap[s]?)
 (next:∀q a N b,Inv P h f q b->cV f m e q b->ar h q ⟨[],[]⟩ a N->v a b->l.G q b (rg (d.at N c) n)):l.G m e (rg (d.at i (.code k::c)) n):=by
 have a7:=Fz (d:=d) c (Tp.all λH=>w {e with tape:=H} A rfl rfl rfl);obtain⟨d2,S,a2⟩:=W.defers;simp only[YT]at S
 have a4:bH P h Xf m (d.at g [.code k,df c]) (d.at i (.code k::c)):=by
  refine⟨A,a3,W.tmps,?_,?_,.run,A,Xh R,?_⟩
  .refine .cons (.code k (Xi ⟨a1,λb0=>?_⟩)) (.tail ?_ T)
   .cases b0
   rfl
  .show aZ (rP h m) g.defers i.defers;rw[S];exact a2
  exact .none
 have b1:cK P h Xf m [d.at g [.code k,df c]] [d.at i (.code k::c)]:=⟨.cons a4 .nil,λs r=>by simp only[E_,Yh]at r;subst r;exact⟨R,A⟩⟩
 have b4:=tP (main:=main) (base:=n) (f:=f) (u:=m) (k:=e) L t.cO t.iQ (v:=λO e=>∃a,O=d.at a [df c]/\v a e) (λq d3 d4 b b7 _ x y d6 d7 Y=>by
  obtain⟨H,a,_,z⟩:=Y.one
  exact⟨b,.refl _,λs r=>a6 a _ z s r⟩) a7 t.base b1 (λ_ _=>rfl) (Ren.le_refl _) (λg d w=>Xh w) (XS _)
 refine l.ON A (b4.bind λq b d5 r=>?_);obtain⟨O,o,rfl,d8,p,a0,a8,a5,b2,D,Z⟩:=r;refine .stop ⟨A,?_⟩;obtain⟨b5,a,rfl,z⟩:=Z.one;have b3:=p.todo;have a9:=p.mode;have U:o.todo=c:=QE (v:=Xf) L T b3;have X:o=d.at ⟨o.tmps,o.defers⟩ c:=by
  obtain⟨fn,e1,e2,d0,e0,d9,Ob⟩:=o;simp only at U;subst U;have Q:=p.fn;have x:=p.kind;have y:=p.roundOf;cases a9;obtain⟨b9,c8,c9,b8,c6,c0,c7⟩:=d;simp only[Frame.at]at Q x y⊢
  subst Q x;cases y;rfl
 rw[X];refine l.tape (t:=b5) ?_;refine next q a ⟨o.tmps,o.defers⟩ _ ⟨a0,?_,?_⟩ ⟨a8,a5,b2,D⟩ ⟨p.tmps,⟨o.defers,by simp,p.defers⟩,by simp⟩ z
 .exact t.cO.keep D
 exact t.iQ.keep D
end
variable{c:M}{p:E}{D:Xk Oper}{R:Xg Item}{Q:Xg Xr}{i:E}{d:E}{v:Xe}{rest:Xg E}
structure aH(own a:E->Prop)(e c:M):Prop where
 size:e.heap.size<=c.heap.size
 keep:∀b,b<e.heap.size->¬own b->c.heap[b]?=e.heap[b]?
 more:∀b,a b->own b\/e.heap.size<=b
theorem aH.refl(own:E->Prop)(e:M):aH own own e e:=⟨XS _,λ_ _ _=>rfl,λ_ a=>Xh a⟩
theorem aH.trans{own T U:E->Prop}{W X:M}(a:aH own T e W)(n:aH T U W X):aH own U e X where
 size:=XZ a.size n.size
 keep:=λb l S=>by
  rw[n.keep b (XY l a.size) λk=>?_,a.keep b l S];rcases a.more b k with w|w
  .exact S w
  omega
 more:=λb l=>by
  rcases n.more b l with k|k
  .exact a.more b k
  exact Xi (XZ a.size k)
theorem aH.heap{own h:E->Prop}{k:M}(g:aH own h e k)(f:c.heap=e.heap):aH own h c k:=⟨by rw[f];exact g.size,λb a l=>by rw[f]at a⊢;exact g.keep b a l,λb a=>by rw[f];exact g.more b a⟩
def aP(r:Xj)(a:RV):Xk Xe:=#[Xd K r,Xd K a.ak,Xd K a.kind,.string a.path,.string a.data,Xd K a.aE,Xd K a.flags,.bool a.watch,.slice a.oa a.on a.oc]
theorem TT{q:Type}{b:Xk q}(a:b.size=10):∃e f g h k l m n o p,b=#[e,f,g,h,k,l,m,n,o,p]:=by
 obtain⟨c⟩:=b;simp only[Yt]at a
 iterate 10
  rcases c with _|⟨_,c⟩
  simp at a
 simp_all
def rh(i:E):Xg E:=[[],[],[],[],[],[3,4],[5],[1,2,6],[0,7]].getD i []
section
variable{O:Goal TP al J f}{L:Ren}{q:M}{y:Xu}{h N:E}{r:Xj}{rq:RV}{t:Xk Xe}{ej:E->Prop}
variable{H:Xe->(E->Prop)->M->Prop}{z:(E->Prop)->M->Prop}
structure Wh(f:E->Prop)(q:M)(y:Xu)(u h N p s:E)(r:Xj)(rq:RV)(t:Xk Xe)(ej:E->Prop)(H:Xe->(E->Prop)->M->Prop)(z:(E->Prop)->M->Prop):Prop where
 s2:y.tmps[2]?=C (pt h 0)
 s4:y.tmps[4]?=C (pt (h+3) 0)
 s7:y.tmps[7]?=C (Xd K s)
 s8:y.tmps[8]?=C (pt N 0)
 mn:s<p
 ns:p<2^20
 c2:q.heap[h]?=C (Xn #[pt u 0] 76 (0,0))/\¬ej h
 c4:q.heap[h+3]?=C (Xn #[Xm (C ⟨h+2,0,F⟩) p p] 141 (0,0))/\¬ej (h+3)
 c8:q.heap[N]?=C (Xn (aP r rq) 107 (0,0))/\¬ej N
 cg:∃n T S,q.heap[h+2]?=C (Xn n T S)/\¬ej (h+2)/\∀j,j<10->n[s*10+j]?=t[j]?
 gs:t.size=10
 VM:∀l,f l->l<q.heap.size/\¬ej l
 Ro:∀c,c.heap=q.heap->Calls TP 61 #[pt u 0,.agg (aP r rq),.agg t] c λk a=>∃g own,k=Xs g/\H g own a/\aH ej own c a
 snd:∀g own c,H g own c->Calls TP 60 #[pt u 0,g] c λk a=>∃w,k=Xs (.tuple #[])/\z w a/\aH own w c a
 mh:∀g own e c,c.heap=e.heap->H g own e->H g own c
 fh:∀own e c,c.heap=e.heap->z own e->z own c
def jH(u h p s:E)(r:Xj)(rq:RV)(t:Xk Xe)(g:Xe):Xg (E×E×Xe):=
 [(0,33,pt u 0),(1,34,pt u 0),(2,35,.agg (aP r rq)),(3,36,Xm (C ⟨h+2,0,F⟩) p p),(4,37,Xd K s),(5,38,pt (h+2) (s*10)),(6,39,.agg t),(7,40,g)]
structure RJ(f:E->Prop)(L:Ren)(q:M)(y:Xu)(u h p s:E)(r:Xj)(rq:RV)(t:Xk Xe)(ej:E->Prop)(H:Xe->(E->Prop)->M->Prop)(z:(E->Prop)->M->Prop)(o:Xk Xo)(g:Xe)(own:E->Prop)(m:Ren)(e:M)(b x:Xu):Prop where
 inv:Inv TP al f m e
 grow:cV f L q m e
 rel:ar al m ⟨[],[]⟩ b x
 len:b.tmps.size=43
 defs:b.defers=[]
 old:∀j,j<33->b.tmps[j]?=y.tmps[j]?
 tab:∀a∈jH u h p s r rq t g,o.getD a.1 Xf=J->b.tmps[a.2.1]?=C a.2.2
 d87:o.getD 8 Xf=J->o.getD 7 Xf=J
 Rj:aH ej own q e
 pre:o.getD 7 Xf=Xf->e.heap=q.heap
 Ut:o.getD 7 Xf=J->o.getD 8 Xf=Xf->H g own e
 fin:o.getD 8 Xf=J->z own e
variable{o:Xk Xo}{g:Xe}{own:E->Prop}
theorem Ds(u h p s:E)(r:Xj)(rq:RV)(t:Xk Xe)(g:Xe):((jH u h p s r rq t g).map (·.1)).Nodup:=by show([0,1,2,3,4,5,6,7]:Xg E).Nodup;decide
theorem wF(u h p s:E)(r:Xj)(rq:RV)(t:Xk Xe)(g:Xe):((jH u h p s r rq t g).map (·.2.1)).Nodup:=by show([33,34,35,36,37,38,39,40]:Xg E).Nodup;decide
theorem RJ.eval(a:RJ f L q y u h p s r rq t ej H z o g own m e b x)(k:(i,d,v)∈jH u h p s r rq t g)(hd:o.getD i Xf=J):b.eval (.tmp d)=v/\b.tmps.getD d I=v/\b.tmps[d]?.getD I=v:=
 cB (a.tab _ k hd)
theorem DW{k:Xg (E×E×Xe)}(l:(k.map (·.1)).Nodup)(n:(k.map (·.2.1)).Nodup){o:Xk Xo}(S:∀a∈k,o.getD a.1 Xf=J->b.tmps[a.2.1]?=C a.2.2)(w:(i,d,v)∈k)(hd:d<b.tmps.size):
 ∀a∈k,(o.setIfInBounds i J).getD a.1 Xf=J->(b.put (C d) v).tmps[a.2.1]?=C a.2.2:=by
 grind [iB,Act.put,ef]
theorem pN(W:Wh f q y u h N p s r rq t ej H z){U:Op}(a6:bN D i (C d) U)(a7:jd TP al.fn al.bi al.bZ U=J)(b3:i<7)(hd:33<=d/\d<43)(a4:(i,d,v)∈jH u h p s r rq t g)
 (a:RJ f L q y u h p s r rq t ej H z o g own m e b x)(run:∀c:M,c.heap=e.heap->∀b0 a9 Z,(⟨C d,U,b0,a9,Z,F⟩:Oper).wp TP b c (λn k=>n=b.put (C d) v/\k.heap=e.heap) (eP λ_ _=>False))
 (next:∀g own m e b x,RJ f L q y u h p s r rq t ej H z (o.setIfInBounds i J) g own m e b x->O.G m e (rg ((base 39).at x (Xv D rest::R)) Q)):
 O.G m e (rg ((base 39).at x (Xv D (i::rest)::R)) Q):=by
 refine BT aC (by decide) (by decide) a6 a7 A a.inv a.rel (λn k=>n=b.put (C d) v/\k.heap=e.heap) run (λn k a1 w _=>by rw[a1.2]) ?_;rintro b2 _ Y k X a0 a8⟨rfl,l⟩;have S:(o.setIfInBounds i J).getD 7 Xf=o.getD 7 Xf:=ef (by omega);have T:(o.setIfInBounds i J).getD 8 Xf=o.getD 8 Xf:=ef (by omega);refine next g own b2 k _ Y ⟨X,a.grow.trans a0,a8,by simp[Act.put,a.len],a.defs,λj a3=>?_,DW (Ds ..) (wF ..) a.tab a4 (by rw[a.len];exact hd.2),by rw[S,T];exact a.d87,⟨by rw[l];exact a.Rj.size,λb a2 a5=>by rw[l];exact a.Rj.keep b a2 a5,a.Rj.more⟩,by rw[S,l];exact a.pre,by rw[S,T];exactλw b1=>W.mh _ _ _ _ l (a.Ut w b1),by rw[T];exactλw=>W.fh _ _ _ l (a.fin w)⟩
 simp only[Act.put];rw[Ya (by omega)];exact a.old j a3
theorem NZ(l:Wh f q y u h N p s r rq t ej H z)(g0:D.size=9)(i1:Bz D=J)(h8:∀{o:Xk Xo}{i:E},i∈Region.ready .any D o->∀j∈rh i,o.getD j Xf=J)
 (b3:bN D 0 (C 33) (.load 76 (.tmp 2)))(a3:bN D 1 (C 34) (.load 76 (.tmp 2)))(b4:bN D 2 (C 35) (.load 107 (.tmp 8)))(b5:bN D 3 (C 36) (.load 141 (.tmp 4)))(b6:bN D 4 (C 37) (.move (.tmp 7)))
 (b7:bN D 5 (C 38) (.indexAddr 141 (.tmp 36) (.tmp 37)))(b8:bN D 6 (C 39) (.load 158 (.tmp 38)))(b9:bN D 7 (C 40) (.call {callee:=.value (.func 61),args:=#[.tmp 34,.tmp 35,.tmp 39],argTypes:=#[76,107,158]}))
 (c0:bN D 8 (C 41) (.call {callee:=.value (.func 60),args:=#[.tmp 33,.tmp 40],argTypes:=#[76,38]})){id:E}(g3:Inv TP al f L q)(i4:ar al L ⟨[],[]⟩ y x)(i3:y.tmps.size=43)(h9:y.defers=[])
 (next:∀own m e b x,Inv TP al f m e->cV f L q m e->ar al m ⟨[],[]⟩ b x->b.tmps.size=43->b.defers=[]->(∀j,j<33->b.tmps[j]?=y.tmps[j]?)->z own e->aH ej own q e->O.G m e (rg ((base 39).at x R) Q)):
 O.G L q (rg ((base 39).at x (.code (.region id D J)::R)) Q):=by
 refine Hl (c:=λ_:Unit=>O) lx i1 (λo _ m e b x=>∃g own,RJ f L q y u h p s r rq t ej H z o g own m e b x) ?_ ?_ (b:=()) ⟨I,ej,⟨g3,.refl _ _,i4,i3,h9,λ_ _=>rfl,λS _ hd=>?_,λhd=>?_,.refl _ _,λ_=>rfl,λhd=>?_,λhd=>?_⟩⟩
 .rintro o i rest i9 f8 f5 _ m e b x⟨g,own,a⟩;have hd:=h8 f8;obtain⟨i2,j3,_⟩:=ls.1 f8;rw[g0]at i2;have d4:o.getD i Xf=Xf:=by
   simp_all
  have d0:∀U,U<q.heap.size->¬ej U->e.heap[U]?=q.heap[U]?:=a.Rj.keep
  have n:∀{U j:E}{d9:Xk Xe}{g2:Xq}{f6:E×E}{v:Xe},q.heap[U]?=C (Xn d9 g2 f6)->¬ej U->d9[j]?=C v->∀c:M,c.heap=e.heap->c.cell? ⟨U,j,F⟩=C v:=by grind [World.cell?]
  have w:∀g own m e b x,RJ f L q y u h p s r rq t ej H z (o.setIfInBounds i J) g own m e b x->O.G m e (rg ((base 39).at x (Xv D rest::R)) Q):=λg own m e b x a=>f5 () m e b x ⟨g,own,a⟩;have a7:b.tmps[2]?=C (pt h 0):=(a.old 2 (by omega)).trans l.s2;have a9:b.tmps[4]?=C (pt (h+3) 0):=(a.old 4 (by omega)).trans l.s4;have b0:b.tmps[7]?=C (Xd K s):=(a.old 7 (by omega)).trans l.s7;have b1:b.tmps[8]?=C (pt N 0):=(a.old 8 (by omega)).trans l.s8;clear f5;rcases(by omega:i=0\/i=1\/i=2\/i=3\/i=4\/i=5\/i=6\/i=7\/i=8)with rfl|rfl|rfl|rfl|rfl|rfl|rfl|rfl|rfl
  .obtain⟨c6,c7,c8⟩:=cB a7;have b2:=n (j:=0) l.c2.1 l.c2.2 A;refine pN l (v:=pt u 0) b3 (by rfl) (by decide) (by decide) (by simp[jH]) a (λc k a5 a4 S=>?_) w;replace b2:=b2 c k;clear w a n d0 next l hd b3 a3 b4 b5 b6 b7 b8 b9 c0 a7 a9 b0 b1
   go_wp2
   all_goals first|exact⟨rfl,k⟩|exact k
  .obtain⟨c6,c7,c8⟩:=cB a7;have b2:=n (j:=0) l.c2.1 l.c2.2 A;refine pN l (v:=pt u 0) a3 (by rfl) (by decide) (by decide) (by simp[jH]) a (λc k a5 a4 S=>?_) w;replace b2:=b2 c k;clear w a n d0 next l hd b3 a3 b4 b5 b6 b7 b8 b9 c0 a7 a9 b0 b1
   go_wp2
   all_goals first|exact⟨rfl,k⟩|exact k
  .obtain⟨c6,c7,c8⟩:=cB b1;refine pN l (v:=.agg (aP r rq)) b4 (by rfl) (by decide) (by decide) (by simp[jH]) a (λc k a5 a4 S=>?_) w;obtain⟨j7,j8,j9,k0,k1,k2,k3,j4,j6,j5⟩:=rq;have a1:=l.c8.1;unfold aP at a1⊢
   have g4:=n (j:=0) a1 l.c8.2 A c k;have c1:=n (j:=1) a1 l.c8.2 A c k;have c2:=n (j:=2) a1 l.c8.2 A c k;have c3:=n (j:=3) a1 l.c8.2 A c k;have c4:=n (j:=4) a1 l.c8.2 A c k;have c5:=n (j:=5) a1 l.c8.2 A c k;have g5:=n (j:=6) a1 l.c8.2 A c k;have g6:=n (j:=7) a1 l.c8.2 A c k;have g7:=n (j:=8) a1 l.c8.2 A c k;clear w a n d0 next l hd b3 a3 b4 b5 b6 b7 b8 b9 c0 a7 a9 b0 b1 a1
   go_wp2
   all_goals first|exact⟨rfl,k⟩|exact k
  .obtain⟨c6,c7,c8⟩:=cB a9;have b2:=n (j:=0) l.c4.1 l.c4.2 A;refine pN l (v:=Xm (C ⟨h+2,0,F⟩) p p) b5 (by rfl) (by decide) (by decide) (by simp[jH]) a (λc k a5 a4 S=>?_) w;replace b2:=b2 c k;clear w a n d0 next l hd b3 a3 b4 b5 b6 b7 b8 b9 c0 a7 a9 b0 b1
   go_wp2
   all_goals first|exact⟨rfl,k⟩|exact k
  .obtain⟨c6,c7,c8⟩:=cB b0;refine pN l (v:=Xd K s) b6 (by rfl) (by decide) (by decide) (by simp[jH]) a (λc k a5 a4 S=>?_) w;clear w a n d0 next l hd b3 a3 b4 b5 b6 b7 b8 b9 c0 a7 a9 b0 b1
   go_wp2
   all_goals first|exact⟨rfl,k⟩|exact k
  .obtain⟨c6,c7,c8⟩:=a.eval (i:=3) (d:=36) (v:=Xm (C ⟨h+2,0,F⟩) p p) (by simp[jH]) (hd 3 (by simp[rh]));obtain⟨q1,f2,f3⟩:=a.eval (i:=4) (d:=37) (v:=Xd K s) (by simp[jH]) (hd 4 (by simp[rh]));have j1:=l.mn;have j2:(s:Xj)<p:=by omega
   refine pN l (v:=pt (h+2) (s*10)) b7 (by rfl) (by decide) (by decide) (by simp[jH]) a (λc k a5 a4 S=>?_) w;clear w a n d0 next l hd b3 a3 b4 b5 b6 b7 b8 b9 c0 a7 a9 b0 b1
   go_wp2
   all_goals first|exact⟨rfl,k⟩|exact k
  .obtain⟨c6,c7,c8⟩:=a.eval (i:=5) (d:=38) (v:=pt (h+2) (s*10)) (by simp[jH]) (hd 5 (by simp[rh]));obtain⟨d9,g2,f6,Z,a0,Y⟩:=l.cg;obtain⟨g8,g9,h0,h1,h2,h3,h4,h5,h6,h7,f7⟩:=TT l.gs;refine pN l (v:=.agg t) b8 (by rfl) (by decide) (by decide) (by simp[jH]) a (λc k a5 a4 S=>?_) w;rw[f7]at Y⊢
   have g4:=n (j:=s*10) (v:=g8) Z a0 (Y 0 (by decide)) c k;have c1:=n (j:=s*10+1) (v:=g9) Z a0 (Y 1 (by decide)) c k;have c2:=n (j:=s*10+2) (v:=h0) Z a0 (Y 2 (by decide)) c k;have c3:=n (j:=s*10+3) (v:=h1) Z a0 (Y 3 (by decide)) c k;have c4:=n (j:=s*10+4) (v:=h2) Z a0 (Y 4 (by decide)) c k;have c5:=n (j:=s*10+5) (v:=h3) Z a0 (Y 5 (by decide)) c k;have g5:=n (j:=s*10+6) (v:=h4) Z a0 (Y 6 (by decide)) c k;have g6:=n (j:=s*10+7) (v:=h5) Z a0 (Y 7 (by decide)) c k;have g7:=n (j:=s*10+8) (v:=h6) Z a0 (Y 8 (by decide)) c k;have i7:=n (j:=s*10+9) (v:=h7) Z a0 (Y 9 (by decide)) c k;clear w a n d0 next l hd b3 a3 b4 b5 b6 b7 b8 b9 c0 a7 a9 b0 b1 Y Z a0 f7
   go_wp2
   all_goals first|exact⟨rfl,k⟩|exact k
  ·
   obtain⟨c6,c7,c8⟩:=a.eval (i:=1) (d:=34) (v:=pt u 0) (by simp[jH]) (hd 1 (by simp[rh]));obtain⟨q1,f2,f3⟩:=a.eval (i:=2) (d:=35) (v:=.agg (aP r rq)) (by simp[jH]) (hd 2 (by simp[rh]));obtain⟨k5,k6,k7⟩:=a.eval (i:=6) (d:=39) (v:=.agg t) (by simp[jH]) (hd 6 (by simp[rh]));have e8:=a.pre d4;have i8:o.getD 8 Xf=Xf:=by
    cases W:o.getD 8 Xf with
    |false=>rfl
    |true=>rw[a.d87 W]at d4;cases d4
   refine BT aC (by decide) (by decide) b9 (by rfl) A a.inv a.rel (λa6 T=>∃g own,a6=b.put (C 40) g/\H g own T/\aH ej own q T) (λc k a5 a4 S=>?_) ?_ ?_
   .have d5:=l.Ro c (k.trans e8);generalize d3:(λa6 T=>∃g own,a6=b.put (C 40) g/\H g own T/\aH ej own q T)=e1
    have fin:∀g own a8,H g own a8->aH ej own c a8->e1 (b.put (C 40) g) a8:=λg own a8 c9 a2=>by subst d3;exact⟨g,own,A,c9,a2.heap (k.trans e8).symm⟩
    unfold Oper.wp
    have f0:(execOp b.eval ⟨C 40,.call {callee:=.value (.func 61),args:=#[.tmp 34,.tmp 35,.tmp 39],argTypes:=#[76,107,158]},a5,a4,S,F⟩).run TP c=.ok (.enter 61 #[pt u 0,.agg (aP r rq),.agg t]) c:=by
     generalize aP r rq=k4 at q1 f2 f3⊢
     clear d5 fin d3 w a l;go_simp
    rw[f0,aa3];refine d5.mono ?_
    grind
   .rintro a6 T⟨a3,g1,_,_,a2⟩ U W;obtain⟨d7,d8⟩:=l.VM U W;rw[a2.keep U d7 d8,e8]
   rintro f4 _ e4 T e0 e7 f1⟨a3,g1,rfl,c9,a2⟩;refine w a3 g1 f4 T _ e4 ⟨e0,a.grow.trans e7,f1,by simp[Act.put,a.len],a.defs,λj e9=>?_,?_,λ_=>getD_eq (by omega),a2,λW=>?_,λ_ _=>c9,λW=>?_⟩
   .simp only[Act.put];rw[Ya (by omega)];exact a.old j e9
   .refine DW (Ds ..) (wF ..) (b:=b) (λS d2 d1=>?_) (by simp[jH]) (by rw[a.len];decide);refine a.tab S ?_ d1;simp only[jH,XV,Yd,YS]at d2⊢
    rcases d2 with rfl|rfl|rfl|rfl|rfl|rfl|rfl|rfl
    all_goals first|(simp;done)|(rw[d4]at d1;cases d1)
   .rw[getD_eq (by omega)]at W;cases W
   simp_all
  ·
   have d6:=hd 7 (by simp[rh]);obtain⟨c6,c7,c8⟩:=a.eval (i:=0) (d:=33) (v:=pt u 0) (by simp[jH]) (hd 0 (by simp[rh]));obtain⟨q1,f2,f3⟩:=a.eval (i:=7) (d:=40) (v:=g) (by simp[jH]) d6;refine BT aC (by decide) (by decide) c0 (by rfl) A a.inv a.rel (λa6 T=>∃X,a6=b.put (C 41) (.tuple #[])/\z X T/\∃c,c.heap=e.heap/\aH own X c T) (λc k a5 a4 S=>?_) ?_ ?_
   .have d5:=l.snd g own c (l.mh _ _ _ _ k (a.Ut d6 d4));generalize d3:(λa6 T=>∃X,a6=b.put (C 41) (.tuple #[])/\z X T/\∃c,c.heap=e.heap/\aH own X c T)=e1
    have fin:∀X a8,z X a8->aH own X c a8->e1 (b.put (C 41) (.tuple #[])) a8:=λX a8 c9 a2=>by subst d3;exact⟨X,A,c9,c,k,a2⟩
    unfold Oper.wp
    have f0:(execOp b.eval ⟨C 41,.call {callee:=.value (.func 60),args:=#[.tmp 33,.tmp 40],argTypes:=#[76,38]},a5,a4,S,F⟩).run TP c=.ok (.enter 60 #[pt u 0,g]) c:=by clear d5 fin d3 w a l;go_simp
    rw[f0,aa3];refine d5.mono ?_
    grind
   .rintro a6 T⟨X,_,_,c,S,a2⟩ U W;obtain⟨d7,d8⟩:=l.VM U W;have i5:=a.Rj.trans (a2.heap S.symm);rw[i5.keep U d7 d8,a.Rj.keep U d7 d8]
   rintro f4 _ e4 T e0 e7 f1⟨X,rfl,c9,c,S,a2⟩;have j0:8<o.size:=by omega
   refine w g X f4 T _ e4 ⟨e0,a.grow.trans e7,f1,by simp[Act.put,a.len],a.defs,λj e9=>?_,λe6 d2 d1=>?_,λ_=>by rw[ef (by decide)];exact d6,a.Rj.trans (a2.heap S.symm),λW=>?_,λ_ W=>?_,λ_=>c9⟩
   .simp only[Act.put];rw[Ya (by omega)];exact a.old j e9
   .have f9:e6.1≠8/\e6.2.1≠41:=by
     simp only[jH,XV,Yd,YS]at d2;rcases d2 with rfl|rfl|rfl|rfl|rfl|rfl|rfl|rfl<;>simp
    rw[ef f9.1]at d1;exact cm (a.tab e6 d2 d1) f9.2
   .rw[ef (by decide),d6]at W;cases W
   simp_all
 .rintro o i0 _ m e b x⟨g,own,a⟩;exact bP (next own m e b x a.inv a.grow a.rel a.len a.defs a.old (a.fin (i0 8 (by omega))) a.Rj)
 all_goals (exfalso;rw[g0]at*;revert hd;simp[Yu,Xk.getElem?_replicate];try (split<;>simp))
end
variable{e:E}{p:Xp Xw}{v:Xg Xr}{g:M}{k:Xu}
def nC(own:E->Prop)(d:Xk Xe):Prop:=∀b c a,d[8]?=C (Xm (C b) c a)->¬own b.block
structure Lw(St:E->(E->Prop)->M->Prop)(r:E->Xe->(E->Prop)->M->Prop)(u e d:E)(m:E->Xj)(rq:E->RV)(q:E->LR):Prop where
 Ro:∀a,a<e->∀own c x,St a own c->cf (q a) d x c->nC own x->Calls TP 61 #[pt u 0,.agg (aP (m a) (rq a)),.agg (x.push (q a).ev)] c λw g=>∃l n,w=Xs l/\r a l n g/\aH own n c g
 snd:∀a,a<e->∀l own c,r a l own c->Calls TP 60 #[pt u 0,l] c λw g=>∃n,w=Xs (.tuple #[])/\St (a+1) n g/\aH own n c g
 sg:∀a own(c g:M),(∀b,b<c.heap.size->g.heap[b]?=c.heap[b]?)->c.heap.size<=g.heap.size->St a own c->St a own g
 sl:∀a own c,St a own c->∀b,own b->b<c.heap.size
 mh:∀a l own(c g:M),g.heap=c.heap->r a l own c->r a l own g
section
variable{t:Goal TP al J f}{St:E->(E->Prop)->M->Prop}{r:E->Xe->(E->Prop)->M->Prop}{o d:E}{m:E->Xj}{rq:E->RV}{q:E->LR}
variable{s:Ren}{h:M}{i:E->Prop}
structure pW(f:E->Prop)(h:M)(u e o d:E)(p:Xp Xw)(m:E->Xj)(rq:E->RV)(q:E->LR)(i:E->Prop):Prop where
 small:e<2^20
 h2:h.heap[d]?=C (Xn #[pt u 0] 76 (0,0))/\¬i d
 h3:h.heap[d+1]?=C (Xn #[.slice p e o] 103 (0,0))/\¬i (d+1)
 h4:h.heap[d+3]?=C (Xn #[Xm (C ⟨d+2,0,F⟩) e e] 141 (0,0))/\¬i (d+3)
 Ui:∃n w,h.heap[d+2]?=C (Xn n 158 w)/\∀a,a<e->∃D,cf (q a) d D h/\(∀j,j<9->n[a*10+j]?=D[j]?)/\n[a*10+9]?=C (q a).ev
 Vx:¬i (d+2)
 nfree:∀b,d<=b->¬i b
 list:e=0\/∃l z y H w,p=C ⟨l,z,F⟩/\h.heap[l]?=C (Xn y H w)/\¬i l/\∀a,a<e->∀j,j<9->y[z+a*9+j]?=(aP (m a) (rq a))[j]?
 Ob:∀x,f x->x<h.heap.size/\¬i x
structure TO(St:E->(E->Prop)->M->Prop)(f:E->Prop)(s:Ren)(h:M)(i:E->Prop)(e o d:E)(p:Xp Xw)(n:E)(a:Ren)(c:M)(b k:Xu):Prop where
 inv:Inv TP al f a c
 grow:cV f s h a c
 rel:ar al a ⟨[],[]⟩ b k
 size:b.tmps.size=43
 defs:b.defers=[]
 s2:b.tmps[2]?=C (pt d 0)
 s3:b.tmps[3]?=C (pt (d+1) 0)
 s4:b.tmps[4]?=C (pt (d+3) 0)
 Wz:b.tmps[26]?=C (.slice p e o)
 WA:b.tmps[27]?=C (Xd K e)
 WB:b.tmps[28]?=C (Xd K n)
 st:∃own,St n own c/\aH i own h c
theorem FG{own d:E->Prop}(e:aH own d c g){b:E}(i:b<c.heap.size)(h:¬own b):¬d b:=λf=>by
 rcases e.more b f with a|a
 .exact h a
 omega
theorem KA(D:Lw St r u e d m rq q)(x:pW f h u e o d p m rq q i)(i9:St 0 i h)(h3:Inv TP al f s h)(j2:ar al s ⟨[],[]⟩ b k)(j1:b.tmps.size=43)(i3:b.defers=[])
 (f5:b.tmps[2]?=C (pt d 0))(g9:b.tmps[3]?=C (pt (d+1) 0))(f6:b.tmps[4]?=C (pt (d+3) 0))
 (next:∀own L c b k,Inv TP al f L c->cV f s h L c->ar al L ⟨[],[]⟩ b k->b.defers=[]->St e own c->aH i own h c->t.G L c (rg ((base 39).at k []) v)):
 t.G s h (rg ((base 39).at k [.code (tl (tl (tl (tl (tl lH)))))]) v):=by
 show t.G s h (rg ((base 39).at k [.code (.seq _ _)]) v);obtain⟨h0,f8⟩:=b;simp only at j1 i3 f5 g9 f6;obtain⟨X,Y,k1,k5,k6,d0,d1,e1,e2,d2,Z,a0,a1,a2,a3,a4,a5,a6,a7,a8,a9,b0,b1,b2,b3,b4,k2,k3,k4,h1,d8,d9,e0,b5,b6,b7,b8,b9,c0,c6,c7,c8,c9,rfl⟩:=uU j1;simp only[Yo,Yv,Yq,Yh]at f5 g9 f6;subst f5 g9 f6 i3;have g0:∀{n:E}{e8:Obj},h.heap[n]?=C e8->n<h.heap.size:=by grind
 refine bz (bT aC (by decide) (by decide) (y:=[]) A (by rfl) h3 j2 (λy w=>y=⟨#[X,Y,pt d 0,pt (d+1) 0,pt (d+3) 0,d0,d1,e1,e2,d2,Z,a0,a1,a2,a3,a4,a5,a6,a7,a8,a9,b0,b1,b2,b3,b4,.slice p e o,Xd K e,Xd K (0:E),h1,d8,d9,e0,b5,b6,b7,b8,b9,c0,c6,c7,c8,c9],[]⟩/\w.heap=h.heap) (λg z _ _ _=>?_) (λy w a n _=>by rw[a.2]) ?_)
 .have g1:g.cell? ⟨d+1,0,F⟩=C (.slice p e o):=by simp[M.cell?,z,x.h3.1]
  go_wp2
  exact⟨A,z⟩
 rintro x0 _ t4 s5 h4 h8 j3⟨rfl,g3⟩;refine ie ?_;refine qw (c:=λ_:Unit=>t) (λj _ L c k=>∃l b,l+j=e/\TO St f s h i e o d p l L c b k) ?_ ?_ e (a:=()) ⟨0,_,by omega,⟨h4,h8,j3,A,A,A,A,A,A,A,A,i,D.sg 0 i h s5 (λb _=>by rw[g3]) (by simp_all) i9,⟨by simp_all,λb _ _=>by rw[g3],λb a=>Xh a⟩⟩⟩
 .clear j3 h4 h8 g3 j2 i9 h3;rintro j j5 _ L c k⟨l,b,m9,a⟩;have W:l<e:=by omega
  obtain⟨own,d3,U⟩:=a.st;obtain⟨h0,f8⟩:=b;obtain⟨X,Y,k1,k5,k6,d0,d1,e1,e2,d2,Z,a0,a1,a2,a3,a4,a5,a6,a7,a8,a9,b0,b1,b2,b3,b4,k2,k3,k4,h1,d8,d9,e0,b5,b6,b7,b8,b9,c0,c6,c7,c8,c9,rfl⟩:=uU a.size;have hd:=a.defs;subst hd;have e9:=a.s2;have f3:=a.s3;have f4:=a.s4;have f0:=a.Wz;have f1:=a.WA;have f2:=a.WB;simp only[Yo,Yv,Yq,Yh]at e9 f3 f4 f0 f1 f2;subst e9 f3 f4 f0 f1 f2;have u9:(l:Xj)<e:=by omega
  refine bz (bT aC (by decide) (by decide) (y:=[]) A (by rfl) a.inv a.rel (λy w=>y=⟨#[X,Y,pt d 0,pt (d+1) 0,pt (d+3) 0,d0,d1,e1,e2,d2,Z,a0,a1,a2,a3,a4,a5,a6,a7,a8,a9,b0,b1,b2,b3,b4,.slice p e o,Xd K e,Xd K l,.bool J,d8,d9,e0,b5,b6,b7,b8,b9,c0,c6,c7,c8,c9],[]⟩/\w.heap=c.heap) (λg z _ _ _=>?_) (λy w a n _=>by rw[a.2]) ?_)
  .go_wp2
   exact⟨by simp[W],z⟩
  rintro k9 _ h5 w T e3 R⟨rfl,d4⟩;refine bz (iO (k:=J) (iP T.base R (by decide) A) (sq (bz (ie (bz ?_)))));obtain⟨N,d6,l3,o7,l8,rfl,f9,i0,h9⟩:=x.list.resolve_left (by omega);have i1:w.heap[N]?=C (Xn l3 o7 l8):=by rw[d4,U.keep N (g0 f9) i0,f9]
  refine bT aC (by decide) (by decide) (y:=[]) A (by rfl) T R (λy H=>y=⟨#[X,Y,pt d 0,pt (d+1) 0,pt (d+3) 0,d0,d1,Xd K l,pt w.heap.size 0,d2,Z,a0,a1,a2,a3,a4,a5,a6,a7,a8,a9,b0,b1,b2,b3,b4,Xm (C ⟨N,d6,F⟩) e o,Xd K e,Xd K l,.bool J,Xd K l,pt N (d6+l*9),.agg (aP (m l) (rq l)),b5,b6,b7,b8,b9,c0,c6,c7,c8,c9],[]⟩/\H.heap=w.heap.push (.cells (aP (m l) (rq l)) 107 (0,0))) (λg z _ _ _=>?_) ?_ ?_
  .obtain⟨⟨n9,o0,o1,o2,o3,o4,o5,n5,n7,n6⟩,i8⟩:∃n8,rq l=n8:=by simp
   have g2:=h9 l W;rw[i8]at g2⊢
   unfold aP at g2⊢
   rw[<-z]at i1;have cell:∀j k7,j<9->#[Xd K (m l),Xd K n9,Xd K o0,.string o1,.string o2,Xd K o3,Xd K o4,.bool o5,.slice n5 n7 n6][j]?=C k7->g.cell? ⟨N,d6+l*9+j,F⟩=C k7:=by simp_all [M.cell?]
   have t9:g.cell? ⟨N,d6+l*9,F⟩=C (Xd K (m l)):=cell 0 _ (by decide) A;have c1:=cell 1 _ (by decide) A;have c2:=cell 2 _ (by decide) A;have c3:=cell 3 _ (by decide) A;have c4:=cell 4 _ (by decide) A;have c5:=cell 5 _ (by decide) A;have u0:=cell 6 _ (by decide) A;have u1:=cell 7 _ (by decide) A;have l7:=cell 8 _ (by decide) A;rw[<-z];clear j5 a next D x d3 U cell g2 h9 f9 i0 i1 i8 d4 R e3 T z
   go_wp2
   exact⟨A,A⟩
  .grind [yW]
  rintro x1 _ t5 H l0 m0 j4⟨rfl,u7⟩;obtain⟨l6,l9,g1,m7⟩:=x.Ui;obtain⟨d7,j0,v2,v1⟩:=m7 l W;have v3:=j0.size;have i4:c.heap.size<=H.heap.size:=by simp_all
  have i6:∀n,n<c.heap.size->H.heap[n]?=c.heap[n]?:=by grind
  have m5:=D.sg l own c H i6 i4 d3;have i2:=U.trans ⟨i4,λn e4 _=>i6 n e4,λn a=>Xh a⟩;have O:∀{n:E}{e8:Obj},h.heap[n]?=C e8->¬i n->H.heap[n]?=C e8/\¬own n:=λa i7=>⟨by rw[i2.keep _ (g0 a) i7,a],FG U (g0 a) i7⟩
  have g4:∀g:M,g.heap=H.heap->cf (q l) d d7 g/\nC own d7:=by
   intro g Q;obtain⟨g7,sl,j7,d5⟩:=j0;refine⟨⟨g7,sl,j7,?_⟩,λl4 n3 f7 e4=>?_⟩
   .rcases d5 with d5|⟨j8,h6,f7,k0,h7,g5,e6,g6,j6⟩
    .exact Xh d5
    exact Xi ⟨j8,h6,f7,k0,h7,g5,e6,by rw[Q];exact(O g6 (x.nfree _ e6)).1,j6⟩
   have e5:d7.toList[8]?=C (Xm (C l4) n3 f7):=by grind
   rw[j7,<-Yp,YP (by simp[g7])]at e5;simp[g7]at e5;rcases d5 with⟨d5,_⟩|⟨j8,h6,c3,k0,h7,g5,e6,g6,j6⟩
   .simp_all
   rw[g5]at e5;cases e5;exact(O g6 (x.nfree _ e6)).2
  have m6:¬own w.heap.size:=λn0=>by have:=D.sl l own c d3 _ n0;simp_all
  refine NZ (u:=u) (h:=d) (N:=w.heap.size) (p:=e) (s:=l) (r:=m l) (rq:=rq l) (t:=d7.push (q l).ev) (ej:=own) (H:=r l) (z:=St (l+1)) {
   s2:=A
   s4:=A
   s7:=A
   s8:=A
   mn:=W
   ns:=x.small
   c2:=O x.h2.1 x.h2.2
   c4:=O x.h4.1 x.h4.2
   c8:=⟨by simp_all,m6⟩
   cg:=⟨l6,158,l9,(O g1 x.Vx).1,(O g1 x.Vx).2,λj u8=>by grind⟩
   gs:=by simp_all
   VM:=λn e4=>by
    obtain⟨w8,w9⟩:=x.Ob n e4
    grind
   Ro:=λg Q=>D.Ro l W own g d7 (D.sg l own H g (λb _=>by rw[Q]) (by simp_all) m5) (g4 g Q).1 (g4 g Q).2
   snd:=λg8 own g a=>D.snd l W g8 own g a
   mh:=λg8 own c g=>D.mh l g8 own c g
   fh:=λown c g Q=>D.sg (l+1) own c g (λb _=>by rw[Q]) (by simp_all)} A (by decide+kernel) (λm8=>Hf (R:=9) A (by decide+kernel) m8)
   ⟨_,A,A,A,A⟩ ⟨_,A,A,A,A⟩ ⟨_,A,A,A,A⟩ ⟨_,A,A,A,A⟩ ⟨_,A,A,A,A⟩ ⟨_,A,A,A,A⟩ ⟨_,A,A,A,A⟩ ⟨_,A,A,A,A⟩ ⟨_,A,A,A,A⟩ l0 j4 A rfl ?_
  intro j9 x2 k8 l5 t6 l1 m1 n1 n4 u3 S m3 m4;have s6:=S 2 (by omega);have t0:=S 3 (by omega);have t1:=S 4 (by omega);have s7:=S 26 (by omega);have s8:=S 27 (by omega);have s9:=S 28 (by omega);clear S j4 R g4 O;obtain⟨h0,f8⟩:=l5;obtain⟨o8,o9,w1,w5,w6,s0,s1,s2,s3,s4,p0,p1,p2,p3,p4,p5,p6,p7,p8,p9,q0,q2,q3,q4,q5,q6,w2,w3,w4,q7,q8,q9,r0,r1,r2,r3,r4,r5,r6,r7,r8,r9,w7,rfl⟩:=uU n4;simp only[Yo,Yv,Yq,Yh]at s6 t0 t1 s7 s8 s9;refine BU (bT aC (by decide) (by decide) (y:=[]) A (by rfl) l1 n1 (λy h2=>y=⟨#[o8,o9,pt d 0,pt (d+1) 0,pt (d+3) 0,s0,s1,s2,s3,s4,p0,p1,p2,p3,p4,p5,p6,p7,p8,p9,q0,q2,q3,q4,q5,q6,Xm (C ⟨N,d6,F⟩) e o,Xd K e,Xd K ((l+1:E):Xj),q7,q8,q9,r0,r1,r2,r3,r4,r5,r6,r7,r8,r9,Xd K ((l+1:E):Xj)],[]⟩/\h2.heap=k8.heap) (λg z _ _ _=>?_) (λy w a n _=>by rw[a.2]) ?_)
  .have v0:=x.small
   go_wp2
   exact⟨A,z⟩
  rintro x3 _ t7 h2 l2 m2 n2⟨rfl,i5⟩;refine j5 () _ _ _ ⟨l+1,_,by omega,⟨l2,(((a.grow.trans e3).trans m0).trans m1).trans m2,n2,A,A,A,A,A,A,A,A,j9,D.sg (l+1) j9 k8 h2 (λb _=>by rw[i5]) (by simp_all) m3,?_⟩⟩;exact(i2.trans m4).trans ⟨by simp_all,λb _ _=>by rw[i5],λb a=>Xh a⟩
 rintro _ L c k⟨l,b,m9,a⟩;obtain rfl:e=l:=by omega
 obtain⟨own,d3,U⟩:=a.st;obtain⟨h0,f8⟩:=b;obtain⟨X,Y,k1,k5,k6,d0,d1,e1,e2,d2,Z,a0,a1,a2,a3,a4,a5,a6,a7,a8,a9,b0,b1,b2,b3,b4,k2,k3,k4,h1,d8,d9,e0,b5,b6,b7,b8,b9,c0,c6,c7,c8,c9,rfl⟩:=uU a.size;have hd:=a.defs;have e9:=a.s2;have f3:=a.s3;have f4:=a.s4;have f0:=a.Wz;have f1:=a.WA;have f2:=a.WB;simp only[Yo,Yv,Yq,Yh]at e9 f3 f4 f0 f1 f2;refine bz (bT aC (by decide) (by decide) (y:=[]) A (by rfl) a.inv a.rel (λy w=>y=⟨#[X,Y,pt d 0,pt (d+1) 0,pt (d+3) 0,d0,d1,e1,e2,d2,Z,a0,a1,a2,a3,a4,a5,a6,a7,a8,a9,b0,b1,b2,b3,b4,.slice p e o,Xd K e,Xd K e,.bool Xf,d8,d9,e0,b5,b6,b7,b8,b9,c0,c6,c7,c8,c9],[]⟩/\w.heap=c.heap) (λg z _ _ _=>?_) (λy w a n _=>by rw[a.2]) ?_)
 .go_wp2
  exact⟨by simp,z⟩
 rintro k9 _ h5 w T e3 R⟨rfl,d4⟩;refine bz (iO (k:=Xf) (iP T.base R (by decide) A) (sb (a:=[]) A ?_));exact next own k9 w _ h5 T (a.grow.trans e3) R A (D.sg e own c w (λb _=>by rw[d4]) (by simp_all) d3) (U.trans ⟨by simp_all,λb _ _=>by rw[d4],λb a=>Xh a⟩)
end
variable{c:Xe}{a:M}{b:E}{d:Xp Xw}
def nA(a d:M):Prop:=a.heap.size<=d.heap.size/\∀b,b<a.heap.size->d.heap[b]?=a.heap[b]?\/∃c e f g,aT c/\a.heap[b]?=C (Obj.cells c e f)/\d.heap[b]?=C (Obj.cells c e g)
structure QW(St:E->(E->Prop)->M->Prop)(f n:E->Prop)(a:M)(w:E->LR)(O:E->Xj)(rq:E->RV)(ej:E->Prop)(u y b Q v:E)(d:Xp Xw):Prop where
 KX:∀e,f e->∃h x,a.heap[e]?=C (Xn h x (0,h.size))/\0<h.size/\(∀(l:E) i,h[l]?=C i->aR f i)/\¬aT h
 Io:∀s,(0<s\/s=TP.globals.size)->s<=TP.globals.size->f s
 xt:∀e,n e->(∃h x k,a.heap[e]?=C (Xn h x k)/\0<h.size/\k.2<=h.size/\¬aT h/\∀(l:E) i,h[l]?=C i->aR n i)\/∃H g,a.heap[e]?=C (.map H g)/\∀r∈H.toList,aR n r.key/\aR n r.val
 TA:n y
 hc:∃m D k,a.heap[u]?=C (Xn m D k)/\k.2<=m.size/\m[1]?=C (Xd K v)/\m[2]?=C (pt y 0)/\¬aT m/\∀(l:E) i,m[l]?=C i->IM i
 hA:d=F/\b=0\/∃t L p D k,d=C ⟨t,L,F⟩/\a.heap[t]?=C (Xn p D k)/\0<p.size/\k.2<=p.size/\(∀(l:E) i,p[l]?=C i->Calm i)/\¬ej t/\∀g,g<b->∀j,j<9->p[L+g*9+j]?=(aP (O g) (rq g))[j]?
 small:b<2^20
 Ib:1<=v/\v<2^16
 ev:∀g,Plain (w g).ev
 look:∀g,g<b->∀o:M,(∀e,n e\/f e->o.heap[e]?=(a.heap[e]?).map Obj.whole)->a.heap.size<=o.heap.size->Calls TP 58 #[pt y 0,.string (rq g).path] o λr q=>∃N,r=Xs (.tuple #[.agg N,(w g).ev])/\cf (w g) o.heap.size N q/\Below o.heap.size o q
 init:∀q,nA a q->St 0 ej q
 Wv:∀e,ej e->e<a.heap.size
 Ww:∀e,f e->¬ej e
theorem FJ(a:∀b,c≠.int .u8 b):¬aT #[c]:=λ⟨e,f,d⟩=>a f (one_cell (P:=λg=>c=g) A e _ d)
theorem results39(c:Xk Xe)(a:M):(results Tryz.f39 c).run TP a=.ok (.tuple #[]) a:=by have b:Tryz.f39.results=#[]:=A;unfold results;rw[b];simp[go_sem]
theorem Qy{b1:cZ}{St:E->(E->Prop)->M->Prop}{d4:E->Xe->(E->Prop)->M->Prop}{a1:E->Prop}{Z:E->LR}{a8:E->Xj}{rq:E->RV}{ej:E->Prop}{c0 x b9:E}
 (P:QW St f a1 a Z a8 rq ej u c0 b x b9 d)(b0:Lw St d4 u b a.heap.size a8 rq Z)(e5:kg b1 f):
 Co (goalAt TP b1 F z al f) 39 #[pt u 0,.slice d b x] a λc v=>∃own Q,c=.tuple #[]/\nA a Q/\St b own v/\aH ej own Q v:=by
 intro j2 h9 o d8 c9 e8 next
 have n:∀{h:E}{g3:Obj},a.heap[h]?=C g3->h<a.heap.size:=λg=>(XN.1 g).1;refine Tj (a:=b) (g:=x) (c:=d) (by have:=P.small;omega) c9 e8 λj4 w h7 d1 b6 g0⟨cl,f0,D⟩=>?_;have i8:w.heap.size=a.heap.size+4:=by rw[D];simp
 have t:∀h,h<a.heap.size->w.heap[h]?=a.heap[h]?:=λh s=>by rw[D,bY (by simp;omega),bY (by simp;omega),bY (by simp;omega),bY s]
 have b2:w.heap[a.heap.size]?=C (Xn #[pt u 0] 76 (0,0)):=by rw[D,bY (by simp;omega),bY (by simp;omega),bY (by simp)];simp
 have b3:w.heap[a.heap.size+1]?=C (Xn #[.slice d b x] 103 (0,0)):=by rw[D,bY (by simp),bY (by simp),Ze,XC (by simp)]
 have e0:w.heap[a.heap.size+2]?=C (Xn cl 158 (0,0)):=by rw[D,bY (by simp),Ze,XC (by simp)]
 have b4:w.heap[a.heap.size+3]?=C (Xn #[Xm (C ⟨a.heap.size+2,0,F⟩) b b] 141 (0,0)):=by rw[D,Ze,XC (by simp)]
 have a9:∀e,f e\/a1 e->e<a.heap.size:=by
  rintro e(k|k)
  .obtain⟨_,_,g,_⟩:=P.KX e k;exact n g
  rcases P.xt e k with⟨_,_,_,g,_⟩|⟨_,_,g,_⟩<;>exact n g
 obtain⟨c7,g9,e1,a6,e9⟩:=P.hc
 have c8:jZ f a1 w Z (λq=>(rq q).path) u c0 a.heap.size b x b9 d:={
  KX:=λe k=>by obtain⟨o,m,l,i⟩:=P.KX e k;exact⟨o,m,(t e (n l)).trans l,i⟩
  Io:=P.Io
  xt:=λe k=>by
   rcases P.xt e k with⟨o,m,p,l,i⟩|⟨d9,q,l,i⟩
   .exact Xh ⟨o,m,p,(t e (n l)).trans l,i⟩
   exact Xi ⟨d9,q,(t e (n l)).trans l,i⟩
  TA:=P.TA
  hc:=⟨c7,g9,e1,(t u (n a6)).trans a6,e9⟩
  hA:=by
   rcases P.hA with g|⟨y,Y,R,a0,p,l,i,T,U,b7,a3,W⟩
   .exact Xh g
   exact Xi ⟨y,Y,R,a0,p,l,n i,(t y (n i)).trans i,T,U,b7,λq N=>(W q N 3 (by decide)).trans A⟩
  h2:=b2
  h3:=b3
  h4:=b4
  AZ:=⟨cl,f0,e0⟩
  low:=⟨a9,n a6⟩
  small:=P.small
  Ib:=P.Ib
  ev:=P.ev
  look:=λq N h1 g2 i6=>P.look q N h1 (λe k=>by rw[g2 e k,t e (a9 e k.symm)]) (by omega)}
 refine Om c8 e5 d1 g0 λj3 v e h8 d0 b5 b8 f5 f9 f8 f1 g4 g5 g6=>?_;have i7:=b5.size
 have a4:nA a v:=⟨by omega,λe k=>by
  rcases b8 e (by omega) (by omega)with g|⟨o,m,a2,S,H,r,L⟩
  .exact Xh (g.trans (t e k))
  exact Xi ⟨o,m,a2,S,H,(t e k).symm.trans r,L⟩⟩
 have same:∀{h:E}{c:Xe}{m:Xq}{p:E×E},h≠a.heap.size+2->(∀X,c≠.int .u8 X)->w.heap[h]?=C (Xn #[c] m p)->v.heap[h]?=C (Xn #[c] m p):=by
  intro h c m p f6 a7 s;rcases b8 h (XN.1 s).1 f6 with g|⟨o,m,a2,S,H,r,L⟩
  .exact g.trans s
  rw[s]at r;cases r;exact absurd H (FJ a7)
 have O:∀e,a.heap.size<=e->¬ej e:=λe k f7=>by have:=P.Wv e f7;omega
 obtain⟨d7,e2,f3,i4,i5,f4⟩:=f5
 have d5:pW f v u b x a.heap.size d a8 rq Z ej:={
  small:=P.small
  h2:=⟨same (by omega) (λX g=>by cases g) b2,O _ (XS _)⟩
  h3:=⟨same (by omega) (λX g=>by cases g) b3,O _ (by omega)⟩
  h4:=⟨same (by omega) (λX g=>by cases g) b4,O _ (by omega)⟩
  Ui:=⟨d7,e2,f3,λq N=>by
   obtain⟨g8,H,r,L⟩:=f4 q N
   exact⟨g8,H.mono (by omega) λ_ _=>rfl,r,L⟩⟩
  Vx:=O _ (by omega)
  nfree:=O
  list:=by
   rcases P.hA with⟨_,g⟩|⟨y,Y,R,a0,p,l,i,T,U,b7,a3,W⟩
   .exact Xh g
   right;rcases a4.2 y (n i)with g|⟨o,m,a2,S,H,r,L⟩
   .exact⟨y,Y,R,a0,p,l,g.trans i,a3,W⟩
   rw[i]at r;cases r;exact⟨y,Y,R,a0,S,l,L,a3,W⟩
  Ob:=λh s=>⟨by have:=a9 h (Xh s);omega,P.Ww h s⟩}
 refine KA b0 d5 (P.init v a4) d0 f9 f8 f1 g4 g5 g6 λown h4 h2 i0 d6 d2 e3 g1 f2 e7 a5=>?_;refine Goal.pure _ A rfl (g₁:=rg {(base 39).at d6 []with mode:=.returning} (o::d8)) (λh6=>by rw[bu A];simp[stepG.exec,Frame.at,rg]) ?_;refine qj (R:=λc c6=>∃own Q,c=.tuple #[]/\nA a Q/\St b own c6/\aH ej own Q c6) aC (by decide) A (fn:=Tryz.f39) Tryz.func39 d2 A g1 f2 (Tp.all λm=>⟨_,results39 _ _,own,v,A,a4,?_,?_⟩) λc h0 h3 d3 e4 a7 e6=>next h4 c h0 h3 d3 (((b6.trans b5).trans e3).trans e4) a7 e6
 .exact b0.sg b own h2 _ (λ_ _=>rfl) (XS _) e7
 exact⟨a5.size,a5.keep,a5.more⟩
variable{a:Xr}{c:Xu}{e:Xg Item}{d:Xg Xr}{f:E}{g:Xe}{q:M}
theorem FE(q:M):(Instr.makeChan 99 (Xd K 4)).runT TP q #[]=(.ok (.chan (C q.heap.size)) {q with heap:=q.heap.push (.chan 4 #[] Xf 0 0 Xf)},#[]):=by rfl
section
variable{main:Xo}
theorem tQ{h:Xp Tmp}{p:Op}{o:M}(t:a.kind≠.early)(v:bN D f h p)(u:∀fn,TP.funcs[a.fn]?=C fn->fn.norace=Xf)(b:∀n m i,(execOp c.eval ⟨h,p,n,m,i,F⟩).runT TP q #[]=(.ok (.value g) o,#[])):
 stepG TP main (rg (a.at c (Xv D (f::rest)::e)) d) q=.go (rg (a.at (c.put h g) (Xv D rest::e)) d) o:=by
 obtain⟨⟨x,z,n,m,i,y⟩,r,k,l,s⟩:=v;subst k l s;have b:=b n m i;rw[s_]at b;have k:=(t_ b).1;have l:=(t_ b).2;have:=Go.Conc.stepG_value (P:=TP) (main:=main) (a:=c) (b:=a) (k:=e) (cs:=d) (rest:=rest) r A t k;refine abr this ?_;rw[listed,l,seen_cells u (by simp)];rfl
theorem xJ{b:XJ}(g:a.kind≠.early)(i:bN D f (C j) (.makeChan 99 b))(k:c.eval b=Xd K 4)(h:∀fn,TP.funcs[a.fn]?=C fn->fn.norace=Xf)(q:M):
 stepG TP main (rg (a.at c (Xv D (f::rest)::e)) d) q=.go (rg (a.at (c.put (C j) (.chan (C q.heap.size))) (Xv D rest::e)) d) {q with heap:=q.heap.push (.chan 4 #[] Xf 0 0 Xf)}:=
 tQ g i h λn m l=>by show Xz.runT TP ((Instr.makeChan 99 (c.eval b)).bind _) q #[]=_;rw[k,Go.Sem.runT_bind',FE];rfl
theorem GU{h:Tmp}{b:E}(o:a.kind≠.early)(p:bN D f (C j) (.recv 99 (.tmp h) J))(y:c.tmps[h]?=C (.chan (C b)))(x:∀fn,TP.funcs[a.fn]?=C fn->fn.norace=Xf):
 AtRecv TP b .nilIface (rg (a.at c (Xv D (f::rest)::e)) d) (rg (a.at c (Xv D (f::rest)::e)) d):=by
 refine⟨A,A,λq=>?_⟩;obtain⟨⟨v,z,t,s,i,w⟩,k,l,m,n⟩:=p;subst l m n
 have r:(execOp c.eval ⟨C j,.recv 99 (.tmp h) J,t,s,i,F⟩).run TP q=.ok (.comm #[rcase b .nilIface] J (.recv J)) q:=by go_simp;rfl
 have:=stepG_comm (P:=TP) (main:=J) (b:=a) (a:=c) (k:=e) (cs:=d) (rest:=rest) k A o r;exact this
theorem za(h:∃b,bN D f (C j) b):Go.Conc.served (rg (a.at c (Xv D (f::rest)::e)) d) g=rg (a.at (c.put (C j) g) (Xv D rest::e)) d:=by obtain⟨b,n,i,k,l,m⟩:=h;simp_all [YK,Go.Conc.served,rg]
end
variable{d:Xu}{f:Xg Item}{h:Xg Xr}{e:E}{g:Xk Xe}
theorem Tl(q:M)(a:Xk XF):(Go.sizeOf 99).runT TP q a=(.ok 1 q,a):=by rfl
section
variable{main:Xo}
theorem AO{k l:Tmp}{B b:E}{X:Xq}{n:E×E}(H:a.kind≠.early)(O:bN D e F (.store 99 (.tmp k) (.tmp l)))(R:d.tmps[k]?=C (pt B 0))(T:d.tmps[l]?=C (.chan (C b)))(N:∀fn,TP.funcs[a.fn]?=C fn->fn.norace=Xf)
 (a4:q.heap[B]?=C (Xn g X n))(a2:0<g.size)(a6:n.1=n.2):
 stepG TP main (rg (a.at d (Xv D (e::rest)::f)) h) q=.go (rg (a.at d (Xv D rest::f)) h) (q.setCell ⟨B,0,F⟩ (.chan (C b))) #[⟨.cell ⟨B,0,F⟩,J,Xf⟩]:=by
 obtain⟨⟨Z,a7,t,s,c,a1⟩,p,i,w,x⟩:=O;subst i w x;have S:=(cB R).1;have U:=(cB T).1;have y:q.cell? ⟨B,0,F⟩=C g[0]:=by simp_all [M.cell?]
 have z:q.frozen? ⟨B,0,F⟩=Xf:=by simp_all [M.frozen?]
 have Q:(execOp d.eval ⟨F,.store 99 (.tmp k) (.tmp l),t,s,c,F⟩).runT TP q #[]=(.ok .skip (q.setCell ⟨B,0,F⟩ (.chan (C b))),#[⟨.cell ⟨B,0,F⟩,J,Xf⟩]):=by
  unfold execOp;simp only[S,U];show((Instr.storeAt 99 (pt B 0) (.chan (C b))).bind λ_=>(Sem.pure Next.skip:Xz Next)).runT TP q #[]=_;have u:(Instr.storeAt 99 (pt B 0) (.chan (C b)))=(Go.sizeOf 99).bind λW=>if(Value.chan (C b)).cells.size≠W then stuck "storeVar: the value has not the size of the variable"else storeCells ⟨B,0,F⟩ [.chan (C b)]:=A;rw[J_,u,J_,Tl];simp only;rw[Xx (by simp[Value.cells])]
  have a0:(storeCells ⟨B,0,F⟩ [.chan (C b)]).runT TP q #[]=(.ok () (q.setCell ⟨B,0,F⟩ (.chan (C b))),#[⟨.cell ⟨B,0,F⟩,J,Xf⟩]):=by show Xz.runT TP ((store ⟨B,0,F⟩ (.chan (C b))).bind _) q #[]=_;rw[J_,tM A y z];rfl
  simp_all
 have L:∀c∈(#[⟨.cell ⟨B,0,F⟩,J,Xf⟩]:Xk XF),∀r,c.loc≠.mark r:=λc a3 r a5=>by simp_all
 obtain⟨o,m⟩:=d;obtain⟨Y,v,i⟩:=fM (P:=TP) (a.at ⟨o,m⟩ (Xv D (e::rest)::f)) h (execOp (Act.eval ⟨o,m⟩) ⟨F,.store 99 (.tmp k) (.tmp l),t,s,c,F⟩) q;rw[jv p A,v];rw[Q]at i⊢
 rw[i H trivial];simp only[eQ,stepG.apply,Xz.runT,Yc,YW,aX,aN,rg,GStep.after];rw[show(a.at ⟨o,m⟩ (Xv D (e::rest)::f)).fn=a.fn from A,seen_cells N L];simp[YK,p,Act.put]
end
variable{a:M}{i:Xe}{c:Xk Xe}{e:M}{d:Xp Xw}{h:Set}{f:E->Prop}{g:Xg Xr}
noncomputable def eK:XG:=(Tryz.f31.body).getD .skip
def opsOf:XG->Xk Oper
 |.region _ a _=>a
 |_=>#[]
theorem lp:∀fn,TP.funcs[(base 31).fn]?=C fn->fn.norace=Xf:=λfn a=>by have:TP.funcs[31]?=C fn:=a;cases this;rfl
structure Ls(l:E->Prop)(a:M)(d:Xp Xw)(b H:E)(rq:E->RV)(v:E->Xe):Prop where
 closed:Closed l a
 bF:∀n,(0<n\/n=TP.globals.size)->n<=TP.globals.size->l n
 list:∀q,d=C q->l q.block
 elem:∀k,k<b->∃r t p y x,d=C ⟨r,t,F⟩/\a.heap[r]?=C (Xn p y x)/\∀j,j<8->p[t+k*8+j]?=(rq k).jf[j]?
 NS:∀k,k<b->∀e:M,(∀o,l o->(e.heap[o]?).map Obj.whole=(a.heap[o]?).map Obj.whole)->Calls TP 38 #[Xd K k,.agg (rq k).jf] e λw D=>w=Xs (v k)/\Below e.heap.size e D
 only:∀k,fj l (v k)
 small:b<2^20
def uA(b:E->Prop)(s:E)(a:E):Prop:=b a\/a=s\/a=s+1
def LB(u s b a:E)(d:Xp Xw):Xu:=⟨#[pt u 0,.slice d b a,I,pt s 0,Xm F 0 0,pt (s+1) 0,I,I,I,I,pt u 0,pt u 0,pt u 8,I,I,I,I,I,I,I,I,I,I,I,I,I,I,I,I,I,I,I,I,I,I,I,I,I,I,I,I,I],[]⟩
theorem Eh(a:Obj):Obj.whole (Obj.whole a)=Obj.whole a:=by cases a<;>rfl
theorem yv(d:E->Prop)(a:M)(b:E):((jR d a).heap[b]?).map Obj.whole=(a.heap[b]?).map Obj.whole:=by
 by_cases e:d b
 .grind [iN,Eh]
 rw[uq e]
def Es(b:Xk Obj)(a:M):Prop:=a.heap=b
structure Eu(a k:M)(u b q:E)(d:Xp Xw)(o:Xk Xe)(r:Xq)(p:E×E):Prop where
 size:k.heap.size=a.heap.size+2
 xo:k.heap[u]?=C (Xn (o.setIfInBounds 8 (Xm F 0 0)) r p)
 old:∀n,n<a.heap.size->n≠u->k.heap[n]?=a.heap[n]?
 h3:k.heap[a.heap.size]?=C (Xn #[.slice d b q] 25 (0,0))
 h5:k.heap[a.heap.size+1]?=C (Xn #[I] 99 (0,0))
omit[Inhabited aM]in
theorem aA{k n:E}{o:Xq}{l:E×E}(p:a.heap[k]?=C (Xn c o l)):(a.setCell ⟨k,n,F⟩ i).heap[k]?=C (Xn (c.setIfInBounds n i) o l):=by simp[M.setCell,Zf,p]
omit[Inhabited aM]in
theorem ai{d f b:E}(e:b≠d):(a.setCell ⟨d,f,F⟩ i).heap[b]?=a.heap[b]?:=by simp[M.setCell,Zf,YX e]
omit[Inhabited aM]in
theorem aS{b:Xw}:(a.setCell b i).heap.size=a.heap.size:=by simp
theorem Qr{a3:M}{a:E}{a5:Xe}(b1:e.cell? ⟨u,8,F⟩=C a5)(b2:e.frozen? ⟨u,8,F⟩=Xf)(b0:e.heap=a3.heap){n Y Z a0 a1 a2 a6 a7 a8 f g h i k l m o p q r t v w x y z D H L N O Q R S T U W X:Xe}:
 wpList TP (opsOf (hd (tl eK))) (eP (λa4 a9=>a4=⟨#[pt u 0,.slice d b a,n,pt s 0,Xm F 0 0,Y,Z,a0,a1,a2,pt u 0,pt u 0,pt u 8,f,g,h,i,k,l,m,o,p,q,r,t,v,w,x,y,z,D,H,L,N,O,Q,R,S,T,U,W,X],[]⟩/\Es (a3.setCell ⟨u,8,F⟩ (Xm F 0 0)).heap a9)) (opsOf (hd (tl eK))).toList ⟨#[pt u 0,.slice d b a,n,pt s 0,Xm F 0 0,Y,Z,a0,a1,a2,a6,a7,a8,f,g,h,i,k,l,m,o,p,q,r,t,v,w,x,y,z,D,H,L,N,O,Q,R,S,T,U,W,X],[]⟩ e:=by
 show wpList TP _ _ [⟨C 10,.move (.tmp 0),_,_,_,_⟩,⟨C 11,.nilCheck (.tmp 10),_,_,_,_⟩,⟨C 12,.fieldAddr 98 (.tmp 11) 8,_,_,_,_⟩,⟨F,.store 43 (.tmp 12) (.const (Xm F 0 0)),_,_,_,_⟩] _ _
 go_wp2
 exact⟨A,by simp_all [Es,M.setCell]⟩
theorem Oa(d:my h f a){b:E}(i:f b):(a.heap[b]?).map Obj.whole=a.heap[b]?:=by
 obtain⟨k,e,g⟩:=d b i;rw[e];cases k with
 |cells c m l=>obtain⟨rfl,_⟩:=g;rfl
 |_=>rfl
theorem MQ{p:E->Prop}{s:E}{rq:E->RV}{b6:E->Xe}{D:Xk Xe}{c:Xr}{Q:Xk Xe}{b1:Xq}{L:E×E}
 (t:Ls p a d b s rq b6)(d6:a.heap[u]?=C (Xn Q b1 L))(h8:8<Q.size)(f6:L.1=L.2)(d9:¬p u)
 (c8:∀k,f k->p k)(g0:∀k,Im k->f k)(c9:Inv TP al f m a)(q:aw al m #[pt u 0,.slice d b s] D)
 (next:∀a5(b4:M) a6 a4 r,r.n=b->r.τ=b6->r.sh=p->Eu a b4 u b s d Q b1 L->Closed (uA p a.heap.size) b4->Inv TP al (uA p a.heap.size) a5 (jR (uA p a.heap.size) b4)->cV f m a a5 (jR (uA p a.heap.size) b4)->a5 (a.heap.size+1) r.bx->
   ar al a5 ⟨[],[]⟩ (LB u a.heap.size b s d) a6->sW TP (C (a4,r,0)) F z al (uA p a.heap.size) a5 (jR (uA p a.heap.size) b4) (rg ((base 31).at a6 [.code (tl (tl (tl (tl eK))))]) (c::g))):
 sW TP F F z al f m a (rg (Frame.enter TP 31 D .normal) (c::g)):=by
 show(goalAt TP F F z al f).G m a _
 have f0:Frame.enter TP 31 D .normal=(base 31).at ⟨D++Array.replicate (42-D.size) I,[]⟩ [.code eK]:=by rfl
 rw[f0];obtain⟨b2,b3,rfl⟩:∃b2 b3,D=#[b2,b3]:=by have:=q.1;simp at this;exact⟨D[0],D[1],by apply aaj (by simp[<-this]);intro w c6 l6;rcases(by omega:w=0\/w=1)with rfl|rfl<;>simp⟩
 have g7:an al m (pt u 0) b2:=q.2 0 _ _ A rfl;have g8:an al m (.slice d b s) b3:=q.2 1 _ _ A rfl;have g5:=aY (h:=al) (m:=m)
 simp only[Yt,Yl,Zd,E.reduceAdd,E.reduceSub,Zh,
  Zi,Zt,Zn,Zj,Yp]
 have e1:ar al m ⟨[],[]⟩ ⟨#[pt u 0,.slice d b s,I,I,I,I,I,I,I,I,I,I,I,I,I,I,I,I,I,I,I,I,I,I,I,I,I,I,I,I,I,I,I,I,I,I,I,I,I,I,I,I],[]⟩ ⟨#[b2,b3,I,I,I,I,I,I,I,I,I,I,I,I,I,I,I,I,I,I,I,I,I,I,I,I,I,I,I,I,I,I,I,I,I,I,I,I,I,I,I,I],[]⟩:=by
  refine⟨?_,⟨[],A,.nil⟩,by simp⟩;refine aZ.arr (.cons g7 (.cons g8 ?_))
  repeat (first|exact .nil|refine .cons g5 ?_)
 generalize (⟨#[b2,b3,I,I,I,I,I,I,I,I,I,I,I,I,I,I,I,I,I,I,I,I,I,I,I,I,I,I,I,I,I,I,I,I,I,I,I,I,I,I,I,I],[]⟩:Xu)=a6 at e1⊢
 have i2:=(XN.1 d6).1;have S:∀k,f k->k<a.heap.size:=λk q=>by obtain⟨_,_,_,o,_⟩:=t.closed k (c8 k q);exact(XN.1 o).1
 have e5:∀k,f k->k≠u:=by grind
 refine bz (bT aC (by decide) (by decide) (y:=[]) A (by decide+kernel) c9 e1 (λa7 b5=>a7=⟨#[pt u 0,.slice d b s,I,pt a.heap.size 0,Xm F 0 0,I,I,I,I,I,I,I,I,I,I,I,I,I,I,I,I,I,I,I,I,I,I,I,I,I,I,I,I,I,I,I,I,I,I,I,I,I],[]⟩/\b5.heap=a.heap.push (.cells #[.slice d b s] 25)) (λe X _ _ _=>?_) (λ_ _ o n l=>by rw[o.2,bY (S n l)]) ?_)
 .go_wp2
  exact⟨A,by simp[World.alloc,X]⟩
 rintro a5 _ k8 b5 e7 R g3⟨rfl,b9⟩;have d7:b5.heap[u]?=C (Xn Q b1 L):=by rw[b9,bY i2];exact d6
 refine bz (bT aC (by decide) (by decide) (y:=[]) A (by decide+kernel) e7 g3 (λa7 T=>a7=⟨#[pt u 0,.slice d b s,I,pt a.heap.size 0,Xm F 0 0,I,I,I,I,I,pt u 0,pt u 0,pt u 8,I,I,I,I,I,I,I,I,I,I,I,I,I,I,I,I,I,I,I,I,I,I,I,I,I,I,I,I,I],[]⟩/\Es (b5.setCell ⟨u,8,F⟩ (Xm F 0 0)).heap T) (λe X l0 l1 l2=>?_) (λ_ _ o n l=>by rw[show _=_ from o.2];exact ai (e5 n l)) ?_)
 .have f7:e.heap[u]?=C (Xn Q b1 L):=by rw[X];exact d7
  have i1:e.cell? ⟨u,8,F⟩=C Q[8]:=by simp[M.cell?,f7,h8]
  have i5:e.frozen? ⟨u,8,F⟩=Xf:=by obtain⟨l4,l5⟩:=L;simp only at f6;subst f6;simp[M.frozen?,f7]
  exact Qr i1 i5 X
 rintro e6 _ d1 T e8 d4 e2⟨rfl,a1⟩;have a1:T.heap=(b5.setCell ⟨u,8,F⟩ (Xm F 0 0)).heap:=a1;have g2:T.heap.size=a.heap.size+1:=by rw[a1,aS,b9];simp
 refine bz (eA ?_);show sW TP F F z al f e6 T (rg ((base 31).at d1 (.inRegion (opsOf (hd (tl (tl eK)))) (0::[1,2])::[.code (tl (tl (tl eK)))])) (c::g));refine Nq (d:=.chan 4 #[] Xf 0 0 Xf) (k:=λr=>rg ((base 31).at (d1.put (C 13) (.chan (C r))) (.inRegion (opsOf (hd (tl (tl eK)))) [1,2]::[.code (tl (tl (tl eK)))])) (c::g)) A (λ_=>rfl) (λv=>xJ (by decide) ⟨_,A,A,A,A⟩ A lp v) λr=>?_
 have g4:ar al e6 ⟨[],[(13,.chan (C r))]⟩ ⟨#[pt u 0,.slice d b s,I,pt a.heap.size 0,Xm F 0 0,I,I,I,I,I,pt u 0,pt u 0,pt u 8,I,I,I,I,I,I,I,I,I,I,I,I,I,I,I,I,I,I,I,I,I,I,I,I,I,I,I,I,I],[]⟩ (d1.put (C 13) (.chan (C r))):=by have Z:=e2.put (C 13) A (.bS (v:=.chan (C r)) trivial);refine ar.more (d0:=⟨[],[]⟩) Z ?_;simp[Act.put,<-e2.tmps.1]
 show(PE TP r (.chan 4 #[] Xf 0 0 Xf) z al f).G e6 T _;refine vH aC (by decide) (by decide) (z:=C 5) (R:=.alloc 99) ⟨_,A,A,A,A⟩ (U:=[13]) A (by decide+kernel) (by decide) e8 g4 (λa7 U=>a7=⟨#[pt u 0,.slice d b s,I,pt a.heap.size 0,Xm F 0 0,pt (a.heap.size+1) 0,I,I,I,I,pt u 0,pt u 0,pt u 8,I,I,I,I,I,I,I,I,I,I,I,I,I,I,I,I,I,I,I,I,I,I,I,I,I,I,I,I,I],[]⟩/\U.heap=T.heap.push (.cells #[.chan F] 99)) (λe X _ _ _ k2 a4 H=>?_) (λ_ _ o n l=>by rw[o.2,bY (by have:=S n l;omega)]) ?_
 .clear next q f0 e1 g3 e2 g4 g7 g8 g5 c9 t e7 e8 R d4 a1 b9 d7 d6 S e5 c8 g0
  go_wp2
  show e.heap.push _=_;rw[X]
 rintro O _ x U e9 f1 a2⟨rfl,c0⟩;obtain⟨B,a8,f2⟩:=lr (j:=5) (a:=a.heap.size+1) a2 A;have c7:U.heap[a.heap.size+1]?=C (Xn #[.chan F] 99 (0,0)):=by rw[c0,<-g2];simp
 refine JF (k:=r) (u:=zl B r) A λv f3=>?_;obtain⟨l7,l8,f8,f9,i7⟩:=f3.obj _ _ a8;rw[c7]at f8;cases f8;cases i7 with
 |cells _ i3 i4=>
 rename_i h1 b7;have i0:h1.size=1:=i3.1.symm;have j4:b7.1=b7.2:=by rcases i4 with o|⟨o,_⟩;exact o;exact absurd A o
 have i8:=AO (main:=J) (a:=base 31) (d:=x) (f:=[.code (tl (tl (tl eK)))]) (h:=c::g) (D:=opsOf (hd (tl (tl eK)))) (e:=2) (rest:=[]) (by decide) ⟨_,A,A,A,A⟩ f2 (a2.kn (13,.chan (C r)) (by simp)) lp f9 (by omega) j4;have h9:=Ed (v:=I) (L:=.chan (C r)) f3 (a:=⟨a.heap.size+1,0,F⟩) (g:=⟨B,0,F⟩) ⟨a8,A,A⟩ (.bS trivial) (b:=.chan F) (by simp[M.cell?,c7]) (by simp[M.frozen?,c7]) Xf U.tape
 refine⟨_,O,U.setCell ⟨a.heap.size+1,0,F⟩ I,_,_,_,i8,h9,λk q=>ai (by have:=S k q;omega),λH f5 _ k q=>by
  simp at f5;subst f5
  exact⟨by simp,λn l=>by cases l;have:=S k q;simp;omega⟩,A,?_,?_⟩
 .refine⟨99,b7,?_⟩;rw[aA f9]
  congr 2
  apply aaj
  .simp[i0]
  intro w Z d5;have:w=0:=by simp at d5;omega
  subst this;simp
 have d0:Inv TP al f O (U.setCell ⟨a.heap.size+1,0,F⟩ I):=e9.keep e9.base (λk q=>ai (by have:=S k q;omega));obtain⟨N,b0⟩:∃N,N=U.setCell ⟨a.heap.size+1,0,F⟩ I:=by simp
 rw[<-b0]at d0⊢
 have a9:∀k,k<a.heap.size->k≠u->N.heap[k]?=a.heap[k]?:=by grind [ai,bY]
 have W:Eu a N u b s d Q b1 L:={
  size:=by rw[b0,aS,c0];simp[g2]
  xo:=by rw[b0,ai (by omega),c0,bY (by omega),a1,aA d7]
  old:=a9
  h3:=by rw[b0,ai (by omega),c0,bY (by omega),a1,ai (by omega),b9];simp
  h5:=by rw[b0,aA c7];rfl}
 have d8:∀k,p k->k<a.heap.size:=λk q=>by obtain⟨_,_,_,o,_⟩:=t.closed k q;exact(XN.1 o).1
 have a0:Closed (uA p a.heap.size) N:=by
  rintro k(q|rfl|rfl)
  .obtain⟨q1,e3,e4,j7,j8,j9,k0,k1⟩:=t.closed k q;exact⟨q1,e3,e4,by rw[a9 k (d8 k q) (λH=>d9 (H▸q))];exact j7,j8,j9,λw n l=>(k0 w n l).mono λ_ o=>Xh o,k1⟩
  .refine⟨_,_,_,W.h3,by simp,by simp,λw n l=>?_,mZ (by intro b o;cases o)⟩;obtain⟨c6,l⟩:=XN.1 l;have:w=0:=by simp at c6;omega
   subst this;subst l;cases d with
   |none=>exact .aO _ _
   |some k=>exact .slice (Xh (t.list k A)) _ _
  refine⟨_,_,_,W.h5,by simp,by simp,λw n l=>?_,mZ (by intro b o;cases o)⟩;obtain⟨c6,l⟩:=XN.1 l;have:w=0:=by simp at c6;omega
  subst this;subst l;exact .bS
 have SA:∃y,x.tmps[3]?=C y/\an al O (pt a.heap.size 0) y:=by
  have g1:3<x.tmps.size:=by rw[<-a2.tmps.1];simp
  exact⟨x.tmps[3],XP g1,a2.tmps.2 3 _ _ A (XP g1)⟩
 obtain⟨y,h6,j0⟩:=SA;have b8:∀(v:M) b,zl B r v->zl B r (v.at b):=λ_ _ o=>o;refine nK b8 A rfl (λv=>iT) ?_;refine nK b8 A rfl (i:=rg ((base 31).at x [.code (hd (tl (tl (tl eK)))),.code (tl (tl (tl (tl eK))))]) (c::g)) (λv=>by rfl) ?_;refine nK b8 A rfl (i:=rg ((base 31).at x [.inRegion (opsOf (hd (tl (tl (tl eK))))) [0,1],.code (tl (tl (tl (tl eK))))]) (c::g)) (λv=>by rfl) ?_
 refine nK b8 A rfl (i:=rg ((base 31).at (x.put (C 14) (.func (.func 37) #[] #[pt B 0,y])) [.inRegion (opsOf (hd (tl (tl (tl eK))))) [1],.code (tl (tl (tl (tl eK))))]) (c::g)) (λv=>tQ (h:=C 14) (p:=.makeFunc (.func 37) #[] #[.tmp 5,.tmp 3]) (by decide) ⟨_,A,A,A,A⟩ lp (λk2 a4 H=>by
  simp[execOp,Act.eval,f2,h6]
  constructor<;>rfl)) ?_
 have i6:14<x.tmps.size:=by rw[<-a2.tmps.1];simp
 have h4:(x.put (C 14) (.func (.func 37) #[] #[pt B 0,y])).tmps[14]?=C (.func (.func 37) #[] #[pt B 0,y]):=by simp[Act.put,i6]
 have f4:∀Y,(0<Y\/Y=TP.globals.size)->Y<=TP.globals.size->uA p a.heap.size Y:=λY Z d5=>Xh (t.bF Y Z d5)
 have j3:∀n,p n->((jR (uA p a.heap.size) N).heap[n]?).map Obj.whole=(a.heap[n]?).map Obj.whole:=λn l=>by rw[yv,a9 n (d8 n l) (λH=>d9 (H▸l))]
 have j1:an aJ (λk d2=>uA p a.heap.size k/\O k d2) (pt a.heap.size 0) y:=by
  cases j0 with
  |ptr q=>exact .ptr ⟨⟨Xi (Xh A),q.1⟩,q.2.1,q.2.2⟩
 refine JG (c:=b) (a6:=a.heap.size+1) (a5:=b6) (X:=uA p a.heap.size) (W:=p) (Sp:=aJ) A (λv=>go_step (j:=14) (by decide) ⟨_,A,A,A,A⟩ lp h4 v) A a0 f4 (λk o=>Xh o) a8 (Xi (Xi A)) (λk o=>Xh (c8 k o)) g0
  (Kk (h:=a.heap.size+1) (n:=a.heap.size) (S:=d) (R:=s) (rq:=rq) {
    x5:=Xi (Xi A)
    x3:=Xi (Xh A)
    h5:=⟨_,_,by rw[iN (.inr (.inr A)),W.h5];rfl⟩
    h3:=⟨_,_,by rw[iN (.inr (.inl A)),W.h3];rfl⟩
    elem:=λa3 e0=>by obtain⟨d3,j5,g9,k3,b7,q1,e3,e4⟩:=t.elem a3 e0;have l:=t.list _ q1;exact⟨d3,j5,g9,k3,_,q1,Xh l,by rw[iN (.inl l),a9 d3 (d8 d3 l) (λH=>d9 (H▸l)),e3];rfl,e4⟩
    NS:=λa3 e0 e j2 _=>t.NS a3 e0 e λn l=>by rw[j2 n (.inl l)];exact j3 n l
    only:=λa3 _=>t.only a3
    small:=by have:=t.small;show b<2^40;omega} ⟨kX d0.base f4,ru a0,we a0⟩ ⟨Xi (Xi A),a8⟩ j1) λa4=>?_
 show(goalAt TP (C (a4,⟨r,b,b6,p,dy (uA p a.heap.size) O,B⟩,0)) F z al (uA p a.heap.size)).G O (jR (uA p a.heap.size) N) _;refine bP ?_
 have i9:ar al O ⟨[],[]⟩ (LB u a.heap.size b s d) (x.put (C 14) (.func (.func 37) #[] #[pt B 0,y])):=by have Z:=a2.put (C 14) A (.bS (v:=.func (.func 37) #[] #[pt B 0,y]) trivial);exact ar.less (d0:=⟨[],[]⟩) Z A (by simp)
 refine next O N _ a4 _ A rfl rfl W a0 ⟨d0.base,ru a0,we a0⟩ ?_ a8 i9
 refine⟨((R.trans d4).trans f1).le,λn k4 o=>((R.trans d4).trans f1).fresh n k4 o,?_,λn l=>?_⟩
 .rw[qy,W.size];omega
 rw[iN (.inl (c8 n l)),a9 n (S n l) (e5 n l)];exact Oa c9.cO l
end
end Go.Sim
namespace Go.Sv
open Go.MapKept Go.Proofs Go.RowKit Go.Lib Go.WideShapes Go.Sort Go.Sim Wt
variable{c:M}{w':M}{e:Xe}{h:E}{d:E}{f:E}
def spot(d:Xo)(a:B):Xe:=.agg #[.bool d,.string (bs a)]
def yd(a:Xe):Prop:=∃d b,a=.agg #[.bool d,.string b]
theorem Oq(d:Xo)(a:B):yd (spot d a):=⟨d,bs a,A⟩
theorem Ot{d b:Xo}{c e:B}(a:spot d c=spot b e):d=b/\c=e:=by unfold spot at a;simp only[Value.agg.injEq,Xk.mk.injEq,Xg.cons.injEq,Xe.bool.injEq,Value.string.injEq,and_true]at a;exact⟨a.1,zB a.2⟩
theorem UM:TP.stoodInHeld 253=Xf:=by decide+kernel
theorem Rb:∃f d,TP.underlying 253=C (.struct #[f,d])/\f.type=4/\d.type=9/\f.offset=0/\d.offset=1/\f.name≠ "_"/\d.name≠ "_":=⟨_,_,A,A,A,A,A,by decide,by decide⟩
theorem UP:TP.underlying 4=C .bool:=A
theorem abt(a b:Xe)(c:M):(part 4 #[a,b] 0).run TP c=.ok a c:=A
theorem abu(b a:Xe)(c:M):(part 9 #[b,a] 1).run TP c=.ok a c:=A
theorem Uc(d h:Xo)(f g:XB)(c:M):(Op.equal 253 (.agg #[.bool d,.string f]) (.agg #[.bool h,.string g])).run TP c=.ok (d==h&&f==g) c:=by
 obtain⟨v,w,o,t,u,r,s,p,q⟩:=Rb
 have k:∀a b e,(Op.equalIn (e+1) 4 (.bool a) (.bool b)).run TP c=.ok (a==b) c:=λa b e=>by unfold Op.equalIn;simp[YL UP,Result.andThen]
 have l:∀a b e,(Op.equalIn (e+1) 9 (.string a) (.string b)).run TP c=.ok (a==b) c:=λa b e=>by unfold Op.equalIn;simp[YL xf,Result.andThen]
 have n:(program).run TP c=.ok TP c:=A;show(Op.equalIn (9998+1+1) 253 _ _).run TP c=_;rw[Op.equalIn];simp only[Zp,YL o,Result.andThen,n,UM,Yi,Yf];simp[t,u,r,s,p,q,Zp,abt,k,Result.andThen];have i:=l f g 9998;cases m:(f==g)<;>cases d<;>cases h<;>simp[i,m,abu,Result.andThen,Zp,show(9998+1:E)=9999 from A]at i⊢<;>simp[i,Result.andThen,Zp]
theorem RX(d:Xo)(n:XB)(em:Xo)(c:M):(Instr.checkKey em 10000 253 (.agg #[.bool d,.string n])).run TP c=.ok () c:=by obtain⟨q,r,g,o,p,l,m,i,k⟩:=Rb;have e:∀b a,(Instr.checkKey em (a+1) 4 (.bool b)).run TP c=.ok () c:=λb a=>F_ (k:=.bool b) UP trivial em a;have f:∀b a,(Instr.checkKey em (a+1) 9 (.string b)).run TP c=.ok () c:=λb a=>F_ (k:=.string b) xf trivial em a;show(Instr.checkKey em (9998+1+1) 253 _).run TP c=_;rw[Instr.checkKey];simp only[Zp,YL g,Result.andThen];simp[o,p,l,m,i,k,Zp,abt,abu,e,f,Result.andThen]
theorem LK{k:Xe}(w:yd k)(c:M):∀(b:Xg XH)(f:E),(∀h∈b,yd h.key)->((Instr.findAsking 253 k b f).run TP c=.ok F c/\∀h∈b,h.key≠k)\/∃j e,(Instr.findAsking 253 k b f).run TP c=.ok (C (f+j,e.val)) c/\b[j]?=C e/\e.key=k
 |[],f,_=>Xh ⟨A,by simp⟩
 |e::b,f,g=>by
  obtain⟨d,a,rfl⟩:=w;obtain⟨m,l,q⟩:=g e (.head _);have n:=Uc d m a l c;rw[<-q]at n;by_cases s:d=m/\a=l
  .obtain⟨rfl,rfl⟩:=s;refine Xi ⟨0,e,?_,A,q⟩;unfold Instr.findAsking;rw[Zp,n];have:(a==a)=J:=(bytes_beq a a).2 A;simp[Result.andThen,this]
  have x:e.key≠.agg #[.bool d,.string a]:=λg=>s (by rw[q]at g;simp at g;exact⟨g.1.symm,g.2.symm⟩)
  have v:(d==m&&a==l)=Xf:=by
   cases r:(d==m&&a==l)with
   |false=>rfl
   |true=>simp only[Yg,aaM]at r;exact absurd ⟨r.1,(bytes_beq a l).1 r.2⟩ s
  rw[v]at n
  have y:(Instr.findAsking 253 (.agg #[.bool d,.string a]) (e::b) f).run TP c=(Instr.findAsking 253 (.agg #[.bool d,.string a]) b (f+1)).run TP c:=by rw[Instr.findAsking,Zp,n];rfl
  rw[y];rcases LK ⟨d,a,A⟩ c b (f+1) (λh i=>g h (.tail _ i))with⟨o,p⟩|⟨j,t,o,p,u⟩
  .exact Xh ⟨o,λh i=>by
    cases i with
    |head=>exact x
    |tail _ i=>exact p h i⟩
  exact Xi ⟨j+1,t,by rw[o,abl,abn 1 j],by simpa using p,u⟩
theorem sw:Et TP 253 yd where
 TX:=λe c em⟨d,a,b⟩=>by subst b;exact RX d a em c
 Vw:=λe c i g h=>by rw[run_findKey_eq c A];have:=LK g c i 0 h;simpa using this
 same:=λe⟨d,a,b⟩=>by subst b;have f:(a==a)=J:=(bytes_beq a a).2 A;show Instr.sameBits (9998+1+1) _ _=J;simp[Instr.sameBits,f]
theorem Gz:TP.underlying 196=C (.map 253 61):=A
theorem TC(c:M):(zeroValue 61).run TP c=.ok (Xm F 0 0) c:=A
abbrev i64(a:Xj):Xe:=Xd K a
def rR(c:M)(e:Xe)(b:Xg Xj):Prop:=
 (b=[]/\∃f,e=.slice f 0 0)\/∃h a d,e=Xm (C ⟨h,0,F⟩) b.length a/\c.heap[h]?=C (Xn d 3 (0,0))/\0<a/\b.length<=a/\a<=maxLen/\d.size=a/\d.toList.take b.length=b.map i64/\∀i∈d.toList,∃g,i=i64 g
def rowOf:Xe->Xp E
 |Xm (C f) _ (_+1)=>C f.block
 |_=>F
theorem OH(c:M):rR c (Xm F 0 0) []:=Xh ⟨A,F,A⟩
theorem rR.stay{i:Xg Xj}(b:rR c e i)(o:∀h,rowOf e=C h->w'.heap[h]?=c.heap[h]?):rR w' e i:=by
 rcases b with b|⟨h,a,k,rfl,l,m,n⟩
 .exact Xh b
 refine Xi ⟨h,a,k,A,?_,m,n⟩;rw[o h ?_]
 .exact l
 obtain⟨g,rfl⟩:∃g,a=g+1:=⟨a-1,by omega⟩;rfl
theorem rR.lt{k:Xg Xj}(g:rR c e k)(d:rowOf e=C h):h<c.heap.size:=by
 rcases g with⟨_,f,rfl⟩|⟨m,b,l,rfl,i,n,_⟩
 .cases f<;>cases d
 obtain⟨a,rfl⟩:∃a,b=a+1:=⟨b-1,by omega⟩;cases d;exact(XN.1 i).1
def DF(a:Xk Xe):E->Xg Xe->Xk Xe
 |_,[]=>a
 |b,e::c=>DF (a.setIfInBounds b e) (b+1) c
theorem fZ:∀(d:Xg Xe)(a:Xk Xe)(b:E),(DF a b d).size=a.size
 |[],a,b=>rfl
 |e::c,a,b=>by unfold DF;rw[fZ c];simp
theorem ju:∀(c:Xg Xe)(b:Xk Xe)(a:E),a+c.length<=b.size->(DF b a c).toList=b.toList.take a++c++b.toList.drop (a+c.length)
 |[],b,a,f=>by
  unfold DF;simp
 |e::d,b,a,f=>by
  simp only[Yl]at f;unfold DF;rw[ju d _ _ (by simp;omega)];have g:a<b.toList.length:=by simp;omega
  rw[Xk.toList_setIfInBounds,Xg.take_set,Xg.drop_set,Yl]
  have h:(b.toList.take (a+1)).set a e=b.toList.take a++[e]:=by rw[K_ g,Xg.set_append_right _ _ (by simp;omega)];have i:min a b.toList.length=a:=aaX (aaS g);rw[Zy,i,E.sub_self];rfl
  rw[h,XC (by omega),show a+(d.length+1)=a+1+d.length by omega];simp
theorem fY:∀(i:Xg Xe)(a:E){c:M}{b:Xk Xe}{g:Xq}{f:E×E},c.heap[d]?=C (Xn b g f)->(c.setCells d a i).heap[d]?=C (Xn (DF b a i) g f)
 |[],a,c,b,g,f,h=>h
 |e::k,a,c,b,g,f,h=>fY k (a+1) (aA h)
theorem dO(b:f≠d):∀(h:Xg Xe)(a:E){c:M},(c.setCells d a h).heap[f]?=c.heap[f]?
 |[],a,c=>rfl
 |e::g,a,c=>by show((c.setCell ⟨d,a,F⟩ e).setCells d (a+1) g).heap[f]?=_;rw[dO b g (a+1),ai b]
theorem kB:∀(f:Xg Xe)(a:E){c:M},(c.setCells d a f).heap.size=c.heap.size
 |[],a,c=>rfl
 |e::b,a,c=>by show((c.setCell ⟨d,a,F⟩ e).setCells d (a+1) b).heap.size=_;rw[kB b (a+1),aS]
variable{b:E}{c:E}{a:M}{d:Xe}
theorem lV{f:Xj}:∀{e:Xg Xj},rK e->(∀g∈e.take (e.countP (·<f)),g<f)/\(∀g∈e.drop (e.countP (·<f)),f<=g)/\e.countP (·<f)<=e.length
 |[],_=>by simp
 |i::e,k=>by
  obtain⟨l,m⟩:=YJ.1 k;obtain⟨p,q,r⟩:=lV (f:=f) m;by_cases n:i<f
  .simp_all
  have o:(i::e).countP (·<f)=0:=by
   rw[Xg.countP_eq_zero];intro g h;rcases XV.1 h with rfl|h
   .simpa using n
   have:=l g h;simp;omega
  grind
theorem Fq{b:Xj}{a:Xg Xj}(c:rK a)(g:b∉a):dF b a=a.take (a.countP (·<b))++b::a.drop (a.countP (·<b)):=by
 obtain⟨d,e,f⟩:=lV (f:=b) c
 grind [Ho]
theorem OI(d:E):∀a∈(Builtin.zeroCells (Xe.int K 0).cells d).toList,∃c,a=i64 c:=λa b=>by
 unfold Builtin.zeroCells at b;refine⟨0,?_⟩;have e:(Xe.int K 0).cells=#[i64 0]:=A
 grind
def GN(d:Xe)(h:Xg Xj)(a:M)(g:Ending)(f:M):Prop:=∃e,g=Xs e/\rR f e h/\a.heap.size<=f.heap.size/\(∀c,c<a.heap.size->rowOf d≠C c->f.heap[c]?=a.heap[c]?)/\∀b,rowOf e=C b->rowOf d=C b\/a.heap.size<=b
theorem vM{b:Xg Xj}:∀d∈b.map i64,d.oneCell'=J:=λd a=>by obtain⟨c,_,rfl⟩:=YB.1 a;rfl
theorem uC{i:M}{f:Xk Xe}{e:E}{g:Xg Xj}{rest:Xg Xe}(m:i.heap[b]?=C (Xn f 3 (0,0)))(h:f.toList=g.map i64++rest)(n:f.size=e)(l:0<e)(o:e<=maxLen)(r:∀k∈rest,∃c,k=i64 c)(q:c=g.length):rR i (Xm (C ⟨b,0,F⟩) c e) g:=by
 subst q;have p:g.length<=e:=by have:=YU List.length h;simp at this;omega
 refine Xi ⟨b,e,f,A,m,l,p,o,n,?_,λk s=>?_⟩
 .rw[h,aab (by simp)]
 grind
theorem iF{a:E}(e:0<a):rowOf (Xm (C ⟨b,0,F⟩) c a)=C b:=by
 obtain⟨d,rfl⟩:∃d,a=d+1:=by simp_all
 rfl
theorem Uq{e:Xg Xj}{g:Xj}(b9:rR a d e)(b4:rK e)(e0:g∉e)(e7:e.length<2^40){n:E}{a2:Xq}(d9:a.heap[n]?=C (Xn #[i64 g] a2 (0,0)))(e8:rowOf d≠C n):
 Calls TP 135 #[d,Xd K ((e.countP (·<g):E):Xj),Xm (C ⟨n,0,F⟩) 1 1] a (GN d (dF g e) a):=by
 have S:∀j m,([i64 g]:Xg Xe)[j]?=C m->a.cell? ⟨n,0+j,F⟩=C m:=by simp_all [M.cell?]
 have L:∀m∈[i64 g],m.oneCell'=J:=λm y=>by simp at y;subst y;rfl
 obtain⟨c1,c2,c3⟩:=lV (f:=g) b4;have d4:=Fq b4 e0;obtain⟨f,d3⟩:∃f,f=e.countP (·<g):=by simp
 rw[<-d3]at c1 c2 c3 d4⊢
 have O:(dF g e).length=e.length+1:=by grind
 have Q:(dF g e).map i64=(e.map i64).take f++i64 g::(e.map i64).drop f:=by simp_all
 have D:Tryz.tv.t 3=3:=A
 have d0:∀t,(Builtin.zeroCells (Xe.int K 0).cells t).size=t:=λt=>by rw[aba];exact E.mul_one t
 have e4:∀(base:Xp Xw)(q:E),e.length<=q->q<e.length+1->(base=F->e.length=0)->(∀T,base=C T->∀j m,(e.map i64)[j]?=C m->a.cell? (T.add j)=C m)->f=e.length->Calls TP 135 #[.slice base e.length q,Xd K ((f:E):Xj),Xm (C ⟨n,0,F⟩) 1 1] a (GN d (dF g e) a):=λbase q q1 e1 e2 e3 b7=>by
  have v:=Any2.slices_Insert_int_end_grow Tryz.uu base e.length q n 0 1 1 (e.map i64) [i64 g] a (by decide) q1 e1 (by omega) (by simp) A e2 e3 S L;rw[b7];refine aaU v λu a3⟨w,i⟩=>⟨_,w,?_,?_,?_,λb x=>Xi ?_⟩
  .have b1:=aau a (e.length+1) q 3;have Z:=D_ a (e.length+1) q 3 (by unfold maxLen;omega);rw[i,D];refine uC (Yn a.drew _) (g:=dF g e) (rest:=(Builtin.zeroCells (Xe.int K 0).cells (grownCap a (e.length+1) q 3-(e.length+1))).toList) ?_ ?_ (by omega) Z (OI _) O.symm
   .rw[Q,b7];have a4:(e.map i64).take e.length=e.map i64:=Zs (by simp);have z:(e.map i64).drop e.length=[]:=by simp
    rw[a4,z];simp
   simp_all
  .rw[i];simp
  .intro p s _;rw[i];exact aao a.drew _ s
  have b1:=aau a (e.length+1) q 3;rw[D,iF (by omega)]at x;simp_all
 rcases b9 with⟨rfl,T,rfl⟩|⟨b,l,r,rfl,x,H,c0,U,a5,c6,a6⟩
 .simp_all
 have e5:=(XN.1 x).1
 have a9:∀j m,(e.map i64)[j]?=C m->a.cell? ⟨b,0+j,F⟩=C m:=λj m y=>by
  rw[<-c6,ZQ]at y;split at y
  .simp only[M.cell?,x,Zk];simp_all
  cases y
 have b0:∀j,a.frozen? ⟨b,j,F⟩=Xf:=λj=>by simp[M.frozen?,x]
 have d8:∀j,j<l->(a.cell? ⟨b,j,F⟩).isSome=J:=λj R=>by grind [World.cell?]
 have d2:b≠n:=by simp_all [iF]
 have b6:∀t,t<=e.length->r.toList.take t=(e.map i64).take t:=by grind
 by_cases b2:f=e.length
 .by_cases a0:e.length+1<=l
  ·
   have v:=Any2.slices_Insert_int_end_room Tryz.uu b 0 e.length l n 0 1 1 [i64 g] a (by decide) a0 (by unfold maxLen at U;omega) A (λj R=>d8 _ (by omega)) (λj R=>b0 _) S L;rw[b2];refine aaU v λu a3⟨w,i⟩=>⟨_,w,?_,?_,?_,λp s=>Xh (by rw[iF H]at s⊢;exact s)⟩
   .rw[i];refine uC (fY [i64 g] (0+e.length) x) (g:=dF g e) (rest:=r.toList.drop (e.length+1)) ?_ (by rw[fZ];exact a5) H U (λo h=>a6 o (X' h)) O.symm;rw[ju _ _ _ (by simp;omega),Q,b2,Zk,b6 _ (XS _)];have z:(e.map i64).drop e.length=[]:=by simp
    rw[z];rfl
   .rw[i,kB];exact XS _
   intro p s Y;rw[i,dO (λu=>Y (by rw[iF H,u]))]
  simp_all [qe]
 have b3:f<e.length:=by omega
 by_cases a0:e.length+1<=l
 ·
  have d7:a.shape? b=C (3,l):=by simp_all [M.shape?]
  have d6:a.shape? n=C (a2,1):=by simp[M.shape?,d9]
  have v:=Any2.slices_Insert_int_shift Tryz.uu b 0 e.length l f n 0 1 1 (e.map i64) [i64 g] a b3 (by decide) a0 (by simp_all [maxLen]) (λu=>d2 u.symm) (by simp) A a9 (λj R=>by grind) (λj R=>b0 _) S vM L a2 3 1 l d6 d7 (by omega) (by grind [World.frozen?]) (by grind [World.frozen?]);refine aaU v λu a3⟨w,i⟩=>⟨_,w,?_,?_,?_,λp s=>Xh (by simp_all [iF])⟩
  .have d1:a.drew.heap[b]?=C (Xn r 3 (0,0)):=x;have W:=fY ((e.map i64).drop f) (0+(f+1)) d1;have X:=fY [i64 g] (0+f) W;rw[i];refine uC X (g:=dF g e) (rest:=r.toList.drop (e.length+1)) ?_ (by rw[fZ,fZ];exact a5) H U (λo h=>a6 o (X' h)) O.symm;have ach:((e.map i64).drop f).length=e.length-f:=by simp
   rw[ju _ _ _ (by rw[fZ];simp;omega),ju _ _ _ (by omega),Q,ach,Zk,Zk];have b8:f+1+(e.length-f)=e.length+1:=by omega
   have a4:(r.toList.take (f+1)++(e.map i64).drop f++r.toList.drop (e.length+1)).take f=(e.map i64).take f:=by rw[ZJ,X_ (by simp;omega),aan,aaX (by omega),b6 f (by omega)]
   have z:(r.toList.take (f+1)++(e.map i64).drop f++r.toList.drop (e.length+1)).drop (f+[i64 g].length)=(e.map i64).drop f++r.toList.drop (e.length+1):=by rw[ZJ];exact Xg.drop_left' (by simp;omega)
   simp_all
  .simp_all [kB]
  intro p s Y;have a7:p≠b:=by grind [iF]
  rw[i,dO a7,dO a7];rfl
 ·
  have v:=Any2.slices_Insert_int_grow Tryz.uu b 0 e.length l f n 0 1 1 (e.map i64) [i64 g] a b3 (by decide) c0 (by omega) (by omega) (by simp) A a9 S vM L;have b1:=aau a (e.length+1) l 3;have Z:=D_ a (e.length+1) l 3 (by grind [maxLen]);refine aaU v λu a3⟨w,i⟩=>⟨_,w,?_,?_,?_,λp s=>Xi ?_⟩
  .obtain⟨k,N⟩:∃k,k=((e.map i64).take f).toArray++Builtin.zeroCells (Xe.int K 0).cells (e.length+1-f)++Builtin.zeroCells (Xe.int K 0).cells (grownCap a (e.length+1) l 3-(e.length+1)):=by simp
   have b5:k.size=grownCap a (e.length+1) l 3:=by rw[N];simp only[p_,Yt,Zy,ZU,d0];omega
   have e9:k.toList.take f=(e.map i64).take f:=by rw[N];simp only[ZK,ZJ];rw[X_ (by simp;omega),aan,E.min_self]
   have d5:∀o∈k.toList,∃c,o=i64 c:=λo h=>by
    rw[N]at h;simp only[ZK,YC]at h;rcases h with(h|h)|h
    .obtain⟨c,_,rfl⟩:=YB.1 (Xg.mem_of_mem_take h);exact⟨c,A⟩
    .exact OI _ o h
    exact OI _ o h
   rw[D,<-N]at i;rw[i,D];have c7:(a.alloc (.cells k 3)).drew.heap[a.heap.size]?=C (Xn k 3 (0,0)):=Yn a _;have W:=fY [i64 g] f c7;have c8:(((a.alloc (.cells k 3)).drew.setCells a.heap.size f [i64 g]).drew).heap[a.heap.size]?=C (Xn (DF k f [i64 g]) 3 (0,0)):=W;have X:=fY ((e.map i64).drop f) (f+1) c8;have ach:((e.map i64).drop f).length=e.length-f:=by simp
   refine uC X (g:=dF g e) (rest:=k.toList.drop (e.length+1)) ?_ (by rw[fZ,fZ];exact b5) (by omega) Z (λo h=>d5 o (X' h)) O.symm;rw[ju _ _ _ (by rw[fZ,ach,b5];omega),ju _ _ _ (by simp;omega),Q,ach];have b8:f+1+(e.length-f)=e.length+1:=by omega
   have e6:f+[i64 g].length=f+1:=A
   have z:(k.toList.take f++[i64 g]++k.toList.drop (f+1)).drop (e.length+1)=k.toList.drop (e.length+1):=by
    rw[Xg.drop_append,Xg.drop_of_length_le (by simp;omega),Zj,Xg.drop_drop]
    congr 1
    simp;omega
   grind
  .simp_all [kB]
  .intro p c9 Y;rw[i];have a8:p≠a.heap.size:=by omega
   rw[dO a8];show((a.alloc _).drew.setCells a.heap.size f [i64 g]).heap[p]?=_;rw[dO a8];exact aao a _ c9
  rw[D,iF (by omega)]at s;simp_all
variable{w:M}{d:Xq}{h:Xe}{g:E}{O:E}
def NB(b:Xe):Prop:=∀a,b≠.int .u8 a
theorem VN:∃a b,TP.underlying 193=C (.slice 1)/\(TP.info? 1=C a/\a.zero=C b/\a.size=1/\a.bytes<=1000/\b.cells.size=1/\0<1)/\∀c∈b.cells.toList,NB c:=by refine⟨_,_,A,⟨A,A,A,by decide,A,by decide⟩,?_⟩;intro c e f d;subst d;have:Xe.int .u8 f∈[Xe.nilFunc]:=e;simp at this
theorem frozenAt{a:Xk Xe}{c:Xq}(b:w.heap[f]?=C (Xn a c (0,0)))(j:E):w.frozen? ⟨f,j,F⟩=Xf:=by simp[M.frozen?,b]
theorem Jz{i:M}{n a:Obj}{e:Xe}(k:(w.alloc n).grownBy i e.ownBlock)(b:w.heap[f]?=C a)(m:e.ownBlock≠C f):i.heap[f]?=C a:=by have l:=(XN.1 b).1;rw[k.block f (by show _<(w.heap.push _).size;simp;omega) (λd=>m d.symm),XQ _ _ _ l,b]
theorem cr.alloc{a:Xe->Prop}{size:E}{e:Xg Xe}(b:cr a w d size h g e)(l:Obj):cr a (w.alloc l) d size h g e:=b.stay λk i=>XQ _ _ _ (b.lt k i)
def Ly(O:E)(h i f:Xe)(e:Xg Xe)(g:Xe)(w:M)(d:Ending)(a:M):Prop:=d=Xs (.tuple #[])/\w.heap.size<=a.heap.size/\(∀c,c<w.heap.size->c≠O->f.ownBlock≠C c->a.heap[c]?=w.heap[c]?)/\
 ∃b,a.heap[O]?=C (Xn #[h,i,b] 195 (0,0))/\cr NB a 1 1 b (e.length+1) (e++[g])/\kU w f b
theorem GA{x y a:Xe}{k:Xg Xe}(fn:Fn)(l m:Xk Xe)(v:w.heap[O]?=C (Xn #[x,y,a] 195 (0,0)))(u:cr NB w 1 1 a k.length k)(a5:k.length<2^20):Calls TP 183 #[pt O 0,.func fn l m] w (Ly O x y a k (.func fn l m) w):=by
 obtain⟨a6,b2,i,S,X⟩:=VN
 have U:a.ownBlock≠C O:=λd=>by obtain⟨L,b,_⟩:=u.blk O d;simp_all
 have c2:w.cell? ⟨O,2,F⟩=C a:=aa v 2 A;have H:=Xl v;have W:=λZ=>u.alloc (w:=w) Z;have z:=Xl U;go_enter Tryz.func183,Tryz.ntmps183
 go_wp2_with (at_builtin;refine mr A _ _ 193 A rfl (W _) i S X A [.func fn l m] A (cell_one_new _ _ _) (by intro a9 i;simp at i;subst i;exact⟨A,by intro a7 d;cases d⟩) (by omega) ?_;intro b0 b1 p o t;obtain⟨a0,a8,a2,rfl⟩:=p.slice;have e:=Jz (e:=a) o H.out z.out;have a1:=aa e 2 A;have a3:=frozenAt e 2;have q:=Xl e;have r:=Xl o;have D:=Xl t;clear e t;have s:=Xl p;clear p o)
 go_end0
 refine⟨A,?_,λc a4 b Q=>?_,_,aA q.out,?_,λN R=>?_⟩
 .rw[aS];exact XZ (by simp) r.out.size
 .rw[ai b,r.out.block c (by simp;omega) (λd=>Q d.symm)];simp_all [XQ]
 .refine s.out.stay λY T=>ai λd=>?_;obtain⟨L,b,_⟩:=s.out.blk Y T;rw[d,q.out]at b;cases b
 rcases D.out N R with n|n
 .exact Xh n
 exact Xi (XZ (by simp) n)
theorem NJ(w:M)(a b:Obj)(d:c<w.heap.size):((w.alloc a).alloc b).heap[c]?=w.heap[c]?:=by grind [Below.heap_alloc]
theorem Nz(w:M)(a b:Obj):((w.alloc a).alloc b).heap[w.heap.size]?=C a:=by grind [Below.heap_alloc,World.alloc_heap_new]
theorem vY(w:M)(b a:Obj):((w.alloc b).alloc a).heap[w.heap.size+1]?=C a:=by have:=YN (w.alloc b) a;simp_all
inductive Un where
 |head (g:E) (b:Xk Xe)
 |add (a g:E)
 |drop (a g:E)
def uR(O:E)(w:M)(b:Xe):Un->Prop
 |.head g a=>∃c f,b=.func (.func 190) #[] #[pt c 0,pt f 0]/\w.heap[c]?=C (Xn a 190 (0,0))/\w.heap[f]?=C (Xn #[pt g 0] 187 (0,0))
 |.add d g=>∃c f a,b=.func (.func 217) #[] #[pt c 0,pt f 0,pt a 0]/\w.heap[c]?=C (Xn #[pt d 0] 187 (0,0))/\w.heap[f]?=C (Xn #[pt g 0] 187 (0,0))/\w.heap[a]?=C (Xn #[pt O 0] 94 (0,0))
 |.drop d g=>∃c f a,b=.func (.func 184) #[] #[pt c 0,pt f 0,pt a 0]/\w.heap[c]?=C (Xn #[pt g 0] 187 (0,0))/\w.heap[f]?=C (Xn #[pt d 0] 187 (0,0))/\w.heap[a]?=C (Xn #[pt O 0] 94 (0,0))
def IT(O:E)(h i g:Xe)(f:Xg Xe)(k:Un)(w:M)(d:Ending)(a:M):Prop:=d=Xs (.tuple #[])/\w.heap.size<=a.heap.size/\(∀c,c<w.heap.size->c≠O->g.ownBlock≠C c->a.heap[c]?=w.heap[c]?)/\
 ∃b e,a.heap[O]?=C (Xn #[h,i,b] 195 (0,0))/\cr NB a 1 1 b (f.length+1) (f++[e])/\kU w g b/\uR O a e k
theorem AU{z D k:Xe}{b:Xg Xe}(y:w.heap[O]?=C (Xn #[z,D,k] 195 (0,0)))(Z:cr NB w 1 1 k b.length b)(X:b.length<2^20)
 {l m:XB}{n o p q r s t u:Xj}{a4 a5:Xe}(a:w.heap[g]?=C (Xn #[.string l,.string m,Xd K n,Xd K o,Xd K p,Xd K q,Xd K r,Xd K s,Xd K t,Xd K u,a4,a5] 192 (0,0))):
 Calls TP 157 #[pt O 0,pt g 0] w (IT O z D k b (.head g #[.string l,.string m,Xd K n,Xd K o,Xd K p,Xd K q,Xd K r,Xd K s,Xd K t,Xd K u]) w):=by
 have W:=(XN.1 y).1;have b4:=(XN.1 a).1;have a6:=aa a 0 A;have c1:=aa a 1 A;have c2:=aa a 2 A;have c3:=aa a 3 A;have c4:=aa a 4 A;have c5:=aa a 5 A;have a7:=aa a 6 A;have a8:=aa a 7 A;have a9:=aa a 8 A;have b0:=aa a 9 A;have H:=Xl y;have e:=Xl Z;go_enter Tryz.func157,Tryz.ntmps157;have T:=H.out;have Y:=(e.out.alloc (.cells #[pt g 0] 187)).alloc (.cells #[.string l,.string m,Xd K n,Xd K o,Xd K p,Xd K q,Xd K r,Xd K s,Xd K t,Xd K u] 190);have L:=Xl (GA (.func 190) #[] #[pt (w.heap.size+1) 0,pt w.heap.size 0] (by rw[NJ _ _ _ W];exact T) Y X)
 go_wp2_with (go_at_call 183;refine L.out.mono ?_;rintro d b5⟨rfl,a0,x,a3,Q,R,S⟩)
 go_end0
 have i:∀a1 a2,((w.alloc a1).alloc a2).heap.size=w.heap.size+2:=by simp
 rw[i]at a0;refine⟨A,by omega,λc b3 b1 b2=>?_,a3,_,Q,R,λN U=>?_,_,_,A,?_,?_⟩
 .grind [NJ]
 .rcases S N U with v|v
  .exact Xh v
  grind
 .rw[x _ (by rw[i];omega) (by omega) (λd=>by have:=e.out.lt _ d;omega)]
  grind [vY]
 rw[x _ (by rw[i];omega) (by omega) (λd=>by have:=e.out.lt _ d;omega)];simp[Nz]
variable{d:M}{e:E}{s:E}{S:Xk XH}
abbrev OM(c d:XB)(e f g h i k l m:Xj)(a b:Xe):Xk Xe:=#[.string c,.string d,Xd K e,Xd K f,Xd K g,Xd K h,Xd K i,Xd K k,Xd K l,Xd K m,a,b]
abbrev PM(a b:XB)(c d e f g h i k:Xj):Xk Xe:=#[.string a,.string b,Xd K c,Xd K d,Xd K e,Xd K f,Xd K g,Xd K h,Xd K i,Xd K k]
theorem qV(d:M)(a b e:Obj)(f:c<d.heap.size):(((d.alloc a).alloc b).alloc e).heap[c]?=d.heap[c]?:=by grind [Below.heap_alloc]
theorem wQ{b:Obj}(a:c≠f):(ud d f b).heap[c]?=d.heap[c]?:=by simp[ud,YX a]
theorem Ir{a:Obj}(b:f<d.heap.size):(ud d f a).heap[f]?=C a:=by simp[ud,b]
theorem uR.stay{i:Xe}{h:Un}(g:uR O d i h)(o:∀(c:E)(a:Xk Xe)(b:Xq),d.heap[c]?=C (Obj.cells a b (0,0))->b=190\/b=187\/b=94->w'.heap[c]?=d.heap[c]?):uR O w' i h:=by
 cases h with
 |head e a=>obtain⟨c,f,rfl,k,l⟩:=g;exact⟨c,f,A,by grind,by grind⟩
 |add n e=>obtain⟨c,f,a,rfl,k,l,m⟩:=g;exact⟨c,f,a,A,by grind,by grind,by grind⟩
 |drop n e=>obtain⟨c,f,a,rfl,k,l,m⟩:=g;exact⟨c,f,a,A,by grind,by grind,by grind⟩
structure OP(O a e s:E)(H m Q:Xe)(N:Xj)(k:Xg Xe)(o p:XB)(q r t u v w x y:Xj)(D:B->Xp E)(L:B)(d:M)(z:Ending)(w':M):Prop where
 end_:z=Xs (.tuple #[])
 size:d.heap.size<=w'.heap.size
 kept:∀c,c<d.heap.size->c≠O->c≠a->c≠s->m.ownBlock≠C c->w'.heap[c]?=d.heap[c]?
 tree:∃b h i,w'.heap[O]?=C (Xn #[H,Xd K (N+1),b] 195 (0,0))/\cr NB w' 1 1 b (k.length+2) (k++[h,i])/\kU d m b/\uR O w' h (.head a (PM o p q r t u v w x y))/\uR O w' i (.add a e)
 nd:w'.heap[a]?=C (Xn (OM o p q r t (u+1) v w (x+1) y Q (.map (C s))) 192 (0,0))
 kd:∃S g,w'.heap[s]?=C (.map S g)/\Kids S g λn=>if n=L then C e else D n
theorem TS{a:E}{e5 a8:Xe}{r:Xj}{v:Xg Xe}(a5:d.heap[O]?=C (Xn #[e5,Xd K r,a8] 195 (0,0)))(e3:cr NB d 1 1 a8 v.length v)(l0:v.length<2^19)
 {b0 b1:XB}{b2 b3 b4 m b5 b6 n b7:Xj}{a9:Xe}(a3:d.heap[a]?=C (Xn (OM b0 b1 b2 b3 b4 m b5 b6 n b7 a9 (.map (C s))) 192 (0,0)))
 {w:E}{d1:B->Xp E}{D:B}(e0:d.heap[s]?=C (.map S w))(f3:Kids S w d1)(g5:d1 D=F){b8:Xk Xe}(e1:d.heap[e]?=C (Xn b8 192 (0,0)))(f8:b8[0]?=C (.string (bs D)))
 (k7:0<=m/\m<2^62)(k8:0<=n/\n<2^62)(l1:0<=r/\r<2^62):
 Calls TP 187 #[pt O 0,pt a 0,pt e 0] d (OP O a e s e5 a8 a9 r v b0 b1 b2 b3 b4 m b5 b6 n b7 d1 D d):=by
 have i7:=(XN.1 a5).1;have g0:=(XN.1 a3).1;have i9:=(XN.1 e1).1;have i8:=(XN.1 e0).1;have f2:=Xl (AU (w:=((d.alloc (.cells #[pt O 0] 94)).alloc (.cells #[pt a 0] 187)).alloc (.cells #[pt e 0] 187)) (O:=O) (g:=a) (b:=v) (by rw[qV _ _ _ _ i7];exact a5) (((e3.alloc _).alloc _).alloc _) (by omega) (by rw[qV _ _ _ _ g0];exact a3));have c9:=Xl a5;have W:=Xl e3;have c0:=Xl a3;have c6:=Xl e1;have b9:=Xl e0;have h2:=Xl f3;have h9:=Xl g5;have HC:=Xl f8;clear a5 e3 a3 e1 e0 f3 g5 f8;go_enter Tryz.func187,Tryz.ntmps187
 go_wp2_with (go_at_call 157;refine f2.out.mono ?_;rintro g i⟨rfl,j3,f9,T,f6,g8,g4,g2,t⟩)
 have d0:∀a7 j4 j5,(((d.alloc a7).alloc j4).alloc j5).heap.size=d.heap.size+3:=by simp
 rw[d0]at j3;have j0:=W.out.lt;have y:∀c f5,c≠O->a8.ownBlock≠C c->(((d.alloc (.cells #[pt O 0] 94)).alloc (.cells #[pt a 0] 187)).alloc (.cells #[pt e 0] 187)).heap[c]?=C f5->i.heap[c]?=C f5:=by grind
 have d4:i.heap[d.heap.size]?=C (Xn #[pt O 0] 94 (0,0)):=y _ _ (by omega) (λg=>by simp_all) (by rw[XQ _ _ _ (by simp;omega)];simp[Nz]);have d6:i.heap[d.heap.size+1]?=C (Xn #[pt a 0] 187 (0,0)):=y _ _ (by omega) (λg=>by grind) (by rw[Below.heap_alloc _ _ _ (by simp)];grind [vY])
 have d8:i.heap[d.heap.size+1+1]?=C (Xn #[pt e 0] 187 (0,0)):=y _ _ (by omega) (λg=>by grind) (by
  have:=vY (d.alloc (.cells #[pt O 0] 94)) (.cells #[pt a 0] 187) (.cells #[pt e 0] 187)
  simp_all)
 have e2:i.heap[a]?=C (Xn (OM b0 b1 b2 b3 b4 m b5 b6 n b7 a9 (.map (C s))) 192 (0,0)):=y _ _ (λg=>by have:=c0.out;rw[g,c9.out]at this;cases this) (λg=>by
  obtain⟨X,u,_⟩:=W.out.blk _ g
  rw[c0.out]at u;cases u) (by rw[qV _ _ _ _ g0];exact c0.out)
 have g3:i.heap[e]?=C (Xn b8 192 (0,0)):=y _ _ (λg=>by have:=c6.out;rw[g,c9.out]at this;cases this) (λg=>by
  obtain⟨X,u,_⟩:=W.out.blk _ g
  rw[c6.out]at u;cases u) (by rw[qV _ _ _ _ i9];exact c6.out)
 have a1:i.heap[s]?=C (.map S w):=y _ _ (λg=>by have:=b9.out;rw[g,c9.out]at this;cases this) (λg=>by
  obtain⟨X,u,_⟩:=W.out.blk _ g
  rw[b9.out]at u;cases u) (by rw[qV _ _ _ _ i8];exact b9.out)
 have k2:=aa d4 0 A;have k3:=aa d6 0 A;have k4:=aa d8 0 A;have k5:=aa e2 11 A;have k6:=aa g3 0 HC.out;obtain⟨j1,f4⟩:=Qw (c:=i.drew) a1 h2.out h9.out e;obtain⟨p,N⟩:∃p,ud i.drew s (.map (S.push ⟨.string (bs D),pt e 0,w⟩) (w+1))=p:=by simp
 rw[N]at j1;have L:s≠O:=by grind
 have a2:s≠a:=by grind
 have a6:O≠a:=by grind
 have x:∀c,c≠s->p.heap[c]?=i.heap[c]?:=λc d3=>by rw[<-N];exact wQ d3
 have g1:p.heap[s]?=C (.map (S.push ⟨.string (bs D),pt e 0,w⟩) (w+1)):=by rw[<-N];exact Ir (XN.1 a1).1
 have g6:p.heap.size=i.heap.size:=by rw[<-N];simp[ud]
 have z:=(x a (YX a2)).trans e2;have a4:=(x O (YX L)).trans g8;have d5:=(x d.heap.size (by omega)).trans d4;have d7:=(x (d.heap.size+1) (by omega)).trans d6;have d9:=(x (d.heap.size+1+1) (by omega)).trans d8;have l5:=aa d5 0 A;have l6:=aa d7 0 A;have l7:=aa d9 0 A;have l8:=aa z 5 A;have l9:=aa z 8 A;have m0:=aa a4 1 A;have m1:=frozenAt z 5;have m2:=frozenAt z 8;have m3:=frozenAt a4 1;have e6:=Xl d5;have e7:=Xl d7;have e8:=Xl d9;have c7:=Xl z;have c8:=Xl a4;have h6:=Xl g1;have e9:=Xl a1;have h4:=Xl f4;have h3:=Xl f9;have k:=Xl x;have U:=Xl g4;have i2:=Xl t;have f0:=Xl g2;have i0:=Xl g6;clear d4 d6 d8 e2 g3 a1 f4 f9 g4 g8 t g2 y j0 d0 f2 d5 d7 d9 z a4 g1 x N g6
 have q1:(((p.setCell ⟨a,5,F⟩ (Xd K (m+1))).setCell ⟨a,8,F⟩ (Xd K (n+1))).setCell ⟨O,1,F⟩ (Xd K (r+1))).heap[O]?=C (Xn #[e5,Xd K (r+1),T] 195 (0,0)):=by have:=aA (n:=1) (i:=Xd K (r+1)) (a:=(p.setCell ⟨a,5,F⟩ (Xd K (m+1))).setCell ⟨a,8,F⟩ (Xd K (n+1))) (k:=O) (by rw[ai a6,ai a6];exact c8.out);simp_all
 have g9:(((p.setCell ⟨a,5,F⟩ (Xd K (m+1))).setCell ⟨a,8,F⟩ (Xd K (n+1))).setCell ⟨O,1,F⟩ (Xd K (r+1))).heap[a]?=C (Xn (OM b0 b1 b2 b3 b4 (m+1) b5 b6 (n+1) b7 a9 (.map (C s))) 192 (0,0)):=by rw[ai (YX a6)];have:=aA (n:=8) (i:=Xd K (n+1)) (aA (n:=5) (i:=Xd K (m+1)) c7.out);simp_all
 have e4:∀c,c≠O->c≠a->(((p.setCell ⟨a,5,F⟩ (Xd K (m+1))).setCell ⟨a,8,F⟩ (Xd K (n+1))).setCell ⟨O,1,F⟩ (Xd K (r+1))).heap[c]?=p.heap[c]?:=by simp_all [ai]
 have h0:(((p.setCell ⟨a,5,F⟩ (Xd K (m+1))).setCell ⟨a,8,F⟩ (Xd K (n+1))).setCell ⟨O,1,F⟩ (Xd K (r+1))).heap.size=i.heap.size:=by rw[aS,aS,aS,i0.out]
 have i6:=U.out.lt
 have t:∀b,T.ownBlock=C b->b≠O/\b≠a/\b≠s/\b≠d.heap.size/\b≠d.heap.size+1/\b≠d.heap.size+1+1:=λb h=>by
  obtain⟨X,l,_⟩:=U.out.blk b h;refine⟨?_,?_,?_,?_,?_,?_⟩<;>rintro rfl
  .rw[<-k.out _ (YX L),c8.out]at l;cases l
  .rw[<-k.out _ (YX a2),c7.out]at l;cases l
  .rw[e9.out]at l;cases l
  .rw[<-k.out _ (by omega),e6.out]at l;cases l
  .rw[<-k.out _ (by omega),e7.out]at l;cases l
  rw[<-k.out _ (by omega),e8.out]at l;cases l
 have i1:=Xl (GA (k:=v++[f6]) (.func 217) #[] #[pt (d.heap.size+1) 0,pt (d.heap.size+1+1) 0,pt d.heap.size 0] q1 (by
  rw[Yw]
  exact U.out.stay λb h=>by rw[e4 _ (t b h).1 (t b h).2.1,k.out _ (t b h).2.2.1]) (by simp;omega))
 have h7:=Xl g9;have f1:=Xl e4;have h8:=Xl h0;have h5:=Xl t;clear q1 g9 e4 h0 i6 t;generalize g7:bs D=l3 at*
 have k0:=Xl g7;clear g7
 go_still_tail 10,(by kernel_rfl)
 change wpList _ _ _ _ _ i.drew
 go_wp2_with (go_at_call 183;refine i1.out.mono ?_;rintro g j9⟨rfl,j2,a0,j8,j6,l2,j7⟩)
 go_end0
 rw[h8.out]at j2 a0;have H:=h5.out
 have Q:∀c,c≠O->c≠a->c≠s->T.ownBlock≠C c->c<i.heap.size->j9.heap[c]?=i.heap[c]?:=λc o Y d2 Z i3=>by rw[a0 c i3 o Z,f1.out c o Y,k.out c d2]
 have R:∀c,(∀b,T.ownBlock=C b->b≠c)->T.ownBlock≠C c:=λc q g=>q c g A;have d0:(((d.alloc (.cells #[pt O 0] 94)).alloc (.cells #[pt a 0] 187)).alloc (.cells #[pt e 0] 187)).heap.size=d.heap.size+3:=by simp
 refine⟨A,by omega,λc d3 o Y d2 Z=>?_,⟨j8,f6,.func (.func 217) #[] #[pt (d.heap.size+1) 0,pt (d.heap.size+1+1) 0,pt d.heap.size 0],j6,?_,λf7 i4=>?_,?_,?_⟩,?_,?_⟩
 .rw[Q c o Y d2 (λg=>?_) (by omega),h3.out c (by omega) o Z,qV _ _ _ _ d3];rcases f0.out c g with q|q
  .exact Z q
  omega
 .grind
 .rcases j7 f7 i4 with q|q
  .rcases f0.out f7 q with q|q
   .exact Xh q
   exact Xi (by omega)
  grind
 .refine i2.out.stay λc X l4 o Y=>?_;have i5:=(XN.1 o).1;refine Q c ?_ ?_ ?_ (λg=>?_) i5
  .rintro rfl;rw[<-k.out _ (YX L),c8.out]at o;grind
  .rintro rfl;rw[<-k.out _ (YX a2),c7.out]at o;grind
  .rintro rfl;rw[e9.out]at o;cases o
  obtain⟨k1,k9,_⟩:=U.out.blk c g
  grind
 .exact⟨_,_,_,A,by
   rw[Q _ (by omega) (by omega) (by omega) (R _ λb h=>(H b h).2.2.2.2.1) (by omega),<-k.out _ (by omega)];exact e7.out,by
   rw[Q _ (by omega) (by omega) (by omega) (R _ λb h=>(H b h).2.2.2.2.2) (by omega),<-k.out _ (by omega)];exact e8.out,by
   rw[Q _ (by omega) (by omega) (by omega) (R _ λb h=>(H b h).2.2.2.1) (by omega),<-k.out _ (by omega)];exact e6.out⟩
 .rw[a0 a (by omega) (YX a6) (R _ λb h=>(H b h).2.1)];exact h7.out
 refine⟨_,_,?_,h4.out⟩;rw[a0 s (by omega) L (R _ λb h=>(H b h).2.2.1),f1.out s L a2];exact h6.out
variable{a:Tree}{c:Path}
def pJ(a:Tree)(b e:Path->E)(O d:E):Prop:=d=O\/∃c,(Wt.find a c).isSome=J/\(d=b c\/d=e c)
def wH(d:M)(O b:E):Prop:=∃c e a,d.heap[O]?=C (Xn #[c,e,a] 195 (0,0))/\a.ownBlock=C b
def gu(O:E)(d:M):Xg Xe->Xg Un->Prop
 |[],[]=>True
 |a::b,c::i=>uR O d a c/\gu O d b i
 |_,_=>False
theorem gu.stay(l:∀(k:E)(n:Xk Xe)(a:Xq),d.heap[k]?=C (Obj.cells n a (0,0))->a=190\/a=187\/a=94->w'.heap[k]?=d.heap[k]?):∀{m:Xg Xe}{i:Xg Un},gu O d m i->gu O w' m i
 |[],[],_=>trivial
 |_::_,_::_,g=>⟨g.1.stay l,gu.stay l g.2⟩
 |[],_::_,g=>g.elim
 |_::_,[],g=>g.elim
theorem gu.app:∀{b c:Xg Xe}{i e:Xg Un},gu O d b i->gu O d c e->gu O d (b++c) (i++e)
 |[],_,[],_,_,a=>a
 |_::_,_,_::_,_,a,f=>⟨a.1,gu.app a.2 f⟩
 |[],_,_::_,_,a,_=>a.elim
 |_::_,_,[],_,a,_=>a.elim
theorem gu.len:∀{b:Xg Xe}{i:Xg Un},gu O d b i->b.length=i.length
 |[],[],_=>rfl
 |_::_,_::_,a=>by rw[Yl,Yl,gu.len a.2]
 |[],_::_,a=>a.elim
 |_::_,[],a=>a.elim
structure pW(a:Tree)(b e:Path->E)(O:E)(i:Xg Un)(d:M):Prop where
 lg:bw a b e d
 top:∃k g,d.heap[O]?=C (Xn #[pt (b []) 0,Xd K a.length,k] 195 (0,0))/\cr NB d 1 1 k g.length g/\gu O d g i
structure ye(O:E)(a:Tree)(b e:Path->E)(h:Tree)(m k:Path->E)(d w':M):Prop where
 size:d.heap.size<=w'.heap.size
 kept:∀g,g<d.heap.size->¬pJ a b e O g->¬wH d O g->w'.heap[g]?=d.heap[g]?
 news:∀g,pJ h m k O g->pJ a b e O g\/d.heap.size<=g
 row:∀g,wH w' O g->wH d O g\/d.heap.size<=g
theorem ye.trans{u v:Tree}{b e s q t r:Path->E}{w x:M}(l:ye O a b e u s q d w)(n:ye O u s q v t r w x):ye O a b e v t r d x where
 size:=XZ l.size n.size
 kept:=λk m o p=>by
  rw[n.kept k (XY m l.size) (λg=>?_) (λg=>?_),l.kept k m o p]
  .rcases l.news k g with g|g
   .exact o g
   omega
  rcases l.row k g with g|g
  .exact p g
  omega
 news:=λk m=>by
  rcases n.news k m with g|g
  .exact l.news k g
  exact Xi (XZ l.size g)
 row:=λk m=>by
  rcases n.row k m with g|g
  .exact l.row k g
  exact Xi (XZ l.size g)
section
variable{h:Tree}{b e:Path->E}{i:Xg Un}
theorem bw.lt(g:bw a b e d)(i:(Wt.find a c).isSome=J):b c<d.heap.size/\e c<d.heap.size:=by obtain⟨f,h⟩:=XR.1 i;obtain⟨m,l,k,_⟩:=g.kd c f h;exact⟨(XN.1 (g.nd c f h)).1,(XN.1 k).1⟩
theorem bw.ne(h:bw a b e d){g:Path}(l:(Wt.find a c).isSome=J)(m:(Wt.find a g).isSome=J):b c≠e g:=λp=>by obtain⟨f,i⟩:=XR.1 l;obtain⟨n,k⟩:=XR.1 m;obtain⟨q,o,r,_⟩:=h.kd g n k;have:=h.nd c f i;simp_all
theorem bw.stay(g:bw a b e d)(l:∀c,(Wt.find a c).isSome=J->w'.heap[b c]?=d.heap[b c]?/\w'.heap[e c]?=d.heap[e c]?):bw a b e w' where
 nd:=λc f k=>by rw[(l c (by rw[k];rfl)).1];exact g.nd c f k
 kd:=λc f k=>by
  obtain⟨n,m,o,p⟩:=g.kd c f k
  grind
 inj:=g.inj
 xM:=g.xM
theorem bw.old(g:bw a b e d)(l:∀k,k<d.heap.size->w'.heap[k]?=d.heap[k]?):bw a b e w':=g.stay λc m=>⟨l _ (g.lt m).1,l _ (g.lt m).2⟩
theorem Cg(d:∀c,(Wt.find h c).isSome=(Wt.find a c).isSome)(b:Path->E)(c:Path):bX h b c=bX a b c:=by grind [bX]
theorem bw.upd(k:bw a b e d){f v:Nd}(D:Wt.find a c=C f)(H:∀g,Wt.find h g=if g=c then C v else Wt.find a g)
 (Q:w'.heap[b c]?=C (Xn (cU c v (b c.dropLast) (e c)) 192 (0,0)))(t:∀i,i<d.heap.size->i≠b c->(∃g,(Wt.find a g).isSome=J/\(i=b g\/i=e g))->w'.heap[i]?=d.heap[i]?):bw h b e w':=by
 have u:(Wt.find a c).isSome=J:=by rw[D];rfl
 have n:∀g,(Wt.find h g).isSome=(Wt.find a g).isSome:=by grind
 refine⟨λg w o=>?_,λg w o=>?_,λi m q r=>k.inj i m (n i▸q) (n m▸r),λi m q r=>k.xM i m (n i▸q) (n m▸r)⟩
 .have l:(Wt.find a g).isSome=J:=by grind
  rw[H]at o;by_cases s:g=c
  .simp_all
  rw[Xx s]at o;rw[t _ (k.lt l).1 (λp=>s (k.inj g c l u p)) ⟨g,l,.inl A⟩];exact k.nd g w o
 have l:(Wt.find a g).isSome=J:=by grind
 obtain⟨N,L⟩:=XR.1 l;obtain⟨y,x,z,O⟩:=k.kd g N L;refine⟨y,x,?_,by grind [Cg]⟩;rw[t _ (k.lt l).2 (λp=>k.ne u l p.symm) ⟨g,l,.inr A⟩];exact z
def wR(b:Path->E)(a:Path)(f:E):Path->E:=λc=>if c=a then f else b c
theorem dP{b:Path->E}{a:Path}:wR b a f a=f:=XC A
theorem bG{b:Path->E}{a:Path}(d:c≠a):wR b a f c=b c:=Xx d
theorem uT(a:Path)(b:B):a≠a++[b]:=λc=>by simp_all
theorem GQ{b c:Path}{a d:B}(e:c++[d]=b++[a]):c=b/\d=a:=by simp_all
theorem bw.add(q:bw a b e d){i:Path}{k:B}{a2 S T:Nd}{z:E}(a0:Wt.find a i=C a2)(a4:Wt.find a (i++[k])=F)(a7:∀l,Wt.find a (i++[k]++[l])=F)
 (b0:∀c,c≠[]->(Wt.find a c).isSome=J->(Wt.find a c.dropLast).isSome=J)
 (R:∀g,Wt.find h g=if g=i++[k]then C T else if g=i then C S else Wt.find a g)
 (a9:w'.heap[b i]?=C (Xn (cU i S (b i.dropLast) (e i)) 192 (0,0)))
 (Z:∃s o,w'.heap[e i]?=C (.map s o)/\Kids s o λl=>if l=k then C f else bX a b i l)
 (a8:w'.heap[f]?=C (Xn (cU (i++[k]) T (b i) z) 192 (0,0)))(Y:∃o,w'.heap[z]?=C (.map #[] o)/\Stamped #[] o)
 (a6:∀g,(Wt.find a g).isSome=J->b g≠f/\e g≠z)
 (O:∀m,m<d.heap.size->m≠b i->m≠e i->(∃g,(Wt.find a g).isSome=J/\(m=b g\/m=e g))->w'.heap[m]?=d.heap[m]?):bw h (wR b (i++[k]) f) (wR e (i++[k]) z) w':=by
 have y:(Wt.find a i).isSome=J:=by rw[a0];rfl
 have Q:∀g,g≠i++[k]->(Wt.find h g).isSome=(Wt.find a g).isSome:=by grind
 have a5:∀g,(Wt.find a g).isSome=J->g≠i++[k]:=by grind
 have ach:∀g,(Wt.find a g).isSome=J->wR b (i++[k]) f g.dropLast=b g.dropLast:=by grind [bG]
 refine⟨λg l t=>?_,λg l t=>?_,λm r U W n=>?_,λm r U W n=>?_⟩
 .by_cases n:g=i++[k]
  .simp_all [dP,bG]
  have p:(Wt.find a g).isSome=J:=by grind
  rw[bG n,bG n,ach g p];rw[R,Xx n]at t;by_cases u:g=i
  .simp_all
  rw[Xx u]at t;rw[O _ (q.lt p).1 (λv=>u (q.inj g i p y v)) (q.ne p y) ⟨g,p,.inl A⟩];exact q.nd g l t
 .by_cases n:g=i++[k]
  .subst n;obtain⟨o,w,L⟩:=Y;rw[dP];refine⟨#[],o,w,L,by simp,λl r t=>?_⟩;unfold bX at t;simp_all
  have p:(Wt.find a g).isSome=J:=by grind
  rw[bG n];by_cases u:g=i
  .subst u;obtain⟨s,o,w,L⟩:=Z;refine⟨s,o,w,?_⟩
   have X:bX h (wR b (g++[k]) f) g=λl=>if l=k then C f else bX a b g l:=by
    funext l
    unfold bX;by_cases N:l=k
    .subst N;rw[R,XC A,XC A,dP];rfl
    have x:g++[l]≠g++[k]:=by simp_all
    rw[Q _ x,bG x,Xx N]
   simp_all
  obtain⟨a3,a1⟩:=XR.1 p;obtain⟨s,o,w,L⟩:=q.kd g a3 a1;refine⟨s,o,?_,?_⟩
  .rw[O _ (q.lt p).2 (λv=>q.ne y p v.symm) (λv=>u (q.xM g i p y v)) ⟨g,p,.inr A⟩];exact w
  have X:bX h (wR b (i++[k]) f) g=bX a b g:=by
   funext l
   unfold bX;have x:g++[l]≠i++[k]:=by simp_all
   rw[Q _ x,bG x]
  simp_all
 .by_cases D:m=i++[k]
  .grind [dP,bG]
  by_cases H:r=i++[k]
  .simp_all [dP,bG]
  rw[bG D,bG H]at n;exact q.inj m r (by simp_all) (by simp_all) n
 by_cases D:m=i++[k]
 .grind [dP,bG]
 by_cases H:r=i++[k]
 .simp_all [dP,bG]
 rw[bG D,bG H]at n;exact q.xM m r (by simp_all) (by simp_all) n
theorem bw.del(o:bw a b e d){l:Path}{w:B}{a0 T:Nd}(Y:Wt.find a l=C a0)
 (S:∀k,Wt.find h k=if k=l++[w]then F else if k=l then C T else Wt.find a k)
 (a2:w'.heap[b l]?=C (Xn (cU l T (b l.dropLast) (e l)) 192 (0,0)))
 (X:∃t r,w'.heap[e l]?=C (.map t r)/\Kids t r λn=>if n=w then F else bX a b l n)
 (Q:∀m,m<d.heap.size->m≠b l->m≠e l->(∃k,(Wt.find a k).isSome=J/\(m=b k\/m=e k))->w'.heap[m]?=d.heap[m]?):bw h b e w':=by
 have y:(Wt.find a l).isSome=J:=by rw[Y];rfl
 have R:∀k,k≠l++[w]->(Wt.find h k).isSome=(Wt.find a k).isSome:=by grind
 have u:∀k,(Wt.find h k).isSome=J->k≠l++[w]/\(Wt.find a k).isSome=J:=by grind
 refine⟨λk n v=>?_,λk n v=>?_,λm x H L=>o.inj m x (u m H).2 (u x L).2,λm x H L=>o.xM m x (u m H).2 (u x L).2⟩
 .obtain⟨N,p⟩:=u k (by rw[v];rfl);rw[S,Xx N]at v;by_cases s:k=l
  .simp_all
  rw[Xx s]at v;rw[Q _ (o.lt p).1 (λq=>s (o.inj k l p y q)) (o.ne p y) ⟨k,p,.inl A⟩];exact o.nd k n v
 obtain⟨N,p⟩:=u k (by rw[v];rfl);by_cases s:k=l
 .subst s;obtain⟨t,r,D,U⟩:=X;refine⟨t,r,D,?_⟩
  have W:bX h b k=λn=>if n=w then F else bX a b k n:=by
   funext n
   unfold bX;by_cases z:n=w
   .subst z;rw[S,XC A,XC A];rfl
   rw[R _ (λq=>z (GQ q).2),Xx z]
  simp_all
 obtain⟨a1,Z⟩:=XR.1 p;obtain⟨t,r,D,U⟩:=o.kd k a1 Z;refine⟨t,r,?_,?_⟩
 .rw[Q _ (o.lt p).2 (λq=>o.ne y p q.symm) (λq=>s (o.xM k l p y q)) ⟨k,p,.inr A⟩];exact D
 have W:bX h b k=bX a b k:=by
  funext n
  unfold bX;rw[R _ (λq=>s (GQ q).1)]
 simp_all
end
variable{a:M}
def uQ(a:M):Prop:=TabIs TP a "internal/strconv.uint64pow10" .u64 pow10Tab
theorem pQ:TP.globalNamed "internal/strconv.uint64pow10"=C 4:=by rfl
theorem uQ.stay(c:uQ a)(d:(w'.heap[4]?).map Sim.Obj.whole=(a.heap[4]?).map Sim.Obj.whole):uQ w':=by
 unfold uQ TabIs M.var? at c⊢
 rw[pQ]at c⊢
 simp only[ZO]at c⊢
 cases e:a.heap[4]? with
 |none=>simp_all
 |some g=>
  rw[e]at c d;cases g with
  |cells i n l=>
   cases f:w'.heap[4]? with
   |none=>simp_all
   |some h=>
    rw[f]at d;cases h with
    |cells k o m=>simp_all [Sim.Obj.whole]
    |_=>simp[Sim.Obj.whole]at d
  |_=>cases c
theorem dd(a:E)(b:10<=a):decDigits a=decDigits (a/10)++[UInt8.ofNat (48+a%10)]:=by rw[decDigits,dif_neg (by omega)]
theorem WN(a:E)(b:a<10):decDigits a=[UInt8.ofNat (48+a)]:=by rw[decDigits,abi b]
theorem Fv{a:Xj}(c:0<=a)(h:a<=999):itoa (1000+a)=49::Wt.three a:=by
 obtain⟨b,rfl⟩:=Xj.eq_ofNat_of_zero_le c;unfold itoa;rw[Xx (by omega),show(1000+(b:Xj)).toNat=1000+b by omega,dd _ (by omega),dd _ (by omega),dd _ (by omega),WN _ (by omega)];have d:(1000+b)/10/10/10=1:=by omega
 have e:(1000+b)/10/10%10=b/100:=by omega
 have f:(1000+b)/10%10=b/10%10:=by omega
 have g:(1000+b)%10=b%10:=by omega
 simp_all [Wt.three]
theorem EC{d:Xk Obj}:Below a.heap.size a (grow (a.drewN b) d):=
 ⟨A,A,A,by simp[grow],λe c=>by simp[grow,aa6,c]⟩
def GO(d:XB)(c:Xj)(a:M)(b:Ending)(w':M):Prop:=b=Xs (.string (d++bs (Wt.three c)))/\Below a.heap.size a w'
theorem NI(g:uQ a)(f:XB){c:Xj}(l:0<=c)(m:c<=999)(q:f.size<2^30):Calls TP 186 #[.string f,Xd K c] a (GO f c a):=by
 have e:=Tryz.strconv_Itoa (1000+c) (by omega) (by omega) a g;rw[Fv l m]at e;obtain⟨d,hd⟩:∃d,(⟨(49::Wt.three c).toArray⟩:XB)=d:=⟨_,A⟩;rw[hd]at e;have p:d.size=4:=by rw[<-hd];rfl
 have h:d.extract 1 4=bs (Wt.three c):=by rw[<-hd];rfl
 have i:=Xl e;have k:=Xl h;have n:(bs (Wt.three c)).size=3:=A;clear e g hd h n;go_enter Tryz.func186,Tryz.ntmps186
 go_wp2_with (go_at_call 216;refine i.out.mono ?_;rintro o w'⟨rfl,b,r,rfl⟩)
 go_ret;exact⟨AG (by rw[k.out];rfl),EC⟩
variable{P:Xy}{k:Xe}{m:E}{d:E}{n:E}{T:E}{j:E}{e:Tree}{h:M}
theorem pO{fn:Func}{c f:Tmp}{e:Xq}(g:fn.results=#[.cell c e,.tmp f]){b:Xk Xe}{d:Xw}(h:b.getD c I=XA (C d))(i:(loadVar e d).run P a=.ok k a):
 (results fn b).run P a=.ok (.tuple #[k,b.getD f I]) a:=by
 simp_all [asAddr,results]
theorem Ae{b:Xk Xe}{c:E×E}(d:a.heap[m]?=C (Xn b 154 c))(e:b.size=9):(loadVar 154 ⟨m,0,F⟩).run TP a=.ok (.agg b) a:=
 run_loadVar_row a m 154 154 b c _ d A rfl (by rw[e];rfl)
def WW(a:Wt.Stat):Xg Xj:=[a.made,a.set,a.aE,a.ez,a.own,a.size,a.kids]
def od:Bb->LR
 |.no b=>⟨⟨#[]⟩,[0,0,0,0,0,0,0],[],.iface 32 (Xd K b)⟩
 |.yes a=>⟨bs a.data,WW a.stat,a.names.map bs,.nilIface⟩
def mC(b:LR)(a:M)(d:Ending)(h:M):Prop:=∃c,d=Xs (.tuple #[.agg c,b.ev])/\cf b a.heap.size c h/\Below a.heap.size a h
def nV:Xk Xe:=#[.string ⟨#[]⟩,Xd K 0,Xd K 0,Xd K 0,Xd K 0,Xd K 0,Xd K 0,Xd K 0,Xm F 0 0]
theorem ck(a:M)(c:Obj):Below a.heap.size a (a.alloc c):=⟨A,A,A,by simp,λd b=>XQ _ _ _ b⟩
theorem gQ(a:M)(c:Obj):Below a.heap.size a (a.drew.alloc c):=⟨A,A,A,by simp,λd b=>XQ a.drew _ _ b⟩
theorem alloc_drew(a:M)(b:Obj):(a.alloc b).drew=a.drew.alloc b:=A
theorem Iq{b:Xj}:cf (od (.no b)) s nV a:=⟨A,Xm F 0 0,A,Xh ⟨A,A⟩⟩
abbrev uc(a:M)(d:E)(b c e f g h i k l:Xe):M:=((((((((a.setCell ⟨d,0,F⟩ b).setCell ⟨d,1,F⟩ c).setCell ⟨d,2,F⟩ e).setCell ⟨d,3,F⟩ f).setCell ⟨d,4,F⟩ g).setCell ⟨d,5,F⟩ h).setCell ⟨d,6,F⟩ i).setCell ⟨d,7,F⟩ k).setCell ⟨d,8,F⟩ l
theorem AF{v w x y z D H L N b g i o p q r t u:Xe}{e:Xq}(Q:a.heap[d]?=C (Xn #[v,w,x,y,z,D,H,L,N] e (0,0))):
 (uc a d b g i o p q r t u).heap[d]?=C (Xn #[b,g,i,o,p,q,r,t,u] e (0,0)):=by
 simp[M.setCell,Zf,Q]
theorem fg{b:E}(c:b<=d):Below b a (a.setCell ⟨d,n,F⟩ k):=
 ⟨A,A,A,ZZ aS.symm,λf e=>ai (by omega)⟩
theorem pL{c:E}{e f g h i k l m n:Xe}(b:c<=d):Below c a (uc a d e f g h i k l m n):=
 ((((((((fg b).trans (fg b)).trans (fg b)).trans (fg b)).trans (fg b)).trans (fg b)).trans (fg b)).trans (fg b)).trans (fg b)
theorem vi(b:T≠d):(a.setCell ⟨d,n,F⟩ k).cell? ⟨T,j,F⟩=a.cell? ⟨T,j,F⟩:=by grind [World.cell?,ai]
theorem Kl{b c e f g h i k l:Xe}(m:T≠d):(uc a d b c e f g h i k l).cell? ⟨T,j,F⟩=a.cell? ⟨T,j,F⟩:=by simp_all [vi]
section
variable{f l:Path->E}
theorem PX(d:XB){s:Xj}(u:a.cell? ⟨1,0,F⟩=C (Xd K s))(l:d.size<2^31)(i:Wt.split d.data.toList=F):Calls TP 58 #[pt O 0,.string d] a (mC (od (.no 4)) a):=by
 have t:1<a.heap.size:=by grind [World.cell?]
 have e:=nT d s (a.alloc (.cells nV 154)) l (by simp_all [Yx]);unfold cE at e;rw[i]at e;have g:=Xl e;go_enter Tryz.func58,Tryz.ntmps58
 go_wp2_with (go_at_call 95;refine g.out.mono ?_;rintro q R⟨c,rfl⟩;have b:=(c.block _ (by simp)).trans (YN a _);have m:=aa b 0 A;have c1:=aa b 1 A;have c2:=aa b 2 A;have c3:=aa b 3 A;have c4:=aa b 4 A;have c5:=aa b 5 A;have n:=aa b 6 A;have o:=aa b 7 A;have p:=aa b 8 A;have r:=frozenAt b;have h:=Xl b;have f:=Xl c;clear b c)
 have k:=AF (b:=.string ⟨#[]⟩) (g:=Xd K 0) (i:=Xd K 0) (o:=Xd K 0) (p:=Xd K 0) (q:=Xd K 0) (r:=Xd K 0) (t:=Xd K 0) (u:=Xm F 0 0) h.out;refine Zm (pO A rfl (Ae k A)) A ?_;have c:=f.out;have v:(a.alloc (.cells nV 154)).heap.size=a.heap.size+1:=by simp
 exact⟨_,A,Iq,((ck a _).trans (c.mono (by omega))).trans (pL (XS _))⟩
theorem TJ.row{f:E}(b:TJ k c f a):Row k c a:=by
 rcases b with⟨rfl,rfl⟩|⟨d,rfl,_,_,e⟩
 .exact Xh ⟨A,A⟩
 refine Xi ⟨d,_,A,XS _,(XN.1 e).1,λh i g=>?_⟩;simp_all [M.cell?]
theorem TJ.slice{g:E}(f:TJ k c g a):∃b s e,k=.slice b s e:=by
 rcases f with⟨rfl,rfl⟩|⟨d,rfl,_,_,h⟩
 .exact⟨_,_,_,A⟩
 simp
theorem sM{a:XB}(b:Wt.split a.data.toList=C c):c.length<2^31:=by grind [rD]
theorem yK(u:mg e f l a)(w:a.cell? ⟨O,0,F⟩=C (pt (f []) 0))(x:(Wt.find e []).isSome=J)(H:∀c,c≠[]->(Wt.find e c).isSome=J->(Wt.find e c.dropLast).isSome=J)
 (i:XB){s:Xj}(Q:a.cell? ⟨1,0,F⟩=C (Xd K s))(y:i.size<2^31)(t:Wt.split i.data.toList=C c)(g:Obj):
 Calls TP 95 #[.string i] (a.alloc g) λb m=>∃n q o,b=Xs (.tuple #[.slice n q o,.bool J])/\Below (a.heap.size+1) (a.alloc g) m/\Calls TP 96 #[pt O 0,.slice n q o] m λb h=>b=Xs (gU (if(Wt.find e c).isSome then C (f c)else F))/\m=h:=by
 have L:1<a.heap.size:=by grind [World.cell?]
 have D:O<a.heap.size:=by grind [World.cell?]
 refine(nT i s (a.alloc g) y (by simp_all [Yx])).mono ?_;intro b m p;unfold cE at p;rw[t]at p;obtain⟨d,k,rfl,r⟩:=p;obtain⟨n,q,o,rfl⟩:=r.slice;have z:(a.alloc g).heap.size=a.heap.size+1:=by simp
 rw[z]at d;refine⟨_,_,_,A,d,zP (u.old λv N=>by rw[d.block v (by omega)];simp_all [XQ]) ?_ x H r.row (sM t)⟩;rw[d.cell (p:=⟨O,0,F⟩) (by grind),World.cell?_alloc_lt _ _ _ D];exact w
theorem FC(r:mg e f l a)(u:a.cell? ⟨O,0,F⟩=C (pt (f []) 0))(w:(Wt.find e []).isSome=J)(y:∀c,c≠[]->(Wt.find e c).isSome=J->(Wt.find e c.dropLast).isSome=J)
 (g:XB){s:Xj}(v:a.cell? ⟨1,0,F⟩=C (Xd K s))(x:g.size<2^31)(k:Wt.split g.data.toList=C c)(d:Wt.find e c=F):Calls TP 58 #[pt O 0,.string g] a (mC (od (.no 7)) a):=by
 have m:=yK r u w y g v x k (.cells nV 154);simp only[d,gU,Xp.isSome_none,Yi,Yf,Xp.map_none]at m;have p:=Xl m;go_enter Tryz.func58,Tryz.ntmps58
 go_wp2_with (first
  |(go_at_call 95;refine p.out.mono ?_;rintro t a3⟨z,S,Q,rfl,i,d⟩;have o:=Xl d;clear d;have b:=(i.block _ (by omega)).trans (YN a _);have D:=aa b 0 A;have c1:=aa b 1 A;have c2:=aa b 2 A;have c3:=aa b 3 A;have c4:=aa b 4 A;have c5:=aa b 5 A;have H:=aa b 6 A;have L:=aa b 7 A;have N:=aa b 8 A;have R:=frozenAt b;have q:=Xl b;have n:=Xl i;clear b i)
  |(go_at_call 96;refine o.out.mono ?_;rintro t h⟨rfl,rfl⟩))
 have k:=AF (b:=.string ⟨#[]⟩) (g:=Xd K 0) (i:=Xd K 0) (o:=Xd K 0) (p:=Xd K 0) (q:=Xd K 0) (r:=Xd K 0) (t:=Xd K 0) (u:=Xm F 0 0) q.out;refine Zm (pO A rfl (Ae k A)) A ?_;exact⟨_,A,Iq,((ck a _).trans (n.out.mono (by omega))).trans (pL (XS _))⟩
theorem zo.slice{f:Xg B}{e:E}(d:zo k f e a):∃b s c,k=.slice b s c:=by
 rcases d with⟨rfl,_⟩|⟨_,_,_,rfl,_⟩
 .exact⟨_,_,_,A⟩
 simp
theorem Nu{f:Xg B}{b e:E}(l:zo k f b a)(q:e<=b)(p:∀d,b<=d->h.heap[d]?=a.heap[d]?):gr (f.map bs) e k h:=by
 rcases l with⟨rfl,rfl⟩|⟨d,i,g,rfl,c,r,m,o,s,t⟩
 .exact Xh ⟨A,A⟩
 refine Xi ⟨d,i,g,9,(0,0),by simp,XZ q c,by rw[p d c];exact m,A,by simpa using o,by omega,λn v u=>?_⟩
 grind
theorem JO(a0:mg e f l a)(b0:a.cell? ⟨O,0,F⟩=C (pt (f []) 0))(b8:(Wt.find e []).isSome=J)(c7:∀c,c≠[]->(Wt.find e c).isSome=J->(Wt.find e c.dropLast).isSome=J)
 (y:XB){s:Xj}(b6:a.cell? ⟨1,0,F⟩=C (Xd K s))(b9:y.size<2^31)(Y:Wt.split y.data.toList=C c){b:Nd}(z:Wt.find e c=C b)
 (f2:Wt.Ord e)(b4:∀c9,(Wt.find e c9).isSome=J->∀f9∈c9,f9.length<=maxLen)(c6:∀L U,Kids L U (bX e f c)->L.size<=2^20):Calls TP 58 #[pt O 0,.string y] a (mC (od (.yes ⟨b.data,b.stat,be e c⟩)) a):=by
 have a4:=yK a0 b0 b8 c7 y b6 b9 Y (.cells nV 154);simp only[z,gU,Xp.isSome_some,Yc,Zo]at a4;have a7:=Xl a4;have Q:=Xl a0;clear a4 a0 b0 b8 c7 b6 b9 Y;go_enter Tryz.func58,Tryz.ntmps58
 go_wp2_with (first
  |(go_at_call 95;refine a7.out.mono ?_;rintro D g⟨a1,a5,a2,rfl,N,z⟩;have d2:=Xl z;clear z;have m:=(N.block _ (by omega)).trans (YN a _);have d4:=Xl m;have Z:=Xl N;clear m N)
  |(go_at_call 96;refine d2.out.mono ?_;rintro D h⟨rfl,rfl⟩))
 have f3:(Wt.find e c).isSome=J:=by rw[z];rfl
 have e7:∀H,H<a.heap.size->g.heap[H]?=a.heap[H]?:=λH h2=>by rw[Z.out.block H (by omega)];simp_all [XQ]
 obtain⟨d9,h3⟩:=Q.out.nd c b z;have n:g.heap[f c]?=C (Xn (cU c b (f c.dropLast) (l c)) 192 d9):=by grind
 obtain⟨L,U,f0,R⟩:=Q.out.kd c b z;have b7:g.heap[l c]?=C (.map L U):=by grind
 have i6:=(Q.out.lt f3).1;have f5:=Z.out.size
 have e8:a.heap.size<g.heap.size:=by have:(a.alloc (.cells nV 154)).heap.size=a.heap.size+1:=by simp
                                     omega
 have c0:=λ(h:M)(e0:h.heap[l c]?=C (.map L U))=>DL (c:=h) e0 R (c6 _ _ R) (λy d N=>b4 (c++[y]) (by
  simp_all [bX]) y (by simp)) (b:=be e c) (λy=>by
  simp[ei,bX]) (fC f2)
 have a8:=Xl c0;clear c0;obtain⟨c8,a3⟩:∃f7,be e c=f7:=by simp
 rw[a3]at a8;have d3:=Xl a3;have h6:g.cell? ⟨f c,1,F⟩=C (.string (bs b.data)):=aa n 1 A;have h8:g.cell? ⟨f c,2,F⟩=C (Xd K b.stat.made):=aa n 2 A;have h9:g.cell? ⟨f c,3,F⟩=C (Xd K b.stat.set):=aa n 3 A;have i0:g.cell? ⟨f c,4,F⟩=C (Xd K b.stat.aE):=aa n 4 A;have i1:g.cell? ⟨f c,5,F⟩=C (Xd K b.stat.ez):=aa n 5 A;have i2:g.cell? ⟨f c,6,F⟩=C (Xd K b.stat.own):=aa n 6 A;have i3:g.cell? ⟨f c,7,F⟩=C (Xd K b.stat.size):=aa n 7 A;have i4:g.cell? ⟨f c,8,F⟩=C (Xd K b.stat.kids):=aa n 8 A;have h7:g.cell? ⟨f c,11,F⟩=C (.map (C (l c))):=aa n 11 A;have a6:=Xl b7;have g1:=Xl n;have g0:=Xl R;clear e7 n f0 R b7 a3 c6 b4 Q a7 f5;generalize l c=s at*
 generalize f c=T at*
 have f6:T<g.heap.size:=by omega
 have h4:=(XN.1 a6.out).1;generalize b3:bs b.data=W at*
 have d1:=Xl b3;clear b3
 have S:∀i,Below g.heap.size g i->i.cell? ⟨T,1,F⟩=C (.string W)/\i.cell? ⟨T,2,F⟩=C (Xd K b.stat.made)/\i.cell? ⟨T,3,F⟩=C (Xd K b.stat.set)/\i.cell? ⟨T,4,F⟩=C (Xd K b.stat.aE)/\i.cell? ⟨T,5,F⟩=C (Xd K b.stat.ez)/\i.cell? ⟨T,6,F⟩=C (Xd K b.stat.own)/\i.cell? ⟨T,7,F⟩=C (Xd K b.stat.size)/\i.cell? ⟨T,8,F⟩=C (Xd K b.stat.kids)/\i.cell? ⟨T,11,F⟩=C (.map (C s)):=λi e2=>by refine⟨?_,?_,?_,?_,?_,?_,?_,?_,?_⟩<;>(rw[e2.cell (p:=⟨T,_,F⟩) f6];assumption)
 have a9:Calls TP 97 #[.func (.func 132) #[] #[pt g.heap.size 0]] (g.alloc (.cells #[.map (C s)] 188)).drew λD h=>∃a1 a5 a2,D=Xs (.slice a1 a5 a2)/\zo (.slice a1 a5 a2) c8 (g.heap.size+1) h/\Below g.heap.size g h:=by have f4:=a8.out g.drew a6.out;refine f4.mono ?_;rintro D h⟨k,rfl,b1,e1⟩;obtain⟨g4,g5,g6,rfl⟩:=b1.slice;exact⟨_,_,_,A,b1,(gQ g _).trans (e1.mono (ZN _))⟩
 have e4:Below g.heap.size g (g.alloc (.cells #[.map (C s)] 188)).drew:=by simp[alloc_drew,gQ]
 have e5:Below g.heap.size g (g.drew.alloc (.cells #[.map (C s)] 188)):=gQ g _;have d0:=Xl a9;clear a9;have i5:T≠a.heap.size:=by omega
 have d6:∀i o p q r t u v w x,Below g.heap.size g i->(uc i a.heap.size o p q r t u v w x).cell? ⟨T,1,F⟩=C (.string W)/\(uc i a.heap.size o p q r t u v w x).cell? ⟨T,2,F⟩=C (Xd K b.stat.made)/\(uc i a.heap.size o p q r t u v w x).cell? ⟨T,3,F⟩=C (Xd K b.stat.set)/\(uc i a.heap.size o p q r t u v w x).cell? ⟨T,4,F⟩=C (Xd K b.stat.aE)/\(uc i a.heap.size o p q r t u v w x).cell? ⟨T,5,F⟩=C (Xd K b.stat.ez)/\(uc i a.heap.size o p q r t u v w x).cell? ⟨T,6,F⟩=C (Xd K b.stat.own)/\(uc i a.heap.size o p q r t u v w x).cell? ⟨T,7,F⟩=C (Xd K b.stat.size)/\(uc i a.heap.size o p q r t u v w x).cell? ⟨T,8,F⟩=C (Xd K b.stat.kids)/\(uc i a.heap.size o p q r t u v w x).cell? ⟨T,11,F⟩=C (.map (C s)):=by simp_all [Kl]
 have e3:Below g.heap.size g g.drew:=⟨A,A,A,XS _,λ_ _=>rfl⟩
 go_region_held3 (λi=>i.cell? ⟨T,1,F⟩=C (.string W)/\i.cell? ⟨T,2,F⟩=C (Xd K b.stat.made)/\i.cell? ⟨T,3,F⟩=C (Xd K b.stat.set)/\i.cell? ⟨T,4,F⟩=C (Xd K b.stat.aE)/\i.cell? ⟨T,5,F⟩=C (Xd K b.stat.ez)/\i.cell? ⟨T,6,F⟩=C (Xd K b.stat.own)/\i.cell? ⟨T,7,F⟩=C (Xd K b.stat.size)/\i.cell? ⟨T,8,F⟩=C (Xd K b.stat.kids)/\i.cell? ⟨T,11,F⟩=C (.map (C s)))
  (first|with_reducible exact S _ e3|with_reducible exact S _ e4|with_reducible exact S _ e5|with_reducible exact S _ X|with_reducible exact d6 _ _ _ _ _ _ _ _ _ _ X)
  (first
    |(go_at_call 98;refine(MZ _).mono ?_;rintro D g3⟨rfl,e6⟩;subst e6)
    |(go_at_call 97;refine d0.out.mono ?_;rintro D g2⟨d7,f8,d8,rfl,f1,X⟩;have m:=(X.block _ e8).trans d4.out;have g7:=aa m 0 A;have c1:=aa m 1 A;have c2:=aa m 2 A;have c3:=aa m 3 A;have c4:=aa m 4 A;have c5:=aa m 5 A;have g8:=aa m 6 A;have g9:=aa m 7 A;have h0:=aa m 8 A;have h1:=frozenAt m;have d5:=Xl m;clear m))
 go_wp2
 have Y:=AF (b:=.string W) (g:=Xd K b.stat.made) (i:=Xd K b.stat.set) (o:=Xd K b.stat.aE) (p:=Xd K b.stat.ez) (q:=Xd K b.stat.own) (r:=Xd K b.stat.size) (t:=Xd K b.stat.kids) (u:=.slice d7 f8 d8) d5.out;refine Zm (pO A rfl (Ae Y A)) A ?_;rw[d3.out];have b2:=(ck a _).trans (Z.out.mono (ZN _));have b5:=b2.size;have e9:=E.le_succ_of_le b5;refine⟨_,A,⟨A,_,?_,Nu f1 e9 λd N=>?_⟩,b2.trans ((X.mono b5).trans (pL (XS _)))⟩
 .show _=Value.string (bs b.data)::_;rw[d1.out];rfl
 have h5:d≠a.heap.size:=by omega
 simp_all [ai]
end
variable{a:Tree}{b:M}
theorem Am{a:B}(b:cz a=J):a.length<=12:=by simp_all [cz]
theorem GF(d:WF a){b:Path}(e:(Wt.find a b).isSome=J):∀c∈b,c.length<=maxLen:=λc g=>by
 obtain⟨h,f⟩:=XR.1 e;have:=Am ((d.names b h f).2 c g)
 grind [maxLen]
theorem sC{i:E}{g:Path->E}(h:Kids S i (bX a g c))(e:WF a):S.size=(be a c).length:=by
 have l:∀d f,bX a g c d=C f->d.length<=maxLen:=λd f b=>by
  unfold bX at b;split at b
  .rename_i k;exact GF e k d (by simp)
  cases b
 have b:=(h.strKeys l (names:=be a c) (λd=>by rw[ei];unfold bX;split<;>simp_all) (fC e.ord)).length_eq;rw[b];show _=(Xg.map _ _).length;simp[length_sorted]
theorem ld(a:Tree)(c:Path):(be a c).length<=a.length:=Xg.length_filterMap_le _ _
theorem Hu{n s:Path->E}(f:mg a n s b)(g:b.cell? ⟨O,0,F⟩=C (pt (n []) 0))(d:WF a)(e:XB){r:Xj}(i:b.cell? ⟨1,0,F⟩=C (Xd K r))(m:e.size<2^31):
 Calls TP 58 #[pt O 0,.string e] b (mC (od (Wt.look a e.data.toList)) b):=by
 obtain⟨v,q,_⟩:=d.root;have l:(Wt.find a []).isSome=J:=by rw[q];rfl
 unfold Wt.look;cases k:Wt.split e.data.toList with
 |none=>simp_all [PX]
 |some c=>
  simp only;cases h:Wt.find a c with
  |none=>exact FC f g l d.up e i m k h
  |some u=>
   exact JO f g l d.up e i m k h d.ord (λw p=>GF d p) (λS t o=>by
    rw[sC o d];have:=ld a c;have:=d.len
    omega)
theorem SI{d l:Path->E}(e:bw a d l b)(g:b.cell? ⟨O,0,F⟩=C (pt (d []) 0))(f:WF a)(c:XB){k:Xj}(h:b.cell? ⟨1,0,F⟩=C (Xd K k))(i:c.size<2^31):
 Calls TP 58 #[pt O 0,.string c] b (mC (od (Wt.look a c.data.toList)) b):=
 Hu e.VV g f c h i
variable{c:Tree}{a:M}{d:M}
def Uo(b:Path)(a:Nd):Xk Xe:=PM (bs (vZ b)) (bs a.data) a.stat.made a.stat.set a.stat.aE a.stat.ez a.stat.own a.stat.size a.stat.kids a.next
theorem NF(a:Path)(y:B):vZ (a++[y])=y:=by simp[vZ]
theorem Jq(w:Wt.Ord c){t:Path}{y:B}{s:Nd}(H:Wt.find c t=C s)(l:Path):Wt.find (Wt.drop c (t++[y])) l=if l=t++[y]then F else if l=t then C (vw s)else Wt.find c l:=by simp_all [Wt.drop,vC,fe,cD]
structure lA(O b T s:E)(k i z:Xe)(f:Xj)(e:Xg Xe)(m n:XB)(o p q g r u h v:Xj)(x:B->Xp E)(y:B)(a d:M):Prop where
 size:a.heap.size<=d.heap.size
 kept:∀t,t<a.heap.size->t≠O->t≠b->t≠s->i.ownBlock≠C t->d.heap[t]?=a.heap[t]?
 tree:∃w L N,d.heap[O]?=C (Xn #[k,Xd K (f-1),w] 195 (0,0))/\cr NB d 1 1 w (e.length+2) (e++[L,N])/\kU a i w/\uR O d L (.head b (PM m n o p q g r u h v))/\uR O d N (.drop b T)
 nd:d.heap[b]?=C (Xn (OM m n o p q (g+1) r u (h-1) v z (.map (C s))) 192 (0,0))
 kd:∃S H,d.heap[s]?=C (.map S H)/\Kids S H λQ=>if Q=y then F else x Q
section
variable{b:E}{k i z:Xe}{f:Xj}{e:Xg Xe}{m n:XB}{o p q g r u h v:Xj}{x:B->Xp E}{y:B}{D:M}
theorem lA.later(t:lA O b T s k i z f e m n o p q g r u h v x y a d)(a2:d.heap.size<=D.heap.size)(H:∀l,l<d.heap.size->D.heap[l]?=d.heap[l]?):lA O b T s k i z f e m n o p q g r u h v x y a D where
 size:=XZ t.size a2
 kept:=λl N w L Z a0=>by rw[H l (XY N t.size)];exact t.kept l N w L Z a0
 tree:=by obtain⟨a6,X,Y,a8,U,a3,a4,a5⟩:=t.tree;have Q:=λ(l:E)(W:Xk Xe)(c:Xq)(w:d.heap[l]?=C (Obj.cells W c (0,0)))(_:c=190\/c=187\/c=94)=>H l (XN.1 w).1;exact⟨a6,X,Y,by grind,U.stay λR a1=>H R (U.lt R a1),a3,a4.stay Q,a5.stay Q⟩
 nd:=by rw[H _ (XN.1 t.nd).1];exact t.nd
 kd:=by
  obtain⟨S,a7,w,L⟩:=t.kd
  grind
def OS(O b T s:E)(k i z:Xe)(f:Xj)(e:Xg Xe)(m n:XB)(o p q g r u h v:Xj)(x:B->Xp E)(y:B)(l t:XB)(a:M)(w:Ending)(d:M):Prop:=
 lA O b T s k i z f e m n o p q g r u h v x y a d/\∃c,w=Xs (Xm (C ⟨c,0,F⟩) 2 2)/\a.heap.size<=c/\d.heap[c]?=C (Xn #[Xd K 2,.string l,Xd K 4,.string t] 269 (0,0))
theorem My{f3 f4:XB}(d8:a.heap[O]?=C (Xn #[k,Xd K f,i] 195 (0,0)))(d6:cr NB a 1 1 i e.length e)(o6:e.length<2^19)
 (d3:a.heap[b]?=C (Xn (OM m n o p q g r u h v z (.map (C s))) 192 (0,0)))
 {c7:E}(g5:a.heap[s]?=C (.map S c7))(h9:Kids S c7 x)(j6:x y=C T){e3:Xk Xe}(d5:a.heap[T]?=C (Xn e3 192 (0,0)))(i4:e3[0]?=C (.string (bs y)))(i5:e3[10]?=C (pt b 0))
 (o4:0<=g/\g<2^62)(o5:0<=h/\h<2^62)(o9:0<=f/\f<2^62)(p2:T≠b)
 (i6:∀t,t.heap.size=a.heap.size+3->(∀l,l<a.heap.size->t.heap[l]?=a.heap[l]?)->Calls TP 156 #[pt T 0] t λw d=>w=Xs (.string f3)/\Below t.heap.size t d)
 (i7:∀t,lA O b T s k i z f e m n o p q g r u h v x y a t->Calls TP 156 #[pt b 0] t λw d=>w=Xs (.string f4)/\Below t.heap.size t d):
 Calls TP 153 #[pt O 0,pt T 0] a (OS O b T s k i z f e m n o p q g r u h v x y f3 f4 a):=by
 have m8:=(XN.1 d8).1;have j0:=(XN.1 d3).1;have n0:=(XN.1 d5).1;have m9:=(XN.1 g5).1;have c8:∀e0 n1 n2,(((a.alloc e0).alloc n1).alloc n2).heap.size=a.heap.size+3:=by simp
 have h5:=Xl (i6 (((a.alloc (.cells #[pt O 0] 94)).alloc (.cells #[pt T 0] 187)).alloc (.cells #[pt b 0] 187)) (c8 _ _ _) λl a1=>qV _ _ _ _ a1);have h8:=Xl λ(t:M)(a6:Below (a.heap.size+3) (((a.alloc (.cells #[pt O 0] 94)).alloc (.cells #[pt T 0] 187)).alloc (.cells #[pt b 0] 187)) t)=>AU (w:=t) (O:=O) (g:=b) (z:=k) (D:=Xd K f) (b:=e) (by rw[a6.block _ (by omega),qV _ _ _ _ m8];exact d8) (d6.stay λH L=>by have:=d6.lt H L;rw[a6.block _ (by omega),qV _ _ _ _ this]) (by omega) (by rw[a6.block _ (by omega),qV _ _ _ _ j0];exact d3);have l1:=Xl i7;have n7:=aa d5 10 i5;have f2:=Xl d8;have c0:=Xl d6;have e7:=Xl d3;have e8:=Xl d5;have e5:=Xl g5;have k7:=Xl h9;have l3:=Xl j6;have HC:=Xl i4;clear d8 d6 d3 d5 g5 h9 j6 i4 i5 i6 i7;rw[c8]at h5
 have i1:∀t,Below (a.heap.size+3) (((a.alloc (.cells #[pt O 0] 94)).alloc (.cells #[pt T 0] 187)).alloc (.cells #[pt b 0] 187)) t->t.heap[a.heap.size]?=C (Xn #[pt O 0] 94 (0,0))/\t.heap[a.heap.size+1]?=C (Xn #[pt T 0] 187 (0,0))/\t.heap[a.heap.size+1+1]?=C (Xn #[pt b 0] 187 (0,0)):=λt a6=>by
  refine⟨?_,?_,?_⟩
  .rw[a6.block _ (by omega),XQ _ _ _ (by simp;omega)];exact Nz _ _ _
  .rw[a6.block _ (by omega),XQ _ _ _ (by simp)];exact vY _ _ _
  rw[a6.block _ (by omega)];have:=vY (a.alloc (.cells #[pt O 0] 94)) (.cells #[pt T 0] 187) (.cells #[pt b 0] 187);simpa using this
 have k6:=Xl i1;clear i1;go_enter Tryz.func153,Tryz.ntmps153
 go_wp2_with (first
  |(go_at_call 156;refine h5.out.mono ?_;rintro w g9⟨rfl,b2⟩;have b5:=Xl b2;clear b2;obtain⟨f5,f6,f7⟩:=k6.out _ b5.out;have l9:=aa f5 0 A;have m0:=aa f6 0 A;have m1:=aa f7 0 A;have k3:=Xl f5;have k4:=Xl f6;have k5:=Xl f7;clear f5 f6 f7)
  |(go_at_call 157;refine(h8.out _ b5.out).mono ?_;rintro w t⟨rfl,p1,i9,a2,c9,j9,j5,j3,a3⟩))
 have p0:a.heap.size+3<=g9.heap.size:=by have:=b5.out.size;rw[c8]at this;exact this
 have d4:=c0.out.lt;have a9:∀l b1,l≠O->i.ownBlock≠C l->g9.heap[l]?=C b1->t.heap[l]?=C b1:=by grind
 have b7:∀l b1,l<a.heap.size->a.heap[l]?=C b1->g9.heap[l]?=C b1:=λl b1 a1 Q=>by rw[b5.out.block _ (by omega),qV _ _ _ _ a1,Q]
 have b2:=a9 _ _ (by omega) (λw=>by have:=d4 _ w;omega) k3.out;have g0:=a9 _ _ (by omega) (λw=>by have:=d4 _ w;omega) k4.out;have g2:=a9 _ _ (by omega) (λw=>by have:=d4 _ w;omega) k5.out
 have g6:=a9 _ _ (λw=>by have:=e7.out;rw[w,f2.out]at this;cases this) (λw=>by
  obtain⟨c6,a4,_⟩:=c0.out.blk _ w
  rw[e7.out]at a4;cases a4) (b7 _ _ j0 e7.out)
 have j4:=a9 _ _ (λw=>by have:=e8.out;rw[w,f2.out]at this;cases this) (λw=>by
  obtain⟨c6,a4,_⟩:=c0.out.blk _ w
  rw[e8.out]at a4;cases a4) (b7 _ _ n0 e8.out)
 have d1:=a9 _ _ (λw=>by have:=e5.out;rw[w,f2.out]at this;cases this) (λw=>by
  obtain⟨c6,a4,_⟩:=c0.out.blk _ w
  rw[e5.out]at a4;cases a4) (b7 _ _ m9 e5.out)
 have n9:=aa b2 0 A;have o0:=aa g0 0 A;have o1:=aa g2 0 A;have o2:=aa g6 11 A;have o3:=aa j4 0 HC.out;obtain⟨i3,m6,i0⟩:=Qv (c:=t.drew) d1 k7.out l3.out 0;obtain⟨X,b8⟩:∃X,ud t.drew s (.map i3 c7)=X:=by simp
 rw[b8]at m6;have b6:s≠O:=by grind
 have d2:s≠b:=by grind
 have d9:O≠b:=by grind
 have a7:∀l,l≠s->X.heap[l]?=t.heap[l]?:=λl a1=>by rw[<-b8];exact wQ a1
 have j1:X.heap[s]?=C (.map i3 c7):=by rw[<-b8];exact Ir (XN.1 d1).1
 have j7:X.heap.size=t.heap.size:=by rw[<-b8];simp[ud]
 have b3:=(a7 b (YX d2)).trans g6;have d7:=(a7 O (YX b6)).trans j9;have f9:=(a7 a.heap.size (by omega)).trans b2;have g1:=(a7 (a.heap.size+1) (by omega)).trans g0;have g3:=(a7 (a.heap.size+1+1) (by omega)).trans g2;have p5:=aa f9 0 A;have p6:=aa g1 0 A;have p7:=aa g3 0 A;have p8:=aa b3 5 A;have p9:=aa b3 8 A;have q0:=aa d7 1 A;have q2:=frozenAt b3 5;have q3:=frozenAt b3 8;have q4:=frozenAt d7 1;have h1:=Xl f9;have h2:=Xl g1;have e4:=Xl g3;have f0:=Xl b3;have f1:=Xl d7;have l0:=Xl j1;have h3:=Xl d1;have k9:=Xl i0;have k8:=Xl i9;have R:=Xl a7;have e9:=Xl j5;have l6:=Xl a3;have h4:=Xl j3;have l4:=Xl j7;have n3:=Xl b7;clear b2 g0 g2 g6 j4 d1 i0 i9 j5 j9 a3 j3 a9 d4 c8 h8 f9 g1 g3 b3 d7 j1 a7 b8 j7 b7 l9 m0 m1
 have q1:(((X.setCell ⟨b,5,F⟩ (Xd K (g+1))).setCell ⟨b,8,F⟩ (Xd K (h-1))).setCell ⟨O,1,F⟩ (Xd K (f-1))).heap[O]?=C (Xn #[k,Xd K (f-1),a2] 195 (0,0)):=by have:=aA (n:=1) (i:=Xd K (f-1)) (a:=(X.setCell ⟨b,5,F⟩ (Xd K (g+1))).setCell ⟨b,8,F⟩ (Xd K (h-1))) (k:=O) (by rw[ai d9,ai d9];exact f1.out);simpa using this
 have k0:(((X.setCell ⟨b,5,F⟩ (Xd K (g+1))).setCell ⟨b,8,F⟩ (Xd K (h-1))).setCell ⟨O,1,F⟩ (Xd K (f-1))).heap[b]?=C (Xn (OM m n o p q (g+1) r u (h-1) v z (.map (C s))) 192 (0,0)):=by rw[ai (YX d9)];have:=aA (n:=8) (i:=Xd K (h-1)) (aA (n:=5) (i:=Xd K (g+1)) f0.out);simpa using this
 have g8:∀l,l≠O->l≠b->(((X.setCell ⟨b,5,F⟩ (Xd K (g+1))).setCell ⟨b,8,F⟩ (Xd K (h-1))).setCell ⟨O,1,F⟩ (Xd K (f-1))).heap[l]?=X.heap[l]?:=λl N Z=>by rw[ai N,ai Z,ai Z]
 have k1:(((X.setCell ⟨b,5,F⟩ (Xd K (g+1))).setCell ⟨b,8,F⟩ (Xd K (h-1))).setCell ⟨O,1,F⟩ (Xd K (f-1))).heap.size=t.heap.size:=by rw[aS,aS,aS,l4.out]
 have a3:∀H,a2.ownBlock=C H->H≠O/\H≠b/\H≠s/\H≠a.heap.size/\H≠a.heap.size+1/\H≠a.heap.size+1+1:=λH L=>by
  obtain⟨c6,W,_⟩:=e9.out.blk H L;refine⟨?_,?_,?_,?_,?_,?_⟩<;>rintro rfl
  .rw[<-R.out _ (YX b6),f1.out]at W;cases W
  .rw[<-R.out _ (YX d2),f0.out]at W;cases W
  .rw[h3.out]at W;cases W
  .rw[<-R.out _ (by omega),h1.out]at W;cases W
  .rw[<-R.out _ (by omega),h2.out]at W;cases W
  rw[<-R.out _ (by omega),e4.out]at W;cases W
 have l5:=Xl (GA (k:=e++[c9]) (.func 184) #[] #[pt (a.heap.size+1) 0,pt (a.heap.size+1+1) 0,pt a.heap.size 0] q1 (by
  rw[Yw]
  exact e9.out.stay λH L=>by rw[g8 _ (a3 H L).1 (a3 H L).2.1,R.out _ (a3 H L).2.2.1]) (by simp;omega))
 have l2:=Xl k0;have h6:=Xl g8;have h7:=Xl k1;have a5:=a3;have b0:∀l,(∀H,a2.ownBlock=C H->H≠l)->a2.ownBlock≠C l:=λl Q w=>Q l w A
 have Ut:∀Y a0,t.heap.size<=Y.heap.size->(∀l,l<t.heap.size->l≠O->a2.ownBlock≠C l->Y.heap[l]?=(((X.setCell ⟨b,5,F⟩ (Xd K (g+1))).setCell ⟨b,8,F⟩ (Xd K (h-1))).setCell ⟨O,1,F⟩ (Xd K (f-1))).heap[l]?)->Y.heap[O]?=C (Xn #[k,Xd K (f-1),a0] 195 (0,0))->
  cr NB Y 1 1 a0 ((e++[c9]).length+1) (e++[c9]++[.func (.func 184) #[] #[pt (a.heap.size+1) 0,pt (a.heap.size+1+1) 0,pt a.heap.size 0]])->(∀U,a0.ownBlock=C U->a2.ownBlock=C U\/t.heap.size<=U)->
  lA O b T s k i z f e m n o p q g r u h v x y a Y/\Y.heap[a.heap.size+1+1]?=C (Xn #[pt b 0] 187 (0,0)):=λY a0 g7 a8 e1 b9 e2=>by
  have b4:∀l,l≠O->l≠b->l≠s->a2.ownBlock≠C l->l<t.heap.size->Y.heap[l]?=t.heap[l]?:=λl N Z f8 d0 m2=>by rw[a8 l m2 N d0,h6.out l N Z,R.out l f8]
  refine⟨?_,by rw[b4 _ (by omega) (by omega) (by omega) (b0 _ λH L=>(a5 H L).2.2.2.2.2) (by omega),<-R.out _ (by omega)];exact e4.out⟩;refine⟨by omega,λl a1 N Z f8 d0=>?_,⟨a0,c9,.func (.func 184) #[] #[pt (a.heap.size+1) 0,pt (a.heap.size+1+1) 0,pt a.heap.size 0],e1,?_,λU g4=>?_,?_,?_⟩,?_,?_⟩
  .rw[b4 l N Z f8 (λw=>?_) (by omega),k8.out l (by omega) N d0,b5.out.block _ (by omega),qV _ _ _ _ a1];rcases h4.out l w with Q|Q
   .exact d0 Q
   omega
  .rw[Yw,ZJ]at b9;exact b9
  .rcases e2 U g4 with Q|Q
   .rcases h4.out U Q with Q|Q
    .exact Xh Q
    exact Xi (by omega)
   exact Xi (by omega)
  .refine l6.out.stay λl c6 c N Z=>?_;have m7:=(XN.1 N).1;refine b4 l ?_ ?_ ?_ (λw=>?_) m7
   .rintro rfl;rw[<-R.out _ (YX b6),f1.out]at N;cases N;revert Z;decide
   .rintro rfl;rw[<-R.out _ (YX d2),f0.out]at N;cases N;revert Z;decide
   .rintro rfl;rw[h3.out]at N;cases N
   obtain⟨n6,m5,_⟩:=e9.out.blk l w;rw[m5]at N;cases N;revert Z;decide
  .exact⟨_,_,_,A,by
    rw[b4 _ (by omega) (by omega) (by omega) (b0 _ λH L=>(a5 H L).2.2.2.2.1) (by omega),<-R.out _ (by omega)];exact h2.out,by
    rw[b4 _ (by omega) (by omega) (by omega) (b0 _ λH L=>(a5 H L).2.2.2.2.2) (by omega),<-R.out _ (by omega)];exact e4.out,by
    rw[b4 _ (by omega) (by omega) (by omega) (b0 _ λH L=>(a5 H L).2.2.2.1) (by omega),<-R.out _ (by omega)];exact h1.out⟩
  .rw[a8 b (by omega) (YX d9) (b0 _ λH L=>(a5 H L).2.1)];exact l2.out
  refine⟨_,_,?_,k9.out⟩;rw[a8 s (by omega) b6 (b0 _ λH L=>(a5 H L).2.2.1),h6.out s b6 d2];exact l0.out
 have l7:=Xl Ut;have m4:∀Y:M,t.heap.size<=Y.heap.size->True:=by simp
 clear q1 k0 g8 k1 a3 Ut a5 b0 m4;generalize j8:bs y=p4 at*
 have n4:=Xl j8;clear j8
 go_still_tail 9,(by kernel_rfl)
 change wpList _ _ _ _ _ t.drew
 have l8:=Xl λ(a0:Xe)(Q:kU _ a2 a0)=>(λU g4=>by have:=Q U g4;rw[h7.out]at this;exact this:∀U,a0.ownBlock=C U->a2.ownBlock=C U\/t.heap.size<=U)
 go_wp2_with (first
  |(go_at_call 183;refine l5.out.mono ?_;rintro w Y⟨rfl,g7,a8,a0,e1,b9,e2⟩;(rw[h7.out]at g7 a8);obtain⟨j2,i2⟩:=l7.out Y a0 g7 a8 e1 b9 (l8.out _ e2);have n8:=aa i2 0 A;have e6:=Xl j2;clear j2 i2 a8 e1 b9 e2)
  |(go_at_call 156;refine(l1.out _ e6.out).mono ?_;rintro w h0⟨rfl,i8⟩))
 have o8:=i8.size;have o7:=e6.out.size;have a1:(h0.alloc (.cells #[Xd K 2,.string f3,Xd K 4,.string f4] 269)).heap.size=h0.heap.size+1:=by simp
 go_ret;exact⟨e6.out.later (by rw[a1];omega) λl m3=>by rw[XQ _ _ _ (by omega),i8.block l m3],h0.heap.size,A,by omega,YN _ _⟩
end
structure uF(c:Tree)(t H:Path->E)(O:E)(N:Xg Un)(l:Path)(y:B)(s:Nd)(a:M)(L:Ending)(d:M):Prop where
 tree:pW (Wt.drop c (l++[y])) t H O (N++[.head (t l) (Uo l s),.drop (t l) (t (l++[y]))]) d
 op:ye O c t H (Wt.drop c (l++[y])) t H a d
 lz:∃w,L=Xs (Xm (C ⟨w,0,F⟩) 2 2)/\a.heap.size<=w/\d.heap[w]?=C (Xn #[Xd K 2,.string (bs (Wt.join (l++[y]))),Xd K 4,.string (bs (Wt.join l))] 269 (0,0))
theorem eB(g:WF c){b:Path}{f:Nd}(h:Wt.find c b=C f):b.length<2^30/\([47].intercalate b).length<2^31:=by
 have p:=(g.names b f h).1;have q:=λd e=>Am ((g.names b f h).2 d e);refine⟨by omega,?_⟩
 have:∀(a:Xg B),(∀d∈a,d.length<=12)->([47].intercalate a).length<=a.length*13:=λa i=>by
  induction a with
  |nil=>simp
  |cons l k m=>
   cases k with
   |nil=>simp[Xg.intercalate];grind
   |cons o k=>
    have n:=m (λd e=>i d (Ym _ e));have:=i l (by simp);simp[Xg.intercalate]at n⊢
    omega
 grind
theorem Sf{g r:Path->E}{R:Xg Un}(U:pW c g r O R a)(k:WF c){f:Path}{y:B}{x s:Nd}(v:Wt.find c (f++[y])=C x)(t:Wt.find c f=C s)(b0:x.stat.kids=0)(e9:R.length<2^18)(d9:0<=s.stat.ez/\s.stat.ez<2^61):
 Calls TP 153 #[pt O 0,pt (g (f++[y])) 0] a (uF c g r O R f y s a):=by
 obtain⟨i,e,N,L,X⟩:=U.top;have e8:=X.len;have Q:(Wt.find c (f++[y])).isSome=J:=by rw[v];rfl
 have w:(Wt.find c f).isSome=J:=by rw[t];rfl
 have p:=U.lg;have b2:=p.nd _ _ t;have b3:=p.nd _ _ v;obtain⟨S,d5,b1,a0⟩:=p.kd _ _ t;have b8:bX c g f y=C (g (f++[y])):=by simp_all [bX]
 have e2:=(XN.1 N).1;have e5:=(p.lt w).1;have e4:=(p.lt Q).1;have e3:=(p.lt w).2;have e0:0<=s.stat.kids/\s.stat.kids<2^61:=by rw[k.kids f s t];have:=ld c f;have:=k.len;omega
 have e7:(c.length:Xj)<2^61:=by have:=k.len;omega
 have a3:(cU (f++[y]) x (g (f++[y]).dropLast) (r (f++[y])))[10]?=C (pt (g f) 0):=by show C (Xe.pointer (if f++[y]=[]then F else C ⟨g (f++[y]).dropLast,0,F⟩))=_;simp
 have a2:(cU (f++[y]) x (g (f++[y]).dropLast) (r (f++[y])))[0]?=C (.string (bs y)):=by show C (Value.string (bs (vZ (f++[y]))))=_;rw[NF]
 have c6:g (f++[y])≠g f:=λh=>uT f y (p.inj _ _ w Q h.symm);have b9:=Jq k.ord t (y:=y);have a6:=k.gone (by simp) v b0;have c0:Wt.find (Wt.drop c (f++[y])) f=C (vw s):=by simp_all
 have b7:∀o,(Wt.find c o).isSome=J->i.ownBlock≠C (g o)/\i.ownBlock≠C (r o)/\g o≠O/\r o≠O:=λo D=>by
  obtain⟨f6,Y⟩:=XR.1 D;obtain⟨d7,d6,e6,_⟩:=p.kd _ _ Y;have f0:=p.nd _ _ Y;refine⟨λh=>?_,λh=>?_,λh=>?_,λh=>?_⟩
  .obtain⟨W,o,_⟩:=L.blk _ h;simp_all
  .obtain⟨W,o,_⟩:=L.blk _ h;simp_all
  .simp_all
  simp_all
 have lg:∀T,lA O (g f) (g (f++[y])) (r f) (pt (g []) 0) i (.pointer (if f=[]then F else C ⟨g f.dropLast,0,F⟩)) c.length e (bs (vZ f)) (bs s.data) s.stat.made s.stat.set s.stat.aE s.stat.ez s.stat.own s.stat.size s.stat.kids s.next (bX c g f) y a T->bw (Wt.drop c (f++[y])) g r T:=λT n=>
  p.del t b9 n.nd n.kd λl z m u⟨o,D,b6⟩=>by
   have H:=b7 o D;rcases b6 with rfl|rfl
   .exact n.kept _ z H.2.2.1 m u H.1
   exact n.kept _ z H.2.2.2 m u H.2.1
 have hd:=My (f3:=bs (Wt.join (f++[y]))) (f4:=bs (Wt.join f)) N L (by omega) b2 b1 a0 b8 b3 a2 a3 (by omega) (by omega) (by omega) c6
  (λZ _ b4=>sH (p.old b4) k.up Q (eB k v).1 (eB k v).2)
  (λZ n=>sH (lg Z n) a6.up (by rw[c0];rfl) (eB k t).1 (eB k t).2)
 refine hd.mono ?_;rintro h d⟨n,a1,a9,a7,a8⟩;obtain⟨d1,a4,a5,c7,f1,c8,c9,d0⟩:=n.tree
 have e1:((Wt.drop c (f++[y])).length:Xj)=c.length-1:=by
  have m:=pz (fe k.ord (b:=f) (d:=vw s)) (b:=f++[y]) (by rw[cD k.ord,Xx (uT f y).symm,v];rfl);rw[dc k.ord w]at m
  grind [Wt.drop]
 have b5:∀l,pJ (Wt.drop c (f++[y])) g r O l->pJ c g r O l:=λl q=>by
  rcases q with rfl|⟨o,D,q⟩
  .exact Xh A
  refine Xi ⟨o,?_,q⟩
  grind
 refine⟨⟨lg d n,d1,e++[a4,a5],by simp_all,by simp_all,?_⟩,⟨n.size,λl z m u=>?_,λl q=>Xh (b5 l q),λl q=>?_⟩,a1,a9,a7,a8⟩
 .refine gu.app (gu.stay (λl W f4 m u=>?_) X) ⟨c9,d0,trivial⟩;refine n.kept l (XN.1 m).1 ?_ ?_ ?_ ?_
  .grind
  .grind
  .grind
  intro h;obtain⟨d4,d8,_⟩:=L.blk l h
  grind
 .exact n.kept l z (λh=>m (Xh h)) (λh=>m (Xi ⟨f,w,Xh h⟩)) (λh=>m (Xi ⟨f,w,Xi h⟩)) (λh=>u ⟨_,_,i,N,h⟩)
 obtain⟨f2,f3,f5,m,u⟩:=q;rw[c7]at m;cases m;rcases c8 l u with q|q
 .exact Xh ⟨_,_,i,N,q⟩
 omega
variable{n:M}
abbrev gM(i:Xj)(e f:XB)(aE d:Xj):Xk Xe:=#[Xd K i,.string e,.string f,Xd K aE,Xd K d]
def fu(a:M)(O:E)(i:Xk Xe)(e h:XB)(b c:E)(o:Xe):Prop:=
 Calls TP 95 #[.string e] (a.alloc (.cells i 28)) λg d=>∃f,g=Xs (.tuple #[Xm (C ⟨f,0,F⟩) b b,.bool J])/\Below (a.heap.size+1) (a.alloc (.cells i 28)) d/\d.cell? ⟨f,c,F⟩=C (.string h)/\
  Calls TP 96 #[pt O 0,Xm (C ⟨f,0,F⟩) c b] d λg n=>g=Xs o/\d=n
def rN(b:Xj)(a:M)(c:Ending)(n:M):Prop:=c=Xs (.tuple #[XA F,Xm F 0 0,.iface 32 (Xd K b)])/\Below a.heap.size a n
structure rM(a:M)(O g:E)(ow nx sz:Xj)(s:E):Prop where
 ow:a.cell? ⟨g,6,F⟩=C (Xd K ow)
 nx:a.cell? ⟨g,9,F⟩=C (Xd K nx)
 mp:a.cell? ⟨g,11,F⟩=C (.map (C s))
 sz:a.cell? ⟨O,1,F⟩=C (Xd K sz)
theorem rM.old{g:E}{k l m:Xj}(p:rM a O g k l m s)(u:O<a.heap.size)(t:g<a.heap.size)(r:∀q,q<a.heap.size->n.heap[q]?=a.heap[q]?):rM n O g k l m s:=by
 refine⟨?_,?_,?_,?_⟩<;>simp only[M.cell?,r _ u,r _ t]
 .exact p.ow
 .exact p.nx
 .exact p.mp
 exact p.sz
theorem bI{c:M}{e:Obj}(d:Below (a.heap.size+1) (a.alloc e) c):∀b,b<a.heap.size->c.heap[b]?=a.heap[b]?:=λb f=>by rw[d.block b (by omega)];simp_all [XQ]
theorem bd{c:M}{b:Obj}(d:Below (a.heap.size+1) (a.alloc b) c):Below a.heap.size a c:=(ck a b).trans (d.mono (ZN _))
theorem cS{c:M}{b:Xk Xe}(d:Below (a.heap.size+1) (a.alloc (.cells b 28)) c):c.heap[a.heap.size]?=C (Xn b 28 (0,0)):=(d.block _ (by omega)).trans (YN a _)
section
variable{g b c:E}{i aE d ak aL k l m:Xj}{e f h Y:XB}{o:Xe}
theorem Sc(v:((b:Xj)==0)=Xf)(w:wrap64 ((b:Xj)-1)=c)(u:(c:Xj)<b)(p:fu a O (gM i e f aE d) e h b c o)(t:8<(h.size:Xj)):
 Calls TP 155 #[pt O 0,.agg (gM i e f aE d),Xd K ak,Xd K aL] a (rN 4 a):=by
 have n:=Xl p;go_enter Tryz.func155,Tryz.ntmps155
 go_wp2_with (first
  |(go_at_call 95;refine n.out.mono ?_;rintro s H⟨r,rfl,k,x,l⟩;have g:=cS k;have y:=aa g 1 A;have z:=aa g 2 A;have D:=aa g 4 A;have m:=Xl k;have q:=Xl l;clear k l g))
 go_ret3;exact⟨A,bd m.out⟩
theorem Pp(w:((b:Xj)==0)=Xf)(x:wrap64 ((b:Xj)-1)=c)(v:(c:Xj)<b)(p:fu a O (gM i e f aE d) e h b c o)(u:¬8<(h.size:Xj))(t:16<(f.size:Xj)):
 Calls TP 155 #[pt O 0,.agg (gM i e f aE d),Xd K ak,Xd K aL] a (rN 5 a):=by
 have n:=Xl p;go_enter Tryz.func155,Tryz.ntmps155
 go_wp2_with (first
  |(go_at_call 95;refine n.out.mono ?_;rintro s L⟨r,rfl,k,y,l⟩;have g:=cS k;have z:=aa g 1 A;have D:=aa g 2 A;have H:=aa g 4 A;have m:=Xl k;have q:=Xl l;clear k l g))
 go_ret3;exact⟨A,bd m.out⟩
theorem Mn(x:((b:Xj)==0)=Xf)(y:wrap64 ((b:Xj)-1)=c)(w:(c:Xj)<b)(p:fu a O (gM i e f aE d) e h b c o)(v:¬8<(h.size:Xj))(t:¬16<(f.size:Xj))(u:(bits .andNot K d 3 !=0)=J):
 Calls TP 155 #[pt O 0,.agg (gM i e f aE d),Xd K ak,Xd K aL] a (rN 6 a):=by
 have n:=Xl p;go_enter Tryz.func155,Tryz.ntmps155
 go_wp2_with (first
  |(go_at_call 95;refine n.out.mono ?_;rintro s N⟨r,rfl,k,z,l⟩;have g:=cS k;have D:=aa g 1 A;have H:=aa g 2 A;have L:=aa g 4 A;have m:=Xl k;have q:=Xl l;clear k l g))
 go_ret3;exact⟨A,bd m.out⟩
theorem Pq(w:((b:Xj)==0)=Xf)(x:wrap64 ((b:Xj)-1)=c)(v:(c:Xj)<b)(q:fu a O (gM i e f aE d) e h b c (XA F))(u:¬8<(h.size:Xj))(s:¬16<(f.size:Xj))(t:(bits .andNot K d 3 !=0)=Xf):
 Calls TP 155 #[pt O 0,.agg (gM i e f aE d),Xd K ak,Xd K aL] a (rN 7 a):=by
 have o:=Xl q;go_enter Tryz.func155,Tryz.ntmps155
 go_wp2_with (first
  |(go_at_call 95;refine o.out.mono ?_;rintro p L⟨r,rfl,k,y,l⟩;have g:=cS k;have z:=aa g 1 A;have D:=aa g 2 A;have H:=aa g 4 A;have m:=Xl k;have n:=Xl l;clear k l g)
  |(go_at_call 96;refine n.out.mono ?_;rintro p N⟨rfl,rfl⟩))
 go_ret3;exact⟨A,bd m.out⟩
theorem Sd(Y:((b:Xj)==0)=Xf)(a0:wrap64 ((b:Xj)-1)=c)(W:(c:Xj)<b)(u:fu a O (gM i e f aE d) e h b c (pt g 0))(U:¬8<(h.size:Xj))(S:¬16<(f.size:Xj))(T:(bits .andNot K d 3 !=0)=Xf)(D:O<a.heap.size)(z:g<a.heap.size)(r:rM a O g k l m s)(Z:(k !=0)=J):
 Calls TP 155 #[pt O 0,.agg (gM i e f aE d),Xd K ak,Xd K aL] a (rN 11 a):=by
 have q:=Xl u;have X:(0:Xj)<=c:=by omega
 have w:=Xl r;clear r;unfold fu at q;clear u;go_enter Tryz.func155,Tryz.ntmps155
 go_wp2_with (first
  |(go_at_call 95;refine q.out.mono ?_;rintro y a5⟨R,rfl,o,a1,t⟩;have n:=cS o;have a2:=aa n 1 A;have a3:=aa n 2 A;have a4:=aa n 4 A;have p:=Xl o;have x:=Xl t;clear o t n)
  |(go_at_call 96;refine x.out.mono ?_;rintro y a6⟨rfl,rfl⟩;have v:=w.out.old D z (bI p.out);obtain⟨H,L,N,Q⟩:=v))
 go_ret3;exact⟨A,bd p.out⟩
theorem Mm(Z:((b:Xj)==0)=Xf)(a2:wrap64 ((b:Xj)-1)=c)(X:(c:Xj)<b)(u:fu a O (gM i e f aE d) e h b c (pt g 0))(W:¬8<(h.size:Xj))(S:¬16<(f.size:Xj))(U:(bits .andNot K d 3 !=0)=Xf)(D:O<a.heap.size)(z:g<a.heap.size)(r:rM a O g k l m s)(a1:(k !=0)=Xf)(T:(bits .and K d 2 !=0)=J)(a0:(l==1000)=J):
 Calls TP 155 #[pt O 0,.agg (gM i e f aE d),Xd K ak,Xd K aL] a (rN 12 a):=by
 have q:=Xl u;have Y:(0:Xj)<=c:=by omega
 have w:=Xl r;clear r;unfold fu at q;clear u;go_enter Tryz.func155,Tryz.ntmps155
 go_wp2_with (first
  |(go_at_call 95;refine q.out.mono ?_;rintro y a7⟨R,rfl,o,a3,t⟩;have n:=cS o;have a4:=aa n 1 A;have a5:=aa n 2 A;have a6:=aa n 4 A;have p:=Xl o;have x:=Xl t;clear o t n)
  |(go_at_call 96;refine x.out.mono ?_;rintro y a8⟨rfl,rfl⟩;have v:=w.out.old D z (bI p.out);obtain⟨H,L,N,Q⟩:=v))
 go_ret3;exact⟨A,bd p.out⟩
theorem EM(a5:((b:Xj)==0)=Xf)(a7:wrap64 ((b:Xj)-1)=c)(a3:(c:Xj)<b)(x:fu a O (gM i e f aE d) e h b c (pt g 0))(a2:¬8<(h.size:Xj))(Z:¬16<(f.size:Xj))(a1:(bits .andNot K d 3 !=0)=Xf)(Q:O<a.heap.size)(N:g<a.heap.size)(u:rM a O g k l m s)(a6:(k !=0)=Xf)(a0:(bits .and K d 2 !=0)=Xf)(v:∀o:M,(∀q,q<a.heap.size->o.heap[q]?=a.heap[q]?)->(Instr.lookup 188 (.map (C s)) (.string h) Xf).run TP o=.ok (pt T 0) o):
 Calls TP 155 #[pt O 0,.agg (gM i e f aE d),Xd K ak,Xd K aL] a (rN 8 a):=by
 have t:=Xl x;have a4:(0:Xj)<=c:=by omega
 have z:=Xl u;clear u;have H:=Xl v;clear v;unfold fu at t;clear x;go_enter Tryz.func155,Tryz.ntmps155
 go_wp2_with (first
  |(go_at_call 95;refine t.out.mono ?_;rintro L R⟨Y,rfl,r,a8,w⟩;have n:=cS r;have b0:=aa n 1 A;have b1:=aa n 2 A;have b2:=aa n 4 A;have p:=Xl r;have D:=Xl w;clear r w n)
  |(go_at_call 96;refine D.out.mono ?_;rintro L o⟨rfl,rfl⟩;have y:=z.out.old Q N (bI p.out);obtain⟨S,U,W,X⟩:=y;have a9:=H.out R (bI p.out)))
 go_ret3;exact⟨A,bd p.out⟩
theorem EN(b8:((b:Xj)==0)=Xf)(c6:wrap64 ((b:Xj)-1)=c)(b6:(c:Xj)<b)(S:fu a O (gM i e f aE d) e h b c (pt g 0))(b5:¬8<(h.size:Xj))(b2:¬16<(f.size:Xj))(b4:(bits .andNot K d 3 !=0)=Xf)(U:O<a.heap.size)(R:g<a.heap.size)(z:rM a O g k l m s)(c0:(k !=0)=Xf)(b3:(bits .and K d 2 !=0)=J)(b9:(l==1000)=Xf)(H:∀q:M,(∀o,o<a.heap.size->q.heap[o]?=a.heap[o]?)->Calls TP 186 #[.string h,Xd K l] q λr n=>r=Xs (.string Y)/\Below q.heap.size q n)(D:∀u:M,(∀o,o<a.heap.size->u.heap[o]?=a.heap[o]?)->(Instr.lookup 188 (.map (C s)) (.string Y) Xf).run TP u=.ok (pt T 0) u):
 Calls TP 155 #[pt O 0,.agg (gM i e f aE d),Xd K ak,Xd K aL] a (rN 8 a):=by
 have y:=Xl S;have b7:(0:Xj)<=c:=by omega
 have w:=Xl z;clear z;have x:=Xl D;clear D;have a1:=Xl H;clear H;unfold fu at y;clear S;go_enter Tryz.func155,Tryz.ntmps155
 go_wp2_with (first
  |(go_at_call 95;refine y.out.mono ?_;rintro r q⟨a7,rfl,v,c7,Q⟩;have t:=cS v;have d0:=aa t 1 A;have d1:=aa t 2 A;have d2:=aa t 4 A;have p:=Xl v;have a0:=Xl Q;clear v Q t)
  |(go_at_call 96;refine a0.out.mono ?_;rintro r u⟨rfl,rfl⟩;have X:=w.out.old U R (bI p.out);obtain⟨a3,a4,a5,a6⟩:=X;have c8:=x.out q (bI p.out))
  |(go_at_call 186;refine(a1.out q (bI p.out)).mono ?_;rintro r a2⟨rfl,N⟩;have W:=λo L=>(N.block o (XY L (bd p.out).size)).trans (bI p.out o L);have Z:=w.out.old U R W;obtain⟨a8,a9,b0,b1⟩:=Z;have c9:=x.out a2 W))
 go_ret3;exact⟨A,(bd p.out).trans (N.mono (bd p.out).size)⟩
theorem Mo(a4:((b:Xj)==0)=Xf)(a6:wrap64 ((b:Xj)-1)=c)(a2:(c:Xj)<b)(x:fu a O (gM i e f aE d) e h b c (pt g 0))(a1:¬8<(h.size:Xj))(Y:¬16<(f.size:Xj))(a0:(bits .andNot K d 3 !=0)=Xf)(Q:O<a.heap.size)(N:g<a.heap.size)(u:rM a O g k l m s)(a5:(k !=0)=Xf)(Z:(bits .and K d 2 !=0)=Xf)(v:∀o:M,(∀q,q<a.heap.size->o.heap[q]?=a.heap[q]?)->(Instr.lookup 188 (.map (C s)) (.string h) Xf).run TP o=.ok (XA F) o)(a8:(m==60)=J):
 Calls TP 155 #[pt O 0,.agg (gM i e f aE d),Xd K ak,Xd K aL] a (rN 13 a):=by
 have t:=Xl x;have a3:(0:Xj)<=c:=by omega
 have z:=Xl u;clear u;have H:=Xl v;clear v;unfold fu at t;clear x;go_enter Tryz.func155,Tryz.ntmps155
 go_wp2_with (first
  |(go_at_call 95;refine t.out.mono ?_;rintro L R⟨X,rfl,r,a7,w⟩;have n:=cS r;have b0:=aa n 1 A;have b1:=aa n 2 A;have b2:=aa n 4 A;have p:=Xl r;have D:=Xl w;clear r w n)
  |(go_at_call 96;refine D.out.mono ?_;rintro L o⟨rfl,rfl⟩;have y:=z.out.old Q N (bI p.out);obtain⟨S,T,U,W⟩:=y;have a9:=H.out R (bI p.out)))
 go_ret3;exact⟨A,bd p.out⟩
theorem Mq(b7:((b:Xj)==0)=Xf)(c0:wrap64 ((b:Xj)-1)=c)(b5:(c:Xj)<b)(S:fu a O (gM i e f aE d) e h b c (pt g 0))(b4:¬8<(h.size:Xj))(b1:¬16<(f.size:Xj))(b3:(bits .andNot K d 3 !=0)=Xf)(T:O<a.heap.size)(R:g<a.heap.size)(z:rM a O g k l m s)(b9:(k !=0)=Xf)(b2:(bits .and K d 2 !=0)=J)(b8:(l==1000)=Xf)(H:∀q:M,(∀o,o<a.heap.size->q.heap[o]?=a.heap[o]?)->Calls TP 186 #[.string h,Xd K l] q λr n=>r=Xs (.string Y)/\Below q.heap.size q n)(D:∀u:M,(∀o,o<a.heap.size->u.heap[o]?=a.heap[o]?)->(Instr.lookup 188 (.map (C s)) (.string Y) Xf).run TP u=.ok (XA F) u)(c7:(m==60)=J):
 Calls TP 155 #[pt O 0,.agg (gM i e f aE d),Xd K ak,Xd K aL] a (rN 13 a):=by
 have y:=Xl S;have b6:(0:Xj)<=c:=by omega
 have w:=Xl z;clear z;have x:=Xl D;clear D;have a0:=Xl H;clear H;unfold fu at y;clear S;go_enter Tryz.func155,Tryz.ntmps155
 go_wp2_with (first
  |(go_at_call 95;refine y.out.mono ?_;rintro r q⟨a6,rfl,v,c6,Q⟩;have t:=cS v;have d0:=aa t 1 A;have d1:=aa t 2 A;have d2:=aa t 4 A;have p:=Xl v;have Z:=Xl Q;clear v Q t)
  |(go_at_call 96;refine Z.out.mono ?_;rintro r u⟨rfl,rfl⟩;have W:=w.out.old T R (bI p.out);obtain⟨a2,a3,a4,a5⟩:=W;have c8:=x.out q (bI p.out))
  |(go_at_call 186;refine(a0.out q (bI p.out)).mono ?_;rintro r a1⟨rfl,N⟩;have U:=λo L=>(N.block o (XY L (bd p.out).size)).trans (bI p.out o L);have X:=w.out.old T R U;obtain⟨a7,a8,a9,b0⟩:=X;have c9:=x.out a1 U))
 go_ret3;exact⟨A,(bd p.out).trans (N.mono (bd p.out).size)⟩
end
variable{e:E}
structure sV(O c s e o:E)(H k L:Xe)(i:Xj)(f:Xg Xe)(q r:XB)(t u v g x z h D N:Xj)(d:Xk Xe)(m:B->Xp E)(y:B)(a b:M):Prop where
 size:a.heap.size<=b.heap.size
 lo:a.heap.size<=e/\a.heap.size<=o/\e≠o
 kept:∀n,n<a.heap.size->n≠O->n≠c->n≠s->k.ownBlock≠C n->b.heap[n]?=a.heap[n]?
 tree:∃w T U,b.heap[O]?=C (Xn #[H,Xd K (i+1),w] 195 (0,0))/\cr NB b 1 1 w (f.length+2) (f++[T,U])/\kU a k w/\uR O b T (.head c (PM q r t u v g x z h D))/\uR O b U (.add c e)
 nd:b.heap[c]?=C (Xn (OM q r t u v (g+1) x z (h+1) N L (.map (C s))) 192 (0,0))
 kd:∃S R,b.heap[s]?=C (.map S R)/\Kids S R λW=>if W=y then C e else m W
 new:b.heap[e]?=C (Xn d 192 (0,0))/\b.heap[o]?=C (.map #[] 0)
section
variable{c o:E}{H k L:Xe}{i:Xj}{f:Xg Xe}{q r:XB}{t u v g x z h D N:Xj}{d:Xk Xe}{m:B->Xp E}{y:B}{Q p:M}
theorem sV.later(l:sV O c s e o H k L i f q r t u v g x z h D N d m y a b)(a5:b.heap.size<=Q.heap.size)(p:∀n,n<b.heap.size->Q.heap[n]?=b.heap[n]?):sV O c s e o H k L i f q r t u v g x z h D N d m y a Q where
 size:=XZ l.size a5
 lo:=l.lo
 kept:=λn U w T a2 a3=>by rw[p n (XY U l.size)];exact l.kept n U w T a2 a3
 tree:=by obtain⟨a9,a0,a1,b1,Y,a6,a7,a8⟩:=l.tree;have W:=λ(n:E)(Z:Xk Xe)(R:Xq)(w:b.heap[n]?=C (Obj.cells Z R (0,0)))(_:R=190\/R=187\/R=94)=>p n (XN.1 w).1;exact⟨a9,a0,a1,by grind,Y.stay λX a4=>p X (Y.lt X a4),a6,a7.stay W,a8.stay W⟩
 nd:=by rw[p _ (XN.1 l.nd).1];exact l.nd
 kd:=by
  obtain⟨S,b0,w,T⟩:=l.kd
  grind
 new:=⟨by rw[p _ (XN.1 l.new.1).1];exact l.new.1,by rw[p _ (XN.1 l.new.2).1];exact l.new.2⟩
theorem sV.next(n:sV O c s e o H k L i f q r t u v g x z h D N d m y a b)(b4:c<a.heap.size)(U:Xj):sV O c s e o H k L i f q r t u v g x z h D U d m y a (b.setCell ⟨c,9,F⟩ (Xd K U)):=by
 have T:∀l,l≠c->(b.setCell ⟨c,9,F⟩ (Xd K U)).heap[l]?=b.heap[l]?:=by grind [ai]
 obtain⟨b2,a4,a5,b5,Z,a9,b0,b1⟩:=n.tree;obtain⟨S,a3,w,W⟩:=n.kd
 have a7:∀(l:E)(Q:Xk Xe)(p:Xq),b.heap[l]?=C (Obj.cells Q p (0,0))->p≠192->l≠c:=λl Q p w W R=>by rw[R,n.nd]at w;simp_all
 have Y:=λ(l:E)(Q:Xk Xe)(p:Xq)(w:b.heap[l]?=C (Obj.cells Q p (0,0)))(W:p=190\/p=187\/p=94)=>T l (a7 l Q p w (by grind));refine⟨by rw[aS];exact n.size,n.lo,λl a6 a0 X a1 a2=>by rw[T l X];exact n.kept l a6 a0 X a1 a2,⟨b2,a4,a5,by grind,Z.stay λa8 R=>?_,a9,b0.stay Y,b1.stay Y⟩,?_,⟨S,a3,?_,W⟩,?_,?_⟩
 .obtain⟨Q,b3,_⟩:=Z.blk a8 R
  grind
 .have:=aA (n:=9) (i:=Xd K U) n.nd;simp_all
 .rw[T s λR=>by rw[R,n.nd]at w;cases w];exact w
 .rw[T e (by have:=n.lo.1;omega)];exact n.new.1
 rw[T o (by have:=n.lo.2.1;omega)];exact n.new.2
theorem Sa(Y:a.heap[O]?=C (Xn #[H,Xd K i,k] 195 (0,0)))(T:cr NB a 1 1 k f.length f)(b8:f.length<2^19)
 (X:a.heap[c]?=C (Xn (OM q r t u v g x z h D L (.map (C s))) 192 (0,0)))
 {U:E}(b7:a.heap[s]?=C (.map S U))(a1:Kids S U m)(b9:m y=F)(a9:0<=g/\g<2^62)(b0:0<=h/\h<2^62)(c0:0<=i/\i<2^62)
 (b1:d[0]?=C (.string (bs y)))(d4:∀l,l<a.heap.size->p.heap[l]?=a.heap[l]?)(d5:a.heap.size<=p.heap.size):
 Calls TP 187 #[pt O 0,pt c 0,pt (p.heap.size+1) 0] ((p.alloc (.map #[] 0)).alloc (.cells d 192)) λw a0=>w=Xs (.tuple #[])/\sV O c s (p.heap.size+1) p.heap.size H k L i f q r t u v g x z h D D d m y a a0:=by
 have R:∀l,l<a.heap.size->((p.alloc (.map #[] 0)).alloc (.cells d 192)).heap[l]?=a.heap[l]?:=by grind [NJ]
 have d2:((p.alloc (.map #[] 0)).alloc (.cells d 192)).heap.size=p.heap.size+2:=by simp
 have b5:=(XN.1 Y).1;have b6:=(XN.1 X).1;have d3:=(XN.1 b7).1;refine(TS (by rw[R _ b5];exact Y) (T.stay λZ b4=>R Z (T.lt Z b4)) b8 (by rw[R _ b6];exact X) (by simp_all) a1 b9 (vY _ _ _) b1 a9 b0 c0).mono ?_;intro w a0 n;obtain⟨d1,a6,a7,c6,c7,c8,c9,d0⟩:=n.tree;have d6:=n.size;refine⟨n.end_,by omega,⟨by omega,by omega,by omega⟩,λl b2 a2 a3 a4 a5=>?_,⟨d1,a6,a7,c6,c7,λa8 b3=>?_,c9,d0⟩,n.nd,n.kd,?_,?_⟩
 .rw[n.kept l (by omega) a2 a3 a4 a5,R l b2]
 .rcases c8 a8 b3 with W|W
  .exact Xh W
  omega
 .rw[n.kept _ (by omega) (by omega) (by omega) (by omega) (λw=>by have:=T.lt _ w;omega)]
  grind [vY]
 rw[n.kept _ (by omega) (by omega) (by omega) (by omega) (λw=>by have:=T.lt _ w;omega)];simp[Nz]
end
abbrev Vb(e c:XB)(aL own:Xj)(b a:E):Xk Xe:=OM e c aL aL 0 0 own c.size 0 0 (pt b 0) (.map (C a))
def Lf(g:E->E->M->Prop)(k l:XB)(f:Ending)(d:M):Prop:=∃e h a c,g e h a/\a.heap.size<=d.heap.size/\(∀b,b<a.heap.size->d.heap[b]?=a.heap[b]?)/\f=Xs (.tuple #[pt e 0,Xm (C ⟨c,0,F⟩) 2 2,.nilIface])/\a.heap.size<=c/\d.heap[c]?=C (Xn #[Xd K 1,.string k,Xd K 4,.string l] 269 (0,0))
section
variable{b h f:E}{o aE d ak aL p i q:Xj}{m c e Y k l:XB}{g n:E->E->M->Prop}
theorem Hb{N:Xo}{R:Xj}(e3:((h:Xj)==0)=Xf)(e7:wrap64 ((h:Xj)-1)=f)(e1:(f:Xj)<h)(a7:fu a O (gM o m c aE d) m e h f (pt b 0))(e0:¬8<(e.size:Xj))(d7:¬16<(c.size:Xj))(d9:(bits .andNot K d 3 !=0)=Xf)(c8:O<a.heap.size)(c7:b<a.heap.size)(a0:rM a O b p i q s)(e6:(p !=0)=Xf)(d8:(bits .and K d 2 !=0)=Xf)(a2:∀z:M,(∀n,n<a.heap.size->z.heap[n]?=a.heap[n]?)->(Instr.lookup 188 (.map (C s)) (.string e) Xf).run TP z=.ok (XA F) z)(e9:(q==60)=Xf)(d6:(bits .and K d 1 !=0)=N)(c6:Xf=N/\0=R\/J=N/\ak=R)(a1:∀t:M,(∀n,n<a.heap.size->t.heap[n]?=a.heap[n]?)->a.heap.size<=t.heap.size->Calls TP 187 #[pt O 0,pt b 0,pt (t.heap.size+1) 0] ((t.alloc (.map #[] 0)).alloc (.cells (Vb e c aL R b t.heap.size) 192)) λr a8=>r=Xs (.tuple #[])/\g (t.heap.size+1) t.heap.size a8)(a3:∀y Q u,g y Q u->Calls TP 156 #[pt y 0] u λr S=>r=Xs (.string k)/\Below u.heap.size u S)(a4:∀y Q u w,g y Q u->Below u.heap.size u w->Calls TP 156 #[pt b 0] w λr S=>r=Xs (.string l)/\Below w.heap.size w S):
 Calls TP 155 #[pt O 0,.agg (gM o m c aE d),Xd K ak,Xd K aL] a (Lf g k l):=by
 rcases c6 with⟨rfl,rfl⟩|⟨rfl,rfl⟩
 all_goals
  have Z:=Xl a7;have e2:(0:Xj)<=f:=by omega
  have e5:=λb7=>aav (P:=TP) 188 b7;have b0:=Xl a0;have b3:=Xl a2;have b1:=Xl a1;have b4:=Xl a3;have b5:=Xl a4;clear a0 a2 a1 a3 a4;unfold fu at Z;clear a7;go_enter Tryz.func155,Tryz.ntmps155
  go_wp2_with (first
   |(go_at_call 95;refine Z.out.mono ?_;rintro r t⟨d5,rfl,D,e8,a6⟩;have v:=cS D;have f1:=aa v 1 A;have f2:=aa v 2 A;have f3:=aa v 4 A;have d0:=Xl v;have e4:=(XN.1 v).1;have x:=Xl D;have b2:=Xl a6;clear D a6 v)
   |(go_at_call 96;refine b2.out.mono ?_;rintro r z⟨rfl,rfl⟩;have a9:=b0.out.old c8 c7 (bI x.out);obtain⟨d1,d2,d3,d4⟩:=a9;have f0:=b3.out t (bI x.out);have q1:=Xl (b1.out t (bI x.out) (bd x.out).size))
   |(go_at_call 187;refine q1.out.mono ?_;rintro r a8⟨rfl,L⟩;have X:=b4.out _ _ _ L;have W:=Xl L;have Y:=Xl X;clear L X)
   |(go_at_call 156;refine Y.out.mono ?_;rintro r w⟨rfl,H⟩;have T:=Xl H;have b6:=Xl (b5.out _ _ _ _ W.out H);clear H Y)
   |(go_at_call 156;refine b6.out.mono ?_;rintro r c9⟨rfl,a5⟩;have U:=Xl a5;clear a5))
  have b8:=T.out.size;have b9:=U.out.size;go_ret3;exact⟨_,_,_,c9.heap.size,W.out,XZ b8 (XZ b9 (by simp)),λn c0=>by rw[XQ _ _ _ (by omega),U.out.block n (by omega),T.out.block n c0],A,by omega,YN _ _⟩
theorem Hc{Z:Xo}{a0:Xj}(g2:((h:Xj)==0)=Xf)(g8:wrap64 ((h:Xj)-1)=f)(g0:(f:Xj)<h)(c7:fu a O (gM o m c aE d) m e h f (pt b 0))(f9:¬8<(e.size:Xj))(f6:¬16<(c.size:Xj))(f8:(bits .andNot K d 3 !=0)=Xf)(c8:O<a.heap.size)(c6:b<a.heap.size)(b0:rM a O b p i q s)(g7:(p !=0)=Xf)(f7:(bits .and K d 2 !=0)=J)(g3:(i==1000)=Xf)(b6:∀t:M,(∀r,r<a.heap.size->t.heap[r]?=a.heap[r]?)->Calls TP 186 #[.string e,Xd K i] t λu L=>u=Xs (.string Y)/\Below t.heap.size t L)(g6:0<=i/\i<2^62)(b2:∀S:M,(∀r,r<a.heap.size->S.heap[r]?=a.heap[r]?)->(Instr.lookup 188 (.map (C s)) (.string Y) Xf).run TP S=.ok (XA F) S)(h0:(q==60)=Xf)(f5:(bits .and K d 1 !=0)=Z)(e2:Xf=Z/\0=a0\/J=Z/\ak=a0)(b1:∀t:M,(∀r,r<a.heap.size->t.heap[r]?=a.heap[r]?)->a.heap.size<=t.heap.size->Calls TP 187 #[pt O 0,pt b 0,pt (t.heap.size+1) 0] ((t.alloc (.map #[] 0)).alloc (.cells (Vb Y c aL a0 b t.heap.size) 192)) λu y=>u=Xs (.tuple #[])/\g (t.heap.size+1) t.heap.size y)(b3:∀x H y,g x H y->y.cell? ⟨b,9,F⟩=C (Xd K i)/\y.frozen? ⟨b,9,F⟩=Xf/\n x H (y.setCell ⟨b,9,F⟩ (Xd K (i+1))))(b4:∀x H w,n x H w->Calls TP 156 #[pt x 0] w λu L=>u=Xs (.string k)/\Below w.heap.size w L)(b5:∀x H w N,n x H w->Below w.heap.size w N->Calls TP 156 #[pt b 0] N λu L=>u=Xs (.string l)/\Below N.heap.size N L):
 Calls TP 155 #[pt O 0,.agg (gM o m c aE d),Xd K ak,Xd K aL] a (Lf n k l):=by
 rcases e2 with⟨rfl,rfl⟩|⟨rfl,rfl⟩
 all_goals
  have a9:=Xl c7;have g1:(0:Xj)<=f:=by omega
  have g5:=λd9=>aav (P:=TP) 188 d9;have a1:=Xl b0;have a5:=Xl b2;have a2:=Xl b1;have d6:=Xl b4;have d7:=Xl b5;have d4:=Xl b6;have d5:=Xl b3;clear b6 b3;clear b0 b2 b1 b4 b5;unfold fu at a9;clear c7;go_enter Tryz.func155,Tryz.ntmps155
  go_wp2_with (first
   |(go_at_call 95;refine a9.out.mono ?_;rintro u t⟨f0,rfl,T,g9,b8⟩;have D:=cS T;have h4:=aa D 1 A;have h5:=aa D 2 A;have h6:=aa D 4 A;have d2:=Xl D;have b9:=(XN.1 D).1;have v:=Xl T;have d3:=Xl b8;clear T b8 D)
   |(go_at_call 96;refine d3.out.mono ?_;rintro u S⟨rfl,rfl⟩;have d0:=a1.out.old c8 c6 (bI v.out);obtain⟨e6,e7,e8,e9⟩:=d0;have h1:=a5.out t (bI v.out);have q1:=Xl (a2.out t (bI v.out) (bd v.out).size))
   |(go_at_call 186;refine(d4.out t (bI v.out)).mono ?_;rintro u c9⟨rfl,z⟩;have g4:=XY b9 z.size;have R:=λr Q=>(z.block r (XY Q (bd v.out).size)).trans (bI v.out r Q);have d1:=a1.out.old c8 c6 R;obtain⟨f1,f2,f3,f4⟩:=d1;have h2:=a5.out c9 R;have W:=(z.block _ b9).trans d2.out;have h7:=aa W 2 A;have h8:=aa W 4 A;have e3:=Xl (a2.out c9 R (XZ (bd v.out).size z.size));have e5:=Xl z;clear W R z)
   |(go_at_call 187;refine e3.out.mono ?_;rintro u y⟨rfl,c0⟩;obtain⟨h3,h9,X⟩:=d5.out _ _ _ c0;have a7:=d6.out _ _ _ X;have a6:=Xl X;have a8:=Xl a7;clear c0 X a7)
   |(go_at_call 156;refine a8.out.mono ?_;rintro u N⟨rfl,U⟩;have a3:=Xl U;have d8:=Xl (d7.out _ _ _ _ a6.out U);clear U a8)
   |(go_at_call 156;refine d8.out.mono ?_;rintro u e4⟨rfl,b7⟩;have a4:=Xl b7;clear b7))
  have e0:=a3.out.size;have e1:=a4.out.size;go_ret3;exact⟨_,_,_,e4.heap.size,a6.out,XZ e0 (XZ e1 (by simp)),λr Q=>by rw[XQ _ _ _ (by omega),a4.out.block r (by omega),a3.out.block r Q],A,by omega,YN _ _⟩
end
variable{f:Xe}{a:E}
attribute [local go_sem] Oper.semAt_some
structure gJ(m:E)(b d:M):Prop where
 size:b.heap.size<=d.heap.size
 cell:∀(c:E)(a:Xk Xe)(g:Xq)(k:E×E),g=192\/g=9->b.heap[c]?=C (Xn a g k)->d.heap[c]?=C (Xn a g k)
 map:∀(c:E)(i:Xk XH)(h:E),c<m->b.heap[c]?=C (.map i h)->d.heap[c]?=C (.map i h)
theorem gJ.trans{k:E}{l m a:M}(h:gJ k l m)(g:gJ k m a):gJ k l a:=
 ⟨XZ h.size g.size,λc n u q t i=>g.cell c n u q t (h.cell c n u q t i),λc p o r i=>g.map c p o r (h.map c p o r i)⟩
theorem gJ.of{g:E}(f:Below b.heap.size b d):gJ g b d:=
 ⟨f.size,λe a l k _ c=>by rw[f.block e (XN.1 c).1];exact c,λe i h _ c=>by rw[f.block e (XN.1 c).1];exact c⟩
theorem zo.len{c:Xg B}{g:E}(e:zo f c g b):∃d a,f=.slice d c.length a:=by rcases e with⟨rfl,rfl⟩|⟨h,i,_,rfl,_⟩<;>exact⟨_,_,A⟩
theorem zo.at{q:E}{i:Xg B}{p:E}{g:Xp Xw}(k:zo (.slice g s a) i p b)(n:gJ q b d){f:B}(h:i[e]?=C f):∃c,g=C ⟨c,0,F⟩/\d.cell? ⟨c,e,F⟩=C (.string (bs f)):=by
 rcases k with⟨_,rfl⟩|⟨c,r,t,o,_,_,l,_,_,m⟩
 .simp at h
 cases o;exact⟨c,A,aa (n.cell _ _ _ _ (Xi A) l) e (m e f h)⟩
end Go.Sv
