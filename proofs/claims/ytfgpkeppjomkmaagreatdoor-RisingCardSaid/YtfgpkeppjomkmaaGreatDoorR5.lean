/- Proved here: parts of the proof of the claimed theorem, no conditions; the last text states it -/
import Derived.Test.YtfgpkeppjomkmaaGreatDoorR4
set_option linter.all false
set_option maxRecDepth 100000
set_option maxHeartbeats 16000000
open _root_ renaming rfl->A,Nat->E,Int->VB,List->VD,Array->VE,Bool->VI,if_neg->VK,Option->VL,congrArg->VU,if_pos->VV,ByteArray->VX
open Option renaming some->C,none->I
open Go renaming undef->F,World->K,Value->Vx,TypeId->VJ,Frame->VM,Goroutine->VO,Act->VQ,Sem->VR,Program->VS,Addr->VT,Trace->VY,Event->Wa,MapEntry->Wb,FuncId->Wc,Operand->Wd
open Bool renaming true->J,false->Vz
open Go.Lib renaming hid->VF
open Go.MemOp renaming ofEvents->VZ
open Go.Op renaming operands->We
open Go.MemAct renaming ofEvent->Wf
open Go.IntKind renaming i64->M
open Go.Value renaming int->Vy,slice->VG,pointer->VW
open Or renaming inl->VA,inr->VC
open Go.Obj renaming cells->VH
open Go.Ending renaming returned->VN
open Go.Item renaming inRegion->VP
namespace Go.Sim
open Go.Conc Go.Proofs Go.RowKit
open Go.ConcN (PermW PermW.app PermW.of fork_knows WgLive RelBy sumTo)
open Go.ConcR (KK wgBlock WgAt stA smA rd wr mk DC0)
variable{l:VS}{f:Set}{m:E->Prop}{h:Ren}{b:K}{q:K}{T:VE VO}{s:VY}{R:Loc->dw}{d:E}
section
variable[Inhabited aV]
section
variable{k:dc}{p:E->Prop}{v:Ren}{u r:K}{a:VD Ms}{y:VO}{e:dm}{c:E->LR}{o g x:E}{xH:VJ}{i:E×E}{cl:VE Vx}
theorem Ej(d:VD E)(c:E->VL E):∃a:VD E,a.Nodup/\∀b,b∈a↔∃g∈d,c g=C b:=by obtain⟨a,e,f⟩:=Mv (d.filterMap c);exact⟨a,e,λb=>by rw[f,VD.mem_filterMap]⟩
theorem OA(c9:dJ (aj l k) 0 a T q s R ⟨f,v,u,p,I⟩ y)(b6:rf l k e a T q s R ⟨f,v,u,p,I⟩)
 (g1:cW p (λt n=>p t/\h t n) (cQ p b) v u)(p4:jj p b)(f1:∀t,m t->p t)(d8:Inv l f m h b)
 (l8:e.D.gh=DJ h g r)(l6:e.D.g0=C r)(g2:e.D.gb=g)(m0:e.D.xH=xH)(l9:e.D.gn=d*10)
 (e8:aU f h b r)(wv:h o g)(Aj:b.heap[o]?=C (VH cl xH i))(l5:i.1=i.2)(j1:¬p o)(l0:jS k m)
 (j4:∀t n,h t n->∀N,aA N n->¬m t->¬mi k (λ_=>.ro) N)
 (l3:∀w,w<d->∃D,e.lo<=D/\D<e.hi/\∀cl b,e.fin D cl b->∃j7,(w*10,j7)∈cl/\(w*10+9,#[(c w).ev])∈cl/\ck (c w) x j7 b)(g0:∀w,w<d->Plain (c w).ev)(l1:l.globals.size<=x):
 ∃k2 h6 a8,dJ (aj l k) 0 a T q s k2 ⟨f,h6,a8,m,I⟩ y/\Inv l f m h6 a8/\cW m h b h6 a8/\
  (∀t,t<b.heap.size->t≠o->a8.heap[t]?=b.heap[t]?\/∃b1 s Y h8,aT b1/\b.heap[t]?=C (Obj.cells b1 s Y)/\a8.heap[t]?=C (Obj.cells b1 s h8))/\PR c d o b.heap.size xH a8:=by
 obtain⟨b1,p2,q1,o0,o1,h4⟩:=ID b6 l9 l3 g0 l1;rw[g2,m0]at q1;have g3:∀t n a1,h t n->n≠g->r.heap[n]?=C a1->(∀N,aA N n->R N=.ro)/\xk a1 q n:=λt n a1 X P b7=>b6.gh.2 n a1 (by rw[l8];exact⟨⟨t,X⟩,P,b7⟩)
 have g4:∀t n,h t n->∃a1,r.heap[n]?=C a1:=λt n X=>by obtain⟨a1,n9,_,d5,_⟩:=e8.obj t n X;exact⟨n9,d5⟩
 obtain⟨h3,m8⟩:=g4 _ _ wv;obtain⟨e3,i4⟩:∃e3:K,e3={q with heap:=q.heap.setIfInBounds g h3}:=⟨_,A⟩;have e9:∀D:E,e3.heap[D]?=if D=g then C h3 else q.heap[D]?:=λD=>by rw[i4];exact getElem?_set q.heap g h3 ((Wh.1 q1).1) D
 have i5:e3.os=q.os:=by rw[i4]
 have p7:∀{t n:E},p t->h t n->n≠g:=λa5 X d0=>j1 ((e8.inj _ _ _ _ X wv).2 d0▸a5)
 obtain⟨a8,h7,_,m9,m2⟩:=Db e8 (i5.trans (b6.gh.1 r l6)) (q:=e3) (λt n a1 X b7=>by
  by_cases P:n=g
  .show _=_;rw[e9,VV P,<-m8,<-P,b7]
  show _=_
  rw[e9,VK P];exact(g3 t n a1 X P b7).2) m
 have m5:∀w,∃f3:VL E,w<d->(f3=I->b1[w*10+8]?=C (VG I 0 0)/\(c w).names=[])/\∀S,f3=C S->∃a9 Q U i,b1[w*10+8]?=C (VG (C ⟨S,0,I⟩) (c w).names.length a9)/\q.heap[S]?=C (Obj.cells Q U i)/\i.1=i.2/\(c w).names.length<=a9/\a9<=Q.size/\
  (∃a2,An a2 Q)/\(∀(D:E) f4,(c w).names[D]?=C f4->Q[D]?=C (.string f4))/\l.globals.size<=S/\∀N,aA N S->∃D,0<D/\e.lo<=D/\D<e.hi/\R N=.iG D:=by
  intro w;by_cases Z:w<d
  .obtain⟨_,_,_,e2,c8,z⟩:=h4 w Z;rcases z with⟨rfl,z⟩|⟨S,a9,Q,U,Y,rfl,z⟩
   .exact⟨I,λ_=>⟨λ_=>⟨c8,z⟩,λS a=>(by cases a)⟩⟩
   exact⟨C S,λ_=>⟨λa=>(by cases a),λn8 a=>(by cases a;exact⟨a9,Q,U,Y,c8,z⟩)⟩⟩
  exact⟨I,λz=>absurd z Z⟩
 obtain⟨h2,g6⟩:=Classical.axiomOfChoice m5;obtain⟨a0,k9,i1⟩:=Ej (VD.range d) h2
 have d7:∀n∈a0,∃Q U i,q.heap[n]?=C (Obj.cells Q U i)/\(∃a2,An a2 Q)/\l.globals.size<=n/\∀N,aA N n->∃D,0<D/\e.lo<=D/\D<e.hi/\R N=.iG D:=by intro n P;obtain⟨w,Z,d0⟩:=(i1 n).1 P;obtain⟨a9,Q,U,Y,_,e1,_,_,_,o2,_,o3,o4⟩:=(g6 w (d_.1 Z)).2 n d0;exact⟨Q,U,Y,e1,o2,o3,o4⟩
 have i0:∀n∈a0,n≠g:=λn P d0=>by obtain⟨_,_,_,_,_,_,z⟩:=d7 n P;obtain⟨D,_,_,_,z⟩:=z (.obj n) (VA A);have:=b6.yZ;rw[g2,<-d0,z]at this;cases this
 have k8:∀n∈a0,∀t,¬h t n:=λn P t X=>by obtain⟨a1,b7⟩:=g4 t n X;have O:=(g3 t n a1 X (i0 n P) b7).1 (.obj n) (VA A);obtain⟨_,_,_,_,_,_,z⟩:=d7 n P;obtain⟨D,_,_,_,z⟩:=z (.obj n) (VA A);rw[O]at z;cases z
 have p8:a8.heap.size=b.heap.size:=h7.size
 obtain⟨Os,l2,i3⟩:∃Os:VD Obj,Os.length=a0.length/\∀(w:E) n,a0[w]?=C n->∃Q U Y a2,q.heap[n]?=C (Obj.cells Q U Y)/\An a2 Q/\Os[w]?=C (Obj.cells a2 U Y):=by
  have d2:∀n:E,∃f3:Obj,n∈a0->∃Q U Y a2,q.heap[n]?=C (Obj.cells Q U Y)/\An a2 Q/\f3=Obj.cells a2 U Y:=λn=>by
   by_cases P:n∈a0
   .obtain⟨Q,U,Y,z,⟨a2,b0⟩,_⟩:=d7 n P;exact⟨_,λ_=>⟨Q,U,Y,a2,z,b0,A⟩⟩
   exact⟨.stringIter .empty 0,λz=>absurd z P⟩
  obtain⟨k4,l4⟩:=Classical.axiomOfChoice d2;refine⟨a0.map k4,by simp,λw n P=>?_⟩;obtain⟨Q,U,Y,a2,z,b0,a⟩:=l4 n (WG P);exact⟨Q,U,Y,a2,z,b0,by rw[XI,P,<-a];rfl⟩
 have g8:=IW m9 k9 k8 l2 (λw n P=>by
  obtain⟨Q,U,Y,a2,z,b0,a⟩:=i3 w n P
  exact⟨_,_,a,by rw[e9,VK (i0 n (WG P))];exact z,.cells U ⟨b0.1,λD b4 j8 d2 h0=>b0.2 D b4 j8 d2 h0 _ _⟩ (kJ.refl _)⟩)
 obtain⟨a3,f8⟩:∃a3,a3=a8.heap.size:=⟨_,A⟩;rw[<-f8]at g8
 have e0:∀L:E,∃a7:Vx,L<d*10->∃W,b1[L]?=C W/\an f (Ren.plus h a3 a0) a7 W/\(Plain W->a7=W)/\∀S N c7,W=VG (C ⟨S,0,I⟩) N c7->∃w,a0[w]?=C S/\a7=VG (C ⟨a3+w,0,I⟩) N c7:=by
  intro L;by_cases H:L<d*10
  .have Z:L/10<d:=by omega
   have g7:L/10*10+L%10=L:=by omega
   have plain:∀W,b1[L]?=C W->Plain W->∃a7:Vx,L<d*10->∃W,b1[L]?=C W/\an f (Ren.plus h a3 a0) a7 W/\(Plain W->a7=W)/\∀S N c7,W=VG (C ⟨S,0,I⟩) N c7->∃w,a0[w]?=C S/\a7=VG (C ⟨a3+w,0,I⟩) N c7:=by intro W O d6;refine⟨W,λ_=>⟨W,O,d6.refl _ _,λ_=>rfl,λS N c7 a=>?_⟩⟩;subst a;cases d6
   obtain⟨d3,c0,e1,_⟩:=h4 _ Z;have p3:L%10<10:=ZZ _ (by omega);by_cases c8:L%10<8
   .have e5:L%10<(Value.string (c (L/10)).d::(c (L/10)).st.map (.int M ·)).length:=by simp[d3];omega
    have:=c0 _ c8;rw[g7,Xb e5]at this;refine plain _ this ?_;have a6:=YK e5;rcases Wo.1 a6 with a6|a6
    .rw[a6];exact .string _
    obtain⟨j9,_,b0⟩:=WY.1 a6;rw[<-b0];exact .int _ _
   by_cases k7:L%10=9
   .rw[<-k7,g7]at e1;exact plain _ e1 (g0 _ Z)
   have k6:L%10=8:=by omega
   obtain⟨f5,f6⟩:=g6 _ Z;rw[<-k6,g7]at f5 f6;cases d9:h2 (L/10)with
   |none=>exact plain _ (f5 d9).1 (.slice _ _)
   |some S=>obtain⟨a9,Q,U,Y,e7,_⟩:=f6 S d9;have a6:S∈a0:=(i1 S).2 ⟨_,d_.2 Z,d9⟩;obtain⟨w,j2⟩:=YR.1 a6;have b2:bC (Ren.plus h a3 a0) ⟨a3+w,0,I⟩ ⟨S,0,I⟩:=⟨VC ⟨w,A,j2⟩,A,A⟩;refine⟨VG (C ⟨a3+w,0,I⟩) (c (L/10)).names.length a9,λ_=>⟨_,e7,.slice b2 _ _,λz=>(by cases z),λn8 N c7 a=>?_⟩⟩;cases a;exact⟨w,j2,A⟩
  exact⟨.nilIface,λz=>absurd z H⟩
 obtain⟨a7,e0⟩:=Classical.axiomOfChoice e0;obtain⟨b5,i8⟩:∃b5:VE Vx,b5=VE.ofFn (n:=d*10) λL=>a7 L.1:=⟨_,A⟩;have j0:b5.size=d*10:=by rw[i8];simp
 have i9:∀L:E,L<d*10->b5[L]?=C (a7 L):=λL H=>by rw[i8];simp[H]
 obtain⟨c6,f2⟩:∃c6:K,c6={a8 with heap:=a8.heap++Os.toArray}:=⟨_,A⟩;rw[<-f2]at g8;have p6:o<b.heap.size:=(Wh.1 Aj).1;have n5:c6.heap.size=a3+Os.length:=by rw[f2,f8];simp
 obtain⟨b3,g9⟩:∃b3:K,b3={c6 with heap:=c6.heap.setIfInBounds o (.cells b5 xH i)}:=⟨_,A⟩;have e6:∀D:E,b3.heap[D]?=if D=o then C (VH b5 xH i)else c6.heap[D]?:=λD=>by rw[g9];exact getElem?_set c6.heap o _ (by omega) D
 have n0:aU f (Ren.plus h a3 a0) b3 q:=by
  refine g8.put (VA wv) (.cells xH ⟨j0.trans o1.symm,λD b4 j8 d2 h0=>?_⟩ (VA o0)) e6 (λD=>?_) (by rw[g9]) i5.symm
  .have d1:D<d*10:=by have:=(Wh.1 d2).1;omega
   rw[i9 D d1]at d2;cases d2;obtain⟨W,a4,d5,_⟩:=e0 D d1;rw[h0]at a4;cases a4;exact d5
  by_cases d1:D=g
  .rw[VV d1,d1,q1]
  rw[VK d1,e9,VK d1]
 have n1:∀t,m t->t≠o:=λt a5 d0=>j1 (d0▸f1 t a5);have Ek:∀t:E,t<b.heap.size->c6.heap[t]?=a8.heap[t]?:=λt a5=>by rw[f2];exact XV (by omega)
 have j3:∀t,m t->b3.heap[t]?=b.heap[t]?:=λt a5=>by obtain⟨a1,c0,_⟩:=d8.cY t a5;rw[e6,VK (n1 t a5),Ek t (Wh.1 c0).1];exact m2 t a5
 have i6:Base l (Ren.plus h a3 a0):=by
  refine⟨λk5 O d6=>VA (d8.base.1 k5 O d6),?_⟩;rintro t n(z|⟨w,rfl,Z⟩)
  .exact d8.base.2 t n z
  obtain⟨_,_,_,_,_,z,_⟩:=d7 n (WG Z);have O:=d8.base.types;obtain⟨a1,_,d6,_⟩:=e8.obj _ _ O;have:=(Wh.1 d6).1;omega
 have i2:Inv l f m (Ren.plus h a3 a0) b3:=d8.keep i6 j3
 have l7:cW m h b (Ren.plus h a3 a0) b3:=⟨Ren.Gk _ _ _,λb4 j9 z=>by
  rcases z with z|⟨w,rfl,_⟩
  .exact VA z
  right;omega,by rw[g9];simp[n5];omega,j3⟩
 have j5:=Gn c9
 have n3:=vL (a:=k) c9.bg (v:=m) (s:=f) (O:=I) i6 n0 i2.cY (by
  rintro t n(X|⟨w,rfl,Z⟩) N f0
  .by_cases P:n=g
   .left;subst P;have O:R N=.void\/R N=.iG 0\/∃D,e.lo<=D/\D<e.hi/\R N=.iG D:=by
     rcases b6.JO N (by rw[g2];exact f0)with z|z|⟨D,_,_,b8,b9,_,_,z⟩
     .left;rw[z];exact b6.yZ
     .exact VC (VA z)
     exact VC (VC ⟨D,b8,b9,z⟩)
    have j6:R N≠.ro:=by rcases O with O|O|⟨D,_,_,O⟩<;>rw[O]<;>simp
    refine⟨by rcases O with O|O|⟨D,_,_,O⟩<;>rw[O]<;>simp,λH=>?_⟩;rcases H with⟨f7,g5,f9⟩|H
    .exact j6 (c9.bF.jH.ro N f7 g5 f9)
    cases k with
    |none=>exact H
    |some b4=>
     obtain⟨L,d4,w⟩:=b4;obtain⟨n7,h1⟩:=b6.Rj L d4 w A;rcases H with H|H
     .rcases O with O|O|⟨D,b8,b9,O⟩
      .rw[O]at H;cases H
      .rw[O]at H;cases H;omega
      rw[O]at H;cases H;exact h1 ⟨b8,b9⟩
     exact j6 (j5 L d4 w A N H)
   obtain⟨a1,b7⟩:=g4 t n X;have O:=(g3 t n a1 X P b7).1 N f0;by_cases b2:m t
   .exact VC ⟨O,b2,t,g1.le _ _ ⟨f1 t b2,X⟩⟩
   left;refine⟨by rw[O];simp,λH=>?_⟩;refine j4 t n X N f0 b2 ?_;rcases H with H|H
   .exact VA H
   cases k with
   |none=>exact H.elim
   |some b4=>
    obtain⟨L,d4,w⟩:=b4;rcases H with H|H
    .rw[O]at H;cases H
    exact VC (VC H)
  .left;obtain⟨_,_,_,_,_,_,z⟩:=d7 n (WG Z);obtain⟨D,n6,b8,b9,z⟩:=z N f0;refine⟨by rw[z];simp,λH=>?_⟩;rcases H with⟨f7,g5,f9⟩|H
   .have:=c9.bF.jH.ro N f7 g5 f9;rw[z]at this;cases this
   cases k with
   |none=>exact H
   |some b4=>
    obtain⟨L,d4,w⟩:=b4;obtain⟨n7,h1⟩:=b6.Rj L d4 w A;rcases H with H|H
    .rw[z]at H;cases H;exact h1 ⟨b8,b9⟩
    have:=j5 L d4 w A N H
    rw[z]at this;cases this) (by
  rintro t n(X|⟨w,rfl,Z⟩) P
  .have b2:m t:=Classical.byContradiction λb2=>j4 t n X (.obj n) (VA A) b2 (VA ⟨n,VA A,P⟩);exact c9.bg.low.2 t n (g1.le _ _ ⟨f1 t b2,X⟩) P
  obtain⟨_,_,_,_,_,_,z⟩:=d7 n (WG Z);obtain⟨D,n6,b8,b9,z⟩:=z (.obj n) (VA A);have:=c9.bF.jH.ro (.obj n) n (VA A) P
  rw[z]at this;cases this)
 refine⟨_,_,b3,zu c9 A rfl n3 (holds_of (e:=a) l0 λt n a5 X=>?_),i2,l7,λt a5 m6=>?_,b5,i,by rw[e6,VV A],j0,l5,λw Z=>?_⟩
 ·
  have p5:=f1 t a5;rcases g1.fresh t n X with z|z
  .exact VA z.2
  rw[dh]at z;obtain⟨a1,c0,_⟩:=d8.cY t a5;have:=(Wh.1 c0).1;omega
 .rw[e6,VK m6,Ek t a5];exact h7.heap t
 obtain⟨d3,c0,e1,_⟩:=h4 w Z;have i7:∀j,j<10->b5[w*10+j]?=C (a7 (w*10+j)):=λj m1=>i9 _ (by omega);obtain⟨f5,f6⟩:=g6 w Z
 have m4:∃e2,a7 (w*10+8)=e2/\gf (c w).names b.heap.size e2 b3:=by
  obtain⟨W,a4,d5,e4,k3⟩:=e0 (w*10+8) (by omega);cases d9:h2 w with
  |none=>obtain⟨e7,h5⟩:=f5 d9;rw[e7]at a4;cases a4;exact⟨_,e4 (.slice _ _),VA ⟨A,h5⟩⟩
  |some S=>obtain⟨a9,Q,U,Y,e7,h5,o5,o6,o7,q0,o8,_⟩:=f6 S d9;rw[e7]at a4;cases a4;obtain⟨D,b8,b9⟩:=k3 S _ _ A;obtain⟨p1,q3,h8,a2,k0,k1,o9⟩:=i3 D S b8;rw[h5]at k0;cases k0;refine⟨_,b9,VC ⟨a3+D,a9,a2,U,Y,A,by omega,?_,o5,o6,by rw[k1.1];exact o7,λD f4 n2=>k1.string (o8 D f4 n2)⟩⟩;rw[e6,VK (by omega),f2,f8];exact IV o9
 obtain⟨e2,n4,m7⟩:=m4;refine⟨_,ck.mk' d3 m7,λj m1=>?_,?_⟩
 .rw[i7 j (by omega)];have m3:(Value.string (c w).d::((c w).st.map (.int M ·)++[e2])).toArray[j]?=(Value.string (c w).d::((c w).st.map (.int M ·)++[e2]))[j]?:=by simp
  rw[m3];by_cases c8:j<8
  .rw[<-Xe,Yc (by simp[d3];omega),<-c0 j c8];obtain⟨W,a4,d5,e4,_⟩:=e0 (w*10+j) (by omega);rw[a4];have e5:j<(Value.string (c w).d::(c w).st.map (.int M ·)).length:=by simp[d3];omega
   have h9:=c0 j c8;rw[a4,Xb e5]at h9;cases h9
   congr 1
   apply e4;have a6:=YK e5;rcases Wo.1 a6 with a6|a6
   .rw[a6];exact .string _
   obtain⟨j9,_,b0⟩:=WY.1 a6;rw[<-b0];exact .int _ _
  obtain rfl:j=8:=by omega
  rw[n4,<-Xe,XC (by simp[d3])];simp[d3]
 rw[i7 9 (by omega)];obtain⟨W,a4,d5,e4,_⟩:=e0 (w*10+9) (by omega);rw[e1]at a4;cases a4;rw[e4 (g0 w Z)]
end
end
variable{k:VS}{D:eX}{a:K}{i:VO}{q:Vx}{u:E}
section
variable[Inhabited aV]
section
variable{n:dc}{e:Set}{d b:E->Prop}{s:Ren}{r o:K}{y t:VO}{c:dm}{l x p:E}
def JS(b:E->Prop)(c:E):E->Prop:=λa=>b a\/a=c
def mZ(b:E->Prop)(h:Ren)(e d:E):Ren:=λa c=>(b a/\h a c)\/(a=e/\c=d)
noncomputable def dL(b:E->Prop)(a:K)(q:Vx)(c:VJ):K:={cQ b a with heap:=(cQ b a).heap.push (.cells #[q] c (0,1))}
def yx(d:E->Prop)(a:K):Prop:=∀b,d b->∀c f e,a.heap[b]?=C (Obj.cells c f e)->¬aT c
theorem wm{e:VJ}{c:E}(d:c<a.heap.size):(dL b a q e).heap[c]?=(cQ b a).heap[c]?:=by
 have:c<(cQ b a).heap.size:=by rw[dh];exact d
 show((cQ b a).heap.push _)[c]?=_
 grind
theorem Ah{c:VJ}:(dL b a q c).heap[a.heap.size]?=C (VH #[q] c (0,1)):=by
 show((cQ b a).heap.push _)[a.heap.size]?=_
 grind [dh]
theorem Ip{a7:E}{T:E}{b3:VJ}{f3:E×E}(l5:i.status=.running)(l7:∀U,stepG k J i U=.spawn y t U #[])(k3:t.status=.running)
 (b1:aU f h a o)(b4:Base k h)(e2:jj d a)(f6:jj b a)(g4:∀i,(0<i\/i=k.globals.size)->i<=k.globals.size->d i/\b i)(q6:yx (λg=>b g/\¬d g) a)
 (d0:cW d (λg v=>d g/\h g v) (cQ d a) s r)(k9:c.D.gh=DJ h l o)(k7:c.D.g0=C o)(e3:c.D.gb=l)(wv:h x l)(l1:¬d x)(l0:¬b x)(g9:∀g,m g->d g)(j3:jS n m)
 (j0:r.heap[p]?=C (VH #[Vy M a7] b3 f3))(p7:f3.1=f3.2)(f5:s p T)(j1:¬d p)(l8:c.wt=0)(q7:c.pend=1)(q9:c.vb=c.hi-c.lo)(k6:c.hi+1<c.lo+1000000)
 (l4:Qr h)
 (l6:jl k e (JS b a.heap.size) (tz c.D) (kM k c.D (c.fin c.hi) c.hi e (JS b a.heap.size) u []) (mZ b h a.heap.size T) (dL b a (Vy M a7) b3) t)
 (next:sG k n (C {c with pend:=0,vb:=c.vb+1,hi:=c.hi+1}) D f d (λg v=>d g/\h g v) (cQ d a) y):sG k n (C c) D f d s r i:=by
 classical
 intro a0 Q U e1 c0 a8 a1;refine kN (p:=aj k n) l5 (λa0 Q U e1 c0 a8 a1=>?_) a0 Q U e1 c0 a8 a1;have hrel:=a1.bg.rel;simp only at hrel;have n8:=a1.bg.dv;simp only at n8;obtain⟨_,_,j8,_⟩:=a1.ok;have b7:=j8.wg c A;have p9:c.hi=Q.size:=b7.tu.2.2.1
 have e4:∀g v,h g v->v≠l->(∀w,aA w v->a8 w=.ro)/\∃W,o.heap[v]?=C W/\xk W U v:=λg v O d6=>by obtain⟨W,b2,_,b0,_⟩:=b1.obj g v O;obtain⟨q1,d3⟩:=b7.gh.2 v b2 (by rw[k9];exact⟨⟨g,O⟩,d6,b0⟩);simp_all
 have g8:U.os=o.os:=b7.gh.1 o k7;have d7:∀{g v:E},b g->h g v->v≠l:=λN O a2=>l0 ((b1.inj _ _ _ _ O wv).2 a2▸N);have g6:∀{g v:E},d g->h g v->v≠l:=λN O a2=>l1 ((b1.inj _ _ _ _ O wv).2 a2▸N)
 have e0:∀w,aA w T->a8 w=.iG 0:=λw P=>by grind
 have h8:∀{g v:E},h g v->v≠l->v≠T:=λO d6 a2=>by have L:=(e4 _ _ O d6).1 (.obj T) (a2▸VA A);rw[e0 _ (.inl A)]at L;cases L
 have e8:T≠l:=λa2=>by have L:=e0 (.obj T) (VA A);have R:=b7.yZ;simp_all
 have p3:a.heap.size<=p:=by
  rcases d0.fresh _ _ f5 with H|H
  .exact absurd H.1 j1
  simp_all [dh]
 have p8:k.globals.size<a.heap.size:=by
  obtain⟨W,_,R,_⟩:=b1.obj _ _ b4.types
  grind
 have p4:k.globals.size<=T:=by have:=(a1.bg.base.2 p T f5).2;omega
 let d5:Loc->Prop:=λw=>∃X Y,w=.cell ⟨l,X,Y⟩/\c.D.own Q.size X
 let a4:Loc->dw:=λw=>if aA w T then .ro else if d5 w then .iG Q.size else a8 w
 have m5:∀w,aA w T->a4 w=.ro:=λw P=>VV P
 have m6:∀w,d5 w->a4 w=.iG Q.size:=λw P=>by
  show(if _ then _ else if _ then _ else _)=_
  rw[VK (λH=>by
   obtain⟨X,Y,rfl,_⟩:=P
   exact e8 (df H (.inr ⟨_,A,A⟩))),VV P]
 have e9:∀w,¬aA w T->¬d5 w->a4 w=a8 w:=λw L R=>by grind
 have m7:∀w,d5 w->a8 w=.iG 0:=by
  rintro w⟨X,Y,rfl,a5⟩;rcases b7.JO (.cell ⟨l,X,Y⟩) (by rw[e3];exact VC ⟨_,A,A⟩)with H|H|⟨z,h9,i3,m1,m2,H,i9,_⟩
  .cases H
  .exact H
  cases H;have:=b7.apart _ _ _ i9 a5;omega
 have i0:∀g v,h g v->v≠l->∀w,aA w v->a4 w=.ro:=λg v O d6 w P=>by grind
 have j4:iO a8 a4:=by
  intro w c6
  grind
 have j6:∀w,aA w c.D.Wg->a4 w=a8 w:=λw P=>e9 w (λH=>by
  have L:=e0 w H
  rw[b7.qU w P]at L;cases L) (λe5=>by
  have L:=m7 w e5
  rw[b7.qU w P]at L;cases L)
 obtain⟨Tr,p5⟩:=l6.tree;have m4:∀g,d g->r.heap[g]?=(cQ d a).heap[g]?:=d0.keep
 have n2:aU f (λg v=>d g/\h g v) (cQ d a) U:={
  inj:=λg d4 v f1 L R=>b1.inj g d4 v f1 L.2 R.2
  os:=by obtain⟨Z,b0⟩:a.os=o.os/\U.os=o.os:=⟨b1.os,g8⟩;show a.os=U.os;rw[Z,b0]
  obj:=by
   rintro g v⟨S,O⟩;obtain⟨W,b2,Z,b0,c8⟩:=hrel.obj g v (d0.le _ _ ⟨S,O⟩);rw[m4 g S]at Z;refine⟨W,b2,Z,b0,?_⟩
   have b5:∀g v,d g->s g v->d g/\h g v:=λg v N j7=>⟨N,by
    rcases d0.fresh g v j7 with H|H
    .exact H.2
    rw[dh]at H
    rcases e2 g N with⟨_,_,_,g1,_⟩|⟨_,_,g1,_⟩<;>(simp_all)⟩
   rcases e2 g S with⟨a9,s0,o9,q1,d3,m8,i1,_⟩|⟨o6,d2,q1,d3⟩
   .rw[dZ S q1]at Z;cases Z;cases c8 with
    |cells n9 d9 c9=>
     refine .cells _ ⟨d9.1,λz a3 i5 h3 e7=>?_⟩ c9;have h5:=h3;rw[WE]at h5;obtain⟨i6,r0,m0⟩:=Xf.1 h5;refine an.RZ b5 ?_ (d9.2 z a3 i5 h3 e7);rw[<-m0];by_cases a5:aR d i6
     .simp_all [cU]
     rw[oM a5];exact .bU
   rw[nf S,q1]at Z;cases Z;cases c8 with
   |map d2 P=>exact .map d2 (Bu P λa0 g2 a2 f0=>⟨an.RZ b5 (d3 a0 a2).1 f0.1,an.RZ b5 (d3 a0 a2).2 f0.2.1,f0.2.2⟩)}
 have n6:∀a6,oC a6->aH k (c0++a6) U a4 0 ⟨f,λg v=>d g/\h g v,cQ d a,d,C {c with pend:=0,vb:=c.vb+1,hi:=c.hi+1}⟩:=λa6 d8=>{
  base:=kO b4 λi L R=>(g4 i L R).1
  low:=⟨a1.bg.low.1,λg v O b4=>a1.bg.low.2 g v (d0.le _ _ O) b4⟩
  rel:=n2
  cY:=jA e2
  dv:=λg v O w P=>VC ⟨i0 g v O.2 (g6 O.1 O.2) w P,O.1⟩
  dY:=λg v O w P a5=>(a1.bF.row w (bP P) ((e4 g v O.2 (g6 O.1 O.2)).1 w P)).app λf9 f8 a3 S _ _=>(d8.touch f9 f8 a3 S).elim}
 have f4:∃f2,U.heap[T]?=C (VH #[Vy M a7] b3 f2)/\f2.1=f2.2:=by
  obtain⟨W,b2,Z,b0,c8⟩:=hrel.obj _ _ f5;rw[j0]at Z;cases Z;cases c8 with
  |cells n9 d9 c9=>
   rename_i c2 o7;have h0:=d9.1;simp at h0;have S:=d9.2 0 (Vy M a7) c2[0] (by simp) (Wj (by omega));have k1:c2=#[Vy M a7]:=by
    apply ZG (by simp[h0]);intro z b8 f7;obtain rfl:z=0:=by omega
    simp only[(Plain.int M a7).eq S];rfl
   rw[k1]at b0;refine⟨_,b0,?_⟩;rcases c9 with c9|⟨c9,_⟩
   .exact c9
   omega
 obtain⟨o8,f4,k5⟩:=f4
 have n5:∀g v W,b g->h g v->(cQ b a).heap[g]?=C W->∃b2,U.heap[v]?=C b2/\gK e (λg v=>b g/\h g v) W b2:=λg v W N O j9=>by obtain⟨r6,r7,i2,m9,n0⟩:=(b1.cQ (Sp:=e) f6).obj g v ⟨N,O⟩;rw[j9]at i2;cases i2;obtain⟨_,b2,L,R⟩:=e4 g v O (d7 N O);rw[m9]at L;cases L;exact⟨_,R,n0⟩
 have n3:aU e (mZ b h a.heap.size T) (dL b a (Vy M a7) b3) U:=by
  have d1:=b1.cQ (Sp:=e) f6
  have lt:∀{g v:E},b g/\h g v->g<a.heap.size:=λH=>by
   obtain⟨_,_,Z,_⟩:=b1.obj _ _ H.2
   grind
  refine⟨?_,?_,?_⟩
  .rintro g d4 v f1(L|⟨rfl,rfl⟩)(R|⟨rfl,rfl⟩)
   .exact d1.inj g d4 v f1 L R
   .have:=lt L;exact⟨λa0=>by omega,λa0=>absurd a0 (h8 L.2 (d7 L.1 L.2))⟩
   .have:=lt R;exact⟨λa0=>by omega,λa0=>absurd a0.symm (h8 R.2 (d7 R.1 R.2))⟩
   simp
  .rintro g v(L|⟨rfl,rfl⟩)
   .obtain⟨W,_,Z,_⟩:=d1.obj g v L;obtain⟨b2,b0,c8⟩:=n5 g v W L.1 L.2 Z;exact⟨W,b2,by grind [wm],b0,c8.mono λa3 i6 H=>VA H⟩
   exact⟨_,_,Ah,f4,.cells _ ⟨A,λz a3 i5 S e6=>by
    rw[S]at e6;cases e6;have:z=0:=by grind
    subst this;simp at S
    rw[<-S];exact .int _ _⟩ (VA k5)⟩
  show a.os=U.os;rw[b1.os,g8]
 have n4:ma e (JS b a.heap.size) (dL b a (Vy M a7) b3):=by
  rintro g(N|rfl)
  .obtain⟨W,L,R⟩:=jA (f:=e) f6 g N
   grind [dh,wm]
  exact⟨_,Ah,A,by simp,by rintro⟨d2,c7,b5⟩;grind⟩
 have n7:∀a6,oC a6->(∀d2,Knows c0 0 d2->Knows (c0++a6) Q.size d2)->aH k (c0++a6) U a4 Q.size ⟨e,mZ b h a.heap.size T,dL b a (Vy M a7) b3,JS b a.heap.size,I⟩:=λa6 d8 b5=>{
  base:=⟨λi L R=>VA ⟨(g4 i L R).2,b4.1 i L R⟩,by
   rintro g v(H|⟨rfl,rfl⟩)
   .exact b4.2 g v H.2
   omega⟩
  low:=⟨a1.bg.low.1,by
   rintro g v(H|⟨rfl,rfl⟩) b4
   .exact l4 g v H.2 b4
   have:=a1.bF.jH.ro (.obj _) _ (VA A) b4
   rw[e0 _ (.inl A)]at this;cases this⟩
  rel:=n3
  cY:=n4
  dv:=by
   rintro g v(H|⟨rfl,rfl⟩) w P
   .exact VC ⟨i0 g v H.2 (d7 H.1 H.2) w P,VA H.1⟩
   exact VC ⟨m5 w P,VC A⟩
  dY:=by
   rintro g v O w P a5 z a3 S h4 l9;obtain⟨f9,f8,e6⟩:=Ys S;rcases Wp f8 with⟨_,q3⟩|⟨_,l3⟩
   .have e7:touchAt c0 z=C a3:=by simp_all [Xm]
    rcases O with H|⟨rfl,rfl⟩
    .exact b5 _ (a1.bF.row w (bP P) ((e4 g v H.2 (d7 H.1 H.2)).1 w P) z a3 e7 h4 l9)
    exact b5 _ (a1.bF.mine w 0 (bP P) (e0 w P) z a3 e7 h4)
   exact(d8.touch f9 l3 a3 e6).elim}
 have Y:=vk (f:=n) (l:=n) (a4:=e1) (e:=⟨f,λg v=>d g/\h g v,cQ d a,d,C {c with pend:=0,vb:=c.vb+1,hi:=c.hi+1}⟩) (c:=a4) a1 (l7 U) j4
  (a3:=.wk (.work u [] Tr ⟨e,mZ b h a.heap.size T,dL b a (Vy M a7) b3,JS b a.heap.size,I⟩))
  (λw c6 d6=>by grind)
  n6
  (λa6 d8 b5 k4 q8=>⟨_,A,λg0 d1=>(by cases d1),k3,k4,n7 a6 d8 b5,λg0 d1=>(by cases d1),by simp_all⟩)
  (λo3 p6=>by simp_all)
  (holds_of (e:=a0) j3 λg v N O=>⟨g9 g N,by
    rcases d0.fresh g v O with H|H
    .exact H.2
    rw[dh]at H
    rcases e2 g (g9 g N)with⟨_,_,_,g1,_⟩|⟨_,_,g1,_⟩<;>(simp_all)⟩)
  (λb6 g5 o2 j5=>?_) (VA A) (λb6 g5 h2=>?_)
 .obtain⟨g3,a6,g2,h6,h7⟩:=Y;exact⟨g3,U,a6,h6,next g2 g3 U e1 (c0++a6) a4 h7⟩
 .cases j5;have N:=g5.wg c A;have q4:0<Q.size:=(Wh.1 a1.me).1;have old:∀z,z≠Q.size->(if z=Q.size then aG.wk (.work u [] Tr ⟨e,mZ b h a.heap.size T,dL b a (Vy M a7) b3,JS b a.heap.size,I⟩)else b6 z)=b6 z:=λz b8=>VK b8
  have h1:(sumTo (Q.size+1) λz=>(if z=Q.size then aG.wk (.work u [] Tr ⟨e,mZ b h a.heap.size T,dL b a (Vy M a7) b3,JS b a.heap.size,I⟩)else b6 z).cnt)=(sumTo Q.size λz=>(b6 z).cnt)+1:=by
   have Z:∀c7,c7<=Q.size->(sumTo c7 λz=>(if z=Q.size then aG.wk (.work u [] Tr ⟨e,mZ b h a.heap.size T,dL b a (Vy M a7) b3,JS b a.heap.size,I⟩)else b6 z).cnt)=sumTo c7 λz=>(b6 z).cnt:=by
    intro c7 q5
    induction c7 with
    |zero=>rfl
    |succ c7 m3=>simp only[sumTo];rw[m3 (by omega),VK (by omega)]
   simp only[sumTo];rw[Z _ (Wl _)];rfl
  have k2:∀z X Y,0<z->z<Q.size->c.D.own z X->a4 (.cell ⟨c.D.gb,X,Y⟩)=a8 (.cell ⟨c.D.gb,X,Y⟩):=λz X Y b8 f7 a5=>e9 _ (λH=>e8 (by rw[<-e3];exact df H (VC ⟨_,A,A⟩))) λ⟨h9,i3,a2,g7⟩=>by cases a2;have:=N.apart _ _ _ a5 g7;omega
  have k8:a4 (.obj c.D.gb)=.void:=by rw[e9 _ (λH=>e8 (by rw[<-e3];exact df H (.inl A))) λ⟨h9,i3,a2,g7⟩=>by cases a2];exact N.yZ
  refine{
   zero:=by simp only[VK (show¬(0=Q.size)by omega)];exact N.zero
   mode:= ?_
   qU:=λw P=>by rw[j6 w P];exact N.qU w P
   yZ:=k8
   own:=λz a3 L R S X Y a5=>?_
   gb:=N.gb
   gv:=N.gv
   JP:= ?_
   ne:=N.ne
   apart:=N.apart
   xC:=k6
   bound:=by rw[h1];exact E.succ_le_succ N.bound
   tu:=⟨N.tu.1,E.le_succ_of_le N.tu.2.1,by simp_all,λz L R=>?_⟩
   Gs:=λz a3 L R S=>?_
   gh:=⟨N.gh.1,λv W k0=>?_⟩
   JO:=λw P=>?_}
  .rw[h1];refine .opn l8 (Xg _) (λj q0 q2=>?_) ?_
   .by_cases l2:j=Q.size
    .simp only[VV l2];rfl
    have c6:=N.mode;generalize (sumTo Q.size λz=>(b6 z).cnt)=V at c6;cases c6 with
    |opn g g0 v a9=>grind
    |reg g d4 v a9=>omega
    |last z g v a9 i7 a0 i8=>omega
    |fin g v a9=>omega
    |AE g v a9=>omega
   have c6:=N.mode;generalize (sumTo Q.size λz=>(b6 z).cnt)=V at c6⊢
   cases c6 with
   |opn g g0 v a9=>simp_all
   |reg g d4 v a9=>omega
   |last z g v a9 i7 a0 i8=>omega
   |fin g v a9=>omega
   |AE g v a9=>omega
  .by_cases b9:z=Q.size
   .grind
   rw[old z b9]at S;rw[k2 z X Y L (by omega) a5];exact N.own z a3 L (by omega) S X Y a5
  .have L:=N.JP
   grind
  .have R:z<c.hi+1:=R;by_cases b9:z=Q.size
   .simp_all
   rw[old z b9];exact N.tu.2.2.2 z L (by omega)
  .by_cases b9:z=Q.size
   .refine⟨by have:=N.tu.2.1;simp_all,by simp_all⟩
   rw[old z b9]at S;obtain⟨h6,h7⟩:=N.Gs z a3 L (by omega) S;simp_all
  .obtain⟨q1,d3⟩:=N.gh.2 v W k0
   grind
  have j2:¬aA w T:=λH=>e8 ((df H P).trans e3);by_cases e5:d5 w
  .refine VC (VC ⟨Q.size,?_⟩);obtain⟨X,Y,a2,a5⟩:=e5;exact⟨X,Y,by have:=N.tu.2.1;simp_all,by simp_all,by simp_all,a5,m6 w ⟨X,Y,a2,a5⟩⟩
  rw[e9 w j2 e5];rcases N.JO w P with H|H|⟨z,X,Y,m1,m2,r1,r2,r3⟩
  .exact VA H
  .exact VC (VA H)
  grind
 cases n with
 |none=>
  intro z b8 f7;simp only[ZR,WQ]at f7;by_cases b9:z=Q.size
  .simp only[VV b9];rfl
  simp only[VK b9];exact h2 z b8 (by omega)
 |some a3=>obtain⟨q1,d3,m8,i1⟩:=h2;exact⟨q1,by simp;omega,by grind,i1⟩
end
end
variable{d:K}{e:VM}{g:VD Item}{n:VD VM}{z:VE Oper}{S:Exit->VQ->K->Prop}{s:VQ}{c:VQ}{v:E}{x:VD E}{r:Oper}{id:E}{j:E}{q:K}
section
variable[Inhabited aV]
def IP(z:VE Oper):E->VE VI->VD (VD E)
 |0,_=>[[]]
 |a+1,listed=>match Region.ready .any z listed with
  |[]=>[[]]
  |b::c=>(b::c).flatMap λv=>(IP z a (listed.setIfInBounds v J)).map (v::·)
theorem vi(z:VE Oper):∀(a b:E)(listed:VE VI),Region.linearise.go .any z a b listed []∈IP z a listed:=by
 intro a
 induction a with
 |zero=>simp[Region.linearise.go,IP]
 |succ a c=>
  intro b listed
  change (match(Region.ready .any z listed)[b%(Region.ready .any z listed).length]? with
   |some v=>Region.linearise.go .any z a (b/(Region.ready .any z listed).length) (listed.setIfInBounds v J) [v]
   |none=>[].reverse)∈_
  unfold IP
  grind [Nat.mod_lt,linearise_go_acc]
theorem wY{u:VI}(b:u=J)(z:VE Oper)(a:E):Region.schedule u z a∈IP z z.size (Array.replicate z.size Vz):=by subst b;exact vi z z.size a _
section
variable{main:VI}{p:Goal l f main m}
variable{t:Rt}
theorem qO{main:VI}{a:Wd}{i:E}{b:VE VJ}(H:z[v]?=C r)(O:Region.wanted r (yielded z c.tmps)=J)(U:e.kind≠.early)
 (L:r.op=.defer {callee:=.builtin .close,args:=#[a],argTypes:=b})(hd:r.dst=I)(P:c.eval a=.chan (C i)):
 ∃k,∀q,stepG l main (rg (e.at c (VP z (v::x)::g)) n) q=.go (rg (e.at ⟨c.tmps,cE b r.type i k::c.defers⟩ (VP z x::g)) n) q:=by
 refine⟨#[a].map λ|.const _=>J|_=>Vz,λq=>?_⟩
 have N:(execOp c.eval r).run l q=.ok (.defer (cE b r.type i (#[a].map λ|.const _=>J|_=>Vz))) q:=by simp only[L,resolve,cE,go_sem];simp[P];rfl
 have w:(execOp c.eval r).events l q #[]=#[]:=by simp_all [execOp,resolve]
 have y:(e.at ⟨c.tmps,cE b r.type i (#[a].map λ|.const _=>J|_=>Vz)::c.defers⟩ (VP z (v::x)::g)).finish F=e.at (Act.put ⟨c.tmps,cE b r.type i (#[a].map λ|.const _=>J|_=>Vz)::c.defers⟩ r.dst F) (VP z x::g):=by grind [Frame.finish_at]
 have D:(e.kind==CallKind.early)=Vz:=by simp_all
 have o:e.at ⟨c.tmps,cE b r.type i (#[a].map λ|.const _=>J|_=>Vz)::c.defers⟩ (VP z x::g)=(e.at ⟨c.tmps,cE b r.type i (#[a].map λ|.const _=>J|_=>Vz)::c.defers⟩ (VP z (v::x)::g)).finish F:=by rw[y,hd];rfl
 rw[o,show rg (e.at c (VP z (v::x)::g)) n=Go.Conc.G (e.at c (VP z (v::x)::g)) n from A,stepG_oper H O];simp[stepG.apply,N,w,Go.Conc.G,Frame.at,D,GStep.after,seen_none,rg]
end
def rR(l:VS)(f:Set)(a:VD E)(z:VE Oper):VI:=z.toList.all λr=>iW l f.fn f.bi f.cj r.op&&a.all λg=>r.dst !=C g
theorem qy{t:Rt}{a:VD E}(c:t.kn.map (·.1)=a)(b:rR l f a z=J):oe l f t z=J:=by grind [rR,oe,Rt.free]
section
variable{main:VI}{p:Goal l f main m}
variable{t:Rt}
theorem mz(k:Good l f)(o:f.fr e.fn=J)(q:e.kind≠.early){c:VD Oper}(u:oe l f t c.toArray=J){g:VQ->K->Prop}
 (v:∀i,wpList l c.toArray (gL g) c s {d with tape:=i})(r:∀b a,g b a->∀h,m h->a.heap[h]?=d.heap[h]?)(next:∀b a,g b a->S .normal b a):CW p e t n (.region id c.toArray Vz) S s d:=
 uL k o q u (λi=>by simp_all [ZN,wpOps_eq_wpList]) r next
theorem LC{w:Code}{o:VQ->K->Prop}(O:CW p e t n w (gL o) s d)(D:Inv l f m h d)(P:aw f h t s c)
 (next:∀b i k a,Inv l f m b a->cW m h d b a->aw f b t i k->o i a->p.G b a (rg (e.at k g) n)):p.G h d (rg (e.at c (.code w::g)) n):=
 O h g c D P λL b i k a H N Q y=>by
   cases L with
   |normal=>exact next b i k a H N Q y
   |_=>exact y.elim
theorem bw{a b:Code}(f:p.G h d (rg (e.at c (.code a::.code b::g)) n)):p.G h d (rg (e.at c (.code (.seq a b)::g)) n):=
 p.pure A rfl (λq=>by rfl) f
theorem ia{a:Code}(b:p.G h d (rg (e.at c (.code a::.inBlock id::g)) n)):p.G h d (rg (e.at c (.code (.block id a)::g)) n):=
 p.pure A rfl (λq=>by rfl) b
theorem AX(a:p.G h d (rg (e.at c g) n)):p.G h d (rg (e.at c (.inBlock id::g)) n):=
 p.pure A rfl (λq=>by rfl) a
theorem LD{a:Code}(b:p.G h d (rg (e.at c (.code a::.inLoop a::g)) n)):p.G h d (rg (e.at c (.code (.loop a)::g)) n):=
 p.pure A rfl (λq=>by rfl) b
theorem Gc{a:Code}(b:p.G h d (rg (e.at c (.code a::.inLoop a::g)) n)):p.G h d (rg (e.at c (.inLoop a::g)) n):=
 p.pure A rfl (λq=>by rfl) b
theorem rJ(a:p.G h d (rg (e.at c g) n)):p.G h d (rg (e.at c (.code .skip::g)) n):=
 p.pure A rfl (λq=>by rfl) a
theorem rI{a:VD Item}(i:exitTo id g=C a)(b:p.G h d (rg (e.at c a) n)):p.G h d (rg (e.at c (.code (.exit id)::g)) n):=
 p.pure A rfl (λq=>by rw[be A];simp[stepG.exec,Frame.at,rg,i]) b
theorem iI{a:Wd}{b i:Code}{k:VI}(w:c.eval a=.bool k)(o:p.G h d (rg (e.at c (.code (if k then b else i)::g)) n)):p.G h d (rg (e.at c (.code (.cond a b i)::g)) n):=
 p.pure A rfl (λq=>by
  have y:=VM.eval_at e c (.code (.cond a b i)::g) a;rw[be A]
  simp_all [stepG.exec,Frame.at,rg]) o
theorem iJ{a:Wd}{d:VI}(e:Base l h)(k:aw f h t s c)(i:dG l f.fn a=J)(g:s.eval a=.bool d):c.eval a=.bool d:=by have b:=ln e k.tmps s.defers c.defers a i;rw[g]at b;generalize c.eval a=m at b;cases b;rfl
theorem eB(a:p.G h d (rg (e.at c (VP z (VD.range z.size)::g)) n)):p.G h d (rg (e.at c (.code (.region id z Vz)::g)) n):=
 p.pure A rfl (λq=>by rfl) a
theorem bO(a:p.G h d (rg (e.at c g) n)):p.G h d (rg (e.at c (VP z []::g)) n):=
 p.pure A rfl (λq=>iM) a
theorem QN(D:l.follows .mixedOrders=J){i:VD (VD E)}(y:IP z z.size (Array.replicate z.size Vz)=i)(b:∀H∈i,p.G h d (rg (e.at c (VP z H::g)) n)):p.G h d (rg (e.at c (.code (.region id z J)::g)) n):=by
 refine p.Po A (.step A (λ_ N L w=>wu l f main m (λh d k=>k.status=.running/\p.G h d k) N L w) (λq a=>?_) (λ_ _ _ _ b=>b))
 have o:stepG l main (rg (e.at c (.code (.region id z J)::g)) n) q=.go (rg (e.at c (.inRegion z (Region.schedule (l.follows .mixedOrders) z (q.tape q.drawn (.order e.fn id)))::g)) n) {q with drawn:=q.drawn+1}:=by rfl
 refine⟨_,h,d,_,[],[],o,?_,λ_ _=>rfl,by simp,A,.stop ⟨A,b _ (y▸wY D z _)⟩⟩;exact{bD.refl a with rel:=⟨a.inj,a.obj,a.os⟩}
end
section
variable{main:VI}
variable{t:Rt}
theorem oT(P:Good l f)(a1:f.fr e.fn=J)(a3:e.kind≠.early)(a5:z[v]?=C r)(b0:Region.wanted r (yielded z s.tmps)=J)(a6:iW l f.fn f.bi f.cj r.op=J)(a0:t.free r.dst=J)(Q:Inv l f m h d)(H:aw f h t s c)
 (hd:r.dst=C j){N V:Vx}(a4:∀L,uf (λw O=>w=N/\O.heap=d.heap) ((execOp s.eval r).run l {d with tape:=L}))(a7:(execOp c.eval r).run l q=.ok (.value V) q)(b5:j<c.tmps.size)(Z:aU f h d q):
 ∃i a new k,stepG l main (rg (e.at c (VP z (v::x)::g)) n) q=.go (rg (e.at (c.put r.dst V) (VP z x::g)) n) q (kept k).toArray/\
  bD f h i d a q q new k/\(∀b,m b->a.heap[b]?=d.heap[b]?)/\(∀o∈new,o.write=J->∀s,m s->o.loc≠.obj s/\∀b,o.loc=.cell b->b.block≠s)/\Inv l f m i a/\cW m h d i a/\a.heap=d.heap/\aw f i ⟨t.d0,(j,V)::t.kn⟩ (s.put r.dst N) (c.put r.dst V):=by
 obtain⟨i,w,b4,a,T,new,k,U,W,b3,b1,b2,R,y,a9,Y⟩:=OU (main:=main) (s:=g) (r:=n) (t:=x) P a1 a3 a5 b0 a6 Q H a4 (λw O X b _=>by rw[X.2]) Z;have D:(execOp c.eval r).run l q=.ok (.value b4) T:=by rw[<-H_ l _ q #[],W]
 rw[a7]at D;cases D;obtain⟨L,a8,a2⟩:=Y.one;subst a8;refine⟨i,a,new,k,U,b3,b1,b2,R,y,a2,((H.mono y.le).put r.dst a0 a9).more ?_⟩;simp_all [Act.put]
theorem MC{a:PD}{t:Rt}(N:Good l f)(X:f.fr e.fn=J)(a0:e.kind≠.early)(a2:z[v]?=C r)(a5:Region.wanted r (yielded z s.tmps)=J)(a3:iW l f.fn f.bi f.cj r.op=J)(W:t.free r.dst=J)(O:Inv l f m h d)(y:aw f h t s c)
 (hd:r.dst=C j){L:Vx}(a1:∀a9,uf (λb1 b2=>b1=L/\b2.heap=d.heap) ((execOp s.eval r).run l {d with tape:=a9}))(a4:∀q o k,q.heap[a.bx]?=C (VH #[.chan (C a.rc)] o k)->(execOp c.eval r).run l q=.ok (.value (.chan (C a.rc))) q)(Z:j<s.tmps.size)
 (next:∀i w b,Inv l f m i b->cW m h d i b->b.heap=d.heap->aw f i ⟨t.d0,(j,.chan (C a.rc))::t.kn⟩ (s.put (C j) L) w->(fP l a f m u).G i b (rg (e.at w (VP z x::g)) n)):(fP l a f m u).G h d (rg (e.at c (VP z (v::x)::g)) n):=by
 refine vJ A λq T R=>?_;obtain⟨o,k,U⟩:=R;obtain⟨i,b,new,a8,H,b0,a6,a7,P,Q,Y,D⟩:=oT (main:=Vz) (g:=g) (n:=n) (x:=x) N X a0 a2 a5 a3 W O y hd a1 (a4 q o k U) (by rw[<-y.tmps.1];exact Z) T;rw[hd]at D H;exact⟨_,i,b,q,new,a8,H,b0,a6,a7,A,next _ _ _ P Q Y D⟩
theorem aw.Lq{e:VD (E×Vx)}{b:Deferred}(a:aw f h ⟨[],e⟩ s c)(hd:s.defers=[]):aw f h ⟨[b],e⟩ s ⟨c.tmps,b::c.defers⟩:=by obtain⟨g,i,d⟩:=a.defers;rw[hd]at d;cases d;refine⟨a.tmps,⟨[],?_,by rw[hd];exact .nil⟩,a.kn⟩;simp_all
theorem wG{p:Goal l f main m}{q:Wd}{o:E}{b:VE VJ}{k:VD (E×Vx)}(w:e.kind≠.early)(y:z[v]?=C r)(L:Region.wanted r (yielded z c.tmps)=J)
 (D:r.op=.defer {callee:=.builtin .close,args:=#[q],argTypes:=b})(hd:r.dst=I)(N:c.eval q=.chan (C o))(H:aw f h ⟨[],k⟩ s c)(u:s.defers=[])
 (next:∀a i,aw f h ⟨[cE b r.type o a],k⟩ s i->p.G h d (rg (e.at i (VP z x::g)) n)):p.G h d (rg (e.at c (VP z (v::x)::g)) n):=by
 obtain⟨a,t⟩:=qO (l:=l) (main:=main) (g:=g) (n:=n) (x:=x) y L w D hd N;exact Goal.pure _ A rfl t (next a _ (H.Lq u))
theorem bX{p:Goal l f main m}{t:Rt}(L:Good l f)(P:f.fr e.fn=J)(Q:e.kind≠.early){k:VD Oper}{H:VD E}(T:t.kn.map (·.1)=H)(U:rR l f H k.toArray=J)(N:Inv l f m h d)(W:aw f h t s c)(w:VQ->K->Prop)
 (O:∀b:K,b.heap=d.heap->b.drawn=d.drawn->b.os=d.os->b.output=d.output->wpList l k.toArray (gL w) k s b)(R:∀i a,w i a->∀y,m y->a.heap[y]?=d.heap[y]?)
 (next:∀o i D a,Inv l f m o a->cW m h d o a->aw f o t i D->w i a->p.G o a (rg (e.at D g) n)):p.G h d (rg (e.at c (.code (.region id k.toArray Vz)::g)) n):=
 LC (mz L P Q (qy T U) (λY=>O _ A rfl rfl rfl) R λ_ _ X=>X) N W next
theorem IX{i:PD}{a:Code}(k:E->Ren->K->VQ->Prop)
 (round:∀u,(∀h d c,k u h d c->(fP l i f m u).G h d (rg (e.at c (.inLoop a::g)) n))->∀h d c,k (u+1) h d c->(fP l i f m (u+1)).G h d (rg (e.at c (.code a::.inLoop a::g)) n))
 (last:∀h d c,k 0 h d c->(fP l i f m 0).G h d (rg (e.at c (.code a::.inLoop a::g)) n)):∀(b:E) h d c,k b h d c->(fP l i f m b).G h d (rg (e.at c (.code (.loop a)::g)) n):=by
 have q:∀(b:E) h d c,k b h d c->(fP l i f m b).G h d (rg (e.at c (.code a::.inLoop a::g)) n):=by
  intro b
  induction b with
  |zero=>exact last
  |succ u p=>exact round u λh d c o=>Gc (p h d c o)
 simp_all [LD]
def bM(z:VE Oper)(v:E)(a:VL Tmp)(b:Op):Prop:=∃r,z[v]?=C r/\r.dst=a/\r.op=b/\r.guard=I
theorem uW{p:Goal l f main m}{t:Rt}{L:VL Tmp}{R:Op}(X:Good l f)(a2:f.fr e.fn=J)(a3:e.kind≠.early)(a6:bM z v L R)
 {W:VD E}(a5:t.kn.map (·.1)=W)(a7:iW l f.fn f.bi f.cj R=J)(b9:(W.all λg=>L !=C g)=J)(Y:Inv l f m h d)(a8:aw f h t s c)(o:VQ->K->Prop)
 (O:∀D:K,D.heap=d.heap->D.drawn=d.drawn->D.os=d.os->D.output=d.output->∀U T N,(⟨L,R,U,T,N,I⟩:Oper).wp l s D o (gL λ_ _=>False))(a4:∀b a,o b a->∀H,m H->a.heap[H]?=d.heap[H]?)
 (next:∀i b w a,Inv l f m i a->cW m h d i a->aw f i t b w->o b a->p.G i a (rg (e.at w (VP z x::g)) n)):p.G h d (rg (e.at c (VP z (v::x)::g)) n):=by
 obtain⟨⟨b7,c0,U,T,N,b8⟩,P,Q,a0,a1⟩:=a6;subst Q a0 a1 a5;refine FW X p a2 a3 P A a7 (by grind [Rt.free]) Y a8 (T:=o) (a2:=λ_ _=>False) (.all λk=>O {d with tape:=k} A rfl rfl rfl U T N) ?_ ?_
 .intro i b w a b6 _ _ _ _ y;obtain⟨k,y⟩:=y.one;exact⟨{a with tape:=k},⟨λs O=>O,λ_ e r P Q=>⟨r,P,Q⟩⟩,λH a9=>a4 _ _ y H a9⟩
 intro i b w a Z q1 b0 b1 b2 b3 b4;obtain⟨k,y⟩:=b4.one;exact p.tape (next i b w {a with tape:=k} (Z.tape k) ⟨q1,b0,b1,b2⟩ b3 y)
end
end
variable{a:E}
theorem FP:∀(b:VD VI)(a:E),b[a]?=C Vz->((b.set a J).filter (!·)).length+1=(b.filter (!·)).length
 |[],a,c=>by simp at c
 |d::b,0,c=>by simp_all
 |d::b,a+1,c=>by have:=FP b a (by simpa using c);cases d<;>simp[VD.set_cons_succ]at this⊢<;>omega
theorem Ay:∀(d:VD VI),(d.filter (!·)).length=0->∀(a:E)(c:VI),d[a]?=C c->c=J
 |[],_,a,c,b=>by simp at b
 |f::d,e,a,c,b=>by
  cases f with
  |false=>simp at e
  |true=>
   cases a with
   |zero=>simp at b;exact b
   |succ a=>exact Ay d (by simpa using e) a c (by simpa using b)
def AF(z:VE Oper):VI:=(VD.range z.size).all λa=>((z[a]?).map λc=>c.after.all λb=>!Region.binds .any b||decide (b.on<a)).getD Vz
theorem kY{b:VE VI}:a∈Region.ready .any z b↔a<z.size/\b.getD a J=Vz/\∃d,z[a]?=C d/\∀c∈d.after,Region.binds .any c=J->b.getD c.on Vz=J:=by
 unfold Region.ready
 grind [Array.all_eq_true_iff_forall_mem]
theorem KC(hd:AF z=J){b:VE VI}(k:b.size=z.size)(i:Region.ready .any z b=[]):∀a,a<z.size->b.getD a Vz=J:=by
 intro a
 induction a using E.strongRecOn with
 |_ a h=>
  intro c;apply Classical.byContradiction;intro e;have:a∈Region.ready .any z b:=by
   refine kY.2 ⟨c,?_,z[a],Wj c,λd g f=>?_⟩
   .rw[WB,Wj (by omega)]at e⊢
    simpa using e
   unfold AF at hd;rw[Xn]at hd;have:=hd a (d_.2 c);rw[Wj c]at this;simp only[Xp,Xw]at this;rw[YG]at this;have:=this d g;rw[f]at this;simp at this;exact h d.on this (by omega)
  simp_all
variable{n:VS}{x:Vx}{O:VE Wa}{s:VE Vx}{r:VM}{e:VQ}{u:VD VM}{p:E}{y:VD E}{l:Oper}{t:VQ}
section
variable[Inhabited aV]
def vy:Vx->VI
 |.agg _|.tuple _=>Vz
 |_=>J
theorem ti{t:VT}(a:vy x=J){i:Vx}(b:q.cell? t=C i)(c:q.frozen? t=Vz):
 (store t x).runT n q O=(.ok () (q.setCell t x),O.push ⟨.cell t,J,Vz⟩):=by
 unfold store;cases x<;>first|(cases a;done)|(simp[VR.runT,b,c];rfl)
def wP(s:VE Vx)(l:E):VD Vx->VE Vx
 |[]=>s
 |x::a=>wP (s.setIfInBounds l x) (l+1) a
theorem xZ:∀(a:VD Vx)(s:VE Vx)(l:E),(wP s l a).size=s.size
 |[],_,_=>rfl
 |x::b,s,l=>by unfold wP;rw[xZ];simp
theorem vC:∀(a:VD Vx)(s:VE Vx)(l g:E),g<l\/l+a.length<=g->(wP s l a)[g]?=s[g]?
 |[],_,_,_,_=>rfl
 |x::b,s,l,g,c=>by unfold wP;rw[vC b _ _ _ (by grind),Array.getElem?_setIfInBounds,if_neg (by grind)]
theorem Gz:∀(b:VD Vx)(s:VE Vx)(l g:E),l+b.length<=s.size->g<b.length->(wP s l b)[l+g]?=b[g]?
 |[],_,_,_,_,a=>by simp at a
 |x::c,s,l,0,a,_=>by
  grind [wP,vC]
 |x::c,s,l,g+1,a,d=>by
  unfold wP;have:=Gz c (s.setIfInBounds l x) (l+1) g (by simp at a⊢;omega) (by simpa using d)
  grind
theorem oK{a l:E}{c:VJ}{b:E×E}(d:q.heap[a]?=C (VH s c b)):
 (q.setCell ⟨a,l,I⟩ x).heap[a]?=C (VH (s.setIfInBounds l x) c b):=by
 simp[K.setCell,XH,d]
theorem lV{n:VS}{a:E}{H:VJ}{i:E×E}(U:i.1=i.2):∀(c:VD Vx)(l p:E)(q:K)(s:VE Vx)(O:VE Wa),(∀w∈c,vy w=J)->q.heap[a]?=C (VH s H i)->l+p+c.length<=s.size->
 ∃b new,(storeCells ⟨a,l,I⟩ c p).runT n q O=(.ok () b,O++new)/\(b.os=q.os/\b.output=q.output)/\b.heap.size=q.heap.size/\(∀r,r≠a->b.heap[r]?=q.heap[r]?)/\b.heap[a]?=C (VH (wP s (l+p) c) H i)/\
  ∀o∈new,∃g,g<c.length/\o=⟨.cell ⟨a,l+p+g,I⟩,J,Vz⟩
 |[],l,p,q,s,O,_,v,_=>⟨q,#[],by rfl,⟨A,A⟩,A,λ_ _=>rfl,v,by simp⟩
 |x::W,l,p,q,s,O,D,v,a2=>by
  have a3:l+p<s.size:=by grind
  have R:q.cell? ⟨a,l+p,I⟩=C s[l+p]:=by simp_all [K.cell?]
  have S:q.frozen? ⟨a,l+p,I⟩=Vz:=by simp_all [K.frozen?]
  have a4:=ti (n:=n) (O:=O) (D x (by simp)) R S;obtain⟨b,new,X,L,Y,Z,N,P⟩:=lV (n:=n) U W l (p+1) (q.setCell ⟨a,l+p,I⟩ x) (s.setIfInBounds (l+p) x) (O.push ⟨.cell ⟨a,l+p,I⟩,J,Vz⟩) (λw T=>D w (WU _ T)) (oK v) (by grind);refine⟨b,#[⟨.cell ⟨a,l+p,I⟩,J,Vz⟩]++new,?_,L,?_,λr a0=>?_,N,?_⟩
  .have Q:Addr.add ⟨a,l,I⟩ p=⟨a,l+p,I⟩:=by simp[Addr.add]
   simp only[storeCells,Q];simp_all
  .simp_all
  .simp_all [K.setCell,XH,Xu]
  intro o k;rcases VE.mem_append.1 k with k|k
  .simp_all
  obtain⟨g,a1,rfl⟩:=P o k;exact⟨g+1,by simp_all,by grind⟩
theorem seen_cells{fn:Wc}(i:∀b,n.funcs[fn]?=C b->b.norace=Vz)(o:∀a∈O,∀d,a.loc≠.mark d):seen n fn O=O:=by
 have p:(n.funcs[fn]?).any (·.norace)=Vz:=by
  cases g:n.funcs[fn]? with
  |none=>rfl
  |some b=>simpa using i b g
 have q:∀(c:VD Wa)(kept:VE Wa),(∀a∈c,∀d,a.loc≠.mark d)->c.foldl (seenStep λb=>(n.funcs[b]?).any (·.norace)) (Vz,kept)=(Vz,kept++c.toArray):=by
  intro c
  induction c with
  |nil=>intro kept _;simp
  |cons a c l=>
   intro kept e
   have f:seenStep (λb=>(n.funcs[b]?).any (·.norace)) (Vz,kept) a=(Vz,kept.push a):=by unfold seenStep;have:=e a (by simp);cases h:a.loc<;>first|exact absurd h (this _)|simp
   rw[Yo,f,l _ λm k=>e m (WU _ k)];simp
 simp_all [seen_def]
section
variable{main:VI}
theorem Cp{k:VJ}{w S:Wd}{c i:E}{b:VD Vx}{R:VJ}{v:E×E}(a8:z[p]?=C l)(b3:Region.wanted l (yielded z e.tmps)=J)(a4:r.kind≠.early)(a9:l.op=.store k w S)(hd:l.dst=I)
 (b4:e.eval w=VW (C ⟨c,i,I⟩))(b5:e.eval S=x)(P:x.cells.toList=b)(a7:∀fn,n.funcs[r.fn]?=C fn->fn.norace=Vz)(b1:∀q O,(Go.sizeOf k).runT n q O=(.ok b.length q,O))(a0:∀w∈b,vy w=J)
 (b6:v.1=v.2)(a3:q.heap[c]?=C (VH s R v))(b9:i+b.length<=s.size):
 ∃a O,stepG n main (rg (r.at e (VP z (p::y)::g)) u) q=.go (rg (r.at e (VP z y::g)) u) a O/\(a.os=q.os/\a.output=q.output)/\a.heap.size=q.heap.size/\(∀r,r≠c->a.heap[r]?=q.heap[r]?)/\a.heap[c]?=C (VH (wP s i b) R v)/\
  ∀o∈O,∃g,g<b.length/\o=⟨.cell ⟨c,i+g,I⟩,J,Vz⟩:=by
 obtain⟨a,new,U,W,X,Y,Z,L⟩:=lV (n:=n) b6 b i 0 q s #[] a0 a3 (by omega)
 have b0:(execOp e.eval l).runT n q #[]=(.ok .skip a,new):=by
  unfold execOp;rw[a9];simp only[b4,b5]
  have T:(Instr.storeAt k (VW (C ⟨c,i,I⟩)) x)=(Go.sizeOf k).bind λb7=>if x.cells.size≠b7 then stuck "storeVar: the value has not the size of the variable"else storeCells ⟨c,i,I⟩ b:=by subst P;rfl
  show((Instr.storeAt k (VW (C ⟨c,i,I⟩)) x).bind λ_=>(Sem.pure Next.skip:VR Next)).runT n q #[]=_;have b2:x.cells.size=b.length:=by rw[<-P];simp
  rw[Zt,T,Zt,b1];simp only;rw[VK (by simp[b2]),U];simp[VR.runT]
 have a6:∀o∈new,∀Q,o.loc≠.mark Q:=λo a2 Q a5=>by obtain⟨g,_,rfl⟩:=L o a2;cases a5
 refine⟨a,new,?_,W,X,Y,by simpa using Z,by simpa using L⟩;obtain⟨H,D⟩:=e;obtain⟨b8,a1,N⟩:=fL (c:=n) (r.at ⟨H,D⟩ (VP z (p::y)::g)) u (execOp (Act.eval ⟨H,D⟩) l) q;rw[ji a8 b3,a1];rw[b0]at N⊢
 rw[N a4 trivial];simp only[eN,stepG.apply,VR.runT,Wv,Xy,aX,aN,rg,GStep.after];rw[show(r.at ⟨H,D⟩ (VP z (p::y)::g)).fn=r.fn from A,seen_cells a7 a6];simp_all [Xl,Act.put]
end
section
variable{main:VI}
theorem AW{v:Goal n f main m}{x:Rt}{w:VL Tmp}{O:Op}(S:Good n f)(Z:f.fr r.fn=J)(a0:r.kind≠.early)(a2:bM z p w O)
 (a3:iW n f.fn f.bi f.cj O=J)(Y:x.free w=J)(T:Inv n f m h d)(a4:aw f h x t e)(k:VQ->K->Prop)
 (H:∀R:K,R.heap=d.heap->∀Q P D,(⟨w,O,Q,P,D,I⟩:Oper).wp n t R k (gL λ_ _=>False))(a1:∀b a,k b a->∀s,m s->a.heap[s]?=d.heap[s]?)
 (next:∀c b o a,Inv n f m c a->cW m h d c a->aw f c x b o->k b a->v.G c a (rg (r.at o (VP z y::g)) u)):v.G h d (rg (r.at e (VP z (p::y)::g)) u):=by
 obtain⟨⟨b3,b5,Q,P,D,b4⟩,L,N,W,X⟩:=a2;subst N W X;refine FW S v Z a0 L A a3 Y T a4 (T:=k) (a2:=λ_ _=>False) (.all λi=>H {d with tape:=i} A Q P D) ?_ ?_
 .intro c b o a b2 _ _ _ _ q;obtain⟨i,q⟩:=q.one;exact⟨{a with tape:=i},⟨λt H=>H,λ_ r l L N=>⟨l,L,N⟩⟩,λs a5=>a1 _ _ q s a5⟩
 intro c b o a U q1 a6 a7 a8 a9 b0;obtain⟨i,q⟩:=b0.one;exact v.tape (next c b o {a with tape:=i} (U.tape i) ⟨q1,a6,a7,a8⟩ a9 q)
theorem Ga{o:Goal n f main m}{b:Rt}{N:Op}(Y:r.kind≠.early)(a6:∀fn,n.funcs[r.fn]?=C fn->fn.norace=Vz)(Z:bM z p (C j) N)
 (W:b.free (C j)=J)(L:aw f h b t e)(X:j<t.tmps.size){a:Vx}(U:bN a)(a0:∀q k i c,(execOp e.eval ⟨C j,N,k,i,c,I⟩).runT n q #[]=(.ok (.value a) q,#[]))
 (next:∀v,aw f h ⟨b.d0,(j,a)::b.kn⟩ (t.put (C j) F) v->o.G h d (rg (r.at v (VP z y::g)) u)):o.G h d (rg (r.at e (VP z (p::y)::g)) u):=by
 obtain⟨⟨a3,a1,k,i,c,a4⟩,D,R,S,T⟩:=Z;subst T;obtain rfl:=R;obtain rfl:=S;refine o.pure A rfl (g₁:=rg (r.at (e.put (C j) a) (VP z y::g)) u) (λq=>?_) (next _ ?_)
 .obtain⟨P,w⟩:=e;obtain⟨a2,Q,H⟩:=fL (c:=n) (r.at ⟨P,w⟩ (VP z (p::y)::g)) u (execOp (Act.eval ⟨P,w⟩) ⟨C j,a1,k,i,c,I⟩) q;rw[ji D A,Q];rw[a0 q k i c]at H⊢
  rw[H Y trivial];simp only[eN,stepG.apply,VR.runT,Wv,Xy,aX,aN,rg,GStep.after];simp[Xl,D,Act.put,aX]
 refine(L.put (C j) W (.bU U)).more ?_;simp[Act.put,<-L.tmps.1,X]
theorem pX{o:Type}{c:o->Goal n f main m}{s:Code}(b:E->o->Ren->K->VQ->Prop)
 (round:∀k,(∀a h d e,b k a h d e->(c a).G h d (rg (r.at e (.inLoop s::g)) u))->∀a h d e,b (k+1) a h d e->(c a).G h d (rg (r.at e (.code s::.inLoop s::g)) u))
 (last:∀a h d e,b 0 a h d e->(c a).G h d (rg (r.at e (.code s::.inLoop s::g)) u))(i:E){a:o}(v:b i a h d e):(c a).G h d (rg (r.at e (.code (.loop s)::g)) u):=by
 have D:∀(i:E) a h d e,b i a h d e->(c a).G h d (rg (r.at e (.code s::.inLoop s::g)) u):=by
  intro i
  induction i with
  |zero=>exact last
  |succ k w=>exact round k λa h d e v=>Gc (w a h d e v)
 grind [LD]
theorem Ge{Q:Type}{c:Q->Goal n f main m}(a3:n.follows .mixedOrders=J)(b1:AF z=J)(o:VE VI->Q->Ren->K->VQ->VQ->Prop)
 (step:∀a p y,a.size=z.size->p∈Region.ready .any z a->(∀b h d t e,o (a.setIfInBounds p J) b h d t e->(c b).G h d (rg (r.at e (VP z y::g)) u))->∀b h d t e,o a b h d t e->(c b).G h d (rg (r.at e (VP z (p::y)::g)) u))
 (fin:∀a,(∀p,p<z.size->a.getD p Vz=J)->∀b h d t e,o a b h d t e->(c b).G h d (rg (r.at e (VP z []::g)) u))
 {b:Q}(D:o (Array.replicate z.size Vz) b h d t e):(c b).G h d (rg (r.at e (.code (.region id z J)::g)) u):=by
 have a7:∀(k i:E)(a:VE VI) b(h:Ren)(d:K)(t e:VQ),a.size=z.size->(a.toList.filter (!·)).length<=k->o a b h d t e->(c b).G h d (rg (r.at e (VP z (Region.linearise.go .any z k i a [])::g)) u):=by
  intro k
  induction k with
  |zero=>
   intro i a b h d t e L W H;refine fin a (λp w=>?_) b h d t e H;have a2:p<a.size:=by omega
   rw[WB,Wj a2];exact Ay _ (E.le_zero.1 W) p _ (by simp)
  |succ k a6=>
   intro i a b h d t e L W H
   change (c b).G h d (rg (r.at e (.inRegion z (match(Region.ready .any z a)[i%(Region.ready .any z a).length]? with
    |some p=>Region.linearise.go .any z k (i/(Region.ready .any z a).length) (a.setIfInBounds p J) [p]
    |none=>[].reverse)::g)) u)
   cases w:(Region.ready .any z a)[i%(Region.ready .any z a).length]? with
   |none=>
    have b4:Region.ready .any z a=[]:=by
     cases a4:Region.ready .any z a with
     |nil=>rfl
     |cons b X=>rw[a4]at w;have b3:i%(b::X).length<(b::X).length:=ZZ _ (by simp);rw[f_]at w;omega
    grind [KC]
   |some p=>
    have U:=WG w;simp only[];rw[linearise_go_acc,VD.reverse_singleton,VD.singleton_append];refine step a p _ L U (λa8 P N Y Z a5=>a6 _ _ a8 P N Y Z (by simp[L]) ?_ a5) b h d t e H;obtain⟨b0,S,_⟩:=kY.1 U;have T:p<a.size:=by omega
    have b2:a.toList[p]?=C Vz:=by rw[XR,Wj T];rw[WB,Wj T]at S;simpa using S
    grind [FP]
 refine(c b).Po A (.step A (λ_ P N a1=>wu n f main m (λh d R=>R.status=.running/\(c b).G h d R) P N a1) (λq v=>?_) (λ_ _ _ _ D=>D))
 have a0:stepG n main (rg (r.at e (.code (.region id z J)::g)) u) q=.go (rg (r.at e (.inRegion z (Region.schedule (n.follows .mixedOrders) z (q.tape q.drawn (.order r.fn id)))::g)) u) {q with drawn:=q.drawn+1}:=by rfl
 refine⟨_,h,d,_,[],[],a0,?_,λ_ _=>rfl,by simp,A,.stop ⟨A,?_⟩⟩
 .exact{bD.refl v with rel:=⟨v.inj,v.obj,v.os⟩}
 simp only[Region.schedule,a3,VI.true_or,Wv];exact a7 z.size _ _ b h d t e (by simp) (by simp) D
theorem Si{L:K->Prop}{Stop:Ren->K->VO->Prop}{R:∀h(d:K) a N,Stop h {d with tape:=a} N->Stop h d N}{D:Rt}{H:Op}(U:Good n f)(a8:f.fr r.fn=J)(b1:r.kind≠.early)(b3:bM z p (C j) H)
 (b4:iW n f.fn f.bi f.cj H=J)(a7:D.free (C j)=J)(W:Inv n f m h d)(S:aw f h D t e){T w:Vx}{Q:E}(a4:∀q,L q->∃v o,q.heap[Q]?=C (VH #[w] v o))
 (b2:∀a c b c6,uf (λx c8=>x=T/\c8.heap=d.heap) ((execOp t.eval ⟨C j,H,a,c,b,I⟩).run n {d with tape:=c6}))(b5:∀q v o a c b,q.heap[Q]?=C (VH #[w] v o)->(execOp e.eval ⟨C j,H,a,c,b,I⟩).run n q=.ok (.value w) q)(b0:j<t.tmps.size)
 (next:∀k P i,Inv n f m k i->cW m h d k i->i.heap=d.heap->aw f k ⟨D.d0,(j,w)::D.kn⟩ (t.put (C j) T) P->(xF n f m L Stop R).G k i (rg (r.at P (VP z y::g)) u)):(xF n f m L Stop R).G h d (rg (r.at e (VP z (p::y)::g)) u):=by
 obtain⟨⟨c9,d0,a,c,b,N⟩,Z,a0,a1,a2⟩:=b3;subst a2;obtain rfl:=a0;obtain rfl:=a1;refine vJ A λq a5 a3=>?_;obtain⟨v,o,a6⟩:=a4 q a3;obtain⟨k,i,new,b9,c0,c7,b7,b8,X,Y,a9,b6⟩:=oT (main:=Vz) (g:=g) (n:=u) (x:=y) U a8 b1 Z A b4 a7 W S A (b2 a c b) (b5 q v o a c b a6) (by rw[<-S.tmps.1];exact b0) a5;exact⟨_,k,i,q,new,b9,c0,c7,b7,b8,A,next _ _ _ X Y a9 b6⟩
end
end
variable{a:VE Vx}{b:VS}
def ZV(a:Vx):Prop:=∀(b:Set)(c:Ren),an b c a a
def yD(a:VE Vx):Prop:=∀(b:Set)(c:Ren),ax b c a a
theorem ZV.cells{a:Vx}(c:ZV a):yD a.cells:=λb d=>dO (c b d)
theorem yD.agg{a:VE Vx}(c:yD a):ZV (.agg a):=λb d=>.agg A (c b d).2
theorem yD.append{c:VE Vx}(e:yD a)(f:yD c):yD (a++c):=λb d=>ax.append (e b d) (f b d)
theorem yD.nil:yD #[]:=λ_ _=>ax.nil
theorem yD.of(f:∀b∈a,ZV b):yD a:=λe g=>⟨A,λh b i c d=>by rw[c]at d;cases d;exact f b (WN c) e g⟩
theorem yD.mem(e:yD a):∀c∈a,ZV c:=λc f d h=>by obtain⟨g,b,rfl⟩:=Xt.1 f;exact(e d h).2 g _ _ (Wj b) (Wj b)
theorem xD{m g:Type}(i:m->g->VL (ForInStep g))(c:g->Prop)(step:∀h b e,c b->i h b=C e->c (match e with|.yield b=>b|.done b=>b)):∀(l:VD m)(d f:g),c d->forIn l d i=C f->c f
 |[],d,f,k,a=>by simp at a;subst a;exact k
 |h::l,d,f,k,a=>by
  rw[K_]at a;simp only[bind,Ww]at a;obtain⟨e,n,a⟩:=a;have:=step h d e k n;cases e with
  |done b=>simp[pure]at a;subst a;exact this
  |yield b=>exact xD i c step l b f this a
theorem Cu{i:VJ->VL TypeInfo}(s:∀x e f,i x=C e->e.zero=C f->ZV f){q:VE Field}{e:TypeInfo}{f:Vx}(d:Made.reckonStruct i q=C e)(v:e.zero=C f):ZV f:=by
 unfold Made.reckonStruct at d;simp only[bind,Ww,pure]at d;obtain⟨l,m,d⟩:=d;rw[<-YN]at m;have w:=xD _ (λg=>∀a,g.2.2.2.2.2.2.2.1=C a->yD a) (λp g y r b=>?_) _ _ _ (λa c=>by cases c;exact yD.nil) m
 .have fin:l.2.2.2.2.2.2.2.1.map Value.agg=e.zero:=by
   split at d<;>(cases d;rfl)
  rw[v]at fin;cases c:l.2.2.2.2.2.2.2.1 with
  |none=>rw[c]at fin;cases fin
  |some a=>rw[c]at fin;cases fin;exact(w a c).agg
 cases h:i p.type with
 |none=>rw[h]at b;cases b
 |some n=>
  rw[h]at b;simp only[XS]at b
  have leaf:∀a,(if g.2.1+n.size>Made.mostCells then I else g.2.2.2.2.2.2.2.1.bind λk=>n.zero.bind λo=>C (k++o.cells))=C a->yD a:=by
   intro a c;split at c
   .cases c
   simp only[Ww]at c;obtain⟨k,t,o,u,c⟩:=c;cases c;exact(r k t).append (s _ _ _ h u).cells
  split at b
  .cases b
  split at b
  .cases b
  split at b
  .split at b<;>(cases b;exact leaf)
  rw[Ww]at b;obtain⟨tag,_,b⟩:=b;split at b<;>(cases b;exact leaf)
theorem BR{k:VJ->VL TypeInfo}(h:∀o d e,k o=C d->d.zero=C e->ZV e){l:TypeDesc}{d:TypeInfo}{e:Vx}(a:Made.reckon k l=C d)(b:d.zero=C e):ZV e:=by
 unfold Made.reckon at a;split at a
 .simp only[bind,Ww,pure]at a;obtain⟨j,_,a⟩:=a;split at a
  .cases a
  .split at a
   .cases a
   rw[Ww]at a;obtain⟨_,_,a⟩:=a;cases a;cases b;exactλc f=>.cH
  rw[Ww]at a;obtain⟨_,_,a⟩:=a;cases a;cases b;exactλc f=>.cH
 .simp only[bind,Ww,pure]at a;obtain⟨_,_,_,_,a⟩:=a;cases a;cases b;exactλc f=>.aP _ _
 .simp only[bind,Ww,pure]at a;obtain⟨_,_,_,_,_,_,_,_,a⟩:=a;cases a;cases b;exactλc f=>.fq
 .simp only[bind,Ww,pure]at a;obtain⟨_,_,_,_,a⟩:=a;cases a;cases b;exactλc f=>.eh
 .simp only[bind,Ww,pure]at a;obtain⟨_,_,a⟩:=a;cases a;cases b;exactλc f=>.nilFunc
 .simp only[bind,Ww,pure]at a;obtain⟨j,m,_,_,a⟩:=a;cases a;dsimp only at b;split at b
  .cases b
  split at b
  .cases b;exact yD.nil.agg
  rw[Xf]at b;obtain⟨r,n,rfl⟩:=b;refine yD.agg (yD.of λp g=>?_);rw[VE.mem_flatten]at g;obtain⟨q,i,g⟩:=g;rw[VE.mem_replicate]at i;obtain⟨_,rfl⟩:=i;exact(h _ _ _ m n).cells.mem p g
 .exact Cu h a b
 cases a
theorem sM{g:Tables}(h:∀(d:E)(a:TypeInfo)(b:Vx),g.types[d]?=C a->a.zero=C b->ZV b):∀(e d:E)(a:TypeInfo)(b:Vx),Made.infoAt g e d=C a->a.zero=C b->ZV b
 |0,d,a,b,c,f=>by cases c
 |e+1,d,a,b,c,f=>by
  unfold Made.infoAt at c;split at c
  .exact h d a b c f
  rw[Ww]at c;obtain⟨i,_,c⟩:=c;exact BR (λd a b=>sM h e d a b) c f
theorem NF(f:∀(e:E)(a:TypeInfo)(c:Vx),b.types[e]?=C a->a.zero=C c->ZV c):iF b:=by
 intro e a c d g;unfold Tables.info? at d;split at d
 .exact f e a c d g
 exact sM f _ e a c d g
theorem my{fn:Wc->VI}:∀(d:E)(e:Vx),bK (λ_=>Vz) d e=J->bK fn d e=J
 |0,_,c=>by simp[bK]at c
 |d+1,e,c=>by
  have g:∀a:VE Vx,a.toList.all (bK (λ_=>Vz) d)=J->a.toList.all (bK fn d)=J:=λa f=>by
   rw[Xn]at f⊢
   exactλh k=>my d h (f h k)
  cases e with
  |bool l=>rfl
  |int m o=>rfl
  |string q=>rfl
  |pointer b=>cases b with
   |none=>rfl
   |some b=>simp[bK]at c
  |slice b n a=>cases b with
   |none=>rfl
   |some b=>simp[bK]at c
  |map b=>cases b with
   |none=>rfl
   |some b=>simp[bK]at c
  |chan b=>cases b with
   |none=>rfl
   |some b=>simp[bK]at c
  |nilFunc=>rfl
  |nilIface=>rfl
  |func i p a=>cases i<;>simp[bK]at c
  |iface r e=>exact my d e c
  |agg a=>exact g a c
  |tuple a=>exact g a c
  |_=>simp[bK]at c
def GQ(a:TypeInfo):VI:=(match a.desc with|.float _|.complex _=>Vz|_=>J)&&(match a.zero with|some b=>bK (λ_=>Vz) 8 b|none=>J)
theorem Nt:TP.types.toList.all GQ=J:=by decide+kernel
theorem GR{c:E}{a:TypeInfo}(b:TP.types[c]?=C a):GQ a=J:=by have:=Nt;rw[Xn]at this;exact this a (by rw[WW];exact WN b)
theorem Pw:iF TP:=NF λf e a b c d g=>by have:=GR b;unfold GQ at this;rw[c]at this;simp only[WH]at this;exact im 8 a (my 8 a this.2)
theorem Jc{e:VJ->VL TypeInfo}{d:TypeDesc}{c:TypeInfo}(a:Made.reckon e d=C c)(f:FloatKind):c.desc≠.complex f:=by
 unfold Made.reckon at a;split at a
 .simp only[bind,Ww,pure]at a;obtain⟨j,_,a⟩:=a;split at a
  .cases a
  .split at a
   .cases a
   rw[Ww]at a;obtain⟨_,_,a⟩:=a;cases a;intro b;cases b
  rw[Ww]at a;obtain⟨_,_,a⟩:=a;cases a;intro b;cases b
 .simp only[bind,Ww,pure]at a;obtain⟨_,_,_,_,a⟩:=a;cases a;intro b;cases b
 .simp only[bind,Ww,pure]at a;obtain⟨_,_,_,_,_,_,_,_,a⟩:=a;cases a;intro b;cases b
 .simp only[bind,Ww,pure]at a;obtain⟨_,_,_,_,a⟩:=a;cases a;intro b;cases b
 .simp only[bind,Ww,pure]at a;obtain⟨_,_,a⟩:=a;cases a;intro b;cases b
 .simp only[bind,Ww,pure]at a;obtain⟨j,h,_,_,a⟩:=a;cases a;intro b;cases b
 .unfold Made.reckonStruct at a;simp only[bind,Ww,pure]at a;obtain⟨g,_,a⟩:=a;split at a<;>(cases a;intro b;cases b)
 cases a
theorem GP{f:VJ}{d:TypeInfo}(a:TP.info? f=C d)(e:FloatKind):d.desc≠.float e/\d.desc≠.complex e:=by
 by_cases c:f<TP.types.size
 .have g:TP.types[f]?=C d:=by
   unfold Tables.info? at a;rwa [VV c]at a
  have:=GR g;unfold GQ at this;simp only[WH]at this;refine⟨λb=>?_,λb=>?_⟩<;>(rw[b]at this;simp at this)
 refine⟨λb=>?_,?_⟩
 .have:=Tables.info?_beyond c a;rw[b]at this;cases this
 unfold Tables.info? at a;rw[VK c]at a;unfold Made.depth Made.infoAt at a;rw[VK c,Ww]at a;obtain⟨h,_,a⟩:=a;exact Jc a e
theorem Fs:jO TP:=by
 intro g c;unfold VS.underlying;cases e:TP.info? g with
 |none=>simp
 |some h=>
  have d:=GP e c;split
  .constructor<;>
   .intro a;rw[Xf]at a;obtain⟨j,f,a⟩:=a;have b:=GP f c
    first|exact b.1 a|exact b.2 a
  .rename_i j _ a;cases a;simp only[ne_eq,Wz];exact d
  rename_i a;cases a
theorem Lu:Extern.findNext Tryz.f171=I/\Extern.find Tryz.f171=C (Extern.SlicesOverlaps.overlaps Tryz.f171.params Tryz.f171.resultTypes):=⟨by kernel_rfl,by kernel_rfl⟩
theorem Lv:Extern.findNext Tryz.f230=I/\Extern.find Tryz.f230=C Extern.BytealgCount.count:=⟨by kernel_rfl,by kernel_rfl⟩
theorem Lw:Extern.findNext Tryz.f248=I/\Extern.find Tryz.f248=C Extern.BytealgIndex.index:=⟨by kernel_rfl,by kernel_rfl⟩
theorem Lx:Extern.findNext Tryz.f256=I/\Extern.find Tryz.f256=C Extern.BytealgIndexByte.indexByte:=⟨by kernel_rfl,by kernel_rfl⟩
theorem Ly:Extern.findNext Tryz.f262=I/\Extern.find Tryz.f262=C Extern.AbiNoEscape.same:=⟨by kernel_rfl,by kernel_rfl⟩
theorem QL:Extern.findNext Tryz.f263=I/\Extern.find Tryz.f263=C (Extern.BytealgMakeNoZero.makeNoZero Tryz.f263.params Tryz.f263.resultTypes):=⟨by kernel_rfl,by kernel_rfl⟩
theorem yo:∀a,TP.globals.findIdx? (·.name== "internal/bytealg.MaxLen")=C a->0<a:=by
 have:TP.globals.findIdx? (·.name== "internal/bytealg.MaxLen")=C 1:=by decide+kernel
 simp_all
theorem Sc{a:E}(d:Fh.contains a=J){fn:Func}(b:TP.funcs[a]?=C fn):Extern.findNext fn=I/\∃c,Extern.find fn=C c/\kq TP f c:=by
 have e:a=171\/a=230\/a=248\/a=256\/a=262\/a=263:=by simpa[Fh]using d
 rcases e with rfl|rfl|rfl|rfl|rfl|rfl
 .cases b;exact⟨Lu.1,_,Lu.2,zH _ _⟩
 .cases b;exact⟨Lv.1,_,Lv.2,HH⟩
 .cases b;exact⟨Lw.1,_,Lw.2,Iy yo⟩
 .cases b;exact⟨Lx.1,_,Lx.2,wH⟩
 .cases b;exact⟨Ly.1,_,Ly.2,MU⟩
 grind [Tryz.func263,QL,vm]
noncomputable def Gr(a:E):VI:=match TP.funcs[a]? with|some fn=>!fn.norace|none=>J
theorem zi{b c:VD E}{cj:VI}(e:b.all (AU (setOf b c cj))=J)(q:c.all Gr=J)(r:b.all (λa=>c.contains a)=J)(l:TP.follows .rangeFuncRecover=J):Good TP (setOf b c cj) where
 tW:=Fs
 zero:=Pw
 code:=A
 bi:=A
 Tn:=l
 norace:=λa fn f d=>by grind [setOf,Gr]
 DH:=λa f=>by simp_all [setOf]
 maxLen:=yo
 funcs:=λa f=>by
  rw[Xn]at e;have:=e a (by simp_all [setOf]);unfold AU at this;cases d:TP.funcs[a]? with
  |none=>simp_all
  |some fn=>
   rw[d]at this;simp only[WH,VI.not_eq_true']at this;obtain⟨⟨_,m⟩,g⟩:=this;refine⟨fn,A,m,?_⟩;cases k:fn.body with
   |some n=>simp_all
   |none=>rw[k]at g;obtain⟨h,i⟩:=Sc g d;exact VC ⟨A,h,i⟩
theorem Fu:TP.follows .rangeFuncRecover=J:=by rfl
theorem ak:Good TP ar:=zi RU (by decide+kernel) (by decide+kernel) Fu
theorem eH:Good TP aL:=zi Pb (by rfl) (by rfl) Fu
theorem gO:Good TP aW:=zi look_ok (by decide+kernel) (by rfl) Fu
variable{T:Oper}{e:E->Prop}{u:E}{p:VD VM}{S:VD E}{f:VQ}
section
variable[Inhabited aV]
theorem gZ{w:Wd->Vx}{o:Wd}{a:E}{V:Vx}{X:VJ}{U:E×E}(l:T.op=.load 99 o)(a2:w o=VW (C ⟨a,0,I⟩))(W:q.heap[a]?=C (VH #[V] X U)):
 (execOp w T).run TP q=.ok (.value V) q:=by
 have a1:q.cell? ⟨a,0,I⟩=C V:=by simp[K.cell?,W]
 obtain⟨Z,a3,a5,a4,Y,a0⟩:=T;simp only at l;subst l;go_simp
theorem qT:TP.follows .mixedOrders=J:=by rfl
structure RV where
 al:VB
 kind:VB
 path:VX
 data:VX
 aF:VB
 flags:VB
 watch:VI
 oa:VL VT
 on:E
 oc:E
def RV.jF(g:RV):VE Vx:=#[Vy M g.al,Vy M g.kind,.string g.path,.string g.data,Vy M g.aF,Vy M g.flags,.bool g.watch,.slice g.oa g.on g.oc]
structure Qu(b:PD)(e:E->Prop)(m:K)(i n:E)(R:VL VT)(Q:E)(rq:E->RV):Prop where
 x5:e i
 x3:e n
 h5:∃l a,m.heap[i]?=C (VH #[F] l a)
 h3:∃l a,m.heap[n]?=C (VH #[.slice R b.n Q] l a)
 elem:∀c,c<b.n->∃o W U l a,R=C ⟨o,W,I⟩/\e o/\m.heap[o]?=C (VH U l a)/\∀j,j<8->U[W+c*8+j]?=(rq c).jF[j]?
 MG:∀c,c<b.n->∀d:K,(∀w,e w->d.heap[w]?=m.heap[w]?)->m.heap.size<=d.heap.size->Calls TP 38 #[Vy M c,.agg (rq c).jF] d λX Y=>X=VN (b.τ c)/\Below d.heap.size d Y
 only:∀c,c<b.n->fg b.sh (b.τ c)
 small:b.n<2^40
structure jP(e:E->Prop)(m:K)(k:E)(g:RV)(d:K):Prop where
 keep:∀o,e o->d.heap[o]?=m.heap[o]?
 size:m.heap.size<=d.heap.size
 box:d.heap[k]?=C (VH g.jF 31 (0,0))
 out:¬e k
theorem jP.same{m c:K}{k:E}{g:RV}(a:jP e m k g d)(b:c.heap=d.heap):jP e m k g c:=⟨by rw[b];exact a.keep,by rw[b];exact a.size,by rw[b];exact a.box,a.out⟩
section
variable{b:PD}{m:K}{i k c:E}{g:RV}{r:VD Item}{P:VD Deferred}{s y D H L N O t v x:Vx}
theorem fU(b0:bM z 0 (C 12) (.load 99 (.tmp 0))){o:E×E}{w:VJ}(a5:m.heap[i]?=C (VH #[F] w o))(b2:e i){b1 Y Z a0:Vx}(a1:Inv TP aL e h d)(U:jP e m k g d)
 (W:aw aL h ⟨P,[(0,VW (C ⟨b.bx,0,I⟩))]⟩ ⟨#[VW (C ⟨i,0,I⟩),s,Vy M c,VW (C ⟨k,0,I⟩),y,D,H,L,N,O,t,v,b1,Y,Z,a0,x],[]⟩ f)
 (next:∀l a n,Inv TP aL e l a->jP e m k g a->aw aL l ⟨P,[(12,.chan (C b.rc)),(0,VW (C ⟨b.bx,0,I⟩))]⟩ ⟨#[VW (C ⟨i,0,I⟩),s,Vy M c,VW (C ⟨k,0,I⟩),y,D,H,L,N,O,t,v,F,Y,Z,a0,x],[]⟩ n->(fP TP b aL e u).G l a (rg ((baseD 37).at n (VP z S::r)) p)):
 (fP TP b aL e u).G h d (rg ((baseD 37).at f (VP z (0::S)::r)) p):=by
 obtain⟨⟨b3,b7,X,b8,b4,b5⟩,a4,Q,R,T⟩:=b0;simp only at Q R T;subst Q R T
 have a3:f.eval (.tmp 0)=VW (C ⟨b.bx,0,I⟩):=by have:=W.kn (0,VW (C ⟨b.bx,0,I⟩)) (by simp);simp_all [Act.eval]
 have a8:d.heap[i]?=C (VH #[F] w o):=by rw[U.keep i b2];exact a5
 refine MC eH (by decide) (by decide) a4 A (show iW TP aL.fn aL.bi aL.cj (.load 99 (.tmp 0))=J by rfl) A a1 W (j:=12) A (L:=F) (λX=>by rw[gZ (q:={d with tape:=X}) A rfl a8];exact⟨A,A⟩)
  (λq w o a6=>gZ A a3 a6) (by simp) λl n a a2 b6 a7 a9=>next l a n a2 (U.same a7) a9
theorem fV(a9:bM z 1 (C 13) (.move (.tmp 2))){w:VD (E×Vx)}{a0:VD E}(a6:w.map (·.1)=a0)(a4:(a0.all λc=>C 13 !=C c)=J){U b0 W X:Vx}(a1:Inv TP aL e h d)(a5:jP e m k g d)
 (a7:aw aL h ⟨P,w⟩ ⟨#[VW (C ⟨i,0,I⟩),s,Vy M c,VW (C ⟨k,0,I⟩),y,D,H,L,N,O,t,v,U,b0,W,X,x],[]⟩ f)
 (next:∀l a o,Inv TP aL e l a->jP e m k g a->aw aL l ⟨P,w⟩ ⟨#[VW (C ⟨i,0,I⟩),s,Vy M c,VW (C ⟨k,0,I⟩),y,D,H,L,N,O,t,v,U,Vy M c,W,X,x],[]⟩ o->(fP TP b aL e u).G l a (rg ((baseD 37).at o (VP z S::r)) p)):
 (fP TP b aL e u).G h d (rg ((baseD 37).at f (VP z (1::S)::r)) p):=by
 refine uW eH (by decide) (by decide) a9 a6 (by decide) a4 a1 a7 (λY a=>Y=⟨#[VW (C ⟨i,0,I⟩),s,Vy M c,VW (C ⟨k,0,I⟩),y,D,H,L,N,O,t,v,U,Vy M c,W,X,x],[]⟩/\a.heap=d.heap) (λb5 b1 _ _ _ b4 b3 Z=>?_) (λY a a3 b6 _=>by rw[a3.2]) ?_
 .go_wp2
 rintro l _ o a a2 b2 a8⟨rfl,Z⟩;exact next l a o a2 (a5.same Z) a8
theorem iC(b2:bM z 2 (C 14) (.load 31 (.tmp 3))){W:VD (E×Vx)}{a5:VD E}(b0:W.map (·.1)=a5)(a9:(a5.all λc=>C 14 !=C c)=J){X Y c8 Z:Vx}(a1:Inv TP aL e h d)(U:jP e m k g d)
 (a4:aw aL h ⟨P,W⟩ ⟨#[VW (C ⟨i,0,I⟩),s,Vy M c,VW (C ⟨k,0,I⟩),y,D,H,L,N,O,t,v,X,Y,c8,Z,x],[]⟩ f)
 (next:∀l a o,Inv TP aL e l a->jP e m k g a->aw aL l ⟨P,W⟩ ⟨#[VW (C ⟨i,0,I⟩),s,Vy M c,VW (C ⟨k,0,I⟩),y,D,H,L,N,O,t,v,X,Y,.agg g.jF,Z,x],[]⟩ o->(fP TP b aL e u).G l a (rg ((baseD 37).at o (VP z S::r)) p)):
 (fP TP b aL e u).G h d (rg ((baseD 37).at f (VP z (2::S)::r)) p):=by
 refine uW eH (by decide) (by decide) b2 b0 (by decide) a9 a1 a4 (λa2 a=>a2=⟨#[VW (C ⟨i,0,I⟩),s,Vy M c,VW (C ⟨k,0,I⟩),y,D,H,L,N,O,t,v,X,Y,.agg g.jF,Z,x],[]⟩/\a.heap=d.heap) (λc9 a7 _ _ _ d6 d5 a3=>?_) (λa2 a a8 d7 _=>by rw[a8.2]) ?_
 .have w:=U.box;obtain⟨b6,b7,b8,b9,c0,c6,c7,b3,b5,b4⟩:=g;unfold RV.jF at w⊢
  rw[<-a7]at w
  have cell:∀j a0,#[Vy M b6,Vy M b7,.string b8,.string b9,Vy M c0,Vy M c6,.bool c7,.slice b3 b5 b4][j]?=C a0->c9.cell? ⟨k,j,I⟩=C a0:=λj a0 d4=>by simp_all [K.cell?]
  have d0:=cell 0 _ A;have c1:=cell 1 _ A;have c2:=cell 2 _ A;have c3:=cell 3 _ A;have c4:=cell 4 _ A;have c5:=cell 5 _ A;have d1:=cell 6 _ A;have d2:=cell 7 _ A;clear cell w U a4 next a1
  go_wp2
  rfl
 rintro l _ o a a6 d3 b1⟨rfl,a3⟩;exact next l a o a6 (U.same a3) b1
theorem fT(b5:bM z 3 (C 15) (.call {callee:=.value (.func 38),args:=#[.tmp 13,.tmp 14],argTypes:=#[3,31]}))(a7:∀d:K,(∀a,e a->d.heap[a]?=m.heap[a]?)->m.heap.size<=d.heap.size->Calls TP 38 #[Vy M c,.agg g.jF] d λo l=>o=VN (b.τ c)/\Below d.heap.size d l)
 {a2:VD (E×Vx)}{a9:VD E}(b3:a2.map (·.1)=a9)(b2:(a9.all λc=>C 15 !=C c)=J){a3 b6:Vx}(a0:Inv TP aL e h d)(w:jP e m k g d)
 (a8:aw aL h ⟨P,a2⟩ ⟨#[VW (C ⟨i,0,I⟩),s,Vy M c,VW (C ⟨k,0,I⟩),y,D,H,L,N,O,t,v,a3,Vy M c,.agg g.jF,b6,x],[]⟩ f)
 (next:∀X U Y,Inv TP aL e X U->jP e m k g U->aw aL X ⟨P,a2⟩ ⟨#[VW (C ⟨i,0,I⟩),s,Vy M c,VW (C ⟨k,0,I⟩),y,D,H,L,N,O,t,v,a3,Vy M c,.agg g.jF,b.τ c,x],[]⟩ Y->(fP TP b aL e u).G X U (rg ((baseD 37).at Y (VP z S::r)) p)):
 (fP TP b aL e u).G h d (rg ((baseD 37).at f (VP z (3::S)::r)) p):=by
 have Z:∀a,e a->a<d.heap.size:=λa Z=>by obtain⟨T,c6,_⟩:=a0.cY a Z;grind
 refine uW eH (by decide) (by decide) b5 b3 (by decide) b2 a0 a8 (λa4 U=>a4=⟨#[VW (C ⟨i,0,I⟩),s,Vy M c,VW (C ⟨k,0,I⟩),y,D,H,L,N,O,t,v,a3,Vy M c,.agg g.jF,b.τ c,x],[]⟩/\∃l,l.heap=d.heap/\Below l.heap.size l U) (λl a1 _ _ _ c9 c7 o=>?_) ?_ ?_
 .have a6:=a7 l (λa Z=>by rw[a1];exact w.keep a Z) (by rw[a1];exact w.size);generalize g.jF=c8 at a6⊢
  clear a7 w a8 next a0
  go_wp2_with (go_at_call 38;refine a6.mono ?_;rintro a1 d0⟨rfl,W⟩)
  grind
 .rintro a4 U⟨_,l,o,W⟩ a a5;rw[<-o];exact W.block a (by simp_all)
 rintro X _ Y U b0 c0 b4⟨rfl,l,o,W⟩;have b1:k<l.heap.size:=by rw[o];exact(Wh.1 w.box).1
 refine next X U Y b0 ⟨λa a5=>?_,?_,?_,w.out⟩ b4
 .rw[W.block a (by simp_all),o,w.keep a a5]
 .have:=W.size;have:=w.size;grind
 rw[W.block k b1,o];exact w.box
theorem fW(w:bM z 4 I (.send (.tmp 12) (.tmp 15)))(X:c+(u+1)=b.n)(Y:fg b.sh (b.τ c)){Q:Vx}(R:Inv TP aL e h d)
 (n:aw aL h ⟨P,[(12,.chan (C b.rc)),(0,VW (C ⟨b.bx,0,I⟩))]⟩ ⟨#[VW (C ⟨i,0,I⟩),s,Vy M c,VW (C ⟨k,0,I⟩),y,D,H,L,N,O,t,v,F,Vy M c,Q,b.τ c,x],[]⟩ f)
 (next:(fP TP b aL e u).G h d (rg ((baseD 37).at f (VP z []::r)) p)):
 (fP TP b aL e (u+1)).G h d (rg ((baseD 37).at f (VP z (4::[])::r)) p):=by
 obtain⟨⟨S,Z,a1,a0,T,U⟩,a,g,l,m⟩:=w;simp only at g l m;subst g l m
 have o:f.eval (.tmp 12)=.chan (C b.rc):=by have:=n.kn (12,.chan (C b.rc)) (by simp);simp_all [Act.eval]
 have W:an aL h (b.τ c) (f.eval (.tmp 15)):=n.tmps.getD 15 aY;refine .stop ⟨A,f.eval (.tmp 15),.tuple #[],λq _=>?_,?_,?_,?_⟩
 .exact Fo a A (by decide) A o
 .grind
 .grind
 have:Go.Conc.served (rg ((baseD 37).at f (VP z (4::[])::r)) p) F=rg ((baseD 37).at f (VP z []::r)) p:=by simp only[Go.Conc.served,rg,Xl,a];rfl
 rw[this];exact next
theorem MX(T:bM z 0 (C 12) (.load 99 (.tmp 0)))(w:bM z 1 (C 13) (.move (.tmp 2)))(Q:bM z 2 (C 14) (.load 31 (.tmp 3)))(R:bM z 3 (C 15) (.call {callee:=.value (.func 38),args:=#[.tmp 13,.tmp 14],argTypes:=#[3,31]}))(b2:bM z 4 I (.send (.tmp 12) (.tmp 15)))
 {a1:E×E}{a2:VJ}(S:m.heap[i]?=C (VH #[F] a2 a1))(U:e i)(q:∀d:K,(∀X,e X->d.heap[X]?=m.heap[X]?)->m.heap.size<=d.heap.size->Calls TP 38 #[Vy M c,.agg g.jF] d λa0 a6=>a0=VN (b.τ c)/\Below d.heap.size d a6)
 (b0:c+(u+1)=b.n)(b1:fg b.sh (b.τ c)){Z:VD E}(Y:Z∈[[0,1,2,3,4],[0,2,1,3,4],[1,0,2,3,4],[1,2,0,3,4],[1,2,3,0,4],[2,0,1,3,4],[2,1,0,3,4],[2,1,3,0,4]])
 {a3 a4 W a5:Vx}(a:Inv TP aL e h d)(l:jP e m k g d)
 (n:aw aL h ⟨P,[(0,VW (C ⟨b.bx,0,I⟩))]⟩ ⟨#[VW (C ⟨i,0,I⟩),s,Vy M c,VW (C ⟨k,0,I⟩),y,D,H,L,N,O,t,v,a3,a4,W,a5,x],[]⟩ f)
 (next:∀h d f W,Inv TP aL e h d->jP e m k g d->aw aL h ⟨P,[(12,.chan (C b.rc)),(0,VW (C ⟨b.bx,0,I⟩))]⟩ ⟨#[VW (C ⟨i,0,I⟩),s,Vy M c,VW (C ⟨k,0,I⟩),y,D,H,L,N,O,t,v,F,Vy M c,W,b.τ c,x],[]⟩ f->(fP TP b aL e u).G h d (rg ((baseD 37).at f (VP z []::r)) p)):
 (fP TP b aL e (u+1)).G h d (rg ((baseD 37).at f (VP z Z::r)) p):=by
 simp only[Wo,Wx,Xo]at Y;rcases Y with rfl|rfl|rfl|rfl|rfl|rfl|rfl|rfl
 .refine fU T S U a l n ?_;intro h d f a l n;refine fV w (a0:=[12,0]) A rfl a l n ?_;intro h d f a l n;refine iC Q (a5:=[12,0]) A rfl a l n ?_;intro h d f a l n;refine fT R q (a9:=[12,0]) A rfl a l n ?_;grind [fW]
 .refine fU T S U a l n ?_;intro h d f a l n;refine iC Q (a5:=[12,0]) A rfl a l n ?_;intro h d f a l n;refine fV w (a0:=[12,0]) A rfl a l n ?_;intro h d f a l n;refine fT R q (a9:=[12,0]) A rfl a l n ?_;grind [fW]
 .refine fV w (a0:=[0]) A rfl a l n ?_;intro h d f a l n;refine fU T S U a l n ?_;intro h d f a l n;refine iC Q (a5:=[12,0]) A rfl a l n ?_;intro h d f a l n;refine fT R q (a9:=[12,0]) A rfl a l n ?_;grind [fW]
 .refine fV w (a0:=[0]) A rfl a l n ?_;intro h d f a l n;refine iC Q (a5:=[0]) A rfl a l n ?_;intro h d f a l n;refine fU T S U a l n ?_;intro h d f a l n;refine fT R q (a9:=[12,0]) A rfl a l n ?_;grind [fW]
 .refine fV w (a0:=[0]) A rfl a l n ?_;intro h d f a l n;refine iC Q (a5:=[0]) A rfl a l n ?_;intro h d f a l n;refine fT R q (a9:=[0]) A rfl a l n ?_;grind [fU,fW]
 .refine iC Q (a5:=[0]) A rfl a l n ?_;intro h d f a l n;refine fU T S U a l n ?_;intro h d f a l n;refine fV w (a0:=[12,0]) A rfl a l n ?_;intro h d f a l n;refine fT R q (a9:=[12,0]) A rfl a l n ?_;grind [fW]
 .refine iC Q (a5:=[0]) A rfl a l n ?_;intro h d f a l n;refine fV w (a0:=[0]) A rfl a l n ?_;intro h d f a l n;refine fU T S U a l n ?_;intro h d f a l n;refine fT R q (a9:=[12,0]) A rfl a l n ?_;grind [fW]
 refine iC Q (a5:=[0]) A rfl a l n ?_;intro h d f a l n;refine fV w (a0:=[0]) A rfl a l n ?_;intro h d f a l n;refine fT R q (a9:=[0]) A rfl a l n ?_;grind [fU,fW]
end
section
variable{b:PD}{i n Q:E}{R:VL VT}{rq:E->RV}
abbrev Ep(b:PD)(P:VD Deferred):Rt:=⟨P,[(0,VW (C ⟨b.bx,0,I⟩))]⟩
theorem IY(l:Qu b e d i n R Q rq)(X:Inv TP aL e h d)(f4:h i b.bx){d5:Vx}(f2:an aL h (VW (C ⟨n,0,I⟩)) d5):
 jl TP aL e (Hf b) (iQ TP b aL e b.n) h d (born TP {target:=.fn (.func 37) #[VW (C ⟨b.bx,0,I⟩),d5],args:=#[]}):=by
 show(fP TP b aL e b.n).G h d _;refine Goal.pure _ A rfl (λq=>uD Tryz.func37 (by decide) A) ?_;rw[enter_atD _ Tryz.func37 A]
 simp only[Tryz.ntmps37,Xc,WO,XG,E.reduceAdd,E.reduceSub,Yk,
  Yl,YH,Yu,XN,Xe]
 have g4:=aY (f:=aL) (h:=h)
 have b6:aw aL h (Ep b []) ⟨#[VW (C ⟨i,0,I⟩),VW (C ⟨n,0,I⟩),F,F,F,F,F,F,F,F,F,F,F,F,F,F,F],[]⟩
  ⟨#[VW (C ⟨b.bx,0,I⟩),d5,F,F,F,F,F,F,F,F,F,F,F,F,F,F,F],[]⟩:=by
  refine⟨?_,⟨[],A,.nil⟩,by simp⟩;refine aZ.arr (.cons (.ptr ⟨f4,A,A⟩) (.cons f2 ?_))
  repeat (first|exact .nil|refine .cons g4 ?_)
 generalize (⟨#[VW (C ⟨b.bx,0,I⟩),d5,F,F,F,F,F,F,F,F,F,F,F,F,F,F,F],[]⟩:VQ)=f at b6⊢
 refine bw (eB ?_)
 have f1:f.eval (.tmp 0)=VW (C ⟨b.bx,0,I⟩):=by have:=b6.kn (0,VW (C ⟨b.bx,0,I⟩)) (by simp);simp_all [Act.eval]
 obtain⟨n0,l3,b4⟩:=l.h5
 refine MC eH (by decide) (by decide) A rfl (by rfl) A X b6 (j:=4) A (L:=F) (λe2=>by rw[gZ (q:={d with tape:=e2}) A rfl b4];exact⟨A,A⟩)
  (λq j0 l1 h8=>gZ A f1 h8) (by simp) λj6 g8 Y e5 h5 d6 e1=>?_
 have f3:g8.eval (.tmp 4)=.chan (C b.rc):=by have:=e1.kn (4,.chan (C b.rc)) (by simp);simp_all [Act.eval]
 refine wG (by decide) A rfl rfl rfl f3 e1 A λc8 g9 d2=>bO (bw ?_);replace d2:aw aL j6 (Ep b [cE #[99] 0 b.rc c8]) ⟨#[VW (C ⟨i,0,I⟩),VW (C ⟨n,0,I⟩),F,F,F,F,F,F,F,F,F,F,F,F,F,F,F],[]⟩ g9:=d2.less A (by simp);obtain⟨m9,l2,d0⟩:=l.h3;refine bX eH (by decide) (by decide) (H:=[0]) A (by rfl) e5 d2 (λo Y=>o=⟨#[VW (C ⟨i,0,I⟩),VW (C ⟨n,0,I⟩),F,F,F,.slice R b.n Q,Vy M b.n,Vy M 0,F,F,F,F,F,F,F,F,F],[]⟩/\Y.heap=d.heap) (λa2 w _ _ _=>?_) ?_ ?_
 .have l8:a2.cell? ⟨n,0,I⟩=C (.slice R b.n Q):=by simp_all [K.cell?]
  rw[d6]at w;clear b6 l d0 d6
  go_wp2
  exact⟨A,w⟩
 .simp_all
 rintro j7 _ h0 j2 e6 h6 a0⟨rfl,f7⟩
 refine ia (IX (λu h Y f=>∃(c:E)(c0 c6 a5 e3 c7 b8 b9 a7 a8 a1 a9 b0:Vx),c+u=b.n/\Inv TP aL e h Y/\(∀a,e a->Y.heap[a]?=d.heap[a]?)/\d.heap.size<=Y.heap.size/\
  aw aL h (Ep b [cE #[99] 0 b.rc c8]) ⟨#[VW (C ⟨i,0,I⟩),VW (C ⟨n,0,I⟩),c0,c6,a5,.slice R b.n Q,Vy M b.n,Vy M c,e3,c7,b8,b9,a7,a8,a1,a9,b0],[]⟩ f) ?_ ?_ b.n j7 j2 h0
  ⟨0,_,_,_,_,_,_,_,_,_,_,_,_,by omega,e6,λa U=>by rw[f7],by simp_all,a0⟩)
 .clear a0 e6 f7 d2 h6 e1 f3 d6 e5 h5 b6 f1 g4 f2 f4 X;rintro u d3 h Y f⟨c,c0,c6,a5,e3,c7,b8,b9,a7,a8,a1,a9,b0,b3,X,b2,d1,Z⟩;have g0:(c:VB)<b.n:=by omega
  have d8:c<b.n:=by omega
  have e0:=l.small;refine bw (bX eH (by decide) (by decide) (H:=[0]) A (by rfl) X Z (λo W=>o=⟨#[VW (C ⟨i,0,I⟩),VW (C ⟨n,0,I⟩),c0,c6,a5,.slice R b.n Q,Vy M b.n,Vy M c,.bool J,c7,b8,b9,a7,a8,a1,a9,b0],[]⟩/\W.heap=Y.heap) (λa2 w _ _ _=>?_) (λo W a6 a _=>by rw[a6.2]) ?_)
  .clear d3 b3 Z d0 b4 l X b2 d1 e0
   go_wp2
   exact⟨A,w⟩
  rintro j8 _ e8 b1 a3 e9 a0⟨rfl,d7⟩;refine bw (iI (k:=J) (iJ a3.base a0 (by decide) A) (rJ (bw (ia (bw ?_)))));obtain⟨a4,b7,g6,j1,h4,rfl,l6,h7,c9⟩:=l.elem c d8;obtain⟨⟨i3,i4,i5,i6,i7,i8,i9,i0,i2,i1⟩,g2⟩:∃g,rq c=g:=⟨_,A⟩;refine bX eH (by decide) (by decide) (H:=[0]) A (by rfl) a3 a0 (λo W=>o=⟨#[VW (C ⟨i,0,I⟩),VW (C ⟨n,0,I⟩),Vy M c,VW (C ⟨b1.heap.size,0,I⟩),a5,VG (C ⟨a4,b7,I⟩) b.n Q,Vy M b.n,Vy M c,.bool J,Vy M c,VW (C ⟨a4,b7+c*8,I⟩),.agg (rq c).jF,a7,a8,a1,a9,b0],[]⟩/\W.heap=b1.heap.push (.cells (rq c).jF 31 (0,0))) (λa2 w _ _ _=>?_) ?_ ?_
  .rw[g2]at c9⊢
   unfold RV.jF at c9⊢
   have f5:a2.heap[a4]?=C (VH g6 j1 h4):=by grind
   have l7:a4<a2.heap.size:=(Wh.1 f5).1
   have cell:∀j e4,j<8->#[Vy M i3,Vy M i4,.string i5,.string i6,Vy M i7,Vy M i8,.bool i9,.slice i0 i2 i1][j]?=C e4->a2.cell? ⟨a4,b7+c*8+j,I⟩=C e4:=λj e4 l9 m3=>by grind [World.cell?]
   have h2:=cell 0 _ (by decide) A;have c1:=cell 1 _ (by decide) A;have c2:=cell 2 _ (by decide) A;have c3:=cell 3 _ (by decide) A;have c4:=cell 4 _ (by decide) A;have c5:=cell 5 _ (by decide) A;have k7:=cell 6 _ (by decide) A;have k8:=cell 7 _ (by decide) A;rw[E.add_zero]at h2;rw[<-w];clear d3 b3 Z d0 b4 l X b2 d1 e0 a0 g2 c9 e9 a3 cell w f5
   go_wp2
   exact⟨A,A⟩
  .rintro o W⟨_,h3⟩ a U;rw[h3];obtain⟨T,m2,_⟩:=a3.cY a U
   grind
  rintro n2 _ k5 j3 e7 f0 g3⟨rfl,f8⟩;have g1:∀a,e a->a<b1.heap.size:=λa U=>by obtain⟨T,a6,_⟩:=a3.cY a U;grind
  have b5:jP e d b1.heap.size (rq c) j3:=by
   refine⟨λa U=>?_,?_,?_,λU=>Z' _ (g1 _ U)⟩
   .rw[f0.keep a U,d7,b2 a U]
   .rw[f8,ZR,d7];omega
   grind
  refine QN qT (i:=[[0,1,2,3,4],[0,2,1,3,4],[1,0,2,3,4],[1,2,0,3,4],[1,2,3,0,4],[2,0,1,3,4],[2,1,0,3,4],[2,1,3,0,4]]) (by decide+kernel) λm4 d9=>?_;refine MX ⟨_,A,A,A,A⟩ ⟨_,A,A,A,A⟩ ⟨_,A,A,A,A⟩ ⟨_,A,A,A,A⟩ ⟨_,A,A,A,A⟩ b4 l.x5 (l.MG c d8) b3 (l.only c d8) d9 e7 b5 g3 λh j4 f a1 X b5 Z=>bO (AX ?_);have e0:=l.small;have l5:(0:VB)<=c:=by omega
  have m0:(c:VB)<2^40:=by omega
  refine bX eH (by decide) (by decide) (H:=[12,0]) A (by rfl) X Z (λo W=>o=⟨#[VW (C ⟨i,0,I⟩),VW (C ⟨n,0,I⟩),Vy M c,VW (C ⟨b1.heap.size,0,I⟩),a5,VG (C ⟨a4,b7,I⟩) b.n Q,Vy M b.n,Vy M ((c+1:E):VB),.bool J,Vy M c,VW (C ⟨a4,b7+c*8,I⟩),.agg (rq c).jF,F,Vy M c,a1,b.τ c,Vy M ((c+1:E):VB)],[]⟩/\W.heap=j4.heap) (λa2 w _ _ _=>?_) (λo W a6 a _=>by rw[a6.2]) ?_
  .generalize b.τ c=m7;generalize (rq c).jF=m5;clear l b5 Z g3 e7 f8 f0 c9 h7 g1 d3
   go_wp2
   exact⟨by rfl,w⟩
  rintro j9 _ h1 j5 g7 l4 h9⟨rfl,f9⟩;exact d3 j9 j5 h1 ⟨c+1,_,_,_,_,_,_,_,_,_,_,_,_,by omega,g7,λa U=>by rw[f9,b5.keep a U],by rw[f9];exact b5.size,h9.less A (by simp)⟩
 rintro h Y f⟨c,c0,c6,a5,e3,c7,b8,b9,a7,a8,a1,a9,b0,b3,X,b2,d1,Z⟩;have g0:¬((c:VB)<b.n):=by omega
 refine bw (bX eH (by decide) (by decide) (H:=[0]) A (by rfl) X Z (λo W=>o=⟨#[VW (C ⟨i,0,I⟩),VW (C ⟨n,0,I⟩),c0,c6,a5,.slice R b.n Q,Vy M b.n,Vy M c,.bool Vz,c7,b8,b9,a7,a8,a1,a9,b0],[]⟩/\W.heap=Y.heap) (λa2 w _ _ _=>?_) (λo W a6 a _=>by rw[a6.2]) ?_)
 .have m1:b.n<=c:=by omega
  clear b3 Z d0 b4 l b2 d1 g0
  go_wp2
  exact⟨by simp_all,w⟩
 rintro j8 _ e8 b1 a3 e9 a0⟨rfl,d7⟩;refine bw (iI (k:=Vz) (iJ a3.base a0 (by decide) A) (rI A ?_));refine Goal.pure _ A rfl (λq=>by rw[be A];simp[stepG.exec,Frame.at,rg];rfl) ?_;obtain⟨g5,k9⟩:=e8;obtain⟨l0,f6,d9⟩:=a0.defers;cases d9;simp only[XN]at f6;subst f6;exact .stop (Er (a:=TP) (c:=baseD 37) (g:=g5) (e:=[]) (i:=#[99]) (n:=0) (k:=c8) A Tryz.func37 A rfl rfl)
end
end
abbrev kF:Go.Conc.Lib.WgLink:={add:=55,done:=57,wait:=59,relMerge:=82,disable:=83,enable:=84,inBubble:=85,associate:=86,fatal:=87,uOr:=88,uAdd:=89,raceRead:=90,uLoad:=91,uStore:=92,disassociate:=93,semrelease:=94,acquire:=99,isAssociated:=100,uCas:=101,raceWrite:=102,semacquire:=103,orU64:=124,addU64:=125,loadU64:=126,storeU64:=127,casU64:=133,tWgP:=200,tUP:=202,tAssoc:=203,tWg:=151,tAU:=148,tU64:=146,tUint:=207,tU32:=149,tPU32:=208,tPAU:=241,tPU64:=243,tNoCopy:=143,tANoCopy:=144,tAlign64:=145}
theorem GW:Go.Conc.Lib.WgLib TP kF:=
 ⟨Tryz.func55,Tryz.func57,Tryz.func59,Tryz.func82,Tryz.func83,Tryz.func84,Tryz.func85,Tryz.func86,Tryz.func87,Tryz.func88,Tryz.func89,Tryz.func90,Tryz.func91,Tryz.func92,Tryz.func93,Tryz.func94,Tryz.func99,Tryz.func100,Tryz.func101,Tryz.func102,Tryz.func103,Tryz.func124,Tryz.func125,Tryz.func126,Tryz.func127,Tryz.func133,Tryz.underlying200,Tryz.runUnderlying200,Tryz.sizeOf200,Tryz.isAgg200,Tryz.zeroValue200,Tryz.underlying202,Tryz.runUnderlying202,Tryz.sizeOf202,Tryz.isAgg202,Tryz.zeroValue202,Tryz.underlying203,Tryz.runUnderlying203,Tryz.sizeOf203,Tryz.isAgg203,Tryz.zeroValue203,Tryz.underlying151,Tryz.runUnderlying151,Tryz.sizeOf151,Tryz.isAgg151,Tryz.zeroValue151,Tryz.underlying148,Tryz.runUnderlying148,Tryz.sizeOf148,Tryz.isAgg148,Tryz.zeroValue148,Tryz.underlying146,Tryz.runUnderlying146,Tryz.sizeOf146,Tryz.isAgg146,Tryz.zeroValue146,Tryz.underlying207,Tryz.runUnderlying207,Tryz.sizeOf207,Tryz.isAgg207,Tryz.zeroValue207,Tryz.underlying149,Tryz.runUnderlying149,Tryz.sizeOf149,Tryz.isAgg149,Tryz.zeroValue149,Tryz.underlying208,Tryz.runUnderlying208,Tryz.sizeOf208,Tryz.isAgg208,Tryz.zeroValue208,Tryz.underlying241,Tryz.runUnderlying241,Tryz.sizeOf241,Tryz.isAgg241,Tryz.zeroValue241,Tryz.underlying243,Tryz.runUnderlying243,Tryz.sizeOf243,Tryz.isAgg243,Tryz.zeroValue243,Tryz.underlying0,Tryz.runUnderlying0,Tryz.sizeOf0,Tryz.isAgg0,Tryz.zeroValue0,Tryz.underlying3,Tryz.runUnderlying3,Tryz.sizeOf3,Tryz.isAgg3,Tryz.zeroValue3,Tryz.underlying4,Tryz.runUnderlying4,Tryz.sizeOf4,Tryz.isAgg4,Tryz.zeroValue4,Tryz.underlying9,Tryz.runUnderlying9,Tryz.sizeOf9,Tryz.isAgg9,Tryz.zeroValue9,Tryz.underlying20,Tryz.runUnderlying20,Tryz.sizeOf20,Tryz.isAgg20,Tryz.zeroValue20,Tryz.underlying21,Tryz.runUnderlying21,Tryz.sizeOf21,Tryz.isAgg21,Tryz.zeroValue21,by kernel_rfl,by kernel_rfl⟩
variable{a0:VS}{i:E}{f:Set}{R:E}{d:E}{v:Vx}{s:VQ}{D:E->Prop}{w:K}{y:VQ}{b:Vx}{Z:VD E}{k:VD Item}{Y:VD VM}{o:Oper}{W:Vx}
section
variable[Inhabited aV]
theorem kM.tape{c:WD}{fin:bE->K->Prop}(l:∀cl(w:K) t,fin cl {w with tape:=t}->fin cl w):∀(u:E)(cl:bE)(h:Ren)(w:K)(t:E->Question->E)(g:VO),kM a0 c fin i f m u cl h {w with tape:=t} g->kM a0 c fin i f m u cl h w g
 |0,cl,_,w,t,_,a=>⟨a.1,a.2.1,l cl w t a.2.2⟩
 |u+1,cl,h,w,t,g,a=>by obtain⟨X,n,x,a7,P,a1,a2,a3,a4,a5,a6⟩:=a;exact⟨X,n,x,a7,P,a1,a2,a3,a4,a5,(xF a0 f m (tz c) (kM a0 c fin i f m u (cl++[(n,x)])) (kM.tape l u _)).tape a6⟩
def iR(a0:VS)(a:WD)(fin:bE->K->Prop)(c:∀cl(w:K) e,fin cl {w with tape:=e}->fin cl w)(i:E)(f:Set)(m:E->Prop)(b:E×bE):Goal a0 f Vz m:=xF a0 f m (tz a) (kM a0 a fin i f m b.1 b.2) (kM.tape c b.1 b.2)
structure WV where
 cb:E
 tp:Vx
 bl:E
 off:E
 n:E
 nc:E
 c:E
 gb:E
 gv:E
 path:VX
abbrev pt(a o:E):Vx:=VW (C ⟨a,o,I⟩)
def wT(V:WV)(r:VE Vx)(p:Vx):VD (E×E×Vx):=
 [(0,18,F),(1,19,Vy M V.c),(2,20,F),(3,21,Vy M V.c),(4,22,pt V.cb 0),(5,23,pt V.cb 0),(6,24,pt V.cb 2),(7,25,V.tp),(8,26,VG (C ⟨V.bl,V.off,I⟩) V.n V.nc),(9,27,Vy M V.c),
  (10,28,pt V.bl (V.off+V.c*9)),(11,29,pt V.bl (V.off+V.c*9)),(12,30,pt V.bl (V.off+V.c*9+1)),(13,31,pt V.bl (V.off+V.c*9+1+1)),(14,32,pt V.bl (V.off+V.c*9+1+1+1)),(15,33,.string V.path),
  (16,34,.tuple #[.agg r,p]),(17,17,.tuple #[.agg r,p]),(18,35,.agg r),(19,36,p),(20,37,F),(21,38,F),(23,39,F),(24,40,F)]
def wK(V:WV):VD (E×E×Vx):=
 [(0,18,VG (C ⟨V.gb,0,I⟩) V.n V.n),(2,20,VG (C ⟨V.gb,0,I⟩) V.n V.n),(20,37,pt V.gb (V.c*10)),(21,38,pt V.gb (V.c*10)),(23,39,pt V.gb (V.c*10)),(24,40,pt V.gb (V.c*10+9))]
def GY(V:WV)(e:VE VI):VD (E×Vx):=((wK V).filter λa=>e.getD a.1 Vz).map (λa=>(a.2.1,a.2.2))++[(4,pt V.gv 0)]
def du(i:E):VD E:=
 [[],[],[],[],[],[4],[5],[6],[],[],[8,9],[10],[11],[12],[13],[14],[7,15],[16],[17],[17],[0,1],[20],[21,18],[2,3,22],[23],[24,19,22]].getD i []
theorem FX{a:E->VD E}(n:z.size=R)(g:((VD.range R).all λi=>(a i).all λj=>((z[i]?).map λo=>o.after.any λc=>c.on==j&&Region.binds .any c).getD Vz)=J){e:VE VI}(l:i∈Region.ready .any z e):∀j∈a i,e.getD j Vz=J:=by grind [kY]
structure WR(D:E->Prop)(O:K)(V:WV)(N:VD Deferred)(U T S L:E)(Q:K)(H:VE Vx->Vx->K->Prop)(e:VE VI)(r:VE Vx)(p:Vx)(h:Ren)(w:K)(s y:VQ):Prop where
 inv:Inv TP aW D h w
 keep:∀b,D b->w.heap[b]?=O.heap[b]?
 size:O.heap.size<=w.heap.size
 len:s.tmps.size=41
 defs:s.defers=[]
 t1:s.tmps[1]?=C (pt U 0)
 t2:s.tmps[2]?=C (pt T 0)
 t3:s.tmps[3]?=C (pt S 0)
 t4:s.tmps[4]?=C (pt L 0)
 t5:s.tmps[5]?=C (Vy M V.c)
 tab:∀c∈wT V r p,e.getD c.1 Vz=J->s.tmps[c.2.1]?=C c.2.2
 rel:aw aW h ⟨N,GY V e⟩ s y
 sn:e.getD 16 Vz=J->H r p w
 ord:∀j,j=17\/j=18\/j=19->e.getD j Vz=J->e.getD 16 Vz=J
 SS:∀a,a<Q.heap.size->w.heap[a]?=Q.heap[a]?
 Sl:Q.heap.size<=w.heap.size
theorem iw{n h:Type}{m:n->h}:∀{f:VD n}{b e:n},(f.map m).Nodup->b∈f->e∈f->m b=m e->b=e
 |p::f,b,e,g,a,c,l=>by
  rw[XE,VD.nodup_cons]at g;rcases Wo.1 a with a|a<;>rcases Wo.1 c with c|c
  .rw[a,c]
  .exact absurd (WY.2 ⟨e,c,by rw[<-l,a]⟩) g.1
  .exact absurd (WY.2 ⟨b,a,by rw[l,c]⟩) g.1
  exact iw g.2 a c l
theorem qa{e:VE VI}(b:(e.setIfInBounds i J).getD j Vz=J):j=i\/e.getD j Vz=J:=by
 by_cases a:j=i
 .exact VA a
 simp_all [Xu]
theorem Im{e:VE VI}(a:e.getD j Vz=J):(e.setIfInBounds i J).getD j Vz=J:=by
 rw[WB]at a⊢
 grind
theorem Pv{b:VD (E×E×Vx)}(g:(b.map (·.1)).Nodup)(p:(b.map (·.2.1)).Nodup)(m:(i,d,v)∈b)(hd:d<s.tmps.size){e:VE VI}(n:∀a∈b,e.getD a.1 Vz=J->s.tmps[a.2.1]?=C a.2.2):
 ∀a∈b,(e.setIfInBounds i J).getD a.1 Vz=J->(s.put (C d) v).tmps[a.2.1]?=C a.2.2:=by
 intro a l h;simp only[Act.put];rw[WK];by_cases f:d=a.2.1
 .grind [iw]
 rw[VK f];rcases qa h with c|c
 .have:=iw g l m c;subst this;exact absurd A f
 grind
theorem Nu(V:WV)(r:VE Vx)(p:Vx):((wT V r p).map (·.1)).Nodup:=by show([0,1,2,3,4,5,6,7,8,9,10,11,12,13,14,15,16,17,18,19,20,21,23,24]:VD E).Nodup;decide
theorem CG(V:WV)(r:VE Vx)(p:Vx):((wT V r p).map (·.2.1)).Nodup:=by show([18,19,20,21,22,23,24,25,26,27,28,29,30,31,32,33,34,17,35,36,37,38,39,40]:VD E).Nodup;decide
theorem FA{V:WV}{a:E×E×Vx}(b:a∈wK V):a.1∈[0,2,20,21,23,24]/\a.2.1∈[18,20,37,38,39,40]:=by
 simp only[wK,Wo,Wx,Xo]at b
 grind
theorem CJ{V:WV}{e:VE VI}{N:VD Deferred}(b:d∉[4,18,20,37,38,39,40]):(⟨N,GY V e⟩:Rt).free (C d)=J:=by
 unfold Rt.free GY;rw[Xn];intro g c;simp only[WL,WY,YB,Xi]at c;have:g.1≠d:=by
  rcases c with⟨h,⟨f,_⟩,rfl⟩|rfl
  .intro a;have:=(FA f).2;simp only at a;rw[a]at this;exact b (WU _ this)
  rintro rfl;exact b (by simp)
 grind
theorem Ai{V:WV}{e:VE VI}(c:i∉[0,2,20,21,23,24]):GY V (e.setIfInBounds i J)=GY V e:=by
 unfold GY
 congr 2
 refine VD.filter_congr λa f=>?_;have g:a.1≠i:=λb=>c (b▸(FA f).1);simp_all [Xu]
section
variable{O:K}{V:WV}{N:VD Deferred}{U T S L:E}{Q:K}{H:VE Vx->Vx->K->Prop}{e:VE VI}{r:VE Vx}{p:Vx}
theorem cw(a:s.tmps[j]?=C b)(c:j≠d):(s.put (C d) v).tmps[j]?=C b:=by simp_all [Act.put,Xu]
theorem WR.put(a:WR D O V N U T S L Q H e r p h w s y){n:Ren}{l:K}{t:VQ}(a1:i≠16)(a3:i=17\/i=18\/i=19->e.getD 16 Vz=J)(a2:(i,d,v)∈wT V r p)(P:Inv TP aW D n l)(c:l.heap=w.heap)
 (a5:H r p w->H r p l)(a4:aw aW n ⟨N,GY V (e.setIfInBounds i J)⟩ (s.put (C d) v) t)(hd:17<=d/\d<41):WR D O V N U T S L Q H (e.setIfInBounds i J) r p n l (s.put (C d) v) t where
 inv:=P
 keep:=by rw[c];exact a.keep
 size:=by rw[c];exact a.size
 len:=by simp[Act.put,a.len]
 defs:=a.defs
 t1:=cw a.t1 (by omega)
 t2:=cw a.t2 (by omega)
 t3:=cw a.t3 (by omega)
 t4:=cw a.t4 (by omega)
 t5:=cw a.t5 (by omega)
 tab:=Pv (Nu V r p) (CG V r p) a2 (by rw[a.len];exact hd.2) a.tab
 rel:=a4
 sn:=λX=>a5 (a.sn ((qa X).resolve_left (Xu a1)))
 ord:=λj x hd=>Im (by
  rcases qa hd with rfl|hd
  .exact a3 x
  exact a.ord j x hd)
 SS:=by rw[c];exact a.SS
 Sl:=by rw[c];exact a.Sl
theorem eW{t:WD}{fin:bE->K->Prop}{x:∀cl(w:K) n,fin cl {w with tape:=n}->fin cl w}{a1:E}{b:E×bE}{l:Op}
 (b1:∀a:K,a.heap=w.heap->H r p w->H r p a)(a8:bM z i (C d) l)(a9:iW TP aW.fn aW.bi aW.cj l=J)(a6:i∉[0,2,16,20,21,22,23,24,25])(hd:d∉[4,18,20,37,38,39,40]/\17<=d/\d<41)(a7:(i,d,v)∈wT V r p)(b0:i=17\/i=18\/i=19->e.getD 16 Vz=J)
 (g:WR D O V N U T S L Q H e r p h w s y)(run:∀X:K,X.heap=w.heap->∀n b2 a4,(⟨C d,l,n,b2,a4,I⟩:Oper).wp TP s X (λc a=>c=s.put (C d) v/\a.heap=w.heap) (gL λ_ _=>False))
 (next:∀h w s y,WR D O V N U T S L Q H (e.setIfInBounds i J) r p h w s y->(iR TP t fin x a1 aW D b).G h w (rg ((baseD 56).at y (VP z Z::k)) Y)):
 (iR TP t fin x a1 aW D b).G h w (rg ((baseD 56).at y (VP z (i::Z)::k)) Y):=by
 refine AW gO (by decide) (by decide) a8 a9 (CJ hd.1) g.inv g.rel (λc a=>c=s.put (C d) v/\a.heap=w.heap) run (λc a a5 b _=>by rw[a5.2]) ?_;rintro b3 _ a3 a a2 b4 b5⟨rfl,P⟩;refine next b3 a _ a3 (g.put (by rintro rfl;exact a6 (by simp)) b0 a7 a2 P (b1 a P) ?_ hd.2)
 simp_all [Ai]
theorem WR.eval(a:WR D O V N U T S L Q H e r p h w s y)(c:(i,d,v)∈wT V r p)(hd:e.getD i Vz=J):s.eval (.tmp d)=v/\s.tmps.getD d F=v/\s.tmps[d]?.getD F=v:=by have:=a.tab _ c hd;simp_all [Act.eval]
theorem cD(a:s.tmps[d]?=C v):s.eval (.tmp d)=v/\s.tmps.getD d F=v/\s.tmps[d]?.getD F=v:=⟨by simp[Act.eval,a],by simp[a],by simp[a]⟩
theorem WR.xB(a:WR D O V N U T S L Q H e r p h w s y)(c:(i,d,v)∈wK V)(hd:e.getD i Vz=J):y.tmps[d]?=C v:=by refine a.rel.kn (d,v) ?_;show(d,v)∈GY V e;unfold GY;exact Yj _ (WY.2 ⟨_,YB.2 ⟨c,hd⟩,A⟩)
theorem xJ{a:Rt}(b:aw f h a s y){R:VB}(hd:s.tmps[d]?=C (Vy M R)):y.tmps[d]?=C (Vy M R):=by obtain⟨W,c,e⟩:=b.tmps.get hd;cases e;exact c
theorem CL(h:(i,d,v)∈wK V)(m:i<e.size):∀f∈GY V (e.setIfInBounds i J),f∈(d,v)::GY V e:=by
 intro f b;unfold GY at b⊢
 simp only[WL,WY,YB,Xi]at b;rcases b with⟨g,⟨c,hd⟩,rfl⟩|rfl
 .rcases qa hd with a|a
  .have l:((wK V).map (·.1)).Nodup:=by
    show([0,2,20,21,23,24]:VD E).Nodup;decide
   have:=iw l c h a;subst this;exact Yx ..
  exact WU _ (Yj _ (WY.2 ⟨g,YB.2 ⟨c,a⟩,A⟩))
 simp
theorem yr(b:(i,d,v)∈wK V)(g:e.getD i Vz=Vz):(⟨N,GY V e⟩:Rt).free (C d)=J:=by
 unfold Rt.free GY;rw[Xn];intro m c;simp only[WL,WY,YB,Xi]at c;have hd:=(FA b).2;have:m.1≠d:=by
  rcases c with⟨n,⟨h,a⟩,rfl⟩|rfl
  .intro f
   have l:((wK V).map (·.2.1)).Nodup:=by show([18,20,37,38,39,40]:VD E).Nodup;decide
   have:=iw l h b f;subst this;simp only at a;rw[g]at a;cases a
  rintro rfl;simp at hd
 grind
theorem tj{g:Wd->Vx}{b:Wd}{a:E}{V:Vx}{t:VJ}{l:E×E}(c:o.op=.load 141 b)(a1:g b=VW (C ⟨a,0,I⟩))(n:q.heap[a]?=C (VH #[V] t l)):
 (execOp g o).run TP q=.ok (.value V) q:=by
 have X:q.cell? ⟨a,0,I⟩=C V:=by simp[K.cell?,n]
 obtain⟨d,a2,a4,a3,x,P⟩:=o;simp only at c;subst c;go_simp
theorem yf{c:Wd->Vx}{b f:Wd}{e a:E}(l:c b=VG (C ⟨e,0,I⟩) R R)(m:c f=Vy M a)(h:a<R)(q:K)(p:VJ)(n:String)(g:VE Edge):
 (execOp c ⟨C j,.indexAddr 141 b f,p,n,g,I⟩).runT TP q #[]=(.ok (.value (pt e (a*10))) q,#[]):=by
 have r:(a:VB)<R:=by omega
 rw[Zb];refine ZM ?_ ?_
 .simp only;go_simp
 simp only;simp[go_sem,l,m,h]
theorem ye{g:Wd->Vx}{b:Wd}{e c a:E}(l:a=0\/a=1)(f:g b=pt e c)(q:K)(n:VJ)(m:String)(h:VE Edge):
 (execOp g ⟨C j,.fieldAddr 158 b a,n,m,h,I⟩).runT TP q #[]=(.ok (.value (pt e (c+9*a))) q,#[]):=by
 rw[Zb];rcases l with rfl|rfl
 .refine ZM ?_ ?_
  .simp only;go_simp
  simp only;simp[go_sem,f]
 refine ZM ?_ ?_
 .simp only;go_simp
 simp only;simp[go_sem,f]
theorem Nv{f:WD}{fin:bE->K->Prop}{t:∀cl(w:K) n,fin cl {w with tape:=n}->fin cl w}{P:E}{b:E×bE}
 (a6:∀c:K,c.heap=w.heap->H r p w->H r p c)(a5:bM z i (C d) (.load 141 (.tmp 4)))(a7:i<e.size)(a4:e.getD i Vz=Vz)(b9:i<16\/19<i)(a3:(i,d,F)∈wT V r p)(x:(i,d,VG (C ⟨V.gb,0,I⟩) V.n V.n)∈wK V)(hd:17<=d/\d<41)
 (b7:f.gv=V.gv)(c0:f.gs=VG (C ⟨V.gb,0,I⟩) V.n V.n){l:VJ}{g:E×E}(a1:O.heap[L]?=C (VH #[F] l g))(b2:D L)(a:WR D O V N U T S L Q H e r p h w s y)
 (next:∀h w s y,WR D O V N U T S L Q H (e.setIfInBounds i J) r p h w s y->(iR TP f fin t P aW D b).G h w (rg ((baseD 56).at y (VP z Z::k)) Y)):
 (iR TP f fin t P aW D b).G h w (rg ((baseD 56).at y (VP z (i::Z)::k)) Y):=by
 have a0:=cD a.t4;have a2:w.heap[L]?=C (VH #[F] l g):=by rw[a.keep L b2];exact a1
 have b0:y.tmps[4]?=C (pt V.gv 0):=a.rel.kn (4,pt V.gv 0) (YU _ (by simp))
 refine Si gO (by decide) (by decide) a5 (by rfl) (yr x a4) a.inv a.rel (T:=F) (w:=VG (C ⟨V.gb,0,I⟩) V.n V.n) (Q:=V.gv) (λq m=>by
  obtain⟨l,g,b8⟩:=m
  simp_all) (λn a9 X b1=>?_) (λq l g n a9 X m=>?_) (by rw[a.len];exact hd.2) λb3 W c R b6 u a8=>next b3 c _ W (a.put (by omega) (by omega) a3 R u (a6 c u) (a8.less A (CL x a7)) hd)
 .rw[tj (q:={w with tape:=b1}) A a0.1 a2];exact⟨A,A⟩
 exact tj A (cD b0).1 m
theorem sS:∀fn,TP.funcs[(baseD 56).fn]?=C fn->fn.norace=Vz:=λfn a=>by have:TP.funcs[56]?=C fn:=a;rw[Tryz.func56]at this;cases this;rfl
theorem tZ{l:WD}{fin:bE->K->Prop}{n:∀cl(w:K) g,fin cl {w with tape:=g}->fin cl w}{P:E}{b:E×bE}{x:Op}{c o:E}
 (a4:bM z i (C d) x)(a6:i<e.size)(a3:e.getD i Vz=Vz)(b0:i<16\/19<i)(a2:(i,d,F)∈wT V r p)(t:(i,d,pt c o)∈wK V)(hd:17<=d/\d<41)(a:WR D O V N U T S L Q H e r p h w s y)
 (a5:∀q g a8 a1,(execOp y.eval ⟨C d,x,g,a8,a1,I⟩).runT TP q #[]=(.ok (.value (pt c o)) q,#[]))
 (next:∀h w s y,WR D O V N U T S L Q H (e.setIfInBounds i J) r p h w s y->(iR TP l fin n P aW D b).G h w (rg ((baseD 56).at y (VP z Z::k)) Y)):
 (iR TP l fin n P aW D b).G h w (rg ((baseD 56).at y (VP z (i::Z)::k)) Y):=
 Ga (by decide) sS a4 (yr t a3) a.rel (by rw[a.len];exact hd.2) (a:=pt c o) trivial a5 λX a7=>next h w _ X (a.put (by omega) (by omega) a2 a.inv A id (a7.less A (CL t a6)) hd)
theorem Se{a0:WD}{fin:bE->K->Prop}{a5:∀cl(w:K) X,fin cl {w with tape:=X}->fin cl w}{a9:E}{b:E×bE}
 (c9:bM z 16 (C 34) (.call {callee:=.value (.func 58),args:=#[.tmp 25,.tmp 33],argTypes:=#[94,9]}))(d4:e.getD 16 Vz=Vz)(c0:e.getD 7 Vz=J)(b9:e.getD 15 Vz=J)
 (a7:∀w:K,(∀b,D b->w.heap[b]?=O.heap[b]?)->O.heap.size<=w.heap.size->Calls TP 58 #[V.tp,.string V.path] w λg c=>∃r p,g=VN (.tuple #[.agg r,p])/\H r p c/\Below w.heap.size w c)
 (d6:∀r p(w f:K),f.heap=w.heap->H r p w->H r p f)(a:WR D O V N U T S L Q H e r p h w s y)
 (next:∀r p h w s y,WR D O V N U T S L Q H (e.setIfInBounds 16 J) r p h w s y->(iR TP a0 fin a5 a9 aW D b).G h w (rg ((baseD 56).at y (VP z Z::k)) Y)):
 (iR TP a0 fin a5 a9 aW D b).G h w (rg ((baseD 56).at y (VP z (16::Z)::k)) Y):=by
 have b7:=(a.eval (i:=7) (d:=25) (v:=V.tp) (by simp[wT]) c0);have b8:=(a.eval (i:=15) (d:=33) (v:=.string V.path) (by simp[wT]) b9)
 have d5:∀j,j=17\/j=18\/j=19->e.getD j Vz=J->False:=λj a6 hd=>by have:=a.ord j a6 hd;simp_all
 have u:∀b,D b->b<w.heap.size:=λb u=>by obtain⟨o,a,_⟩:=a.inv.cY b u;grind
 refine AW gO (by decide) (by decide) c9 (by rfl) (CJ (by decide)) a.inv a.rel (λq f=>∃r p,q=s.put (C 34) (.tuple #[.agg r,p])/\H r p f/\∃c,c.heap=w.heap/\Below c.heap.size c f) (λc P X d1 g=>?_) ?_ ?_
 .have a8:=a7 c (λb u=>by rw[P];exact a.keep b u) (by rw[P];exact a.size);obtain⟨q1,d8,d9⟩:=b7;obtain⟨e0,e1,e2⟩:=b8;generalize a3:(λq f=>∃r p,q=s.put (C 34) (.tuple #[.agg r,p])/\H r p f/\∃c,c.heap=w.heap/\Below c.heap.size c f)=b1
  have fin:∀r p x,H r p x->Below c.heap.size c x->b1 (s.put (C 34) (.tuple #[.agg r,p])) x:=λr p x W m=>by subst a3;exact⟨r,p,A,W,c,P,m⟩
  unfold Oper.wp
  have d0:(execOp s.eval ⟨C 34,.call {callee:=.value (.func 58),args:=#[.tmp 25,.tmp 33],argTypes:=#[94,9]},X,d1,g,I⟩).run TP c=.ok (.enter 58 #[V.tp,.string V.path]) c:=by
   clear a8 fin a3 a7 next a
   go_simp
  rw[d0,M_];refine a8.mono ?_;simp_all
 .rintro q f⟨_,_,_,_,c,g,m⟩ b a4;rw[<-g];exact m.block b (by simp_all)
 rintro d2 _ b4 f b0 d3 d7⟨n,l,rfl,W,c,g,m⟩;refine next n l d2 f (s.put (C 34) (.tuple #[.agg n,l])) b4 ?_
 have c7:∀j,j≠16->(e.setIfInBounds 16 J).getD j Vz=e.getD j Vz:=λj a6=>by simp_all [Xu]
 refine⟨b0,λb a4=>?_,?_,by simp[Act.put,a.len],a.defs,cw a.t1 (by omega),cw a.t2 (by omega),cw a.t3 (by omega),cw a.t4 (by omega),cw a.t5 (by omega),?_,?_,λ_=>W,?_,λa1 c6=>?_,?_⟩
 .rw[m.block b (by simp_all),g,a.keep b a4]
 .have:=m.size;have:=a.size;grind
 .intro t R hd;by_cases a2:t.1=16
  .have:=iw (Nu V n l) R (show(16,34,Vx.tuple #[.agg n,l])∈wT V n l by simp[wT]) a2;subst this;simp[Act.put,a.len]
  rw[c7 _ a2]at hd
  have c8:t.2.1≠34:=λb6=>by have:=iw (CG V n l) R (show(16,34,Vx.tuple #[.agg n,l])∈wT V n l by simp[wT]) b6;simp_all
  refine cw ?_ c8;have:t∈wT V r p:=by
   simp only[wT,Wo,Wx,Xo]at R⊢
   grind
  exact a.tab t this hd
 .simp_all [Ai]
 .simp_all
 .have:=a.Sl;rw[m.block a1 (by rw[g];omega),g,a.SS a1 c6]
 have:=m.size;have:=a.Sl
 grind
theorem My(a:an f h b W)(c:vy b=J):vy W=J:=by cases a<;>first|rfl|(cases c;done)
theorem GV{l:WD}{fin:bE->K->Prop}{a5:∀cl(w:K) b1,fin cl {w with tape:=b1}->fin cl w}{P:E}{cl:bE}{X b2 b3 o:E}{b5:Rt}
 (c7:bM z i I (.store X (.tmp b2) (.tmp b3)))(d0:∀q n,(Go.sizeOf X).runT TP q n=(.ok R q,n))(hrel:aw aW h b5 s y)(d3:y.tmps[b2]?=C (pt l.gb o))(d5:s.tmps[b3]?=C v)(c6:v.cells.size=R)(b8:∀b∈v.cells,vy b=J)
 (a9:o+R<=l.gn)(own:∀k,k<R->l.own P (o+k))(b6:∀c∈cl,c.1+c.2.size<=o\/o+R<=c.1)
 (next:(iR TP l fin a5 P aW D (u,cl++[(o,v.cells)])).G h w (rg ((baseD 56).at y (VP z Z::k)) Y)):
 (iR TP l fin a5 P aW D (u+1,cl)).G h w (rg ((baseD 56).at y (VP z (i::Z)::k)) Y):=by
 obtain⟨⟨e4,f0,b1,c,b7,e7⟩,b9,a1,a2,a3⟩:=c7;simp only at a1 a2 a3;subst a3;obtain rfl:=a1;obtain rfl:=a2;obtain⟨g,d1,d2⟩:=hrel.tmps.get d5;have t:=dO d2;have a7:g.cells.size=R:=by rw[<-t.1];exact c6
 have c8:∀b∈g.cells.toList,vy b=J:=by
  intro b d4;obtain⟨j,a,rfl⟩:=Xt.1 (by simpa using d4:b∈g.cells);have a6:j<v.cells.size:=by rw[t.1];exact a
  exact My (t.2 j _ _ (Wj a6) (Wj a)) (b8 _ (VE.getElem_mem a6))
 have x:g.cells.toList.length=R:=by simpa using a7
 refine .stop ⟨A,o,v.cells,g.cells,rg ((baseD 56).at y (VP z Z::k)) Y,t,λk e9=>own k (by omega),λc c9=>by rw[a7];exact b6 c c9,A,λq c0=>?_,next⟩;obtain⟨e2,e5,q1,d6,a8⟩:=c0;obtain⟨b4,n,d7,b0,d8,d9,e0,f1⟩:=Cp (n:=TP) (main:=Vz) (r:=baseD 56) (g:=k) (u:=Y) (y:=Z) (b:=g.cells.toList) b9 A (by decide) A rfl (cD d3).1 (cD d1).1 A sS (by rw[x];exact d0) c8 d6 q1 (by rw[x,a8];exact a9);refine⟨b4,n,d7,⟨b0.1,b0.2,d8,d9,λe3 f2 e6 a4=>?_⟩,λb7 e8=>?_⟩
 .rw[q1]at a4;cases a4;refine⟨_,e0,xZ _ _ _,λj a=>vC _ _ _ _ (by simpa using a),λj a=>?_⟩;rw[Gz _ _ _ _ (by rw[x,a8];exact a9) (by simpa using a)];simp
 simp_all
theorem WR.done(a:WR D O V N U T S L Q H e r p h w s y)(n:i=22\/i=25):WR D O V N U T S L Q H (e.setIfInBounds i J) r p h w s y:=by
 have c:∀j,j≠i->(e.setIfInBounds i J).getD j Vz=e.getD j Vz:=λj g=>by simp_all [Xu]
 refine⟨a.inv,a.keep,a.size,a.len,a.defs,a.t1,a.t2,a.t3,a.t4,a.t5,λb f hd=>?_,?_,λm=>a.sn ?_,λj g hd=>?_,a.SS,a.Sl⟩
 .refine a.tab b f ?_;rw[<-c]
  .exact hd
  have:b.1∈(wT V r p).map (·.1):=WY.2 ⟨b,f,A⟩;have l:b.1∈([0,1,2,3,4,5,6,7,8,9,10,11,12,13,14,15,16,17,18,19,20,21,23,24]:VD E):=this;simp only[Wo,Wx,Xo]at l;omega
 .rw[Ai (by grind)];exact a.rel
 .grind
 rw[c 16 (by omega)];rw[c j (by omega)]at hd;exact a.ord j g hd
end
end
variable{s:E}{t:E}{c:K}{b:E}{d:VD Item}{P:VD VM}{l:VQ}{g:VQ}
section
variable[Inhabited aV]
structure Hj(o:WD)(e:E->Prop)(m:K)(q p r s t Z x S W N v:E)(T:Vx)(y:E->VX)(f:E->VE Vx->Vx->K->Prop):Prop where
 x3:e q
 h3:∃k a,m.heap[q]?=C (VH #[VG (C ⟨S,W,I⟩) t Z] k a)
 x2:e p
 h2:∃k a,m.heap[p]?=C (VH #[pt s 0] k a)
 xc:e s
 hc:∃w k a,m.heap[s]?=C (VH w k a)/\w[1]?=C (Vy M x)/\w[2]?=C T
 Vq:∃a0,T=pt a0 0
 x4:e r
 h4:∃k a,m.heap[r]?=C (VH #[F] k a)
 xl:e S
 elem:∃w k a,m.heap[S]?=C (VH w k a)/\∀d,d<t->w[W+d*9+3]?=C (.string (y d))
 look:∀d,d<t->∀c:K,(∀Q,e Q->c.heap[Q]?=m.heap[Q]?)->m.heap.size<=c.heap.size->Calls TP 58 #[T,.string (y d)] c λY X=>∃i n,Y=VN (.tuple #[.agg i,n])/\f d i n X/\Below c.heap.size c X
 Uu:∀d i n(c U:K),f d i n c->(∀R,R<c.heap.size->U.heap[R]?=c.heap[R]?)->c.heap.size<=U.heap.size->f d i n U
 TO:∀d i n c,f d i n c->i.size=9/\(∀Q∈i,vy Q=J)/\vy n=J
 gs:o.gs=VG (C ⟨o.gb,0,I⟩) t t
 gn:o.gn=t*10
 own:∀d,d<t->d%x=N->∀j,j<10->o.own v (d*10+j)
 small:t<2^40
 Uh:1<=x
 UT:x<2^20
theorem Hj.TN{o:WD}{m:K}{q p r S x w T N v:E}{U:Vx}{y:E->VX}{f:E->VE Vx->Vx->K->Prop}(n:Hj o e m q p r s t S x w T N v U y f){d:E}{i:VE Vx}{a:Vx}{k:K}(R:k.heap=c.heap)(Q:f d i a c):f d i a k:=
 n.Uu d i a c k Q (λ_ _=>by rw[R]) (by simp_all)
theorem Pr(a:K)(b:VE Wa):(Go.sizeOf 154).runT TP a b=(.ok 9 a,b):=by rfl
theorem RP(a:K)(b:VE Wa):(Go.sizeOf 65).runT TP a b=(.ok 1 a,b):=by rfl
def WJ(e:E->Prop)(m:K)(V:WV)(H:VD Deferred)(D q p r:E)(L:K)(f:VE Vx->Vx->K->Prop)(u:E)(cl:bE)(a:VE VI)(i:E×bE)(h:Ren)(c:K)(l g:VQ):Prop:=
 ∃b d,WR e m V H D q p r L f a b d h c l g/\(a.getD 22 Vz=J->a.getD 16 Vz=J)/\(a.getD 25 Vz=J->a.getD 22 Vz=J)/\
  i=if a.getD 25 Vz then(u,cl++[(V.c*10,b)]++[(V.c*10+9,#[d])])else if a.getD 22 Vz then(u+1,cl++[(V.c*10,b)])else(u+2,cl)
theorem ep{a:VE VI}(c:j≠b):(a.setIfInBounds b J).getD j Vz=a.getD j Vz:=by simp_all [Xu]
theorem getD_eq{a:VE VI}(c:b<a.size):(a.setIfInBounds b J).getD b Vz=J:=by simp_all
section
variable{o:WD}{m:K}{D q p r x N v:E}{V:WV}{y:E->VX}{f:E->VE Vx->Vx->K->Prop}{H:VD Deferred}{L:K}
variable{fin:bE->K->Prop}{O:∀cl(c:K) Q,fin cl {c with tape:=Q}->fin cl c}
theorem Nw(Y:Hj o e m q p r V.cb V.n V.nc x V.bl V.off N v V.tp y f)(c6:V.c<V.n)(e4:V.c%x=N)(g6:V.path=y V.c)(c7:V.gb=o.gb)(e5:V.gv=o.gv)
 (e9:z.size=26)(g2:AF z=J)(g1:∀{a3:VE VI}{b:E},b∈Region.ready .any z a3->∀j∈du b,a3.getD j Vz=J)
 (g8:bM z 0 (C 18) (.load 141 (.tmp 4)))(g9:bM z 1 (C 19) (.move (.tmp 5)))(i0:bM z 2 (C 20) (.load 141 (.tmp 4)))(i7:bM z 3 (C 21) (.move (.tmp 5)))(i8:bM z 4 (C 22) (.load 76 (.tmp 3)))(i9:bM z 5 (C 23) (.nilCheck (.tmp 22)))(j0:bM z 6 (C 24) (.fieldAddr 98 (.tmp 23) 2))(j1:bM z 7 (C 25) (.load 94 (.tmp 24)))(j2:bM z 8 (C 26) (.load 103 (.tmp 2)))(j3:bM z 9 (C 27) (.move (.tmp 5)))(h0:bM z 10 (C 28) (.indexAddr 103 (.tmp 26) (.tmp 27)))(h1:bM z 11 (C 29) (.fieldAddr 107 (.tmp 28) 0))(h2:bM z 12 (C 30) (.fieldAddr 105 (.tmp 29) 1))(h3:bM z 13 (C 31) (.fieldAddr 31 (.tmp 30) 1))(h4:bM z 14 (C 32) (.fieldAddr 28 (.tmp 31) 1))(h5:bM z 15 (C 33) (.load 9 (.tmp 32)))(h6:bM z 16 (C 34) (.call {callee:=.value (.func 58),args:=#[.tmp 25,.tmp 33],argTypes:=#[94,9]}))(h7:bM z 17 (C 17) (.move (.tmp 34)))(h8:bM z 18 (C 35) (.extract (.tmp 17) 0))(h9:bM z 19 (C 36) (.extract (.tmp 17) 1))(i1:bM z 20 (C 37) (.indexAddr 141 (.tmp 18) (.tmp 19)))(i2:bM z 21 (C 38) (.fieldAddr 158 (.tmp 37) 0))(i3:bM z 22 I (.store 154 (.tmp 38) (.tmp 35)))(i4:bM z 23 (C 39) (.indexAddr 141 (.tmp 20) (.tmp 21)))(i5:bM z 24 (C 40) (.fieldAddr 158 (.tmp 39) 1))(i6:bM z 25 I (.store 65 (.tmp 40) (.tmp 36)))
 {cl:bE}(g0:∀U∈cl,U.1+U.2.size<=V.c*10){f2:VE Vx}{e0:Vx}(d2:WR e m V H D q p r L (f V.c) (Array.replicate 26 Vz) f2 e0 h c l g)
 (next:∀R k h c l g a3,WR e m V H D q p r L (f V.c) a3 R k h c l g->f V.c R k c->(iR TP o fin O v aW e (u,cl++[(V.c*10,R)]++[(V.c*10+9,#[k])])).G h c (rg ((baseD 56).at g (VP z []::d)) P)):
 (iR TP o fin O v aW e (u+2,cl)).G h c (rg ((baseD 56).at g (.code (.region id z J)::d)) P):=by
 refine Ge (c:=λb5=>iR TP o fin O v aW e b5) qT g2 (WJ e m V H D q p r L (f V.c) u cl) ?_ ?_ (b:=(u+2,cl)) (t:=l) ?_
 .intro a3 b j5 k1 e6 c8 b5 h c l g f7;have T:=g1 e6;obtain⟨e7,g5,-⟩:=kY.1 e6;rw[e9]at e7;have a0:∀R k,∀c n:K,n.heap=c.heap->f V.c R k c->f V.c R k n:=λR k c n w d2=>Y.TN w d2;have b3:b<a3.size:=by omega
  have b1:a3.getD b Vz=Vz:=by simp_all
  obtain⟨R,k,a,f5,e2,b4⟩:=f7
  have Z:b≠22->b≠25->b≠16->∀h c l g,WR e m V H D q p r L (f V.c) (a3.setIfInBounds b J) R k h c l g->(iR TP o fin O v aW e b5).G h c (rg ((baseD 56).at g (VP z j5::d)) P):=by
   intro e1 f4 f6 h c l g d3;refine c8 b5 h c l g ⟨R,k,d3,?_,?_,?_⟩
   .rw[ep (Xu e1),ep (Xu f6)];exact f5
   .rw[ep (Xu e1),ep (Xu f4)];exact e2
   simp_all
  have c0:∀{a9:E}{b6:VE Vx}{b2:VJ}{b0:E×E}{j:E}{S:Vx},e a9->m.heap[a9]?=C (VH b6 b2 b0)->b6[j]?=C S->∀W:K,W.heap=c.heap->W.cell? ⟨a9,j,I⟩=C S:=by
   intro a9 b6 b2 b0 j S f8 a2 b9 W g7;have:W.heap[a9]?=C (VH b6 b2 b0):=by rw[g7,a.keep a9 f8,a2]
   simp_all [K.cell?]
  have k2:=Y.small;have f9:b=0\/b=1\/b=2\/b=3\/b=4\/b=5\/b=6\/b=7\/b=8\/b=9\/b=10\/b=11\/b=12\/b=13\/b=14\/b=15\/b=16\/b=17\/b=18\/b=19\/b=20\/b=21\/b=22\/b=23\/b=24\/b=25:=by omega
  clear g5 e7;rcases f9 with rfl|rfl|rfl|rfl|rfl|rfl|rfl|rfl|rfl|rfl|rfl|rfl|rfl|rfl|rfl|rfl|rfl|rfl|rfl|rfl|rfl|rfl|rfl|rfl|rfl|rfl
  ·
   obtain⟨b2,b0,a2⟩:=Y.h4;exact Nv (λn w=>a0 R k _ n w) g8 b3 b1 (by omega) (by simp[wT]) (by simp[wK]) (by omega) e5.symm (by rw[Y.gs,c7]) a2 Y.x4 a (Z (by decide) (by decide) (by decide))
  ·
   obtain⟨c9,d0,d1⟩:=cD a.t5;refine eW (λn w=>a0 R k _ n w) g9 (by rfl) (by decide) (by decide) (v:=Vy M V.c) (by simp[wT]) (by omega) a (λW i Q U X=>?_) (Z (by decide) (by decide) (by decide))
   go_wp2
   first|exact⟨rfl,i⟩|exact i|skip
  ·
   obtain⟨b2,b0,a2⟩:=Y.h4;exact Nv (λn w=>a0 R k _ n w) i0 b3 b1 (by omega) (by simp[wT]) (by simp[wK]) (by omega) e5.symm (by rw[Y.gs,c7]) a2 Y.x4 a (Z (by decide) (by decide) (by decide))
  ·
   obtain⟨c9,d0,d1⟩:=cD a.t5;refine eW (λn w=>a0 R k _ n w) i7 (by rfl) (by decide) (by decide) (v:=Vy M V.c) (by simp[wT]) (by omega) a (λW i Q U X=>?_) (Z (by decide) (by decide) (by decide))
   go_wp2
   first|exact⟨rfl,i⟩|exact i|skip
  ·
   obtain⟨c9,d0,d1⟩:=cD a.t3;obtain⟨b2,b0,a2⟩:=Y.h2;have a4:=c0 (j:=0) Y.x2 a2 A;refine eW (λn w=>a0 R k _ n w) i8 (by rfl) (by decide) (by decide) (v:=pt V.cb 0) (by simp[wT]) (by omega) a (λW i Q U X=>?_) (Z (by decide) (by decide) (by decide));replace a4:=a4 W i
   go_wp2
   first|exact⟨rfl,i⟩|exact i|skip
  ·
   obtain⟨a5,a6,a7⟩:=a.eval (i:=4) (d:=22) (v:=pt V.cb 0) (by simp[wT]) (T 4 (by simp[du]));refine eW (λn w=>a0 R k _ n w) i9 (by rfl) (by decide) (by decide) (v:=pt V.cb 0) (by simp[wT]) (by omega) a (λW i Q U X=>?_) (Z (by decide) (by decide) (by decide))
   go_wp2
   first|exact⟨rfl,i⟩|exact i|skip
  ·
   obtain⟨a5,a6,a7⟩:=a.eval (i:=5) (d:=23) (v:=pt V.cb 0) (by simp[wT]) (T 5 (by simp[du]));refine eW (λn w=>a0 R k _ n w) j0 (by rfl) (by decide) (by decide) (v:=pt V.cb 2) (by simp[wT]) (by omega) a (λW i Q U X=>?_) (Z (by decide) (by decide) (by decide))
   go_wp2
   first|exact⟨rfl,i⟩|exact i|skip
  ·
   obtain⟨a5,a6,a7⟩:=a.eval (i:=6) (d:=24) (v:=pt V.cb 2) (by simp[wT]) (T 6 (by simp[du]));obtain⟨b6,b2,b0,a2,_,b9⟩:=Y.hc;have a4:=c0 Y.xc a2 b9;refine eW (λn w=>a0 R k _ n w) j1 (by rfl) (by decide) (by decide) (v:=V.tp) (by simp[wT]) (by omega) a (λW i Q U X=>?_) (Z (by decide) (by decide) (by decide));replace a4:=a4 W i
   go_wp2
   first|exact⟨rfl,i⟩|exact i|skip
  ·
   obtain⟨c9,d0,d1⟩:=cD a.t2;obtain⟨b2,b0,a2⟩:=Y.h3;have a4:=c0 (j:=0) Y.x3 a2 A;refine eW (λn w=>a0 R k _ n w) j2 (by rfl) (by decide) (by decide) (v:=VG (C ⟨V.bl,V.off,I⟩) V.n V.nc) (by simp[wT]) (by omega) a (λW i Q U X=>?_) (Z (by decide) (by decide) (by decide));replace a4:=a4 W i
   go_wp2
   first|exact⟨rfl,i⟩|exact i|skip
  ·
   obtain⟨c9,d0,d1⟩:=cD a.t5;refine eW (λn w=>a0 R k _ n w) j3 (by rfl) (by decide) (by decide) (v:=Vy M V.c) (by simp[wT]) (by omega) a (λW i Q U X=>?_) (Z (by decide) (by decide) (by decide))
   go_wp2
   first|exact⟨rfl,i⟩|exact i|skip
  ·
   obtain⟨a5,a6,a7⟩:=a.eval (i:=8) (d:=26) (v:=VG (C ⟨V.bl,V.off,I⟩) V.n V.nc) (by simp[wT]) (T 8 (by simp[du]));obtain⟨k3,k4,k5⟩:=a.eval (i:=9) (d:=27) (v:=Vy M V.c) (by simp[wT]) (T 9 (by simp[du]));refine eW (λn w=>a0 R k _ n w) h0 (by rfl) (by decide) (by decide) (v:=pt V.bl (V.off+V.c*9)) (by simp[wT]) (by omega) a (λW i Q U X=>?_) (Z (by decide) (by decide) (by decide))
   go_wp2
   first|exact⟨rfl,i⟩|exact i|skip
  ·
   obtain⟨a5,a6,a7⟩:=a.eval (i:=10) (d:=28) (v:=pt V.bl (V.off+V.c*9)) (by simp[wT]) (T 10 (by simp[du]));refine eW (λn w=>a0 R k _ n w) h1 (by rfl) (by decide) (by decide) (v:=pt V.bl (V.off+V.c*9)) (by simp[wT]) (by omega) a (λW i Q U X=>?_) (Z (by decide) (by decide) (by decide))
   go_wp2
   first|exact⟨rfl,i⟩|exact i|skip
  ·
   obtain⟨a5,a6,a7⟩:=a.eval (i:=11) (d:=29) (v:=pt V.bl (V.off+V.c*9)) (by simp[wT]) (T 11 (by simp[du]));refine eW (λn w=>a0 R k _ n w) h2 (by rfl) (by decide) (by decide) (v:=pt V.bl (V.off+V.c*9+1)) (by simp[wT]) (by omega) a (λW i Q U X=>?_) (Z (by decide) (by decide) (by decide))
   go_wp2
   first|exact⟨rfl,i⟩|exact i|skip
  ·
   obtain⟨a5,a6,a7⟩:=a.eval (i:=12) (d:=30) (v:=pt V.bl (V.off+V.c*9+1)) (by simp[wT]) (T 12 (by simp[du]));refine eW (λn w=>a0 R k _ n w) h3 (by rfl) (by decide) (by decide) (v:=pt V.bl (V.off+V.c*9+1+1)) (by simp[wT]) (by omega) a (λW i Q U X=>?_) (Z (by decide) (by decide) (by decide))
   go_wp2
   first|exact⟨rfl,i⟩|exact i|skip
  ·
   obtain⟨a5,a6,a7⟩:=a.eval (i:=13) (d:=31) (v:=pt V.bl (V.off+V.c*9+1+1)) (by simp[wT]) (T 13 (by simp[du]));refine eW (λn w=>a0 R k _ n w) h4 (by rfl) (by decide) (by decide) (v:=pt V.bl (V.off+V.c*9+1+1+1)) (by simp[wT]) (by omega) a (λW i Q U X=>?_) (Z (by decide) (by decide) (by decide))
   go_wp2
   first|exact⟨rfl,i⟩|exact i|skip
  ·
   obtain⟨a5,a6,a7⟩:=a.eval (i:=14) (d:=32) (v:=pt V.bl (V.off+V.c*9+1+1+1)) (by simp[wT]) (T 14 (by simp[du]));obtain⟨b6,b2,b0,a2,b9⟩:=Y.elem;have a4:=c0 Y.xl a2 (b9 V.c c6);refine eW (λn w=>a0 R k _ n w) h5 (by rfl) (by decide) (by decide) (v:=.string V.path) (by simp[wT]) (by omega) a (λW i Q U X=>?_) (Z (by decide) (by decide) (by decide));replace a4:=a4 W i
   go_wp2
   first|exact⟨rfl,i⟩|exact i|skip
  ·
   refine Se h6 b1 (T 7 (by simp[du])) (T 15 (by simp[du])) (by rw[g6];exact Y.look V.c c6) a0 a λj6 f3 h c l g d3=>c8 b5 h c l g ⟨j6,f3,d3,?_,?_,?_⟩
   .intro _;exact getD_eq b3
   .rw[ep (by decide),ep (by decide)];exact e2
   simp_all
  ·
   obtain⟨a5,a6,a7⟩:=a.eval (i:=16) (d:=34) (v:=.tuple #[.agg R,k]) (by simp[wT]) (T 16 (by simp[du]));refine eW (λn w=>a0 R k _ n w) h7 (by rfl) (by decide) (by decide) (v:=.tuple #[.agg R,k]) (by simp[wT]) (by simp_all [du]) a (λW i Q U X=>?_) (Z (by decide) (by decide) (by decide))
   go_wp2
   first|exact⟨rfl,i⟩|exact i|skip
  ·
   obtain⟨a5,a6,a7⟩:=a.eval (i:=17) (d:=17) (v:=.tuple #[.agg R,k]) (by simp[wT]) (T 17 (by simp[du]));refine eW (λn w=>a0 R k _ n w) h8 (by rfl) (by decide) (by decide) (v:=.agg R) (by simp[wT]) (by intro _;exact a.ord 17 (VA A) (T 17 (by simp[du]))) a (λW i Q U X=>?_) (Z (by decide) (by decide) (by decide))
   go_wp2
   first|exact⟨rfl,i⟩|exact i|skip
  ·
   obtain⟨a5,a6,a7⟩:=a.eval (i:=17) (d:=17) (v:=.tuple #[.agg R,k]) (by simp[wT]) (T 17 (by simp[du]));refine eW (λn w=>a0 R k _ n w) h9 (by rfl) (by decide) (by decide) (v:=k) (by simp[wT]) (by intro _;exact a.ord 17 (VA A) (T 17 (by simp[du]))) a (λW i Q U X=>?_) (Z (by decide) (by decide) (by decide))
   go_wp2
   first|exact⟨rfl,i⟩|exact i|skip
  ·
   refine tZ i1 b3 b1 (by omega) (by simp[wT]) (c:=V.gb) (o:=V.c*10) (by simp[wK]) (by omega) a (λb7 Q U X=>?_) (Z (by decide) (by decide) (by decide));have a8:=a.xB (i:=0) (d:=18) (v:=VG (C ⟨V.gb,0,I⟩) V.n V.n) (by simp[wK]) (T 0 (by simp[du]));have j4:=xJ a.rel (a.tab (1,19,Vy M V.c) (by simp[wT]) (T 1 (by simp[du])))
   grind [yf,cD]
  ·
   refine tZ i2 b3 b1 (by omega) (by simp[wT]) (c:=V.gb) (o:=V.c*10+9*0) (by simp[wK]) (by omega) a (λb7 Q U X=>?_) (Z (by decide) (by decide) (by decide));have a8:=a.xB (i:=20) (d:=37) (v:=pt V.gb (V.c*10)) (by simp[wK]) (T 20 (by simp[du]));exact ye (by omega) (cD a8).1 b7 Q U X
  ·
   have d6:=T 18 (by simp[du]);have b8:=a.ord 18 (VC (VA A)) d6;obtain⟨f0,f1,d5⟩:=Y.TO _ _ _ _ (a.sn b8);have d9:a3.getD 25 Vz=Vz:=by simp_all
   rw[d9,b1]at b4;subst b4;have a8:=a.xB (i:=21) (d:=38) (v:=pt V.gb (V.c*10)) (by simp[wK]) (T 21 (by simp[du]));rw[c7]at a8;refine GV (u:=u+1) i3 Pr a.rel a8 (a.tab (18,35,.agg R) (by simp[wT]) d6) f0 f1 (by rw[Y.gn];omega) (λj g4=>Y.own V.c c6 e4 j (by omega)) (λU e8=>VA (g0 U e8)) ?_;refine c8 _ h c l g ⟨R,k,a.done (VA A),?_,?_,?_⟩
   .simp_all
   .simp_all
   rw[ep (by decide),d9,getD_eq b3];rfl
  ·
   refine tZ i4 b3 b1 (by omega) (by simp[wT]) (c:=V.gb) (o:=V.c*10) (by simp[wK]) (by omega) a (λb7 Q U X=>?_) (Z (by decide) (by decide) (by decide));have a8:=a.xB (i:=2) (d:=20) (v:=VG (C ⟨V.gb,0,I⟩) V.n V.n) (by simp[wK]) (T 2 (by simp[du]));have j4:=xJ a.rel (a.tab (3,21,Vy M V.c) (by simp[wT]) (T 3 (by simp[du])))
   grind [yf,cD]
  ·
   refine tZ i5 b3 b1 (by omega) (by simp[wT]) (c:=V.gb) (o:=V.c*10+9*1) (by simp[wK]) (by omega) a (λb7 Q U X=>?_) (Z (by decide) (by decide) (by decide));have a8:=a.xB (i:=23) (d:=39) (v:=pt V.gb (V.c*10)) (by simp[wK]) (T 23 (by simp[du]));exact ye (by omega) (cD a8).1 b7 Q U X
  ·
   have d8:=T 22 (by simp[du]);have d7:=T 19 (by simp[du]);have b8:=a.ord 19 (VC (VC A)) d7;obtain⟨f0,f1,d5⟩:=Y.TO _ _ _ _ (a.sn b8);rw[b1,d8]at b4;subst b4;have a8:=a.xB (i:=24) (d:=40) (v:=pt V.gb (V.c*10+9)) (by simp[wK]) (T 24 (by simp[du]));rw[c7]at a8;have g3:k.cells=#[k]:=by generalize k=X at d5;cases X<;>first|rfl|(cases d5;done)
   refine GV (u:=u) i6 RP a.rel a8 (a.tab (19,36,k) (by simp[wT]) d7) (by rw[g3];rfl) (by simp_all) (by rw[Y.gn];omega) (λj g4=>by have:=Y.own V.c c6 e4 (9+j) (by omega);simp_all) (λU e8=>?_) ?_
   .grind
   refine c8 _ h c l g ⟨R,k,a.done (VC A),?_,?_,?_⟩
   .intro _;rw[ep (by decide)];exact b8
   .intro _;rw[ep (by decide)];exact d8
   simp_all
 .rintro a3 e3 b5 h c l g⟨R,k,a,_,_,b4⟩;rw[e3 25 (by omega)]at b4;subst b4;exact next R k h c l g a3 a (a.sn (e3 16 (by omega)))
 rw[e9];refine⟨f2,e0,d2,?_,?_,?_⟩
 .simp
 .simp
 rfl
end
end
variable{R:VS}{o:K}{S:VM}{e:VD Item}{T:VD VM}{a0:E}{W:VD E}{p:VQ}{H:VQ}{d:E}
section
variable[Inhabited aV]
theorem KG{a4:Type}{p:VE a4}(a:p.size=41):∃c d q H X Z a0 a1 a2 a3 e f g h i k l m n o r s t u v w x y z D L N O P Q R S T U W Y,p=#[c,d,q,H,X,Z,a0,a1,a2,a3,e,f,g,h,i,k,l,m,n,o,r,s,t,u,v,w,x,y,z,D,L,N,O,P,Q,R,S,T,U,W,Y]:=by
 obtain⟨b⟩:=p
 iterate 41
  rcases b with _|⟨_,b⟩
  simp at a
 obtain rfl:=XK.1 (by simpa using a)
 grind
section
variable{main:VI}
theorem DI{a:Goal R f main m}{d:Wc}{b:VE Wd}{k:VE VJ}{g:VD (E×Vx)}(t:S.kind≠.early)(u:bM z a0 I (.defer {callee:=.value (.func d),args:=b,argTypes:=k}))
 (v:aw f h ⟨[],g⟩ p H)(s:p.defers=[])
 (next:∀c,aw f h ⟨[dcall d (b.map H.eval)],g⟩ p c->a.G h o (rg (S.at c (VP z W::e)) T)):a.G h o (rg (S.at H (VP z (a0::W)::e)) T):=by
 obtain⟨⟨D,O,Q,P,L,N⟩,l,n,q,r⟩:=u;subst n q r;refine Goal.pure _ A rfl (λi=>?_) (next _ (v.Lq s));exact Go.Conc.stepG_defer (P:=R) (main:=main) (a:=H) (w:=i) (k:=e) (cs:=T) (rest:=W) l A t A
end
def vE(d c a:E):E:=(d-a+c-1)/c
theorem Jf{c a:E}(e:1<=c)(b:vE d c a=0):d<=a:=by unfold vE at b;apply Classical.byContradiction;intro f;rw[E.div_eq_zero_iff]at b;omega
theorem Je{c a:E}(g:1<=c)(b:vE d c a=u+1):a<d/\vE d c (a+c)=u:=by
 unfold vE at b⊢
 have f:a<d:=by apply Classical.byContradiction;intro h;rw[show d-a+c-1=c-1 by omega,y_ (by omega)]at b;cases b
 refine⟨f,?_⟩;by_cases hd:c<=d-a
 .have e:d-a+c-1=(d-(a+c)+c-1)+c:=by omega
  rw[e,E.add_div_right _ (by omega)]at b;omega
 rw[show d-(a+c)+c-1=c-1 by omega,y_ (by omega)];have e:d-a+c-1=(d-a-1)+c:=by omega
 rw[e,E.add_div_right _ (by omega),y_ (by omega)]at b;omega
section
variable{g:WD}{L:K}{t r v x O c N Q q U:E}{Z:Vx}{Y:E->VX}{y:E->VE Vx->Vx->K->Prop}
def CH(d c q:E)(y:E->VE Vx->Vx->K->Prop)(cl:bE)(o:K):Prop:=∀e,e<d->e%c=q->∃b a,(e*10,b)∈cl/\(e*10+9,#[a])∈cl/\y e b a o
theorem yq(b:Hj g D L r v x s d O c N Q q U Z Y y):∀cl(o:K) a,CH d c q y cl {o with tape:=a}->CH d c q y cl o:=λcl o a h e m n=>by obtain⟨p,f,i,k,l⟩:=h e m n;exact⟨p,f,i,k,b.TN (c:={o with tape:=a}) (k:=o) A l⟩
structure SB(g:WD)(D:E->Prop)(L:K)(t r v x d c q:E)(y:E->VE Vx->Vx->K->Prop)(n:E)(b:E×bE)(a:E)(cl:bE)(h:Ren)(o:K)(p H:VQ):Prop where
 inv:Inv TP aW D h o
 keep:∀b,D b->o.heap[b]?=L.heap[b]?
 size:L.heap.size<=o.heap.size
 len:p.tmps.size=41
 defs:p.defers=[]
 t1:p.tmps[1]?=C (pt t 0)
 t2:p.tmps[2]?=C (pt r 0)
 t3:p.tmps[3]?=C (pt v 0)
 t4:p.tmps[4]?=C (pt x 0)
 t5:p.tmps[5]?=C (Vy M a)
 rel:aw aW h ⟨[dcall 57 #[pt g.Wg 0]],[(4,pt g.gv 0)]⟩ p H
 hx:b=(2*n,cl)
 hr:n=vE d c a
 mod:a%c=q
 small:a<2^41
 cls:∀k∈cl,k.1+k.2.size<=a*10
 SR:∀e,e<d->e%c=q->e<a->∃w i,(e*10,w)∈cl/\(e*10+9,#[i])∈cl/\y e w i o
theorem BD{e a c:E}(d:e%c=a%c)(f:a<=e)(g:e<a+c):e=a:=by obtain⟨b,rfl⟩:∃b,e=a+b:=⟨e-a,by omega⟩;have h:=E.sub_mod_eq_zero_of_mod_eq d;simp_all [ZH]
theorem CM(i:Hj g D L r v x s d O c N Q q U Z Y y)(m2:q<c)(p2:D t)(k5:∃i7 k1,L.heap[t]?=C (VH #[Vy M q] i7 k1))(h0:Inv TP aW D h L)(h4:h x g.gv)(l9:g.ty=151)
 {g1 g0 f9:Vx}(i6:an aW h (pt t 0) g1)(i5:an aW h (pt r 0) g0)(i4:an aW h (pt v 0) f9):
 jl TP aW D (tz g) (kM TP g (CH d c q y) U aW D (2*vE d c q) []) h L (born TP {target:=.fn (.func 56) #[pt g.Wg 0,g1,g0,f9,pt g.gv 0],args:=#[]}):=by
 show(iR TP g (CH d c q y) (yq i) U aW D (2*vE d c q,[])).G h L _;refine Goal.pure _ A rfl (λg2=>uD Tryz.func56 (by decide) A) ?_;rw[enter_atD _ Tryz.func56 A]
 simp only[Tryz.ntmps56,Xc,WO,XG,E.reduceAdd,E.reduceSub,Yk,
  Yl,YH,Yu,XN,Xe]
 have i2:=aY (f:=aW) (h:=h)
 have f3:aw aW h ⟨[],[(0,pt g.Wg 0),(4,pt g.gv 0)]⟩ ⟨#[F,pt t 0,pt r 0,pt v 0,pt x 0,F,F,F,F,F,F,F,F,F,F,F,F,F,F,F,F,F,F,F,F,F,F,F,F,F,F,F,F,F,F,F,F,F,F,F,F],[]⟩ ⟨#[pt g.Wg 0,g1,g0,f9,pt g.gv 0,F,F,F,F,F,F,F,F,F,F,F,F,F,F,F,F,F,F,F,F,F,F,F,F,F,F,F,F,F,F,F,F,F,F,F,F],[]⟩:=by
  refine⟨?_,⟨[],A,.nil⟩,by simp⟩;refine aZ.arr (.cons (.bU trivial) (.cons i6 (.cons i5 (.cons i4 (.cons (.ptr ⟨h4,A,A⟩) ?_)))))
  repeat (first|exact .nil|refine .cons i2 ?_)
 generalize (⟨#[pt g.Wg 0,g1,g0,f9,pt g.gv 0,F,F,F,F,F,F,F,F,F,F,F,F,F,F,F,F,F,F,F,F,F,F,F,F,F,F,F,F,F,F,F,F,F,F,F,F],[]⟩:VQ)=H at f3⊢
 have p0:=i.UT;have p1:=i.small;refine bw (eB ?_);refine DI (by decide) ⟨_,A,A,A,A⟩ f3 A λj5 e6=>bO (bw ?_)
 have h3:H.eval (.tmp 0)=pt g.Wg 0:=by have:=f3.kn (0,pt g.Wg 0) (by simp);simp_all [cD]
 replace e6:aw aW h ⟨[dcall 57 #[pt g.Wg 0]],[(4,pt g.gv 0)]⟩ ⟨#[F,pt t 0,pt r 0,pt v 0,pt x 0,F,F,F,F,F,F,F,F,F,F,F,F,F,F,F,F,F,F,F,F,F,F,F,F,F,F,F,F,F,F,F,F,F,F,F,F],[]⟩ j5:=by simp only[XB,XE,XO,h3]at e6;exact e6.less A (by simp)
 obtain⟨p6,o3,k9⟩:=k5;refine bX gO (by decide) (by decide) (H:=[4]) A (by rfl) h0 e6 (λP a2=>P=⟨#[F,pt t 0,pt r 0,pt v 0,pt x 0,Vy M q,Vy M q,F,F,F,F,F,F,F,F,F,F,F,F,F,F,F,F,F,F,F,F,F,F,F,F,F,F,F,F,F,F,F,F,F,F],[]⟩/\a2.heap=L.heap) (λa6 X _ _ _=>?_) (λP a2 a1 l _=>by rw[a1.2]) ?_
 .have h6:a6.cell? ⟨t,0,I⟩=C (Vy M q):=by simp_all [K.cell?]
  go_wp2
  exact⟨A,X⟩
 rintro q0 _ n9 p9 h1 k3 i1⟨rfl,h8⟩;refine ia ?_
 refine pX (c:=λl=>iR TP g (CH d c q y) (yq i) U aW D l) (λm5 l h o H=>∃p b cl,SB g D L t r v x d c q y m5 l b cl h o p H) ?_ ?_ (vE d c q) (a:=(2*vE d c q,[]))
  ⟨_,q,[],⟨h1,λl _=>by rw[h8],by simp_all,A,A,A,A,A,A,A,i1,A,A,ZH m2,by omega,by simp,λe f2 g6 i0=>by rw[ZH (by omega)]at g6;omega⟩⟩
 .clear i1 h1 h8 k3 e6 f3 h3 k9 i2 i6 i5 i4 h4 h0;rintro u m3 l h o H⟨p,b,cl,a⟩;obtain⟨h7,l7⟩:=Je i.Uh a.hr.symm;obtain⟨e8,g3⟩:=p;have a3:=a.len;simp only at a3;obtain⟨a8,i8,i9,j0,j1,j2,d8,f6,f7,f8,f5,d9,e0,e1,e2,e3,e4,a9,b0,b1,b2,b3,b4,b5,b6,b7,b8,b9,c0,c6,c7,c8,c9,d0,d1,d2,d3,d4,d5,d6,d7,rfl⟩:=KG a3;have hd:=a.defs;simp only at hd;subst hd;have q1:=a.t1;have n:=a.t2;have w:=a.t3;have a4:=a.t4;have a5:=a.t5;simp only[WM,WX,WT,Wz]at q1 n w a4 a5;subst q1 n w a4 a5;have o9:(b:VB)<d:=by omega
  obtain⟨m8,k2,g5⟩:=i.h3;refine bw (bw (bX gO (by decide) (by decide) (H:=[4]) A (by rfl) a.inv a.rel (λP a2=>P=⟨#[a8,pt t 0,pt r 0,pt v 0,pt x 0,Vy M b,d8,Vy M b,VG (C ⟨N,Q,I⟩) d O,Vy M d,.bool J,d9,e0,e1,e2,e3,e4,a9,b0,b1,b2,b3,b4,b5,b6,b7,b8,b9,c0,c6,c7,c8,c9,d0,d1,d2,d3,d4,d5,d6,d7],[]⟩/\a2.heap=o.heap) (λa6 X _ _ _=>?_) (λP a2 a1 l _=>by rw[a1.2]) ?_))
  .have h6:a6.cell? ⟨r,0,I⟩=C (VG (C ⟨N,Q,I⟩) d O):=by simp[K.cell?,X,a.keep r i.x3,g5]
   go_wp2
   exact⟨A,X⟩
  rintro n2 _ h2 g9 e9 k4 e7⟨rfl,e5⟩;refine iI (k:=J) (iJ e9.base e7 (by decide) A) (rJ (bw (ia ?_)));obtain rfl:=a.hx
  refine Nw (V:=⟨s,Z,N,Q,d,O,b,g.gb,g.gv,Y b⟩) i h7 a.mod A rfl rfl rfl (by decide+kernel) (λl3=>FX (R:=26) A (by decide+kernel) l3) ⟨_,A,A,A,A⟩ ⟨_,A,A,A,A⟩ ⟨_,A,A,A,A⟩ ⟨_,A,A,A,A⟩ ⟨_,A,A,A,A⟩ ⟨_,A,A,A,A⟩ ⟨_,A,A,A,A⟩ ⟨_,A,A,A,A⟩ ⟨_,A,A,A,A⟩ ⟨_,A,A,A,A⟩ ⟨_,A,A,A,A⟩ ⟨_,A,A,A,A⟩ ⟨_,A,A,A,A⟩ ⟨_,A,A,A,A⟩ ⟨_,A,A,A,A⟩ ⟨_,A,A,A,A⟩ ⟨_,A,A,A,A⟩ ⟨_,A,A,A,A⟩ ⟨_,A,A,A,A⟩ ⟨_,A,A,A,A⟩ ⟨_,A,A,A,A⟩ ⟨_,A,A,A,A⟩ ⟨_,A,A,A,A⟩ ⟨_,A,A,A,A⟩ ⟨_,A,A,A,A⟩ ⟨_,A,A,A,A⟩ (u:=2*u) a.cls (f2:=#[]) (e0:=F) (L:=g9) (c:=g9) (l:=⟨#[a8,pt t 0,pt r 0,pt v 0,pt x 0,Vy M b,d8,Vy M b,VG (C ⟨N,Q,I⟩) d O,Vy M d,.bool J,d9,e0,e1,e2,e3,e4,a9,b0,b1,b2,b3,b4,b5,b6,b7,b8,b9,c0,c6,c7,c8,c9,d0,d1,d2,d3,d4,d5,d6,d7],[]⟩) (D:=t)
   ⟨e9,λl g7=>by rw[e5,a.keep l g7],by rw[e5];exact a.size,A,A,A,A,A,A,A,λg4 l2 hd=>?_,e7,λa1=>absurd a1 (by decide),λj l4 a1=>?_,λ_ _=>rfl,Wl _⟩ ?_
  .exfalso;have:g4.1∈([0,1,2,3,4,5,6,7,8,9,10,11,12,13,14,15,16,17,18,19,20,21,23,24]:VD E):=WY.2 ⟨g4,l2,A⟩;generalize g4.1=n1 at hd this
   revert hd
   revert n1
   decide
  .exfalso;rcases l4 with rfl|rfl|rfl<;>exact absurd a1 (by decide)
  intro f4 f0 n3 m9 j6 j7 j9 k h5;obtain⟨e8,g3⟩:=j6;have a3:=k.len;simp only at a3;obtain⟨a8,i8,i9,j0,j1,j2,d8,f6,f7,f8,f5,d9,e0,e1,e2,e3,e4,a9,b0,b1,b2,b3,b4,b5,b6,b7,b8,b9,c0,c6,c7,c8,c9,d0,d1,d2,d3,d4,d5,d6,d7,rfl⟩:=KG a3;have hd:=k.defs;simp only at hd;subst hd;have q1:=k.t1;have n:=k.t2;have w:=k.t3;have a4:=k.t4;have a5:=k.t5;simp only[WM,WX,WT,Wz]at q1 n w a4 a5;subst q1 n w a4 a5
  have m0:aw aW n3 ⟨[dcall 57 #[pt g.Wg 0]],[(4,pt g.gv 0)]⟩ ⟨#[a8,pt t 0,pt r 0,pt v 0,pt x 0,Vy M b,d8,f6,f7,f8,f5,d9,e0,e1,e2,e3,e4,a9,b0,b1,b2,b3,b4,b5,b6,b7,b8,b9,c0,c6,c7,c8,c9,d0,d1,d2,d3,d4,d5,d6,d7],[]⟩ j7:=k.rel.less A (by
   intro i3 a7;simp only[Xi]at a7;subst a7
   exact YU _ (by simp))
  refine bO (AX ?_);obtain⟨p5,o2,k8⟩:=i.h2;obtain⟨n5,p7,o4,l0,k6,_⟩:=i.hc;refine bX gO (by decide) (by decide) (H:=[4]) A (by rfl) k.inv m0 (λP a2=>P=⟨#[a8,pt t 0,pt r 0,pt v 0,pt x 0,Vy M ((b+c:E):VB),d8,f6,f7,f8,f5,Vy M b,pt s 0,pt s 0,pt s 1,Vy M c,Vy M ((b+c:E):VB),a9,b0,b1,b2,b3,b4,b5,b6,b7,b8,b9,c0,c6,c7,c8,c9,d0,d1,d2,d3,d4,d5,d6,d7],[]⟩/\a2.heap=m9.heap) (λa6 X _ _ _=>?_) (λP a2 a1 l _=>by rw[a1.2]) ?_
  .have o7:a6.cell? ⟨v,0,I⟩=C (pt s 0):=by simp[K.cell?,X,k.keep v i.x2,k8]
   have o8:a6.cell? ⟨s,1,I⟩=C (Vy M c):=by simp[K.cell?,X,k.keep s i.xc,l0,k6]
   go_wp2
   exact⟨A,X⟩
  rintro n4 _ j8 n0 j3 o5 m1⟨rfl,f1⟩;refine m3 _ n4 n0 j8 ⟨_,b+c,cl++[(b*10,f4)]++[(b*10+9,#[f0])],⟨j3,λl g7=>by rw[f1,k.keep l g7],by rw[f1];exact k.size,A,A,A,A,A,A,A,m1,A,l7.symm,by rw[E.add_mod_right];exact a.mod,by omega,?_,?_⟩⟩
  .intro i3 a7;have l8:=(i.TO _ _ _ _ h5).1;simp only[WL,Xi]at a7;rcases a7 with(a7|rfl)|rfl
   .have:=a.cls i3 a7;omega
   .simp only[l8];omega
   grind
  intro e f2 h9 l5;by_cases i0:e<b
  .obtain⟨m6,k0,q1,n,w⟩:=a.SR e f2 h9 i0;refine⟨m6,k0,by simp[q1],by simp[n],i.Uu _ _ _ _ _ w (λS o6=>?_) ?_⟩
   .rw[f1,k.SS S (by simp_all),e5]
   have:=k.Sl;simp_all
  have:=BD (by rw[h9,a.mod]) (by omega) l5;subst this;exact⟨f4,f0,by simp,by simp,i.TN f1 h5⟩
 rintro l h o H⟨p,b,cl,a⟩;have h7:=Jf i.Uh a.hr.symm;obtain⟨e8,g3⟩:=p;have a3:=a.len;simp only at a3;obtain⟨a8,i8,i9,j0,j1,j2,d8,f6,f7,f8,f5,d9,e0,e1,e2,e3,e4,a9,b0,b1,b2,b3,b4,b5,b6,b7,b8,b9,c0,c6,c7,c8,c9,d0,d1,d2,d3,d4,d5,d6,d7,rfl⟩:=KG a3;have hd:=a.defs;simp only at hd;subst hd;have q1:=a.t1;have n:=a.t2;have w:=a.t3;have a4:=a.t4;have a5:=a.t5;simp only[WM,WX,WT,Wz]at q1 n w a4 a5;subst q1 n w a4 a5;obtain⟨m8,k2,g5⟩:=i.h3;refine bw (bw (bX gO (by decide) (by decide) (H:=[4]) A (by rfl) a.inv a.rel (λP a2=>P=⟨#[a8,pt t 0,pt r 0,pt v 0,pt x 0,Vy M b,d8,Vy M b,VG (C ⟨N,Q,I⟩) d O,Vy M d,.bool Vz,d9,e0,e1,e2,e3,e4,a9,b0,b1,b2,b3,b4,b5,b6,b7,b8,b9,c0,c6,c7,c8,c9,d0,d1,d2,d3,d4,d5,d6,d7],[]⟩/\a2.heap=o.heap) (λa6 X _ _ _=>?_) (λP a2 a1 l _=>by rw[a1.2]) ?_))
 .have h6:a6.cell? ⟨r,0,I⟩=C (VG (C ⟨N,Q,I⟩) d O):=by simp[K.cell?,X,a.keep r i.x3,g5]
  go_wp2
  exact⟨by simp_all,X⟩
 rintro n2 _ h2 g9 e9 k4 e7⟨rfl,e5⟩;refine iI (k:=Vz) (iJ e9.base e7 (by decide) A) (rI A ?_);refine Goal.pure _ A rfl (λg2=>by rw[be A];simp[stepG.exec,Frame.at,rg];rfl) ?_;obtain⟨e8,o0⟩:=h2;obtain⟨j9,l1,l6⟩:=e7.defers;cases l6;subst l1;obtain rfl:=a.hx;refine .stop ⟨A,⟨24,λg2 k=>?_⟩,?_⟩
 .have k7:QuitsD TP 2 0 (rg {(baseD 56).at ⟨e8,[]⟩ []with mode:=.returning} [dx TP]):=xq (m:=[]) A Tryz.func56 A;have hd:=Go.SimW.Py (a:=TP) (L:=kF) GW (h:=g.Wg) (m:={(baseD 56).at ⟨e8,[]⟩ []with mode:=.returning}) (e:=[dx TP]) A k7;rw[l9]at k⊢
  refine Go.SimW.dP (a:=TP) (main:=Vz) (k:=151) (h:=g.Wg) (f:=23) A (λo _=>?_) hd g2 k;rfl
 intro e f2 g6;obtain⟨f4,f0,q1,n,w⟩:=a.SR e f2 g6 (by omega);exact⟨f4,f0,q1,n,i.TN e5 w⟩
end
end
variable{h:VS}{d:VM}{a:VQ}{f:VD Item}{e:VD VM}{m:E}{g:VD E}{l:VE Vx}
section
variable[Inhabited aV]
theorem PK(a:K)(b:VE Wa):(zeroValue 151).runT TP a b=(.ok (.agg #[.int .u64 0,.int .u32 0]) a,b):=by
 refine ZM ?_ ?_
 .go_simp
 simp[go_sem]
theorem KE(a:K):(Instr.alloc 151 J (.tuple #[])).runT TP a #[]=(.ok (VW (C ⟨a.heap.size,0,I⟩)) {a with heap:=a.heap.push (Go.ConcR.wgBlock 151 0 0)},#[]):=by show VR.runT TP ((zeroValue 151).bind _) a #[]=_;rw[Go.Sem.runT_bind',PK];rfl
section
variable{main:VI}
theorem Dc(r:d.kind≠.early)(t:bM z m (C j) (.alloc 151))(s:∀fn,TP.funcs[d.fn]?=C fn->fn.norace=Vz)(b:K):
 stepG TP main (rg (d.at a (VP z (m::g)::f)) e) b=.go (rg (d.at (a.put (C j) (pt b.heap.size 0)) (VP z g::f)) e) {b with heap:=b.heap.push (Go.ConcR.wgBlock 151 0 0)}:=by
 obtain⟨⟨v,x,o,n,i,w⟩,p,k,l,q⟩:=t;subst k l q
 have c:(execOp a.eval ⟨C j,.alloc 151,o,n,i,I⟩).runT TP b #[]=(.ok (.value (pt b.heap.size 0)) {b with heap:=b.heap.push (Go.ConcR.wgBlock 151 0 0)},#[]):=by show VR.runT TP ((Instr.alloc 151 J (.tuple #[])).bind _) b #[]=_;rw[Go.Sem.runT_bind',KE];rfl
 have k:(execOp a.eval ⟨C j,.alloc 151,o,n,i,I⟩).run TP b=.ok (.value (pt b.heap.size 0)) {b with heap:=b.heap.push (Go.ConcR.wgBlock 151 0 0)}:=by rw[Zb]at c;exact(Zc c).1
 have l:(execOp a.eval ⟨C j,.alloc 151,o,n,i,I⟩).events TP b #[]=#[]:=by rw[Zb]at c;exact(Zc c).2
 have:=Go.Conc.stepG_value (P:=TP) (main:=main) (a:=a) (b:=d) (k:=f) (cs:=e) (rest:=g) p A r k;refine aac this ?_;rw[listed,l,seen_cells s (by simp)];rfl
theorem go_step{c:Wc}(v:d.kind≠.early)(x:bM z m I (.go {callee:=.value (.tmp j),args:=#[],argTypes:=#[]}))(w:∀fn,h.funcs[d.fn]?=C fn->fn.norace=Vz)(u:a.tmps[j]?=C (.func (.func c) #[] l))(b:K):
 stepG h main (rg (d.at a (VP z (m::g)::f)) e) b=.spawn (rg (d.at a (VP z g::f)) e) (born h {target:=.fn (.func c) l,args:=#[]}) b #[]:=by
 obtain⟨⟨N,Q,D,y,r,O⟩,s,k,n,t⟩:=x;subst k n t;have P:a.eval (.tmp j)=.func (.func c) #[] l:=by simp[Act.eval,u]
 have o:(execOp a.eval ⟨I,.go {callee:=.value (.tmp j),args:=#[],argTypes:=#[]},D,y,r,I⟩).runT h b #[]=(.ok (.spawn {target:=.fn (.func c) l,args:=#[]}) b,#[]):=by simp_all [execOp,resolve,Deferred.ofValue]
 rw[Zb]at o;have k:=(Zc o).1;have n:=(Zc o).2;have:=Go.Conc.stepG_spawn (P:=h) (main:=main) (a:=a) (b:=d) (k:=f) (cs:=e) (rest:=g) s A v k A;refine aac this ?_;rw[listed,n,seen_cells w (by simp)];rfl
end
end
variable{c:VS}{f:Set}{m:E->Prop}{h:Ren}{b:K}{a:E}{d:VD VM}
section
variable[Inhabited aV]
def tl:Code->Code
 |.seq _ b=>b
 |a=>a
def hd:Code->Code
 |.seq b _=>b
 |a=>a
noncomputable def lq:Code:=(Tryz.f39.body).getD .skip
def sH(s d e f g a c:E)(b:VL VT):VQ:=⟨#[pt s 0,.slice b a c,pt d 0,pt e 0,pt f 0,F,F,F,F,.slice b a c,Vy M a,VG (C ⟨g,0,I⟩) a a,F,F,F,F,F,F,F,F,F,F,F,F,F,F,F,F,F,F,F,F,F,F,F,F,F,F,F,F,F,F,F],[]⟩
theorem bQ{a:VE Obj}{d:Obj}{b:E}(c:b<a.size):(a.push d)[b]?=a[b]?:=by rw[Yv c,Wj c]
theorem yd(d:Inv c f m h b){a:E}(g:m a):a<b.heap.size:=by obtain⟨i,e,_⟩:=d.cY a g;exact(Wh.1 e).1
theorem OO(a:E)(l:a<2^30)(b:K):∃cl:VE Vx,cl.size=a*10/\(Instr.makeSlice 141 (Vy M a) (Vy M a)).run TP b=.ok (VG (C ⟨b.heap.size,0,I⟩) a a) (b.alloc (.cells cl 158)):=by
 obtain⟨d,g,k,h,e,i⟩:∃d,TP.info? 158=C d/\d.bytes<=1000/\d.size=10/\∃e,d.zero=C e:=by refine⟨_,A,by decide,A,_,A⟩
 have f:=Go.run_make (P:=TP) b 141 158 d e A g i M M a a (by omega) (Int.le_refl _) (by
  have:(d.bytes:VB)*a<=1000*a:=VB.mul_le_mul_of_nonneg_right (by omega) (by omega)
  omega) (by omega)
 simp only[VB.toNat_natCast]at f;exact⟨_,by rw[size_madeCells,h],f⟩
theorem RO{R:Goal TP ar J m}{i:E}{g:VL VT}{k:VE Vx}{S:VM}(a3:a<2^30)
 (n:Inv TP ar m h b)(p:ax ar h #[pt s 0,.slice g a i] k)
 (next:∀t e y,Inv TP ar m t e->cW m h b t e->aw ar t ⟨[],[]⟩ (sH s b.heap.size (b.heap.size+1) (b.heap.size+3) (b.heap.size+2) a i g) y->
   (∃cl:VE Vx,cl.size=a*10/\e.heap=(((b.heap.push (.cells #[pt s 0] 76)).push (.cells #[.slice g a i] 103)).push (.cells cl 158)).push (.cells #[VG (C ⟨b.heap.size+2,0,I⟩) a a] 141))->
   R.G t e (rg ((base 39).at y [.code (tl (tl lq))]) (S::d))):R.G h b (rg (Frame.enter TP 39 k .normal) (S::d)):=by
 have z:Frame.enter TP 39 k .normal=(base 39).at ⟨k++Array.replicate (43-k.size) F,[]⟩ [.code lq]:=by simp[Frame.enter,Frame.at,base,Tryz.func39];rfl
 rw[z];obtain⟨q,r,rfl⟩:∃q r,k=#[q,r]:=by have:=p.1;simp at this;exact⟨k[0],k[1],by apply ZG (by simp[<-this]);intro W b1 a1;simp at a1;rcases(by omega:W=0\/W=1)with rfl|rfl<;>simp⟩
 have O:an ar h (pt s 0) q:=p.2 0 _ _ A rfl;have P:an ar h (.slice g a i) r:=p.2 1 _ _ A rfl;have L:=aY (f:=ar) (h:=h)
 simp only[Xc,WO,XG,E.reduceAdd,E.reduceSub,Yk,
  Yl,YH,Yu,XN,Xe]
 have v:aw ar h ⟨[],[]⟩ ⟨#[pt s 0,.slice g a i,F,F,F,F,F,F,F,F,F,F,F,F,F,F,F,F,F,F,F,F,F,F,F,F,F,F,F,F,F,F,F,F,F,F,F,F,F,F,F,F,F],[]⟩ ⟨#[q,r,F,F,F,F,F,F,F,F,F,F,F,F,F,F,F,F,F,F,F,F,F,F,F,F,F,F,F,F,F,F,F,F,F,F,F,F,F,F,F,F,F],[]⟩:=by
  refine⟨?_,⟨[],A,.nil⟩,by simp⟩;refine aZ.arr (.cons O (.cons P ?_))
  repeat (first|exact .nil|refine .cons L ?_)
 generalize (⟨#[q,r,F,F,F,F,F,F,F,F,F,F,F,F,F,F,F,F,F,F,F,F,F,F,F,F,F,F,F,F,F,F,F,F,F,F,F,F,F,F,F,F,F],[]⟩:VQ)=y at v⊢
 refine bw (bX ak (by decide) (by decide) (H:=[]) A (by decide+kernel) n v (λo e=>o=⟨#[pt s 0,.slice g a i,pt b.heap.size 0,pt (b.heap.size+1) 0,F,F,F,F,F,F,F,F,F,F,F,F,F,F,F,F,F,F,F,F,F,F,F,F,F,F,F,F,F,F,F,F,F,F,F,F,F,F,F],[]⟩/\e.heap=(b.heap.push (.cells #[pt s 0] 76)).push (.cells #[.slice g a i] 103)) (λw l _ _ _=>?_) ?_ ?_)
 .clear next p z v O P L n
  go_wp2
  exact⟨by simp[l],by simp[World.alloc,l]⟩
 .rintro o e⟨_,D⟩ a7 N;have:=yd n N;rw[D,bQ (by simp;omega),bQ this]
 rintro t _ a9 e Q T U⟨rfl,u⟩;refine bw (bX ak (by decide) (by decide) (H:=[]) A (by decide+kernel) Q U (λo x=>o=sH s b.heap.size (b.heap.size+1) (b.heap.size+3) (b.heap.size+2) a i g/\∃cl:VE Vx,cl.size=a*10/\x.heap=((e.heap.push (.cells cl 158)).push (.cells #[VG (C ⟨b.heap.size+2,0,I⟩) a a] 141))) (λw l _ _ _=>?_) ?_ ?_)
 .have b0:w.cell? ⟨b.heap.size+1,0,I⟩=C (.slice g a i):=by simp[K.cell?,l,u,VE.getElem_push]
  have a4:w.heap.size=b.heap.size+2:=by rw[l,u];simp
  clear next p z v U O P L n Q T
  go_wp2
  obtain⟨cl,H,a2⟩:=OO a a3 w;rw[a2]
  go_wp2
  exact⟨A,cl,H,by simp[World.alloc,l]⟩
 .rintro o x⟨_,cl,_,D⟩ a7 N;have a4:e.heap.size=b.heap.size+2:=by rw[u];simp
  have:=yd n N;rw[D,bQ (by simp;omega),bQ (by omega)]
 rintro a8 _ Y x X Z a5⟨rfl,cl,H,a0⟩;exact next a8 x Y X (T.trans Z) a5 ⟨cl,H,by rw[a0,u]⟩
end
end Go.Sim
namespace Go.Sim
open Go.Conc Go.Proofs Go.RowKit
open Go.ConcN (PermW PermW.app PermW.of fork_knows WgLive RelBy sumTo)
open Go.ConcR (KK wgBlock WgAt stA smA rd wr mk DC0)
open Go.ConcR.Gen Go.ConcN.Gen Go.Conc.Lib
variable{r:VS}{f:Set}{m:E->Prop}{h:Ren}{l:K}{d:VM}{n:VD VM}{s:VQ}{c:VQ}{g:VD Item}{id:E}{p:E}{q:VD E}{z:VE Oper}{j:E}{t:Vx}{X:E->Prop}{D:eX}
section
variable[Inhabited aV]
section
variable{Sp:Set}{main:VI}{u:Goal r f main m}{β':Ren}
variable{x:Rt}
theorem Ou(T:Good r f)(a0:f.fr d.fn=J)(a1:d.kind≠.early){k:VD Oper}{P:VD E}(a2:x.kn.map (·.1)=P)(a4:rR r f P k.toArray=J)(a3:r.follows .mixedOrders=J)(N:Region.lexB .any k.toArray=J)(U:Inv r f m h l)(a5:aw f h x s c)(H:VQ->Prop)
 (i:∀R:K,R.heap=l.heap->wpQuiet r k.toArray (λw=>∃v,w=R.drewN v) H k s)
 (next:∀y b L a,Inv r f m y a->cW m h l y a->aw f y x b L->H b->a.heap=l.heap->u.G y a (rg (d.at L g) n)):u.G h l (rg (d.at c (.code (.region id k.toArray J)::g)) n):=by
 refine LC (o:=λb a=>H b/\a.heap=l.heap) (wC T a0 a1 (qy a2 a4) a3 (i:=λb a=>H b/\a.heap=l.heap) (λO=>?_) (λb a i o _=>by rw[i.2]) λb a i=>i) U a5 λy b L a W Z a6 i=>next y b L a W Z a6 i.1 i.2
 simp only[Region.lexB,WH]at N;refine wpAny_of_quiet (C:=λw=>∃v,w=({l with tape:=O}:K).drewN v) (Q:=H) (λs w a7 i=>?_) _ _ _ _ ⟨0,A⟩ ?_
 .obtain⟨v,rfl⟩:=a7;exact⟨i,A⟩
 have:=wpAnyQ_lex (C:=λw=>∃v,w=({l with tape:=O}:K).drewN v) (md:=.any) N.1 k 0 (Array.replicate k.toArray.size Vz) s (by simp) (by simpa using N.2) (i {l with tape:=O} A);simpa using this
theorem uN{x:VL Tmp}{b:Wc}{e:VE Wd}{v:VE VJ}{fn:Func}{w:Code}(H:d.kind≠.early)(N:bM z p x (.call {callee:=.value (.func b),args:=e,argTypes:=v}))
 (t:r.funcs[b]?=C fn)(L:(fn.name== "runtime.NumGoroutine")=Vz)(o:fn.body=C w)(a:K):
 stepG r main (rg (d.at c (VP z (p::q)::g)) n) a=.go (rg (Frame.enter r b (e.map c.eval) .normal) (d.at c (VP z (p::q)::g)::n)) a:=by
 obtain⟨⟨R,T,W,U,S,f⟩,D,i,k,m⟩:=N;simp only at i k m;subst i k m
 have:=goes_call (P:=r) (main:=main) (w:=a) (cs:=n) (k:=g) (rest:=q) (a:=c) (b:=d) (K:=λf l h=>f=rg (Frame.enter r b (e.map c.eval) .normal) (d.at c (VP z (p::q)::g)::n)/\l=a/\h=#[]) D A H A t L o ⟨by simp[G,rg,Frame.enter,Frame.at,base,t,o],A,A⟩
 obtain⟨f,l,h,y,rfl,rfl,rfl⟩:=x_ this;exact y
theorem aw.LZ{k:Vx}(b:aw f h x s c)(v:c.tmps[j]?=C k)(y:an f h t k):aw f h x (s.put (C j) t) c:=by
 have L:=(Wh.1 v).1;refine⟨⟨by simp[Act.put,b.tmps.1],λp o H a i=>?_⟩,b.defers,b.kn⟩;simp only[Act.put]at a;rw[WK]at a;by_cases w:j=p
 .subst w;rw[VV A]at a;split at a
  .cases a;rw[v]at i;cases i;exact y
  cases a
 rw[VK w]at a;exact b.tmps.2 p o H a i
theorem aw.part(a:aw f h x s c)(hd:s.defers=[])(i:∀(p:E) o,s.tmps[p]?=C o->aR X o\/bN o)(b:∀o Q,X o->h o Q->β' o Q):aw Sp β' x (Act.jk X s) c:=by have:=(a.jk (Sp:=Sp) hd i).mono (β₁:=β') λo Q a=>b o Q a.1 a.2;exact this
theorem aR.mono{w:E->Prop}(k:∀s,X s->w s)(a:aR X t):aR w t:=by
 induction a with
 |bU=>exact .bU
 |bool d=>exact .bool d
 |int g b=>exact .int g b
 |string y=>exact .string y
 |cH=>exact .cH
 |ptr a=>exact .ptr (k _ a)
 |aP b i=>exact .aP b i
 |slice a b i=>exact .slice (k _ a) b i
 |iface H _ v=>exact .iface H v
 |nilIface=>exact .nilIface
 |agg _ v=>exact .agg v
 |map a=>exact .map (k _ a)
 |fq=>exact .fq
 |eh=>exact .eh
 |nilFunc=>exact .nilFunc
end
section
variable{u:dc}{e:dm}{x:Rt}{o Q:Wd}
theorem Om(t:Vx):Frame.enter TP 55 #[t,Vy M 1] .normal=(base 55).at ⟨#[t,Vy M 1,F,F,F,F,F,F,F,F,F,F,F,F,F,F,F,F,F,F,F,F,F,F,F,F,F,F,F,F,F,F,F,F,F,F,F,F,F,F,F,F,F,F,F,F,F,F,F,F,F,F,F,F,F,F,F,F,F,F,F,F,F,F,F,F,F,F,F,F,F,F,F,F,F,F,F,F,F,F,F,F,F,F,F,F,F,F,F,F,F,F,F,F,F,F,F,F,F,F,F,F,F,F,F,F,F,F,F,F,F,F,F,F,F,F,F],[]⟩ [.code (body_add kF)]:=by
 have a:Frame.enter TP 55 #[t,Vy M 1] .normal=(base 55).at ⟨#[t,Vy M 1]++Array.replicate (117-2) F,[]⟩ [.code (body_add kF)]:=by simp[Frame.enter,Frame.at,base,Tryz.func55];rfl
 rw[a];simp only[E.reduceSub,Yk,Yl,YH,Yu,XN,Xe]
theorem On(t:Vx):Frame.enter TP 59 #[t] .normal=(base 59).at ⟨#[t,F,F,F,F,F,F,F,F,F,F,F,F,F,F,F,F,F,F,F,F,F,F,F,F,F,F,F,F,F,F,F,F,F,F,F,F,F,F,F,F,F,F,F,F,F,F,F,F,F,F,F,F,F,F,F,F,F,F,F,F,F,F,F,F,F,F,F,F,F,F,F,F,F,F,F,F,F,F,F,F,F,F,F],[]⟩ [.code (body_wait kF)]:=by
 have a:Frame.enter TP 59 #[t] .normal=(base 59).at ⟨#[t]++Array.replicate (84-1) F,[]⟩ [.code (body_wait kF)]:=by simp[Frame.enter,Frame.at,base,Tryz.func59];rfl
 rw[a];simp only[E.reduceSub,Yk,Yl,YH,Yu,XN,Xe]
theorem Kz(W:d.kind≠.early)(L:bM z p (C j) (.call {callee:=.value (.func 55),args:=#[o,Q],argTypes:=#[151,3]}))(i:c.eval o=pt e.D.Wg 0)(a2:c.eval Q=Vy M 1)(a1:e.wt=0)(Y:e.pend=0)(a0:e.D.ty=151)
 (T:x.free (C j)=J)(Z:aw f h x s c)
 (next:∀v,aw f h x (s.put (C j) (.tuple #[])) v->(goalAt TP u (C {e with pend:=1}) D f m).G h l (rg (d.at v (VP z q::g)) n)):
 (goalAt TP u (C e) D f m).G h l (rg (d.at c (VP z (p::q)::g)) n):=by
 refine Goal.pure _ A rfl (λa=>uN W L Tryz.func55 (by decide) A a) ?_;have P:#[o,Q].map c.eval=#[pt e.D.Wg 0,Vy M 1]:=by simp[i,a2]
 rw[P,Om];obtain⟨b2,R,S,a9,b0⟩:=L;intro w y a N O k b;have U:G (d.at (c.put ((z[p]?).bind (·.dst)) (.tuple #[])) (VP z q::g)) n=rg (d.at (c.put (C j) (.tuple #[])) (VP z q::g)) n:=by rw[R];simp only[XS,S];rfl
 refine Mg (d:=e) (w:=rg (d.at (c.put (C j) (.tuple #[])) (VP z q::g)) n) (u:=20) A a1 Y A (λa H=>?_) (λw y a N O k b=>next _ (Z.put _ T (.tuple A λp o b3 i _=>by simp at i)) w y a N O k b) b;have:=Go.SimW.Sf (b:=TP) (L:=kF) (a:=e.D.Wg) GW U;rw[a0]at H⊢
 exact this a H
theorem JK(a5:d.kind≠.early)(P:bM z p (C j) (.call {callee:=.value (.func 59),args:=#[o],argTypes:=#[151]}))(a8:c.eval o=pt e.D.Wg 0)(a7:e.wt=0)(a6:e.pend=0)(R:e.D.ty=151)
 (a2:∀b i a k v y,dJ (aj TP u) 0 b i a k v ⟨f,h,l,m,I⟩ y->rf TP u e b i a k v ⟨f,h,l,m,I⟩->∃H β' N L,dJ (aj TP u) 0 b i a k H ⟨f,β',N,L,I⟩ y/\
   (goalAt TP u I D f L).G β' N (rg (d.at (c.put (C j) (.tuple #[])) (VP z q::g)) n)):
 (goalAt TP u (C e) D f m).G h l (rg (d.at c (VP z (p::q)::g)) n):=by
 refine Goal.pure _ A rfl (λa=>uN a5 P Tryz.func59 (by decide) A a) ?_;have W:#[o].map c.eval=#[pt e.D.Wg 0]:=by simp[a8]
 rw[W,On];obtain⟨c8,Z,a0,b8,b9⟩:=P;intro b i a S k v w;have a4:G (d.at (c.put ((z[p]?).bind (·.dst)) (.tuple #[])) (VP z q::g)) n=rg (d.at (c.put (C j) (.tuple #[])) (VP z q::g)) n:=by rw[Z];simp only[XS,a0];rfl
 refine IJ (d:=e) (S:=rg (d.at (c.put (C j) (.tuple #[])) (VP z q::g)) n) (u:=6) (a4:=Go.SimW.FD kF e.D.Wg (d.at c (VP z (p::q)::g)) n) A a7 a6 A ?_ (λa O=>?_) (λY l a3=>⟨30,?_⟩) (λb i a k v y w a1=>?_) w
 .rintro Y l⟨e,rfl,_⟩;rfl
 .have:=Go.SimW.Pz (a:=TP) (L:=kF) (i:=e.D.Wg) (n:=d) (m:=c) (t:=z) (u:=p) (w:=q) (v:=g) (b:=n) GW;rw[R]at O⊢
  exact this a O
 .have:=Go.SimW.Nz (a:=TP) (L:=kF) (i:=e.D.Wg) GW a4 a3;rw[R];exact this
 obtain⟨H,β',N,L,a9,b0⟩:=a2 b i a k v y w a1;exact⟨H,_,a9,λb i a S k v w=>b0 b i a S k v w⟩
end
end
end Go.Sim
namespace Go.Sim
open Go.Conc Go.Proofs Go.RowKit
open Go.ConcN (PermW PermW.app PermW.of fork_knows WgLive RelBy sumTo)
open Go.ConcR (KK wgBlock WgAt stA smA rd wr mk DC0)
variable{Q:E->Prop}{b:VQ}{H:Vx}{D:eX}{m:E->Prop}{h:Ren}{d:K}{i:E}{S:VD VM}{y:VD Item}{x:VQ}
section
variable[Inhabited aV]
theorem ur{a6:Type}{b:VE a6}(a:b.size=43):∃d e q H X a1 a2 a3 a4 a5 f g h i k l m n o p r s t u v w x y z D L N O P Q R S T U W Y Z a0,b=#[d,e,q,H,X,a1,a2,a3,a4,a5,f,g,h,i,k,l,m,n,o,p,r,s,t,u,v,w,x,y,z,D,L,N,O,P,Q,R,S,T,U,W,Y,Z,a0]:=by
 obtain⟨c⟩:=b
 iterate 43
  rcases c with _|⟨_,c⟩
  simp at a
 obtain rfl:=XK.1 (by simpa using a)
 grind
def Qv(p:E->LR)(a:E)(y:E)(c:VE Vx)(b:Vx)(d:K):Prop:=ck (p y) a c d/\b=(p y).ev
def Gw(i o f a b:E):Prop:=f<=a/\b<i*10/\b/10%o=a-f
def AQ(p:E->LR)(a i o f:E):Fin:=λb cl d=>CH i o (b-f) (Qv p a) cl d
def Qe(p:E->LR)(b:E)(e:WD)(i o f a:E):dm:=⟨e,0,0,a,f,f+a,AQ p b i o f⟩
structure Ph(u:dc)(m c t:E->Prop)(h:Ren)(d O:K)(e:WD)(p:E->LR)(z q P r R s L N i o f:E):Prop where
 h0:aU ar h d O
 inv:Inv TP ar m h d
 x0:jj c d
 Ve:∀b,c b->∀T y,d.heap[b]?≠C (.map T y)
 xw:jj t d
 xg:∀k,(0<k\/k=TP.globals.size)->k<=TP.globals.size->c k/\t k
 nb:yx (λb=>t b/\¬c b) d
 Uq:∀b,m b->c b
 hK:jS u m
 lb:Qr h
 Ub:e.ty=151
 UP:e.gv=s
 TZ:e.gb=N
 SJ:e.xH=158
 UO:e.gn=i*10
 Ua:e.gh=DJ h N O
 TY:e.g0=C O
 wv:h L N
 Aj:∃cl n,d.heap[L]?=C (VH cl 158 n)/\n.1=n.2
 SQ:¬c L
 UQ:¬t L
 JQ:h R s
 Vw:t R
 Vu:c z/\t z
 Vv:c P/\t P
 mine:∀b v,h b v->∀w,aA w v->¬m b->¬mi u (λ_=>.ro) w
 small:i<2^20
 Gt:1<=o/\o<2^16
 ev:∀y,y<i->Plain (p y).ev
 SY:h z q
 QX:h P r
 walk:∀a l,a<o->a<i->Base TP (mZ t h d.heap.size l)->
  jl TP aW (JS t d.heap.size) (tz e) (kM TP e (AQ p d.heap.size i o f (f+a)) (f+a) aW (JS t d.heap.size) (2*vE i o a) []) (mZ t h d.heap.size l) (dL t d (Vy M a) 3)
   (born TP {target:=.fn (.func 56) #[pt e.Wg 0,pt l 0,pt r 0,pt q 0,pt e.gv 0],args:=#[]})
structure Vi(c:E->Prop)(z g k:E)(b:VQ):Prop where
 size:b.tmps.size=43
 defs:b.defers=[]
 UX:b.tmps[18]?=C (Vy M g)
 UY:b.tmps[19]?=C (Vy M k)
 all:∀(j:E) a,b.tmps[j]?=C a->aR c a\/bN a
def qg(e:WD)(s r q:E):VD (E×Vx):=[(5,pt e.Wg 0),(4,pt s 0),(3,pt r 0),(2,pt q 0)]
theorem ik{k:VL Tmp}(n:∀(j:E) a,b.tmps[j]?=C a->aR Q a\/bN a)(v:aR Q H\/bN H):∀(j:E) a,(b.put k H).tmps[j]?=C a->aR Q a\/bN a:=by
 intro j a l;cases k with
 |none=>exact n j a l
 |some w=>
  simp only[Act.put]at l
  grind
theorem vu:∀fn,TP.funcs[(base 39).fn]?=C fn->fn.norace=Vz:=λfn a=>by have:TP.funcs[39]?=C fn:=a;cases this;rfl
noncomputable def Mf:Code:=hd (tl (tl (tl lq)))
section
variable{u:dc}{c t:E->Prop}{O:K}{e:WD}{p:E->LR}{z q P r R s L N o f g:E}
noncomputable abbrev PZ(u:dc)(D:eX)(c:E->Prop)(p:E->LR)(d:K)(e:WD)(i o f a:E):Goal TP ar J c:=goalAt TP u (C (Qe p d.heap.size e i o f a)) D ar c
structure Ke(m c:E->Prop)(h:Ren)(d:K)(e:WD)(q r s z g n:E)(a:Ren)(k:K)(b x:VQ):Prop where
 inv:Inv TP ar c a k
 grow:cW c (λb l=>c b/\h b l) (cQ c d) a k
 Gy:Vi c z g n b
 rel:aw ar a ⟨[],qg e s r q⟩ b x
theorem Jz(k:Ph u m c t h d O e p z q P r R s L N i o f)(n0:g<=o/\g<=i){j4:Code}(k2:(.block 0 (.loop j4):Code)=tl Mf)
 (last:∀d9 d6 b x,Ke m c h d e q r s z g g d9 d6 b x->(PZ u D c p d e i o f g).G d9 d6 (rg ((base 39).at x y) S)){d9:Ren}{d6:K}(l:Ke m c h d e q r s z g 0 d9 d6 b x):
 (PZ u D c p d e i o f 0).G d9 d6 (rg ((base 39).at x (.code (tl Mf)::y)) S):=by
 show(PZ u D c p d e i o f 0).G d9 d6 (rg ((base 39).at x (.code (.block 0 (.loop _))::y)) S);refine ia ?_;refine pX (c:=λa=>PZ u D c p d e i o f a) (λh8 a d9 d6 x=>h8+a=g/\∃b,Ke m c h d e q r s z g a d9 d6 b x) ?_ ?_ g (a:=0) ⟨by omega,b,l⟩
 .clear l;rintro h8 h7 a d9 d6 x⟨k4,b,l⟩;obtain⟨i3,g9⟩:=b;have f5:=l.Gy.size;simp only at f5;obtain⟨w,T,a3,b1,c7,d1,f1,d2,d3,d4,U,W,X,Y,Z,a0,a1,a2,i4,i5,g5,f0,a4,a5,d5,a6,a7,a8,a9,b0,b2,b3,b4,b5,b6,b7,b8,b9,c0,c6,c8,c9,d0,rfl⟩:=ur f5;have hd:=l.Gy.defs;have e8:=l.Gy.UX;have e9:=l.Gy.UY;simp only[WM,WX,WT,Wz]at e8 e9 hd;subst e8 e9;have hd:=hd;subst hd;have f4:=l.Gy.all;have k5:(a:VB)<g:=by omega
  refine bw (bX ak (by decide) (by decide) (H:=[5,4,3,2]) A (by rfl) l.inv l.rel (λd8 n=>d8=⟨#[w,T,a3,b1,c7,d1,f1,d2,d3,d4,U,W,X,Y,Z,a0,a1,a2,Vy M g,Vy M a,.bool J,f0,a4,a5,d5,a6,a7,a8,a9,b0,b2,b3,b4,b5,b6,b7,b8,b9,c0,c6,c8,c9,d0],[]⟩/\n.heap=d6.heap) (λg6 e2 _ _ _=>?_) (λd8 n l v _=>by rw[l.2]) ?_)
  .go_wp2
   exact⟨by simp[k5],e2⟩
  rintro i7 _ g8 n e3 e6 e4⟨rfl,h2⟩;refine bw (iI (k:=J) (iJ e3.base e4 (by decide) A) (rJ (bw (ia (bw ?_)))));refine bX ak (by decide) (by decide) (H:=[5,4,3,2]) A (by rfl) e3 e4 (λd8 i6=>d8=⟨#[w,T,a3,b1,c7,d1,pt n.heap.size 0,d2,d3,d4,U,W,X,Y,Z,a0,a1,a2,Vy M g,Vy M a,.bool J,Vy M a,a4,a5,d5,a6,a7,a8,a9,b0,b2,b3,b4,b5,b6,b7,b8,b9,c0,c6,c8,c9,d0],[]⟩/\i6.heap=n.heap.push (.cells #[Vy M a] 3 (0,0))) (λg6 e2 _ _ _=>?_) ?_ ?_
  .clear h7 l f4 last k2 k hd h2 e4 e3 e6
   go_wp2
   exact⟨A,by simp[World.alloc,e2]⟩
  .grind [yd]
  rintro i8 _ l4 i6 i9 j6 h4⟨rfl,m8⟩;refine bw (eB ?_)
  have m4:∀{v:E},c v->v<d.heap.size:=λe5=>by rcases k.x0 _ e5 with⟨_,_,_,i1,_⟩|⟨_,_,i1,_⟩<;>exact(Wh.1 i1).1
  have h0:=(l.grow.trans e6).trans j6;have n2:d.heap.size<=n.heap.size:=by have:=(l.grow.trans e6).size;simp_all [dh]
  have k0:∀(j:E) v,(⟨#[w,T,a3,b1,c7,d1,pt n.heap.size 0,d2,d3,d4,U,W,X,Y,Z,a0,a1,a2,Vy M g,Vy M a,.bool J,Vy M a,a4,a5,d5,a6,a7,a8,a9,b0,b2,b3,b4,b5,b6,b7,b8,b9,c0,c6,c8,c9,d0],[]⟩:VQ).tmps[j]?=C v->aR c v\/bN v:=
   ik (k:=C 6) (H:=pt n.heap.size 0) (ik (k:=C 21) (H:=Vy M a) (ik (k:=C 20) (H:=.bool J) f4 (VA (.bool J))) (VA (.int _ _))) (VC (show bN (pt n.heap.size 0)from trivial))
  refine Kz (e:=Qe p d.heap.size e i o f a) (by decide) ⟨_,A,A,A,A⟩ (by simp[Act.eval,(h4.kn (5,pt e.Wg 0) (by simp[qg])),Qe]) A rfl rfl k.Ub A h4 λf8 f6=>?_;refine bO (eB ?_);have f7:=f6.kn
  obtain⟨d7,h1,j8⟩:∃d7,i8 n.heap.size d7/\f8.tmps[6]?=C (pt d7 0):=by
   have h3:6<f8.tmps.size:=by rw[<-f6.tmps.1];simp[Act.put]
   have:=f6.tmps.2 6 _ _ A (Wj h3);rw[Wj h3];generalize f8.tmps[6]=n9 at this;cases this with
   |ptr j9=>
    rename_i j3;obtain⟨d7,l0,n7⟩:=j3;obtain⟨n4,n5,n6⟩:=j9
    grind
  refine Ga (o:=goalAt TP u (C {Qe p d.heap.size e i o f a with pend:=1}) D ar c) (a:=.func (.func 56) #[] #[pt e.Wg 0,pt d7 0,pt r 0,pt q 0,pt s 0]) (by decide) vu ⟨_,A,A,A,A⟩ A f6 (by simp[Act.put]) trivial (λg7 i2 l1 l9=>?_) λf9 h5=>?_
  .simp[execOp,Act.eval,(f7 (5,pt e.Wg 0) (by simp[qg])),(f7 (4,pt s 0) (by simp[qg])),(f7 (3,pt r 0) (by simp[qg])),(f7 (2,pt q 0) (by simp[qg])),j8];constructor<;>rfl
  have j5:f9.tmps[23]?=C (.func (.func 56) #[] #[pt e.Wg 0,pt d7 0,pt r 0,pt q 0,pt s 0]):=h5.kn (23,_) (by simp)
  have k1:Base TP (mZ t h d.heap.size d7):=by
   have m7:TP.globals.size<d.heap.size:=by
    obtain⟨l0,_,e7,_⟩:=k.h0.obj _ _ k.inv.base.types
    grind
   have m3:=(i9.base.2 _ d7 h1).2;refine⟨λf2 f3 e7=>VA ⟨(k.xg f2 f3 e7).2,k.inv.base.1 f2 f3 e7⟩,?_⟩;rintro v e0(g1|⟨rfl,rfl⟩)
   .exact k.inv.base.2 v e0 g1.2
   omega
  obtain⟨l7,m1,m6,m5⟩:=k.Aj
  refine Ip (c:={Qe p d.heap.size e i o f a with pend:=1}) (p:=n.heap.size) (T:=d7) (a7:=a) (b3:=3) (f3:=(0,0)) (y:=rg ((base 39).at f9 _) S) A (λg7=>go_step (j:=23) (by decide) ⟨_,A,A,A,A⟩ vu j5 g7) A
   k.h0 k.inv.base k.x0 k.xw k.xg k.nb h0 k.Ua k.TY k.TZ k.wv k.SQ k.UQ k.Uq k.hK (by grind) A h1 (λe5=>by grind) A rfl (by show a=f+a-f;omega) (by have:=k.Gt;show f+a+1<f+1000000;omega) k.lb
   (by
     have:=k.walk a d7 (by omega) (by omega) k1;rw[k.UP]at this
     exact this) ?_
  show(PZ u D c p d e i o f (a+1)).G _ _ _
  have k3:∀v e0,c v->i8 v e0->(λb g0=>c b/\h b g0) v e0:=λv e0 e5 g1=>by
   rcases h0.fresh v e0 g1 with l|l
   .exact l
   grind [dh]
  have h6:aw ar (λb g0=>c b/\h b g0) ⟨[],qg e s r q⟩ _ f9:=(aw.less (d0:=⟨[],qg e s r q⟩) h5 A (λl1 k6=>WU _ k6)).part (X:=c) A (ik (k:=C 23) (H:=F) (ik (k:=C 22) (H:=.tuple #[]) k0 (VA .bU)) (VA .bU)) k3
  have g3:(Act.jk c (((⟨#[w,T,a3,b1,c7,d1,pt n.heap.size 0,d2,d3,d4,U,W,X,Y,Z,a0,a1,a2,Vy M g,Vy M a,.bool J,Vy M a,a4,a5,d5,a6,a7,a8,a9,b0,b2,b3,b4,b5,b6,b7,b8,b9,c0,c6,c8,c9,d0],[]⟩:VQ).put (C 22) (.tuple #[])).put (C 23) F)).tmps[18]?=C (Vy M g):=by simp only[Act.jk,WE];exact VU C (cU (.int _ _))
  have g4:(Act.jk c (((⟨#[w,T,a3,b1,c7,d1,pt n.heap.size 0,d2,d3,d4,U,W,X,Y,Z,a0,a1,a2,Vy M g,Vy M a,.bool J,Vy M a,a4,a5,d5,a6,a7,a8,a9,b0,b2,b3,b4,b5,b6,b7,b8,b9,c0,c6,c8,c9,d0],[]⟩:VQ).put (C 22) (.tuple #[])).put (C 23) F)).tmps[19]?=C (Vy M a):=by simp only[Act.jk,WE];exact VU C (cU (.int _ _))
  have i0:(Act.jk c (((⟨#[w,T,a3,b1,c7,d1,pt n.heap.size 0,d2,d3,d4,U,W,X,Y,Z,a0,a1,a2,Vy M g,Vy M a,.bool J,Vy M a,a4,a5,d5,a6,a7,a8,a9,b0,b2,b3,b4,b5,b6,b7,b8,b9,c0,c6,c8,c9,d0],[]⟩:VQ).put (C 22) (.tuple #[])).put (C 23) F)).tmps.size=43:=by simp[Act.jk,Act.put]
  have h9:∀(j:E) v,(Act.jk c (((⟨#[w,T,a3,b1,c7,d1,pt n.heap.size 0,d2,d3,d4,U,W,X,Y,Z,a0,a1,a2,Vy M g,Vy M a,.bool J,Vy M a,a4,a5,d5,a6,a7,a8,a9,b0,b2,b3,b4,b5,b6,b7,b8,b9,c0,c6,c8,c9,d0],[]⟩:VQ).put (C 22) (.tuple #[])).put (C 23) F)).tmps[j]?=C v->aR c v\/bN v:=λj v e5=>by
   simp only[Act.jk,WE]at e5;obtain⟨e0,_,rfl⟩:=Xf.1 e5;left;by_cases k8:aR c e0
   .grind [cU]
   rw[oM k8];exact .bU
  have k9:(Act.jk c (((⟨#[w,T,a3,b1,c7,d1,pt n.heap.size 0,d2,d3,d4,U,W,X,Y,Z,a0,a1,a2,Vy M g,Vy M a,.bool J,Vy M a,a4,a5,d5,a6,a7,a8,a9,b0,b2,b3,b4,b5,b6,b7,b8,b9,c0,c6,c8,c9,d0],[]⟩:VQ).put (C 22) (.tuple #[])).put (C 23) F)).defers=[]:=A;generalize Act.jk c (((⟨#[w,T,a3,b1,c7,d1,pt n.heap.size 0,d2,d3,d4,U,W,X,Y,Z,a0,a1,a2,Vy M g,Vy M a,.bool J,Vy M a,a4,a5,d5,a6,a7,a8,a9,b0,b2,b3,b4,b5,b6,b7,b8,b9,c0,c6,c8,c9,d0],[]⟩:VQ).put (C 22) (.tuple #[])).put (C 23) F)=j2 at h6 g3 g4 i0 h9 k9;obtain⟨i3,g9⟩:=j2;obtain⟨w,T,a3,b1,c7,d1,f1,d2,d3,d4,U,W,X,Y,Z,a0,a1,a2,i4,i5,g5,f0,a4,a5,d5,a6,a7,a8,a9,b0,b2,b3,b4,b5,b6,b7,b8,b9,c0,c6,c8,c9,d0,rfl⟩:=ur i0;simp only[WM,WX,WT,Wz]at g3 g4;subst g3 g4;refine bO (AX (bX ak (by decide) (by decide) (H:=[5,4,3,2]) A (by rfl) (xK k.inv.base k.x0 (λf2 f3 e7=>(k.xg f2 f3 e7).1) (VC k.Ve)) h6 (λd8 n=>d8=⟨#[w,T,a3,b1,c7,d1,f1,d2,d3,d4,U,W,X,Y,Z,a0,a1,a2,Vy M g,Vy M ((a+1:E):VB),g5,f0,a4,a5,Vy M ((a+1:E):VB),a6,a7,a8,a9,b0,b2,b3,b4,b5,b6,b7,b8,b9,c0,c6,c8,c9,d0],[]⟩/\n.heap=(cQ c d).heap) (λg6 e2 _ _ _=>?_) (λd8 n l v _=>by rw[l.2]) ?_))
  .have n1:=k.small
   go_wp2
   exact⟨A,e2⟩
  rintro o2 _ l5 o1 j0 j7 k7⟨rfl,m9⟩;refine h7 (a+1) _ _ _ ⟨by omega,_,j0,j7,⟨A,A,A,A,?_⟩,k7⟩;exact ik (k:=C 19) (H:=Vy M ((a+1:E):VB)) (ik (k:=C 24) (H:=Vy M ((a+1:E):VB)) h9 (VA (.int _ _))) (VA (.int _ _))
 clear l;rintro a d9 d6 x⟨k4,b,l⟩;obtain rfl:g=a:=by omega
 obtain⟨i3,g9⟩:=b;have f5:=l.Gy.size;obtain⟨w,T,a3,b1,c7,d1,f1,d2,d3,d4,U,W,X,Y,Z,a0,a1,a2,i4,i5,g5,f0,a4,a5,d5,a6,a7,a8,a9,b0,b2,b3,b4,b5,b6,b7,b8,b9,c0,c6,c8,c9,d0,rfl⟩:=ur f5;have hd:=l.Gy.defs;have e8:=l.Gy.UX;have e9:=l.Gy.UY;simp only[WM,WX,WT,Wz]at e8 e9 hd;subst e8 e9;subst hd;have f4:=l.Gy.all;refine bw (bX ak (by decide) (by decide) (H:=[5,4,3,2]) A (by rfl) l.inv l.rel (λd8 n=>d8=⟨#[w,T,a3,b1,c7,d1,f1,d2,d3,d4,U,W,X,Y,Z,a0,a1,a2,Vy M g,Vy M g,.bool Vz,f0,a4,a5,d5,a6,a7,a8,a9,b0,b2,b3,b4,b5,b6,b7,b8,b9,c0,c6,c8,c9,d0],[]⟩/\n.heap=d6.heap) (λg6 e2 _ _ _=>?_) (λd8 n l v _=>by rw[l.2]) ?_)
 .go_wp2
  exact⟨by simp,e2⟩
 rintro i7 _ g8 n e3 e6 e4⟨rfl,h2⟩;refine bw (iI (k:=Vz) (iJ e3.base e4 (by decide) A) (rI (a:=y) A ?_));exact last i7 n _ g8 ⟨e3,l.grow.trans e6,⟨A,A,A,A,ik (k:=C 20) (H:=.bool Vz) f4 (VA (.bool Vz))⟩,e4⟩
end
end
variable{u:E}{f:K}{p:K}{q:Vx}{d:VE Vx}{r:E->Prop}{a:Vx}{s:E}{h:E}
section
variable[Inhabited aV]
theorem gf.mono{w:VD VX}{v:E}{y:Vx}(n:gf w u y f)(P:v<=u)(Q:∀c,c<f.heap.size->p.heap[c]?=f.heap[c]?):gf w v y p:=by
 rcases n with n|⟨x,z,d,R,D,H,L,t,O⟩
 .exact VA n
 exact VC ⟨x,z,d,R,D,H,Wu P L,(Q x (Wh.1 t).1).trans t,O⟩
theorem ck.mono{t:LR}{n:E}{v:VE Vx}(w:ck t u v f)(D:n<=u)(H:∀c,c<f.heap.size->p.heap[c]?=f.heap[c]?):ck t n v p:=by obtain⟨x,L,y,z⟩:=w;exact⟨x,L,y,z.mono D H⟩
theorem Plain.one(a:Plain q):vy q=J:=by cases a<;>rfl
theorem ck.Ui{h:LR}{c:VE Vx}(d:ck h u c f):∀a∈c,vy a=J:=by
 obtain⟨_,i,e,g⟩:=d;intro a b;have b:a∈c.toList:=by simpa using b
 rw[e]at b;rcases Wo.1 b with rfl|b
 .rfl
 rcases WL.1 b with b|b
 .obtain⟨k,_,rfl⟩:=WY.1 b;rfl
 have:a=i:=by simpa using b
 subst this;rcases g with⟨rfl,_⟩|⟨_,_,_,_,_,rfl,_⟩<;>rfl
def Hb(a:Vx):Prop:=aR (λ_=>False) a\/bN a
def Calm(a:Vx):Prop:=Hb a/\∀h,a≠.int .u8 h
theorem Oa(b:∀(e:E) a,d[e]?=C a->Calm a):¬aT d:=λ⟨f,h,c⟩=>(b f _ c).2 h A
theorem pj(c:∀h,q≠.int .u8 h):¬aT #[q]:=by
 rintro⟨b,h,a⟩;rcases b with _|b
 .simp at a;exact c h a
 simp at a
structure jQ(m g:E->Prop)(f:K)(l:E->LR)(o:E->VX)(s N b h k i:E)(e:VL VT):Prop where
 JR:∀c,m c->∃d L,f.heap[c]?=C (VH d L (0,d.size))/\0<d.size/\(∀(v:E) a,d[v]?=C a->aR m a)/\¬aT d
 GF:∀D,(0<D\/D=TP.globals.size)->D<=TP.globals.size->m D
 xt:∀c,g c->(∃d L t,f.heap[c]?=C (VH d L t)/\0<d.size/\t.2<=d.size/\¬aT d/\∀(v:E) a,d[v]?=C a->aR g a)\/∃P n,f.heap[c]?=C (.map P n)/\∀z∈P.toList,aR g z.key/\aR g z.val
 Sj:g N
 hc:∃w O t,f.heap[s]?=C (VH w O t)/\t.2<=w.size/\w[1]?=C (Vy M i)/\w[2]?=C (pt N 0)/\¬aT w/\∀(v:E) a,w[v]?=C a->Hb a
 hA:e=I/\h=0\/∃H Q y O t,e=C ⟨H,Q,I⟩/\H<b/\f.heap[H]?=C (VH y O t)/\0<y.size/\t.2<=y.size/\(∀(v:E) a,y[v]?=C a->Calm a)/\∀n,n<h->y[Q+n*9+3]?=C (.string (o n))
 h2:f.heap[b]?=C (VH #[pt s 0] 76 (0,0))
 h3:f.heap[b+1]?=C (VH #[.slice e h k] 103 (0,0))
 h4:f.heap[b+3]?=C (VH #[VG (C ⟨b+2,0,I⟩) h h] 141 (0,0))
 Aj:∃cl,cl.size=h*10/\f.heap[b+2]?=C (VH cl 158 (0,0))
 low:(∀c,m c\/g c->c<b)/\s<b
 small:h<2^20
 Gt:1<=i/\i<2^16
 ev:∀n,Plain (l n).ev
 look:∀n,n<h->∀x:K,(∀c,g c\/m c->x.heap[c]?=(f.heap[c]?).map Obj.whole)->f.heap.size<=x.heap.size->Calls TP 58 #[pt N 0,.string (o n)] x λz p=>∃R,z=VN (.tuple #[.agg R,(l n).ev])/\ck (l n) x.heap.size R p/\Below x.heap.size x p
def nG(m:E->Prop)(s b:E)(e:VL VT):E->Prop:=λa=>m a\/a=b\/a=b+1\/a=s\/∃c,e=C ⟨a,c,I⟩
def tn(m g:E->Prop)(s b:E)(e:VL VT):E->Prop:=λa=>nG m s b e a\/g a\/a=b+3
theorem Hb.to(b:Hb a):aR r a\/bN a:=b.imp (aR.mono λ_ b=>b.elim) id
section
variable{g:E->Prop}{l:E->LR}{o:E->VX}{N b k i:E}{e:VL VT}
theorem jQ.slice(a:jQ m g f l o s N b h k i e):aR (nG m s b e) (.slice e h k):=by
 rcases a.hA with⟨rfl,_⟩|⟨d,c,_,_,_,rfl,_⟩
 .exact .aP _ _
 exact .slice (VC (VC (VC (VC ⟨c,A⟩)))) _ _
theorem one_cell{P:Vx->Prop}(t:P q):∀(n:E) a,(#[q]:VE Vx)[n]?=C a->P a:=by
 intro n a c;have:n=0:=by have:=(Wh.1 c).1;simp at this;exact this
 subst this;simp at c;subst c;exact t
theorem jQ.yM(p:jQ m g f l o s N b h k i e):∀x,nG m s b e x->∃d z q,f.heap[x]?=C (VH d z q)/\0<d.size/\q.2<=d.size/\(∀(n:E) a,d[n]?=C a->aR (nG m s b e) a\/bN a)/\¬aT d:=by
 rintro x(r|rfl|rfl|rfl|⟨S,r⟩)
 .obtain⟨d,z,t,u,v,y⟩:=p.JR x r;exact⟨d,z,_,t,u,Wl _,λn a w=>VA ((v n a w).mono λ_ c=>VA c),y⟩
 .exact⟨_,_,_,p.h2,by simp,by simp,one_cell (P:=λa=>aR _ a\/bN a) (VA (.ptr (VC (VC (VC (VA A)))))),pj (by intro h c;cases c)⟩
 .exact⟨_,_,_,p.h3,by simp,by simp,one_cell (P:=λa=>aR _ a\/bN a) (VA p.slice),pj (by intro h c;cases c)⟩
 .obtain⟨H,D,q,t,u,v,_,P,Q⟩:=p.hc;exact⟨H,D,q,t,by have:=(Wh.1 v).1;omega,u,λn a w=>(Q n a w).to,P⟩
 rcases p.hA with⟨c,_⟩|⟨R,T,L,D,q,c,_,t,u,v,y,_⟩
 .rw[c]at r;cases r
 rw[c]at r;cases r;exact⟨L,D,q,t,u,v,λn a w=>(y n a w).1.to,Oa y⟩
theorem jQ.Gx(q:jQ m g f l o s N b h k i e):jj (tn m g s b e) f:=by
 rintro D(w|w|rfl)
 .obtain⟨d,z,r,p,n,t,u,v⟩:=q.yM D w;exact VA ⟨d,z,r,p,n,t,λy a x=>(u y a x).imp (aR.mono λ_ c=>VA c) id,v⟩
 .rcases q.xt D w with⟨d,z,r,p,n,t,v,u⟩|⟨O,P,p,n⟩
  .exact VA ⟨d,z,r,p,n,t,λy a x=>VA ((u y a x).mono λ_ c=>VC (VA c)),v⟩
  exact VC ⟨O,P,p,λH L=>⟨(n H L).1.mono λ_ c=>VC (VA c),(n H L).2.mono λ_ c=>VC (VA c)⟩⟩
 exact VA ⟨_,_,_,q.h4,by simp,by simp,one_cell (P:=λa=>aR _ a\/bN a) (VC trivial),pj (by intro h c;cases c)⟩
theorem jQ.SQ(d:jQ m g f l o s N b h k i e):¬tn m g s b e (b+2):=by
 have n:=d.low;rintro((a|a|a|a|⟨u,a⟩)|a|a)
 .have:=n.1 _ (VA a);omega
 .omega
 .omega
 .omega
 .rcases d.hA with⟨c,_⟩|⟨q,v,p,w,r,c,t,_⟩
  .rw[c]at a;cases a
  rw[c]at a;cases a;omega
 .have:=n.1 _ (VC a);omega
 omega
theorem jQ.Ei(r:jQ m g f l o s N b h k i e):yx (λc=>tn m g s b e c/\¬nG m s b e c) f:=by
 rintro c⟨q|q|rfl,H⟩ d U Q p t
 .exact H q
 .rcases r.xt c q with⟨O,W,R,n,y,S,z,T⟩|⟨P,v,n,y⟩
  .rw[p]at n;cases n;exact z t
  rw[p]at n;cases n
 rw[r.h4]at p;cases p;obtain⟨v,u,D⟩:=t;have:=one_cell (P:=λa=>∃c w d,a=Value.slice c w d) ⟨_,_,_,A⟩ v _ D;obtain⟨_,_,_,x⟩:=this;cases x
theorem jQ.Uz(n:jQ m g f l o s N b h k i e){P:WD}{W Y H a5 a4:E}(O:e=C ⟨W,Y,I⟩)(b5:P.gs=VG (C ⟨a4,0,I⟩) h h)(b3:P.gb=a4)(b4:P.gn=h*10)(b6:P.own=Gw h i a5)(e0:H<i):
 Hj P (JS (tn m g s b e) f.heap.size) (dL (tn m g s b e) f (Vy M H) 3) (b+1) b (b+3) s h k i W Y H (a5+H) (pt N 0) o (Qv l f.heap.size):=by
 have b2:=n.Gx
 have lt:∀{t:E},tn m g s b e t->t<f.heap.size:=λw=>by rcases b2 _ w with⟨_,_,_,a8,_⟩|⟨_,_,a8,_⟩<;>exact(Wh.1 a8).1
 have rd:∀{t:E}{d:VE Vx}{y:VJ}{z:E×E},tn m g s b e t->f.heap[t]?=C (VH d y z)->(dL (tn m g s b e) f (Vy M H) 3).heap[t]?=C (VH (d.map (jk (tn m g s b e))) y (0,d.size)):=λw c=>by rw[wm (lt w)];exact dZ w c
 have a1:tn m g s b e (b+1):=VA (VC (VC (VA A)));have a0:tn m g s b e b:=VA (VC (VA A));have U:tn m g s b e s:=VA (VC (VC (VC (VA A))));have a3:tn m g s b e W:=VA (VC (VC (VC (VC ⟨Y,O⟩))));have a2:tn m g s b e (b+3):=VC (VC A);have b8:aR (tn m g s b e) (.slice e h k):=n.slice.mono λ_ c=>VA c
 exact{
  x3:=VA a1
  h3:=⟨_,_,by rw[rd a1 n.h3];simp only[XB,XE,XO,cU b8];rw[O]⟩
  x2:=VA a0
  h2:=⟨_,_,by rw[rd a0 n.h2];simp only[XB,XE,XO];rw[show jk (tn m g s b e) (pt s 0)=pt s 0 from cU (.ptr U)]⟩
  xc:=VA U
  hc:=by
   obtain⟨c8,c6,z,v,L,Q,R,_,d7⟩:=n.hc;refine⟨_,_,_,rd U v,?_,?_⟩
   .rw[WE,Q];exact VU C (cU (.int _ _))
   rw[WE,R];exact VU C (cU (.ptr (VC (VA n.Sj))))
  Vq:=⟨N,A⟩
  x4:=VA a2
  h4:=⟨_,_,by
   rw[rd a2 n.h4];simp only[XB,XE,XO]
   rw[oM (λc=>by cases c with|slice c=>exact n.SQ c)];rfl⟩
  xl:=VA a3
  elem:=by
   rcases n.hA with⟨c,_⟩|⟨d0,e1,c9,c6,z,c,_,v,_,_,_,b1⟩
   .rw[c]at O;cases O
   rw[c]at O;cases O;refine⟨_,_,_,rd a3 v,λx S=>?_⟩;rw[WE,b1 x S];exact VU C (cU (.string _))
  look:=λx S c7 c0 b7=>by
   have d6:(dL (tn m g s b e) f (Vy M H) 3).heap.size=f.heap.size+1:=by show((cQ _ f).heap.push _).size=_;rw[ZR,dh]
   refine(n.look x S c7 (λt w=>?_) (by omega)).mono ?_
   .have T:tn m g s b e t:=w.elim (λc=>VC (VA c)) λc=>VA (VA c);rw[c0 t (.inl T)]
    have a7:∀d y z,f.heap[t]?=C (VH d y z)->(∀(D:E) a,d[D]?=C a->aR (tn m g s b e) a)->(dL (tn m g s b e) f (Vy M H) 3).heap[t]?=(f.heap[t]?).map Obj.whole:=by
     intro d y z c a6;rw[rd T c,c]
     have:d.map (jk (tn m g s b e))=d:=by apply ZG (by simp);intro D v L;rw[VE.getElem_map];exact cU (a6 D _ (Wj L))
     rw[this];rfl
    rcases w with w|w
    .rcases n.xt t w with⟨d,y,z,v,_,_,_,R⟩|⟨d3,x,v,L⟩
     .exact a7 d y z v λD a X=>(R D a X).mono λ_ c=>VC (VA c)
     rw[wm (lt T),nf T,v];rfl
    obtain⟨d,y,v,_,Q⟩:=n.JR t w;exact a7 d y _ v λD a X=>(Q.1 D a X).mono λ_ c=>VA (VA c)
   rintro d1 p⟨Z,rfl,v,L⟩;exact⟨Z,_,A,⟨v.mono (by omega) λ_ _=>rfl,A⟩,L⟩
  Uu:=λx Z a9 f e3 c b9 b7=>⟨c.1.mono (Wl _) b9,c.2⟩
  TO:=λx Z a9 f c=>⟨c.1.size,c.1.Ui,by rw[c.2];exact(n.ev x).one⟩
  gs:=by rw[b3];exact b5
  gn:=b4
  own:=λx S d9 j d8=>by
   rw[b6];refine⟨by omega,by omega,?_⟩;have b0:(x*10+j)/10=x:=by omega
   rw[b0];omega
  small:=by have:=n.small;omega
  Uh:=n.Gt.1
  UT:=by have:=n.Gt.2;omega}
end
end
variable{h:Ren}{i:K}{c:E}{l:VQ}{q:VD VM}{f:Set}{e:VQ}{j:E}
section
variable[Inhabited aV]
section
variable{p:dc}{r:E->Prop}{o:E->LR}{t:E->VX}{N b k g:E}{d:VL VT}
theorem kX{w:Rt}{a:E}(u:aw f h w e l)(y:e.tmps[j]?=C (pt a 0)):∃B,h a B/\l.tmps[j]?=C (pt B 0):=by
 have n:j<l.tmps.size:=by rw[<-u.tmps.1];grind
 have:=u.tmps.2 j _ _ y (Wj n);rw[Wj n];generalize l.tmps[j]=Q at this;cases this with
 |ptr x=>rename_i v;obtain⟨B,O,P⟩:=v;obtain⟨z,H,L⟩:=x;simp_all
def JV(g:E)(i c:K):Prop:=∀e,e<i.heap.size->e≠g->c.heap[e]?=i.heap[e]?\/∃a b d f,aT a/\i.heap[e]?=C (Obj.cells a b d)/\c.heap[e]?=C (Obj.cells a b f)
theorem LP(a:E->Prop):jk a F=F:=cU .bU
theorem Nb(a:jQ m r i o t s N b c k g d)(b7:jS p m)(b4:Inv TP ar m h i)(a7:aw ar h ⟨[],[]⟩ (sH s b (b+1) (b+3) (b+2) c k d) l)
 (next:∀T Q e l,Inv TP ar m T Q->cW m h i T Q->JV (b+2) i Q->PR o c (b+2) i.heap.size 158 Q->aw ar T ⟨[],[]⟩ e l->e.tmps.size=43->e.defers=[]->e.tmps[2]?=C (pt b 0)->e.tmps[3]?=C (pt (b+1) 0)->e.tmps[4]?=C (pt (b+3) 0)->
   (goalAt TP p I D ar m).G T Q (rg ((base 39).at l [.code (tl (tl (tl (tl (tl lq)))))]) q)):
 (goalAt TP p I D ar m).G h i (rg ((base 39).at l [.code (tl (tl lq))]) q):=by
 have n4:=a.low;obtain⟨g6,i1,b8⟩:=a.Aj;obtain⟨a2,SY,j8⟩:=kX (j:=2) a7 A;obtain⟨a3,QX,j9⟩:=kX (j:=3) a7 A;obtain⟨a4,d9,k0⟩:=kX (j:=4) a7 A;have e4:=a.SQ;have b0:=λn=>e4 (VA n);have b1:jj (nG m s b d) i:=λe H=>VA (a.yM e H)
 have b9:∀e,nG m s b d e->∀d6 P,i.heap[e]?≠C (.map d6 P):=λe H d6 P m7=>by obtain⟨b5,k1,d7,z,_⟩:=a.yM e H;simp_all
 show(goalAt TP p I D ar m).G h i (rg ((base 39).at l [.code (.seq _ _)]) q);refine bw (eB ?_)
 refine Iq (N:=nG m s b d) (a7:=b+3) (a0:=b+2) (k:=c) (b7:=c*10) (xH:=158) (O:=151) (own:=λu g9 W=>Gw c g u g9 W) (fin:=AQ o i.heap.size c g)
  (a1:=λv=>rg ((base 39).at (l.put (C 5) (pt v 0)) (VP _ []::[.code (tl (tl (tl lq)))])) q) A (λ_=>rfl) (λd4=>Dc (by decide) ⟨_,A,A,A,A⟩ vu d4)
  b1 b9 (λa1 z O=>VA (a.GF a1 z O)) (λe H=>VA H) a.h4 ⟨_,d9⟩ (λn=>by grind) b8 A i1 b0 (by omega) (λu j4 j W z O=>?_) b7 ?_
 .obtain⟨o0,o1,o2⟩:=z;obtain⟨o4,o5,o6⟩:=O;omega
 intro S d1 L u hrel JQ wv m0 j2 m3 j1;obtain⟨v,x⟩:∃v:WD,v=⟨151,S.heap.size,d1,VG (C ⟨L,0,I⟩) c c,L,158,c*10,Gw c g u,DJ h L S,C S⟩:=⟨_,A⟩;show sG TP p (C ⟨⟨151,S.heap.size,d1,VG (C ⟨L,0,I⟩) c c,L,158,c*10,Gw c g u,DJ h L S,C S⟩,0,0,0,u,u,AQ o i.heap.size c g u⟩) D ar _ _ _ (rg ((base 39).at (l.put (C 5) (pt S.heap.size 0)) (VP _ []::[.code (tl (tl (tl lq)))])) q);rw[<-x];have h5:S.heap.size=v.Wg:=by rw[x]
 rw[h5];show(PZ p D (nG m s b d) o i v c g u 0).G _ _ _;have h2:=(hrel.inj _ _ _ _ d9 JQ).1 A;subst h2
 have y:Ph p m (nG m s b d) (tn m r s b d) h i S v o b a2 (b+1) a3 (b+3) a4 (b+2) L c g u:={
  h0:=hrel
  inv:=b4
  x0:=b1
  Ve:=b9
  xw:=a.Gx
  xg:=λa1 z O=>⟨VA (a.GF a1 z O),VA (VA (a.GF a1 z O))⟩
  nb:=a.Ei
  Uq:=λe H=>VA H
  hK:=b7
  lb:=j1
  Ub:=by rw[x]
  UP:=by rw[x]
  TZ:=by rw[x]
  SJ:=by rw[x]
  UO:=by rw[x]
  Ua:=by rw[x]
  TY:=by rw[x]
  wv:=wv
  Aj:=⟨g6,_,b8,A⟩
  SQ:=b0
  UQ:=e4
  JQ:=JQ
  Vw:=VC (VC A)
  Vu:=⟨VC (VA A),VA (VC (VA A))⟩
  Vv:=⟨VC (VC (VA A)),VA (VC (VC (VA A)))⟩
  mine:=j2
  small:=a.small
  Gt:=a.Gt
  ev:=λP _=>a.ev P
  SY:=SY
  QX:=QX
  walk:=λX d2 z O h7=>by
   have h8:∃a5 W,d=C ⟨a5,W,I⟩:=by
    rcases a.hA with⟨_,n⟩|⟨a5,W,_,_,_,n,_⟩
    .omega
    exact⟨a5,W,n⟩
   obtain⟨a5,W,h1⟩:=h8;have D:=a.Uz (P:=v) (H:=X) (a5:=u) (a4:=L) h1 (by rw[x]) (by rw[x]) (by rw[x]) (by rw[x]) z
   have lt:∀{e:E},tn m r s b d e->e<i.heap.size:=λH=>by rcases a.Gx _ H with⟨_,_,_,c9,_⟩|⟨_,_,c9,_⟩<;>exact(Wh.1 c9).1
   have g0:Inv TP aW (JS (tn m r s b d) i.heap.size) (mZ (tn m r s b d) h i.heap.size d2) (dL (tn m r s b d) i (Vy M X) 3):=by
    refine⟨h7,?_,VA A⟩;rintro e(H|rfl)
    .obtain⟨f0,c8,e9⟩:=jA (f:=aW) a.Gx e H;exact⟨f0,by rw[wm (lt H)];exact c8,e9⟩
    exact⟨_,Ah,A,by simp,pj (by intro c n;cases n)⟩
   have i5:v.gv=a4:=by rw[x]
   have:=CM D z (t:=i.heap.size) (VC A) ⟨_,_,Ah⟩ g0 (by rw[i5];exact VA ⟨VC (VC A),JQ⟩) (by rw[x])
    (g1:=pt d2 0) (g0:=pt a3 0) (f9:=pt a2 0) (.ptr ⟨VC ⟨A,A⟩,A,A⟩) (.ptr ⟨VA ⟨VA (VC (VC (VA A))),QX⟩,A,A⟩) (.ptr ⟨VA ⟨VA (VC (VA A)),SY⟩,A,A⟩)
   have e3:AQ o i.heap.size c g u (u+X)=CH c g X (Qv o i.heap.size):=by
    funext cl Q
    show CH c g (u+X-u) _ cl Q=_;rw[show u+X-u=X by omega]
   simp_all}
 have e5:=a.slice;have f5:nG m s b d s:=VC (VC (VC (VA A)));have f6:nG m s b d b:=VC (VA A);have f7:nG m s b d (b+1):=VC (VC (VA A))
 have j3:¬nG m s b d (b+3):=by
  rintro(n|n|n|n|⟨W,n⟩)
  .grind
  .omega
  .omega
  .omega
  rcases a.hA with⟨d8,_⟩|⟨a5,p1,k5,k2,d7,d8,m2,_⟩
  .rw[d8]at n;cases n
  simp_all
 have e1:∀(j:E) w,(sH s b (b+1) (b+3) (b+2) c k d).tmps[j]?=C w->aR (nG m s b d) w\/bN w:=by
  intro j w Z
  have R:w∈(sH s b (b+1) (b+3) (b+2) c k d).tmps.toList:=by grind
  simp only[sH,Wo,Wx,Xo]at R;have i7:∀b5 g7:E,bN (pt b5 g7):=λ_ _=>trivial;rcases R with rfl|rfl|rfl|rfl|rfl|R
  .simp_all
  .simp_all
  .simp_all
  .simp_all
  .simp_all
  rcases R with rfl|rfl|rfl|rfl|rfl|rfl|rfl|R
  .exact VA .bU
  .exact VA .bU
  .exact VA .bU
  .exact VA .bU
  .simp_all
  .exact VA (.int _ _)
  .exact VC trivial
  have:w=F:=by simp_all
  rw[this];exact VA .bU
 have c0:=(a7.part (Sp:=ar) (X:=nG m s b d) (β':=λe Y=>nG m s b d e/\h e Y) A e1 λw a8 Z c7=>⟨Z,c7⟩);have n3:=LP (nG m s b d);have i8:jk (nG m s b d) (pt s 0)=pt s 0:=cU (.ptr f5);have i9:=cU e5;have m8:jk (nG m s b d) (pt b 0)=pt b 0:=cU (.ptr f6);have m9:jk (nG m s b d) (pt (b+1) 0)=pt (b+1) 0:=cU (.ptr f7);have n0:jk (nG m s b d) (pt (b+3) 0)=F:=oM λn=>by cases n with|ptr n=>exact j3 n
 have n1:jk (nG m s b d) (Vy M c)=Vy M c:=cU (.int _ _);have n2:jk (nG m s b d) (VG (C ⟨b+2,0,I⟩) c c)=F:=oM λn=>by cases n with|slice n=>exact b0 n
 have e0:Act.jk (nG m s b d) (sH s b (b+1) (b+3) (b+2) c k d)=⟨#[pt s 0,.slice d c k,pt b 0,pt (b+1) 0,F,F,F,F,F,.slice d c k,Vy M c,F,F,F,F,F,F,F,F,F,F,F,F,F,F,F,F,F,F,F,F,F,F,F,F,F,F,F,F,F,F,F,F],[]⟩:=by simp_all [Act.jk,sH]
 rw[e0]at c0;have e6:=c0.put (C 5) A (.bU (v:=pt v.Wg 0) trivial)
 have f4:(l.put (C 5) (pt v.Wg 0)).tmps[5]?=C (pt v.Wg 0):=by
  have:l.tmps.size=43:=by rw[<-a7.tmps.1];rfl
  grind [Act.put]
 have b3:∀j a0,j≠5->l.tmps[j]?=C a0->(l.put (C 5) (pt v.Wg 0)).tmps[j]?=C a0:=λj a0 i7 n9=>by simp_all [Act.put,Xu]
 have c6:aw ar (λe Y=>nG m s b d e/\h e Y) ⟨[],qg v a4 a3 a2⟩ _ _:=(((e6.more (b3 2 _ (by decide) j8)).more (b3 3 _ (by decide) j9)).more (b3 4 _ (by decide) k0)).more f4;generalize l.put (C 5) (pt v.Wg 0)=d5 at c6⊢
 have e7:aw ar (λe Y=>nG m s b d e/\h e Y) ⟨[],qg v a4 a3 a2⟩ ⟨#[pt s 0,.slice d c k,pt b 0,pt (b+1) 0,F,F,F,F,F,.slice d c k,Vy M c,F,F,F,F,F,F,F,F,F,F,F,F,F,F,F,F,F,F,F,F,F,F,F,F,F,F,F,F,F,F,F,F],[]⟩ d5:=c6;clear c6 e6 c0 e0 e1 f4 b3;have f9:Inv TP ar (nG m s b d) (λe Y=>nG m s b d e/\h e Y) (cQ (nG m s b d) i):=xK b4.base b1 (λa1 z O=>VA (a.GF a1 z O)) (VC b9);refine bO ?_;show(PZ p D (nG m s b d) o i v c g u 0).G _ _ (rg ((base 39).at d5 [.code (.seq (.seq _ _) _)]) q);refine bw (bw ?_);refine Ou ak (by decide) (by decide) (P:=[5,4,3,2]) A (by rfl) qT (by decide+kernel) f9 e7 (λg5=>g5=⟨#[pt s 0,.slice d c k,pt b 0,pt (b+1) 0,F,F,F,F,F,.slice d c k,Vy M c,F,pt s 0,pt s 0,pt s 1,Vy M g,.slice d c k,Vy M c,Vy M (min g c:E),Vy M (0:E),F,F,F,F,F,F,F,F,F,F,F,F,F,F,F,F,F,F,F,F,F,F,F],[]⟩) (λd0 b6=>?_) ?_
 .have m4:d0.cell? ⟨b,0,I⟩=C (pt s 0):=by
   simp only[K.cell?,b6,dZ f6 a.h2,XB,XE,XO,i8];rfl
  have m5:d0.cell? ⟨b+1,0,I⟩=C (.slice d c k):=by simp only[K.cell?,b6,dZ f7 a.h3,XB,XE,XO,i9];rfl
  have m6:d0.cell? ⟨s,1,I⟩=C (Vy M g):=by obtain⟨k4,k2,d7,c8,e9,j5,_⟩:=a.hc;simp only[K.cell?,b6,dZ f5 c8,WE,j5,Xp];exact VU C (cU (.int _ _))
  repeat (quiet_step (fail))
  grind [wpQuiet_nil]
 rintro q5 _ l0 p9 d3 a9 e8 rfl i6
 have e2:∀(j:E) w,(⟨#[pt s 0,.slice d c k,pt b 0,pt (b+1) 0,F,F,F,F,F,.slice d c k,Vy M c,F,pt s 0,pt s 0,pt s 1,Vy M g,.slice d c k,Vy M c,Vy M (min g c:E),Vy M (0:E),F,F,F,F,F,F,F,F,F,F,F,F,F,F,F,F,F,F,F,F,F,F,F],[]⟩:VQ).tmps[j]?=C w->aR (nG m s b d) w\/bN w:=by
  intro j w Z
  have R:w∈(⟨#[pt s 0,.slice d c k,pt b 0,pt (b+1) 0,F,F,F,F,F,.slice d c k,Vy M c,F,pt s 0,pt s 0,pt s 1,Vy M g,.slice d c k,Vy M c,Vy M (min g c:E),Vy M (0:E),F,F,F,F,F,F,F,F,F,F,F,F,F,F,F,F,F,F,F,F,F,F,F],[]⟩:VQ).tmps.toList:=by grind
  simp only[Wo,Wx,Xo]at R
  repeat (first
   |exact m1 _ R
   |(rcases R with rfl|R
     first
      |exact VA .bU
      |exact VA e5
      |exact VA (.int _ _)
      |exact VC (show bN (pt _ _)from trivial)))
 have n8:=a.small;have n7:=a.Gt;refine Jz y (g:=min g c) ⟨E.min_le_left _ _,E.min_le_right _ _⟩ (y:=[.code (tl (tl (tl (tl lq))))]) A ?_ ⟨d3,a9,⟨A,A,A,A,e2⟩,e8⟩;clear e2 e8 a9 i6 d3 e7;intro f8 k3 e g4 U;show(PZ p D (nG m s b d) o i v c g u (min g c)).G f8 k3 (rg ((base 39).at g4 [.code (.seq _ _)]) q);have j6:=U.rel.kn (5,pt v.Wg 0) (by simp[qg]);refine bw (eB (JK (e:=Qe o i.heap.size v c g u (min g c)) (j:=25) (by decide) ⟨_,A,A,A,A⟩ (by simp[Act.eval,j6,Qe]) A rfl y.Ub λl4 l6 d4 k1 k7 a9 h9 h4=>?_));have i3:TP.globals.size<=i.heap.size:=by
  obtain⟨f0,_,O,_⟩:=hrel.obj _ _ b4.base.types
  grind
 obtain⟨g1,T,Q,i0,h3,a6,h6,i4⟩:=OA (e:=Qe o i.heap.size v c g u (min g c)) (x:=i.heap.size) (o:=b+2) (g:=L) (d:=c) (c:=o) h9 h4 U.grow b1 y.Uq y.inv y.Ua y.TY y.TZ y.SJ y.UO y.h0 y.wv b8 A b0 y.hK y.mine (λP j0=>by
  have n6:P%g<g:=ZZ _ (by omega);have n5:P%g<=P:=E.mod_le _ _;refine⟨u+P%g,by show u<=_;omega,by show _<u+min g c;omega,λcl Q e3=>?_⟩;obtain⟨p3,g8,z,O,l8,l9⟩:=e3 P j0 (by omega)
  grind) y.ev i3
 refine⟨g1,T,Q,m,i0,bO ?_⟩
 have i2:∀w a8,nG m s b d w->f8 w a8->T w a8:=λw a8 Z c7=>by
  rcases U.grow.fresh w a8 c7 with n|n
  .exact a6.le _ _ n.2
  rw[dh]at n;obtain⟨_,_,_,c9,_⟩:=a.yM w Z;simp_all
 have f1:=((U.rel.part (Sp:=ar) U.Gy.defs U.Gy.all i2).put (C 25) A (.tuple (c:=#[]) (c':=#[]) A λj4 w q0 Z _=>by simp at Z));have f2:=f1.LZ (j:=2) (t:=pt b 0) (f1.kn (2,pt a2 0) (by simp[qg])) (.ptr ⟨a6.le _ _ SY,A,A⟩);have f3:=f2.LZ (j:=3) (t:=pt (b+1) 0) (f2.kn (3,pt a3 0) (by simp[qg])) (.ptr ⟨a6.le _ _ QX,A,A⟩);have j7:=f3.LZ (j:=4) (t:=pt (b+3) 0) (f3.kn (4,pt a4 0) (by simp[qg])) (.ptr ⟨a6.le _ _ JQ,A,A⟩);have b2:=U.Gy.size
 exact next T Q _ _ h3 a6 h6 i4 (j7.less A (by simp)) (by simp[Act.put,Act.jk,b2]) U.Gy.defs
  (by simp[Act.put,Act.jk,b2]) (by simp[Act.put,Act.jk,b2]) (by simp[Act.put,Act.jk,b2])
end
end
variable{c:VS}{o:K}{i:VM}{l:VD VM}{g:VQ}{n:VD Item}
section
variable[Inhabited aV]
section
variable{main:VI}
end
section
variable{main:VI}{d:Goal c f main m}
end
end
variable{e:K}{c:K}{p:E}{z:VE Oper}{Q:VD Item}{P:VD VM}{i:E}{d:E}{v:Vx}{R:VD E}{id:E}
section
variable[Inhabited aV]
structure aJ(own a:E->Prop)(e c:K):Prop where
 size:e.heap.size<=c.heap.size
 keep:∀b,b<e.heap.size->¬own b->c.heap[b]?=e.heap[b]?
 more:∀b,a b->own b\/e.heap.size<=b
theorem aJ.refl(own:E->Prop)(e:K):aJ own own e e:=⟨Wl _,λ_ _ _=>rfl,λ_ a=>VA a⟩
theorem aJ.trans{own T U:E->Prop}{W X:K}(a:aJ own T e W)(n:aJ T U W X):aJ own U e X where
 size:=Wu a.size n.size
 keep:=λb l S=>by
  rw[n.keep b (Ws l a.size) λk=>?_,a.keep b l S];rcases a.more b k with w|w
  .exact S w
  omega
 more:=λb l=>by
  rcases n.more b l with k|k
  .exact a.more b k
  exact VC (Wu a.size k)
theorem aJ.heap{own h:E->Prop}{k:K}(g:aJ own h e k)(f:c.heap=e.heap):aJ own h c k:=⟨by rw[f];exact g.size,λb a l=>by rw[f]at a⊢;exact g.keep b a l,λb a=>by rw[f];exact g.more b a⟩
def aQ(r:VB)(a:RV):VE Vx:=#[Vy M r,Vy M a.al,Vy M a.kind,.string a.path,.string a.data,Vy M a.aF,Vy M a.flags,.bool a.watch,.slice a.oa a.on a.oc]
theorem SE{q:Type}{b:VE q}(a:b.size=10):∃e f g h k l m n o p,b=#[e,f,g,h,k,l,m,n,o,p]:=by
 obtain⟨c⟩:=b;simp only[Xc]at a
 iterate 10
  rcases c with _|⟨_,c⟩
  simp at a
 simp_all
def qE(i:E):VD E:=[[],[],[],[],[],[3,4],[5],[1,2,6],[0,7]].getD i []
section
variable{O:Goal TP ar J m}{L:Ren}{q:K}{y:VQ}{g N:E}{r:VB}{rq:RV}{t:VE Vx}{ew:E->Prop}
variable{H:Vx->(E->Prop)->K->Prop}{D:(E->Prop)->K->Prop}
structure UI(m:E->Prop)(q:K)(y:VQ)(s g N p u:E)(r:VB)(rq:RV)(t:VE Vx)(ew:E->Prop)(H:Vx->(E->Prop)->K->Prop)(D:(E->Prop)->K->Prop):Prop where
 s2:y.tmps[2]?=C (pt g 0)
 s4:y.tmps[4]?=C (pt (g+3) 0)
 s7:y.tmps[7]?=C (Vy M u)
 s8:y.tmps[8]?=C (pt N 0)
 mn:u<p
 ns:p<2^20
 c2:q.heap[g]?=C (VH #[pt s 0] 76 (0,0))/\¬ew g
 c4:q.heap[g+3]?=C (VH #[VG (C ⟨g+2,0,I⟩) p p] 141 (0,0))/\¬ew (g+3)
 c8:q.heap[N]?=C (VH (aQ r rq) 107 (0,0))/\¬ew N
 cg:∃n T S,q.heap[g+2]?=C (VH n T S)/\¬ew (g+2)/\∀j,j<10->n[u*10+j]?=t[j]?
 gs:t.size=10
 Um:∀l,m l->l<q.heap.size/\¬ew l
 Qf:∀c,c.heap=q.heap->Calls TP 61 #[pt s 0,.agg (aQ r rq),.agg t] c λk a=>∃f own,k=VN f/\H f own a/\aJ ew own c a
 snd:∀f own c,H f own c->Calls TP 60 #[pt s 0,f] c λk a=>∃w,k=VN (.tuple #[])/\D w a/\aJ own w c a
 mh:∀f own e c,c.heap=e.heap->H f own e->H f own c
 fh:∀own e c,c.heap=e.heap->D own e->D own c
def jy(s g p u:E)(r:VB)(rq:RV)(t:VE Vx)(f:Vx):VD (E×E×Vx):=
 [(0,33,pt s 0),(1,34,pt s 0),(2,35,.agg (aQ r rq)),(3,36,VG (C ⟨g+2,0,I⟩) p p),(4,37,Vy M u),(5,38,pt (g+2) (u*10)),(6,39,.agg t),(7,40,f)]
structure RJ(m:E->Prop)(L:Ren)(q:K)(y:VQ)(s g p u:E)(r:VB)(rq:RV)(t:VE Vx)(ew:E->Prop)(H:Vx->(E->Prop)->K->Prop)(D:(E->Prop)->K->Prop)(o:VE VI)(f:Vx)(own:E->Prop)(h:Ren)(e:K)(b x:VQ):Prop where
 inv:Inv TP ar m h e
 grow:cW m L q h e
 rel:aw ar h ⟨[],[]⟩ b x
 len:b.tmps.size=43
 defs:b.defers=[]
 old:∀j,j<33->b.tmps[j]?=y.tmps[j]?
 tab:∀a∈jy s g p u r rq t f,o.getD a.1 Vz=J->b.tmps[a.2.1]?=C a.2.2
 d87:o.getD 8 Vz=J->o.getD 7 Vz=J
 Qb:aJ ew own q e
 pre:o.getD 7 Vz=Vz->e.heap=q.heap
 Te:o.getD 7 Vz=J->o.getD 8 Vz=Vz->H f own e
 fin:o.getD 8 Vz=J->D own e
variable{o:VE VI}{f:Vx}{own:E->Prop}
theorem BQ(s g p u:E)(r:VB)(rq:RV)(t:VE Vx)(f:Vx):((jy s g p u r rq t f).map (·.1)).Nodup:=by show([0,1,2,3,4,5,6,7]:VD E).Nodup;decide
theorem vD(s g p u:E)(r:VB)(rq:RV)(t:VE Vx)(f:Vx):((jy s g p u r rq t f).map (·.2.1)).Nodup:=by show([33,34,35,36,37,38,39,40]:VD E).Nodup;decide
theorem RJ.eval(a:RJ m L q y s g p u r rq t ew H D o f own h e b x)(k:(i,d,v)∈jy s g p u r rq t f)(hd:o.getD i Vz=J):b.eval (.tmp d)=v/\b.tmps.getD d F=v/\b.tmps[d]?.getD F=v:=
 cD (a.tab _ k hd)
theorem Cv{k:VD (E×E×Vx)}(l:(k.map (·.1)).Nodup)(n:(k.map (·.2.1)).Nodup){o:VE VI}(S:∀a∈k,o.getD a.1 Vz=J->b.tmps[a.2.1]?=C a.2.2)(w:(i,d,v)∈k)(hd:d<b.tmps.size):
 ∀a∈k,(o.setIfInBounds i J).getD a.1 Vz=J->(b.put (C d) v).tmps[a.2.1]?=C a.2.2:=by
 grind [iw,Act.put,ep]
theorem pw(W:UI m q y s g N p u r rq t ew H D){U:Op}(a6:bM z i (C d) U)(a7:iW TP ar.fn ar.bi ar.cj U=J)(b3:i<7)(hd:33<=d/\d<43)(a4:(i,d,v)∈jy s g p u r rq t f)
 (a:RJ m L q y s g p u r rq t ew H D o f own h e b x)(run:∀c:K,c.heap=e.heap->∀b0 a9 Z,(⟨C d,U,b0,a9,Z,I⟩:Oper).wp TP b c (λn k=>n=b.put (C d) v/\k.heap=e.heap) (gL λ_ _=>False))
 (next:∀f own h e b x,RJ m L q y s g p u r rq t ew H D (o.setIfInBounds i J) f own h e b x->O.G h e (rg ((base 39).at x (VP z R::Q)) P)):
 O.G h e (rg ((base 39).at x (VP z (i::R)::Q)) P):=by
 refine AW ak (by decide) (by decide) a6 a7 A a.inv a.rel (λn k=>n=b.put (C d) v/\k.heap=e.heap) run (λn k a1 w _=>by rw[a1.2]) ?_;rintro b2 _ Y k X a0 a8⟨rfl,l⟩;have S:(o.setIfInBounds i J).getD 7 Vz=o.getD 7 Vz:=ep (by omega);have T:(o.setIfInBounds i J).getD 8 Vz=o.getD 8 Vz:=ep (by omega);refine next f own b2 k _ Y ⟨X,a.grow.trans a0,a8,by simp[Act.put,a.len],a.defs,λj a3=>?_,Cv (BQ ..) (vD ..) a.tab a4 (by rw[a.len];exact hd.2),by rw[S,T];exact a.d87,⟨by rw[l];exact a.Qb.size,λb a2 a5=>by rw[l];exact a.Qb.keep b a2 a5,a.Qb.more⟩,by rw[S,l];exact a.pre,by rw[S,T];exactλw b1=>W.mh _ _ _ _ l (a.Te w b1),by rw[T];exactλw=>W.fh _ _ _ l (a.fin w)⟩
 simp only[Act.put];rw[Wr (by omega)];exact a.old j a3
theorem ML(l:UI m q y s g N p u r rq t ew H D)(g0:z.size=9)(i1:AF z=J)(h8:∀{o:VE VI}{i:E},i∈Region.ready .any z o->∀j∈qE i,o.getD j Vz=J)
 (b3:bM z 0 (C 33) (.load 76 (.tmp 2)))(a3:bM z 1 (C 34) (.load 76 (.tmp 2)))(b4:bM z 2 (C 35) (.load 107 (.tmp 8)))(b5:bM z 3 (C 36) (.load 141 (.tmp 4)))(b6:bM z 4 (C 37) (.move (.tmp 7)))
 (b7:bM z 5 (C 38) (.indexAddr 141 (.tmp 36) (.tmp 37)))(b8:bM z 6 (C 39) (.load 158 (.tmp 38)))(b9:bM z 7 (C 40) (.call {callee:=.value (.func 61),args:=#[.tmp 34,.tmp 35,.tmp 39],argTypes:=#[76,107,158]}))
 (c0:bM z 8 (C 41) (.call {callee:=.value (.func 60),args:=#[.tmp 33,.tmp 40],argTypes:=#[76,38]}))(g3:Inv TP ar m L q)(i4:aw ar L ⟨[],[]⟩ y x)(i3:y.tmps.size=43)(h9:y.defers=[])
 (next:∀own h e b x,Inv TP ar m h e->cW m L q h e->aw ar h ⟨[],[]⟩ b x->b.tmps.size=43->b.defers=[]->(∀j,j<33->b.tmps[j]?=y.tmps[j]?)->D own e->aJ ew own q e->O.G h e (rg ((base 39).at x Q) P)):
 O.G L q (rg ((base 39).at x (.code (.region id z J)::Q)) P):=by
 refine Ge (c:=λ_:Unit=>O) qT i1 (λo _ h e b x=>∃f own,RJ m L q y s g p u r rq t ew H D o f own h e b x) ?_ ?_ (b:=()) ⟨F,ew,⟨g3,.refl _ _,i4,i3,h9,λ_ _=>rfl,λS _ hd=>?_,λhd=>?_,.refl _ _,λ_=>rfl,λhd=>?_,λhd=>?_⟩⟩
 .rintro o i R i9 f8 f5 _ h e b x⟨f,own,a⟩;have hd:=h8 f8;obtain⟨i2,j3,_⟩:=kY.1 f8;rw[g0]at i2;have d4:o.getD i Vz=Vz:=by
   simp_all
  have d0:∀U,U<q.heap.size->¬ew U->e.heap[U]?=q.heap[U]?:=a.Qb.keep
  have n:∀{U j:E}{d9:VE Vx}{g2:VJ}{f6:E×E}{v:Vx},q.heap[U]?=C (VH d9 g2 f6)->¬ew U->d9[j]?=C v->∀c:K,c.heap=e.heap->c.cell? ⟨U,j,I⟩=C v:=by grind [World.cell?]
  have w:∀f own h e b x,RJ m L q y s g p u r rq t ew H D (o.setIfInBounds i J) f own h e b x->O.G h e (rg ((base 39).at x (VP z R::Q)) P):=λf own h e b x a=>f5 () h e b x ⟨f,own,a⟩;have a7:b.tmps[2]?=C (pt g 0):=(a.old 2 (by omega)).trans l.s2;have a9:b.tmps[4]?=C (pt (g+3) 0):=(a.old 4 (by omega)).trans l.s4;have b0:b.tmps[7]?=C (Vy M u):=(a.old 7 (by omega)).trans l.s7;have b1:b.tmps[8]?=C (pt N 0):=(a.old 8 (by omega)).trans l.s8;clear f5;rcases(by omega:i=0\/i=1\/i=2\/i=3\/i=4\/i=5\/i=6\/i=7\/i=8)with rfl|rfl|rfl|rfl|rfl|rfl|rfl|rfl|rfl
  .obtain⟨c6,c7,c8⟩:=cD a7;have b2:=n (j:=0) l.c2.1 l.c2.2 A;refine pw l (v:=pt s 0) b3 (by rfl) (by decide) (by decide) (by simp[jy]) a (λc k a5 a4 S=>?_) w;replace b2:=b2 c k;clear w a n d0 next l hd b3 a3 b4 b5 b6 b7 b8 b9 c0 a7 a9 b0 b1
   go_wp2
   all_goals first|exact⟨rfl,k⟩|exact k
  .obtain⟨c6,c7,c8⟩:=cD a7;have b2:=n (j:=0) l.c2.1 l.c2.2 A;refine pw l (v:=pt s 0) a3 (by rfl) (by decide) (by decide) (by simp[jy]) a (λc k a5 a4 S=>?_) w;replace b2:=b2 c k;clear w a n d0 next l hd b3 a3 b4 b5 b6 b7 b8 b9 c0 a7 a9 b0 b1
   go_wp2
   all_goals first|exact⟨rfl,k⟩|exact k
  .obtain⟨c6,c7,c8⟩:=cD b1;refine pw l (v:=.agg (aQ r rq)) b4 (by rfl) (by decide) (by decide) (by simp[jy]) a (λc k a5 a4 S=>?_) w;obtain⟨j7,j8,j9,k0,k1,k2,k3,j4,j6,j5⟩:=rq;have a1:=l.c8.1;unfold aQ at a1⊢
   have g4:=n (j:=0) a1 l.c8.2 A c k;have c1:=n (j:=1) a1 l.c8.2 A c k;have c2:=n (j:=2) a1 l.c8.2 A c k;have c3:=n (j:=3) a1 l.c8.2 A c k;have c4:=n (j:=4) a1 l.c8.2 A c k;have c5:=n (j:=5) a1 l.c8.2 A c k;have g5:=n (j:=6) a1 l.c8.2 A c k;have g6:=n (j:=7) a1 l.c8.2 A c k;have g7:=n (j:=8) a1 l.c8.2 A c k;clear w a n d0 next l hd b3 a3 b4 b5 b6 b7 b8 b9 c0 a7 a9 b0 b1 a1
   go_wp2
   all_goals first|exact⟨rfl,k⟩|exact k
  .obtain⟨c6,c7,c8⟩:=cD a9;have b2:=n (j:=0) l.c4.1 l.c4.2 A;refine pw l (v:=VG (C ⟨g+2,0,I⟩) p p) b5 (by rfl) (by decide) (by decide) (by simp[jy]) a (λc k a5 a4 S=>?_) w;replace b2:=b2 c k;clear w a n d0 next l hd b3 a3 b4 b5 b6 b7 b8 b9 c0 a7 a9 b0 b1
   go_wp2
   all_goals first|exact⟨rfl,k⟩|exact k
  .obtain⟨c6,c7,c8⟩:=cD b0;refine pw l (v:=Vy M u) b6 (by rfl) (by decide) (by decide) (by simp[jy]) a (λc k a5 a4 S=>?_) w;clear w a n d0 next l hd b3 a3 b4 b5 b6 b7 b8 b9 c0 a7 a9 b0 b1
   go_wp2
   all_goals first|exact⟨rfl,k⟩|exact k
  .obtain⟨c6,c7,c8⟩:=a.eval (i:=3) (d:=36) (v:=VG (C ⟨g+2,0,I⟩) p p) (by simp[jy]) (hd 3 (by simp[qE]));obtain⟨q1,f2,f3⟩:=a.eval (i:=4) (d:=37) (v:=Vy M u) (by simp[jy]) (hd 4 (by simp[qE]));have j1:=l.mn;have j2:(u:VB)<p:=by omega
   refine pw l (v:=pt (g+2) (u*10)) b7 (by rfl) (by decide) (by decide) (by simp[jy]) a (λc k a5 a4 S=>?_) w;clear w a n d0 next l hd b3 a3 b4 b5 b6 b7 b8 b9 c0 a7 a9 b0 b1
   go_wp2
   all_goals first|exact⟨rfl,k⟩|exact k
  .obtain⟨c6,c7,c8⟩:=a.eval (i:=5) (d:=38) (v:=pt (g+2) (u*10)) (by simp[jy]) (hd 5 (by simp[qE]));obtain⟨d9,g2,f6,Z,a0,Y⟩:=l.cg;obtain⟨g8,g9,h0,h1,h2,h3,h4,h5,h6,h7,f7⟩:=SE l.gs;refine pw l (v:=.agg t) b8 (by rfl) (by decide) (by decide) (by simp[jy]) a (λc k a5 a4 S=>?_) w;rw[f7]at Y⊢
   have g4:=n (j:=u*10) (v:=g8) Z a0 (Y 0 (by decide)) c k;have c1:=n (j:=u*10+1) (v:=g9) Z a0 (Y 1 (by decide)) c k;have c2:=n (j:=u*10+2) (v:=h0) Z a0 (Y 2 (by decide)) c k;have c3:=n (j:=u*10+3) (v:=h1) Z a0 (Y 3 (by decide)) c k;have c4:=n (j:=u*10+4) (v:=h2) Z a0 (Y 4 (by decide)) c k;have c5:=n (j:=u*10+5) (v:=h3) Z a0 (Y 5 (by decide)) c k;have g5:=n (j:=u*10+6) (v:=h4) Z a0 (Y 6 (by decide)) c k;have g6:=n (j:=u*10+7) (v:=h5) Z a0 (Y 7 (by decide)) c k;have g7:=n (j:=u*10+8) (v:=h6) Z a0 (Y 8 (by decide)) c k;have i7:=n (j:=u*10+9) (v:=h7) Z a0 (Y 9 (by decide)) c k;clear w a n d0 next l hd b3 a3 b4 b5 b6 b7 b8 b9 c0 a7 a9 b0 b1 Y Z a0 f7
   go_wp2
   all_goals first|exact⟨rfl,k⟩|exact k
  ·
   obtain⟨c6,c7,c8⟩:=a.eval (i:=1) (d:=34) (v:=pt s 0) (by simp[jy]) (hd 1 (by simp[qE]));obtain⟨q1,f2,f3⟩:=a.eval (i:=2) (d:=35) (v:=.agg (aQ r rq)) (by simp[jy]) (hd 2 (by simp[qE]));obtain⟨k5,k6,k7⟩:=a.eval (i:=6) (d:=39) (v:=.agg t) (by simp[jy]) (hd 6 (by simp[qE]));have e8:=a.pre d4;have i8:o.getD 8 Vz=Vz:=by
    cases W:o.getD 8 Vz with
    |false=>rfl
    |true=>rw[a.d87 W]at d4;cases d4
   refine AW ak (by decide) (by decide) b9 (by rfl) A a.inv a.rel (λa6 T=>∃f own,a6=b.put (C 40) f/\H f own T/\aJ ew own q T) (λc k a5 a4 S=>?_) ?_ ?_
   .have d5:=l.Qf c (k.trans e8);generalize d3:(λa6 T=>∃f own,a6=b.put (C 40) f/\H f own T/\aJ ew own q T)=e1
    have fin:∀f own a8,H f own a8->aJ ew own c a8->e1 (b.put (C 40) f) a8:=λf own a8 c9 a2=>by subst d3;exact⟨f,own,A,c9,a2.heap (k.trans e8).symm⟩
    unfold Oper.wp
    have f0:(execOp b.eval ⟨C 40,.call {callee:=.value (.func 61),args:=#[.tmp 34,.tmp 35,.tmp 39],argTypes:=#[76,107,158]},a5,a4,S,I⟩).run TP c=.ok (.enter 61 #[pt s 0,.agg (aQ r rq),.agg t]) c:=by
     generalize aQ r rq=k4 at q1 f2 f3⊢
     clear d5 fin d3 w a l;go_simp
    rw[f0,M_];refine d5.mono ?_
    grind
   .rintro a6 T⟨a3,g1,_,_,a2⟩ U W;obtain⟨d7,d8⟩:=l.Um U W;rw[a2.keep U d7 d8,e8]
   rintro f4 _ e4 T e0 e7 f1⟨a3,g1,rfl,c9,a2⟩;refine w a3 g1 f4 T _ e4 ⟨e0,a.grow.trans e7,f1,by simp[Act.put,a.len],a.defs,λj e9=>?_,?_,λ_=>getD_eq (by omega),a2,λW=>?_,λ_ _=>c9,λW=>?_⟩
   .simp only[Act.put];rw[Wr (by omega)];exact a.old j e9
   .refine Cv (BQ ..) (vD ..) (b:=b) (λS d2 d1=>?_) (by simp[jy]) (by rw[a.len];decide);refine a.tab S ?_ d1;simp only[jy,Wo,Wx,Xo]at d2⊢
    rcases d2 with rfl|rfl|rfl|rfl|rfl|rfl|rfl|rfl
    all_goals first|(simp;done)|(rw[d4]at d1;cases d1)
   .rw[getD_eq (by omega)]at W;cases W
   simp_all
  ·
   have d6:=hd 7 (by simp[qE]);obtain⟨c6,c7,c8⟩:=a.eval (i:=0) (d:=33) (v:=pt s 0) (by simp[jy]) (hd 0 (by simp[qE]));obtain⟨q1,f2,f3⟩:=a.eval (i:=7) (d:=40) (v:=f) (by simp[jy]) d6;refine AW ak (by decide) (by decide) c0 (by rfl) A a.inv a.rel (λa6 T=>∃X,a6=b.put (C 41) (.tuple #[])/\D X T/\∃c,c.heap=e.heap/\aJ own X c T) (λc k a5 a4 S=>?_) ?_ ?_
   .have d5:=l.snd f own c (l.mh _ _ _ _ k (a.Te d6 d4));generalize d3:(λa6 T=>∃X,a6=b.put (C 41) (.tuple #[])/\D X T/\∃c,c.heap=e.heap/\aJ own X c T)=e1
    have fin:∀X a8,D X a8->aJ own X c a8->e1 (b.put (C 41) (.tuple #[])) a8:=λX a8 c9 a2=>by subst d3;exact⟨X,A,c9,c,k,a2⟩
    unfold Oper.wp
    have f0:(execOp b.eval ⟨C 41,.call {callee:=.value (.func 60),args:=#[.tmp 33,.tmp 40],argTypes:=#[76,38]},a5,a4,S,I⟩).run TP c=.ok (.enter 60 #[pt s 0,f]) c:=by clear d5 fin d3 w a l;go_simp
    rw[f0,M_];refine d5.mono ?_
    grind
   .rintro a6 T⟨X,_,_,c,S,a2⟩ U W;obtain⟨d7,d8⟩:=l.Um U W;have i5:=a.Qb.trans (a2.heap S.symm);rw[i5.keep U d7 d8,a.Qb.keep U d7 d8]
   rintro f4 _ e4 T e0 e7 f1⟨X,rfl,c9,c,S,a2⟩;have j0:8<o.size:=by omega
   refine w f X f4 T _ e4 ⟨e0,a.grow.trans e7,f1,by simp[Act.put,a.len],a.defs,λj e9=>?_,λe6 d2 d1=>?_,λ_=>by rw[ep (by decide)];exact d6,a.Qb.trans (a2.heap S.symm),λW=>?_,λ_ W=>?_,λ_=>c9⟩
   .simp only[Act.put];rw[Wr (by omega)];exact a.old j e9
   .have f9:e6.1≠8/\e6.2.1≠41:=by
     simp only[jy,Wo,Wx,Xo]at d2;rcases d2 with rfl|rfl|rfl|rfl|rfl|rfl|rfl|rfl<;>simp
    rw[ep f9.1]at d1;exact cw (a.tab e6 d2 d1) f9.2
   .rw[ep (by decide),d6]at W;cases W
   simp_all
 .rintro o i0 _ h e b x⟨f,own,a⟩;exact bO (next own h e b x a.inv a.grow a.rel a.len a.defs a.old (a.fin (i0 8 (by omega))) a.Qb)
 all_goals (exfalso;rw[g0]at*;revert hd;simp[WB,Zi];try (split<;>simp))
end
end
variable{e:E}{v:VD VM}{f:K}{i:VQ}
section
variable[Inhabited aV]
def ni(own:E->Prop)(d:VE Vx):Prop:=∀b c a,d[8]?=C (VG (C b) c a)->¬own b.block
structure Ku(St:E->(E->Prop)->K->Prop)(r:E->Vx->(E->Prop)->K->Prop)(s e d:E)(k:E->VB)(rq:E->RV)(q:E->LR):Prop where
 Qf:∀a,a<e->∀own c x,St a own c->ck (q a) d x c->ni own x->Calls TP 61 #[pt s 0,.agg (aQ (k a) (rq a)),.agg (x.push (q a).ev)] c λw f=>∃l n,w=VN l/\r a l n f/\aJ own n c f
 snd:∀a,a<e->∀l own c,r a l own c->Calls TP 60 #[pt s 0,l] c λw f=>∃n,w=VN (.tuple #[])/\St (a+1) n f/\aJ own n c f
 sg:∀a own(c f:K),(∀b,b<c.heap.size->f.heap[b]?=c.heap[b]?)->c.heap.size<=f.heap.size->St a own c->St a own f
 sl:∀a own c,St a own c->∀b,own b->b<c.heap.size
 mh:∀a l own(c f:K),f.heap=c.heap->r a l own c->r a l own f
section
variable{u:Goal TP ar J m}{St:E->(E->Prop)->K->Prop}{r:E->Vx->(E->Prop)->K->Prop}{o d:E}{p:VL VT}{k:E->VB}{rq:E->RV}{q:E->LR}
variable{t:Ren}{g:K}{h:E->Prop}
structure pF(m:E->Prop)(g:K)(s e o d:E)(p:VL VT)(k:E->VB)(rq:E->RV)(q:E->LR)(h:E->Prop):Prop where
 small:e<2^20
 h2:g.heap[d]?=C (VH #[pt s 0] 76 (0,0))/\¬h d
 h3:g.heap[d+1]?=C (VH #[.slice p e o] 103 (0,0))/\¬h (d+1)
 h4:g.heap[d+3]?=C (VH #[VG (C ⟨d+2,0,I⟩) e e] 141 (0,0))/\¬h (d+3)
 SR:∃n w,g.heap[d+2]?=C (VH n 158 w)/\∀a,a<e->∃D,ck (q a) d D g/\(∀j,j<9->n[a*10+j]?=D[j]?)/\n[a*10+9]?=C (q a).ev
 Uf:¬h (d+2)
 nfree:∀b,d<=b->¬h b
 list:e=0\/∃l z y H w,p=C ⟨l,z,I⟩/\g.heap[l]?=C (VH y H w)/\¬h l/\∀a,a<e->∀j,j<9->y[z+a*9+j]?=(aQ (k a) (rq a))[j]?
 NI:∀x,m x->x<g.heap.size/\¬h x
structure Sz(St:E->(E->Prop)->K->Prop)(m:E->Prop)(t:Ren)(g:K)(h:E->Prop)(e o d:E)(p:VL VT)(n:E)(a:Ren)(c:K)(b i:VQ):Prop where
 inv:Inv TP ar m a c
 grow:cW m t g a c
 rel:aw ar a ⟨[],[]⟩ b i
 size:b.tmps.size=43
 defs:b.defers=[]
 s2:b.tmps[2]?=C (pt d 0)
 s3:b.tmps[3]?=C (pt (d+1) 0)
 s4:b.tmps[4]?=C (pt (d+3) 0)
 UZ:b.tmps[26]?=C (.slice p e o)
 Va:b.tmps[27]?=C (Vy M e)
 Vb:b.tmps[28]?=C (Vy M n)
 st:∃own,St n own c/\aJ h own g c
theorem vp{own d:E->Prop}(e:aJ own d c f){b:E}(i:b<c.heap.size)(h:¬own b):¬d b:=λg=>by
 rcases e.more b g with a|a
 .exact h a
 omega
theorem JA(y:Ku St r s e d k rq q)(w:pF m g s e o d p k rq q h)(h2:St 0 h g)(g3:Inv TP ar m t g)(h3:aw ar t ⟨[],[]⟩ b i)(k0:b.tmps.size=43)(j3:b.defers=[])
 (g1:b.tmps[2]?=C (pt d 0))(h8:b.tmps[3]?=C (pt (d+1) 0))(g2:b.tmps[4]?=C (pt (d+3) 0))
 (next:∀own S c b i,Inv TP ar m S c->cW m t g S c->aw ar S ⟨[],[]⟩ b i->b.defers=[]->St e own c->aJ h own g c->u.G S c (rg ((base 39).at i []) v)):
 u.G t g (rg ((base 39).at i [.code (tl (tl (tl (tl (tl lq)))))]) v):=by
 show u.G t g (rg ((base 39).at i [.code (.seq _ _)]) v);obtain⟨h9,Y⟩:=b;simp only at k0 j3 g1 h8 g2;obtain⟨a2,a3,l0,l4,l5,d5,d6,f0,f1,d7,a4,a5,a6,a7,a8,a9,b0,b1,b2,b3,b4,b5,b6,b7,b8,b9,l1,l2,l3,i0,e7,e8,e9,c0,c6,c7,c8,c9,d0,d1,d2,d3,d4,rfl⟩:=ur k0;simp only[WM,WX,WT,Wz]at g1 h8 g2;subst g1 h8 g2 j3;have g7:∀{n:E}{g0:Obj},g.heap[n]?=C g0->n<g.heap.size:=λa=>(Wh.1 a).1;refine bw (bX ak (by decide) (by decide) (H:=[]) A (by decide+kernel) g3 h3 (λz x=>z=⟨#[a2,a3,pt d 0,pt (d+1) 0,pt (d+3) 0,d5,d6,f0,f1,d7,a4,a5,a6,a7,a8,a9,b0,b1,b2,b3,b4,b5,b6,b7,b8,b9,.slice p e o,Vy M e,Vy M (0:E),i0,e7,e8,e9,c0,c6,c7,c8,c9,d0,d1,d2,d3,d4],[]⟩/\x.heap=g.heap) (λf D _ _ _=>?_) (λz x a n _=>by rw[a.2]) ?_)
 .have g8:f.cell? ⟨d+1,0,I⟩=C (.slice p e o):=by simp[K.cell?,D,w.h3.1]
  clear next h3 y w h2 g3
  go_wp2
  exact⟨A,D⟩
 rintro x3 _ u5 u1 i3 i7 k2⟨rfl,d8⟩;refine ia ?_;refine pX (c:=λ_:Unit=>u) (λj _ S c i=>∃l b,l+j=e/\Sz St m t g h e o d p l S c b i) ?_ ?_ e (a:=()) ⟨0,_,by omega,⟨i3,i7,k2,A,A,A,A,A,A,A,A,h,y.sg 0 h g u1 (λb _=>by rw[d8]) (by rw[d8];exact Wl _) h2,⟨by rw[d8];exact Wl _,λb _ _=>by rw[d8],λb a=>VA a⟩⟩⟩
 .clear k2 i3 i7 d8 h3 h2 g3;rintro j f7 _ S c i⟨l,b,o1,a⟩;have Z:l<e:=by omega
  obtain⟨own,R,L⟩:=a.st;obtain⟨h9,Y⟩:=b;obtain⟨a2,a3,l0,l4,l5,d5,d6,f0,f1,d7,a4,a5,a6,a7,a8,a9,b0,b1,b2,b3,b4,b5,b6,b7,b8,b9,l1,l2,l3,i0,e7,e8,e9,c0,c6,c7,c8,c9,d0,d1,d2,d3,d4,rfl⟩:=ur a.size;have hd:Y=[]:=a.defs;subst hd;have e0:=a.s2;have e4:=a.s3;have e5:=a.s4;have e1:=a.UZ;have e2:=a.Va;have e3:=a.Vb;simp only[WM,WX,WT,Wz]at e0 e4 e5 e1 e2 e3;subst e0 e4 e5 e1 e2 e3;have v8:(l:VB)<e:=by omega
  refine bw (bX ak (by decide) (by decide) (H:=[]) A (by decide+kernel) a.inv a.rel (λz x=>z=⟨#[a2,a3,pt d 0,pt (d+1) 0,pt (d+3) 0,d5,d6,f0,f1,d7,a4,a5,a6,a7,a8,a9,b0,b1,b2,b3,b4,b5,b6,b7,b8,b9,.slice p e o,Vy M e,Vy M l,.bool J,e7,e8,e9,c0,c6,c7,c8,c9,d0,d1,d2,d3,d4],[]⟩/\x.heap=c.heap) (λf D _ _ _=>?_) (λz x a n _=>by rw[a.2]) ?_)
  .clear f7 a next y w R L
   go_wp2
   exact⟨by simp[Z],D⟩
  rintro m4 _ i4 x T f2 W⟨rfl,H⟩;refine bw (iI (k:=J) (iJ T.base W (by decide) A) (rJ (bw (ia (bw ?_)))));obtain⟨Q,d9,m8,q4,n3,rfl,g6,j0,i9⟩:=w.list.resolve_left (by omega);have f3:x.heap[Q]?=C (VH m8 q4 n3):=by rw[H,L.keep Q (g7 g6) j0,g6]
  refine bX ak (by decide) (by decide) (H:=[]) A (by decide+kernel) T W (λz N=>z=⟨#[a2,a3,pt d 0,pt (d+1) 0,pt (d+3) 0,d5,d6,Vy M l,pt x.heap.size 0,d7,a4,a5,a6,a7,a8,a9,b0,b1,b2,b3,b4,b5,b6,b7,b8,b9,VG (C ⟨Q,d9,I⟩) e o,Vy M e,Vy M l,.bool J,Vy M l,pt Q (d9+l*9),.agg (aQ (k l) (rq l)),c0,c6,c7,c8,c9,d0,d1,d2,d3,d4],[]⟩/\N.heap=x.heap.push (.cells (aQ (k l) (rq l)) 107 (0,0))) (λf D _ _ _=>?_) ?_ ?_
  .obtain⟨⟨p4,p5,p6,p7,p8,p9,q0,p0,p2,p1⟩,j8⟩:∃p3,rq l=p3:=⟨_,A⟩;have f5:=i9 l Z;rw[j8]at f5⊢
   unfold aQ at f5⊢
   rw[<-D]at f3;have v7:Q<f.heap.size:=(Wh.1 f3).1
   have cell:∀j i1,j<9->#[Vy M (k l),Vy M p4,Vy M p5,.string p6,.string p7,Vy M p8,Vy M p9,.bool q0,.slice p0 p2 p1][j]?=C i1->f.cell? ⟨Q,d9+l*9+j,I⟩=C i1:=λj i1 j6 o7=>by have:=(f5 j j6).trans o7;simp[K.cell?,f3,this]
   have v0:f.cell? ⟨Q,d9+l*9,I⟩=C (Vy M (k l)):=cell 0 _ (by decide) A;have c1:=cell 1 _ (by decide) A;have c2:=cell 2 _ (by decide) A;have c3:=cell 3 _ (by decide) A;have c4:=cell 4 _ (by decide) A;have c5:=cell 5 _ (by decide) A;have v1:=cell 6 _ (by decide) A;have v2:=cell 7 _ (by decide) A;have n2:=cell 8 _ (by decide) A;rw[<-D];have o2:=w.small;clear f7 a next y w R L cell f5 i9 g6 j0 f3 j8 H W f2 T D
   go_wp2
   exact⟨A,A⟩
  .rintro z N⟨_,a⟩ n P;rw[a,bQ (yd T P)]
  rintro x4 _ u6 N m5 n5 k3⟨rfl,g9⟩;obtain⟨n1,n4,g8,j4⟩:=w.SR;obtain⟨e6,j9,o5,o4⟩:=j4 l Z;have k1:=j9.size;have j5:c.heap.size<=N.heap.size:=by rw[g9,H];simp
  have h0:∀n,n<c.heap.size->N.heap[n]?=c.heap[n]?:=λn P=>by rw[g9,bQ (by rw[H];exact P),H]
  have j2:=y.sg l own c N h0 j5 R;have f4:aJ h own g N:=L.trans ⟨j5,λn P _=>h0 n P,λn a=>VA a⟩;have U:∀{n:E}{g0:Obj},g.heap[n]?=C g0->¬h n->N.heap[n]?=C g0/\¬own n:=λa j7=>⟨by rw[f4.keep _ (g7 a) j7,a],vp L (g7 a) j7⟩
  have h1:∀f:K,f.heap=N.heap->ck (q l) d e6 f/\ni own e6:=by
   intro f O;obtain⟨h6,q2,k6,a1⟩:=j9;refine⟨⟨h6,q2,k6,?_⟩,λm9 o8 g4 P=>?_⟩
   .rcases a1 with a1|⟨k7,i5,g4,k9,i6,h4,f8,h5,k5⟩
    .exact VA a1
    exact VC ⟨k7,i5,g4,k9,i6,h4,f8,by rw[O];exact(U h5 (w.nfree _ f8)).1,k5⟩
   have a0:e6.toList[8]?=C (VG (C m9) o8 g4):=by simpa using P
   rw[k6,<-Xe,XC (by simp[h6])]at a0;simp[h6]at a0;rcases a1 with⟨a1,_⟩|⟨k7,i5,c3,k9,i6,h4,f8,h5,k5⟩
   .rw[a1]at a0;cases a0
   rw[h4]at a0;cases a0;exact(U h5 (w.nfree _ f8)).2
  have n9:¬own x.heap.size:=λo3=>by have:=y.sl l own c R _ o3;rw[H]at this;exact absurd this (Z' _)
  refine ML (s:=s) (g:=d) (N:=x.heap.size) (p:=e) (u:=l) (r:=k l) (rq:=rq l) (t:=e6.push (q l).ev) (ew:=own) (H:=r l) (D:=St (l+1)) {
   s2:=A
   s4:=A
   s7:=A
   s8:=A
   mn:=Z
   ns:=w.small
   c2:=U w.h2.1 w.h2.2
   c4:=U w.h4.1 w.h4.2
   c8:=⟨by rw[g9];simp,n9⟩
   cg:=⟨n1,158,n4,(U g8 w.Uf).1,(U g8 w.Uf).2,λj j6=>by
    by_cases n8:j<9
    .rw[o5 j n8,Yv (by omega)];exact Wj _
    obtain rfl:j=9:=by omega
    rw[o4,Xv,VV k1.symm]⟩
   gs:=by rw[ZR,k1]
   Um:=λn P=>by obtain⟨l7,u2⟩:=w.NI n P;exact⟨Ws l7 f4.size,vp L l7 u2⟩
   Qf:=λf O=>y.Qf l Z own f e6 (y.sg l own N f (λb _=>by rw[O]) (by rw[O];exact Wl _) j2) (h1 f O).1 (h1 f O).2
   snd:=λh7 own f a=>y.snd l Z h7 own f a
   mh:=λh7 own c f=>y.mh l h7 own c f
   fh:=λown c f O=>y.sg (l+1) own c f (λb _=>by rw[O]) (by rw[O];exact Wl _)} A (by decide+kernel) (λo0=>FX (R:=9) A (by decide+kernel) o0)
   ⟨_,A,A,A,A⟩ ⟨_,A,A,A,A⟩ ⟨_,A,A,A,A⟩ ⟨_,A,A,A,A⟩ ⟨_,A,A,A,A⟩ ⟨_,A,A,A,A⟩ ⟨_,A,A,A,A⟩ ⟨_,A,A,A,A⟩ ⟨_,A,A,A,A⟩ m5 k3 A rfl ?_
  intro k8 x5 l6 n0 u7 m6 n6 k4 o9 g5 X i8 j1;have l8:=X 2 (by omega);have m2:=X 3 (by omega);have m3:=X 4 (by omega);have l9:=X 26 (by omega);have m0:=X 27 (by omega);have m1:=X 28 (by omega);clear X k3 W h1 U;obtain⟨h9,Y⟩:=n0;have g5:Y=[]:=g5;subst g5;obtain⟨q5,q6,w6,x0,x1,t6,t7,t8,t9,u0,q7,q8,q9,r0,r1,r2,r3,r4,r5,r6,r7,r8,r9,s0,s1,s2,w7,w8,w9,s3,s4,s5,s6,s7,s8,s9,t0,t1,t2,t3,t4,t5,x2,rfl⟩:=ur o9;simp only[WM,WX,WT,Wz]at l8 m2 m3 l9 m0 m1;subst l8 m2 m3 l9 m0 m1;refine AX (bX ak (by decide) (by decide) (H:=[]) A (by decide+kernel) m6 k4 (λz i2=>z=⟨#[q5,q6,pt d 0,pt (d+1) 0,pt (d+3) 0,t6,t7,t8,t9,u0,q7,q8,q9,r0,r1,r2,r3,r4,r5,r6,r7,r8,r9,s0,s1,s2,VG (C ⟨Q,d9,I⟩) e o,Vy M e,Vy M ((l+1:E):VB),s3,s4,s5,s6,s7,s8,s9,t0,t1,t2,t3,t4,t5,Vy M ((l+1:E):VB)],[]⟩/\i2.heap=l6.heap) (λf D _ _ _=>?_) (λz x a n _=>by rw[a.2]) ?_)
  .have o2:=w.small;clear f7 a next y w R L f4 j1 i8 k4 j4 j2 h0
   go_wp2
   exact⟨A,D⟩
  rintro x6 _ u8 i2 m7 n7 o6⟨rfl,f6⟩;refine f7 () _ _ _ ⟨l+1,_,by omega,⟨m7,(((a.grow.trans f2).trans n5).trans n6).trans n7,o6,A,A,A,A,A,A,A,A,k8,y.sg (l+1) k8 l6 i2 (λb _=>by rw[f6]) (by rw[f6];exact Wl _) i8,?_⟩⟩;exact(f4.trans j1).trans ⟨by rw[f6];exact Wl _,λb _ _=>by rw[f6],λb a=>VA a⟩
 rintro _ S c i⟨l,b,o1,a⟩;obtain rfl:e=l:=by omega
 obtain⟨own,R,L⟩:=a.st;obtain⟨h9,Y⟩:=b;obtain⟨a2,a3,l0,l4,l5,d5,d6,f0,f1,d7,a4,a5,a6,a7,a8,a9,b0,b1,b2,b3,b4,b5,b6,b7,b8,b9,l1,l2,l3,i0,e7,e8,e9,c0,c6,c7,c8,c9,d0,d1,d2,d3,d4,rfl⟩:=ur a.size;have hd:Y=[]:=a.defs;subst hd;have e0:=a.s2;have e4:=a.s3;have e5:=a.s4;have e1:=a.UZ;have e2:=a.Va;have e3:=a.Vb;simp only[WM,WX,WT,Wz]at e0 e4 e5 e1 e2 e3;subst e0 e4 e5 e1 e2 e3;refine bw (bX ak (by decide) (by decide) (H:=[]) A (by decide+kernel) a.inv a.rel (λz x=>z=⟨#[a2,a3,pt d 0,pt (d+1) 0,pt (d+3) 0,d5,d6,f0,f1,d7,a4,a5,a6,a7,a8,a9,b0,b1,b2,b3,b4,b5,b6,b7,b8,b9,.slice p e o,Vy M e,Vy M e,.bool Vz,e7,e8,e9,c0,c6,c7,c8,c9,d0,d1,d2,d3,d4],[]⟩/\x.heap=c.heap) (λf D _ _ _=>?_) (λz x a n _=>by rw[a.2]) ?_)
 .clear a next y w R L
  go_wp2
  exact⟨by simp,D⟩
 rintro m4 _ i4 x T f2 W⟨rfl,H⟩;refine bw (iI (k:=Vz) (iJ T.base W (by decide) A) (rI (a:=[]) A ?_));exact next own m4 x _ i4 T (a.grow.trans f2) W A (y.sg e own c x (λb _=>by rw[H]) (by rw[H];exact Wl _) R) (L.trans ⟨by rw[H];exact Wl _,λb _ _=>by rw[H],λb a=>VA a⟩)
end
end
variable{c:Vx}{a:K}{b:E}
section
variable[Inhabited aV]
def ng(a d:K):Prop:=a.heap.size<=d.heap.size/\∀b,b<a.heap.size->d.heap[b]?=a.heap[b]?\/∃c e f g,aT c/\a.heap[b]?=C (Obj.cells c e f)/\d.heap[b]?=C (Obj.cells c e g)
structure PU(St:E->(E->Prop)->K->Prop)(m l:E->Prop)(a:K)(v:E->LR)(O:E->VB)(rq:E->RV)(ew:E->Prop)(s x b P u:E)(z:VL VT):Prop where
 JR:∀d,m d->∃f w,a.heap[d]?=C (VH f w (0,f.size))/\0<f.size/\(∀(i:E) g,f[i]?=C g->aR m g)/\¬aT f
 GF:∀r,(0<r\/r=TP.globals.size)->r<=TP.globals.size->m r
 xt:∀d,l d->(∃f w h,a.heap[d]?=C (VH f w h)/\0<f.size/\h.2<=f.size/\¬aT f/\∀(i:E) g,f[i]?=C g->aR l g)\/∃H e,a.heap[d]?=C (.map H e)/\∀q∈H.toList,aR l q.key/\aR l q.val
 Sj:l x
 hc:∃k y h,a.heap[s]?=C (VH k y h)/\h.2<=k.size/\k[1]?=C (Vy M u)/\k[2]?=C (pt x 0)/\¬aT k/\∀(i:E) g,k[i]?=C g->Hb g
 hA:z=I/\b=0\/∃t L o y h,z=C ⟨t,L,I⟩/\a.heap[t]?=C (VH o y h)/\0<o.size/\h.2<=o.size/\(∀(i:E) g,o[i]?=C g->Calm g)/\¬ew t/\∀e,e<b->∀j,j<9->o[L+e*9+j]?=(aQ (O e) (rq e))[j]?
 small:b<2^20
 Gt:1<=u/\u<2^16
 ev:∀e,Plain (v e).ev
 look:∀e,e<b->∀n:K,(∀d,l d\/m d->n.heap[d]?=(a.heap[d]?).map Obj.whole)->a.heap.size<=n.heap.size->Calls TP 58 #[pt x 0,.string (rq e).path] n λq p=>∃N,q=VN (.tuple #[.agg N,(v e).ev])/\ck (v e) n.heap.size N p/\Below n.heap.size n p
 init:∀p,ng a p->St 0 ew p
 UU:∀d,ew d->d<a.heap.size
 UW:∀d,m d->¬ew d
theorem El(a:∀b,c≠.int .u8 b):¬aT #[c]:=λ⟨e,f,d⟩=>a f (one_cell (P:=λg=>c=g) A e _ d)
theorem results39(c:VE Vx)(a:K):(results Tryz.f39 c).run TP a=.ok (.tuple #[]) a:=by have b:Tryz.f39.results=#[]:=A;unfold results;rw[b];simp[go_sem]
theorem Pq{b1:dc}{St:E->(E->Prop)->K->Prop}{d4:E->Vx->(E->Prop)->K->Prop}{a1:E->Prop}{Z:E->LR}{a8:E->VB}{rq:E->RV}{ew:E->Prop}{c0 y b9:E}{x:VL VT}
 (f:PU St m a1 a Z a8 rq ew s c0 b y b9 x)(b0:Ku St d4 s b a.heap.size a8 rq Z)(e5:jS b1 m):
 Co (goalAt TP b1 I D ar m) 39 #[pt s 0,.slice x b y] a λc v=>∃own Q,c=.tuple #[]/\ng a Q/\St b own v/\aJ ew own Q v:=by
 intro j2 h9 o d8 c9 e8 next
 have n:∀{g:E}{g3:Obj},a.heap[g]?=C g3->g<a.heap.size:=λe=>(Wh.1 e).1;refine RO (a:=b) (i:=y) (g:=x) (by have:=f.small;omega) c9 e8 λj4 w h7 d1 b6 g0⟨cl,f0,H⟩=>?_;have i8:w.heap.size=a.heap.size+4:=by rw[H];simp
 have u:∀g,g<a.heap.size->w.heap[g]?=a.heap[g]?:=λg t=>by rw[H,bQ (by simp;omega),bQ (by simp;omega),bQ (by simp;omega),bQ t]
 have b2:w.heap[a.heap.size]?=C (VH #[pt s 0] 76 (0,0)):=by rw[H,bQ (by simp;omega),bQ (by simp;omega),bQ (by simp)];simp
 have b3:w.heap[a.heap.size+1]?=C (VH #[.slice x b y] 103 (0,0)):=by rw[H,bQ (by simp),bQ (by simp),Xv,VV (by simp)]
 have e0:w.heap[a.heap.size+2]?=C (VH cl 158 (0,0)):=by rw[H,bQ (by simp),Xv,VV (by simp)]
 have b4:w.heap[a.heap.size+3]?=C (VH #[VG (C ⟨a.heap.size+2,0,I⟩) b b] 141 (0,0)):=by rw[H,Xv,VV (by simp)]
 have a9:∀d,m d\/a1 d->d<a.heap.size:=by
  rintro d(i|i)
  .obtain⟨_,_,e,_⟩:=f.JR d i;exact n e
  rcases f.xt d i with⟨_,_,_,e,_⟩|⟨_,_,e,_⟩<;>exact n e
 obtain⟨c7,g9,e1,a6,e9⟩:=f.hc
 have c8:jQ m a1 w Z (λq=>(rq q).path) s c0 a.heap.size b y b9 x:={
  JR:=λd i=>by obtain⟨o,l,k,h⟩:=f.JR d i;exact⟨o,l,(u d (n k)).trans k,h⟩
  GF:=f.GF
  xt:=λd i=>by
   rcases f.xt d i with⟨o,l,p,k,h⟩|⟨d9,q,k,h⟩
   .exact VA ⟨o,l,p,(u d (n k)).trans k,h⟩
   exact VC ⟨d9,q,(u d (n k)).trans k,h⟩
  Sj:=f.Sj
  hc:=⟨c7,g9,e1,(u s (n a6)).trans a6,e9⟩
  hA:=by
   rcases f.hA with e|⟨z,Y,R,a0,p,k,h,T,U,b7,a3,W⟩
   .exact VA e
   exact VC ⟨z,Y,R,a0,p,k,n h,(u z (n h)).trans h,T,U,b7,λq O=>(W q O 3 (by decide)).trans A⟩
  h2:=b2
  h3:=b3
  h4:=b4
  Aj:=⟨cl,f0,e0⟩
  low:=⟨a9,n a6⟩
  small:=f.small
  Gt:=f.Gt
  ev:=f.ev
  look:=λq O h1 g2 i6=>f.look q O h1 (λd i=>by rw[g2 d i,u d (a9 d i.symm)]) (by omega)}
 refine Nb c8 e5 d1 g0 λj3 v d h8 d0 b5 b8 f5 f9 f8 f1 g4 g5 g6=>?_;have i7:=b5.size
 have a4:ng a v:=⟨by omega,λd i=>by
  rcases b8 d (by omega) (by omega)with e|⟨o,l,a2,S,L,r,N⟩
  .exact VA (e.trans (u d i))
  exact VC ⟨o,l,a2,S,L,(u d i).symm.trans r,N⟩⟩
 have same:∀{g:E}{c:Vx}{l:VJ}{p:E×E},g≠a.heap.size+2->(∀X,c≠.int .u8 X)->w.heap[g]?=C (VH #[c] l p)->v.heap[g]?=C (VH #[c] l p):=by
  intro g c l p f6 a7 t;rcases b8 g (Wh.1 t).1 f6 with e|⟨o,l,a2,S,L,r,N⟩
  .exact e.trans t
  rw[t]at r;cases r;exact absurd L (El a7)
 have P:∀d,a.heap.size<=d->¬ew d:=λd i f7=>by have:=f.UU d f7;omega
 obtain⟨d7,e2,f3,i4,i5,f4⟩:=f5
 have d5:pF m v s b y a.heap.size x a8 rq Z ew:={
  small:=f.small
  h2:=⟨same (by omega) (λX e=>by cases e) b2,P _ (Wl _)⟩
  h3:=⟨same (by omega) (λX e=>by cases e) b3,P _ (by omega)⟩
  h4:=⟨same (by omega) (λX e=>by cases e) b4,P _ (by omega)⟩
  SR:=⟨d7,e2,f3,λq O=>by
   obtain⟨g8,L,r,N⟩:=f4 q O
   exact⟨g8,L.mono (by omega) λ_ _=>rfl,r,N⟩⟩
  Uf:=P _ (by omega)
  nfree:=P
  list:=by
   rcases f.hA with⟨_,e⟩|⟨z,Y,R,a0,p,k,h,T,U,b7,a3,W⟩
   .exact VA e
   right;rcases a4.2 z (n h)with e|⟨o,l,a2,S,L,r,N⟩
   .exact⟨z,Y,R,a0,p,k,e.trans h,a3,W⟩
   rw[h]at r;cases r;exact⟨z,Y,R,a0,S,k,N,a3,W⟩
  NI:=λg t=>⟨by have:=a9 g (VA t);omega,f.UW g t⟩}
 refine JA b0 d5 (f.init v a4) d0 f9 f8 f1 g4 g5 g6 λown h4 h2 i0 d6 d2 e3 g1 f2 e7 a5=>?_;refine Goal.pure _ A rfl (g₁:=rg {(base 39).at d6 []with mode:=.returning} (o::d8)) (λh6=>by rw[be A];simp[stepG.exec,Frame.at,rg]) ?_;refine pP (W:=λc c6=>∃own Q,c=.tuple #[]/\ng a Q/\St b own c6/\aJ ew own Q c6) ak (by decide) A (fn:=Tryz.f39) Tryz.func39 d2 A g1 f2 (Tp.all λl=>⟨_,results39 _ _,own,v,A,a4,?_,?_⟩) λc h0 h3 d3 e4 a7 e6=>next h4 c h0 h3 d3 (((b6.trans b5).trans e3).trans e4) a7 e6
 .exact b0.sg b own h2 _ (λ_ _=>rfl) (Wl _) e7
 exact⟨a5.size,a5.keep,a5.more⟩
end
variable{a:VM}{c:VQ}{e:VD Item}{d:VD VM}{g:E}{f:VD E}{h:Vx}{q:K}{U:K}
section
variable[Inhabited aV]
theorem Ed(q:K):(Instr.makeChan 99 (Vy M 4)).runT TP q #[]=(.ok (.chan (C q.heap.size)) {q with heap:=q.heap.push (.chan 4 #[] Vz 0 0 Vz)},#[]):=by rfl
section
variable{main:VI}
theorem tq{i:VL Tmp}{p:Op}(t:a.kind≠.early)(v:bM z g i p)(u:∀fn,TP.funcs[a.fn]?=C fn->fn.norace=Vz)(b:∀o n k,(execOp c.eval ⟨i,p,o,n,k,I⟩).runT TP q #[]=(.ok (.value h) U,#[])):
 stepG TP main (rg (a.at c (VP z (g::f)::e)) d) q=.go (rg (a.at (c.put i h) (VP z f::e)) d) U:=by
 obtain⟨⟨y,H,o,n,k,D⟩,r,l,m,s⟩:=v;subst l m s;have b:=b o n k;rw[Zb]at b;have l:=(Zc b).1;have m:=(Zc b).2;have:=Go.Conc.stepG_value (P:=TP) (main:=main) (a:=c) (b:=a) (k:=e) (cs:=d) (rest:=f) r A t l;refine aac this ?_;rw[listed,m,seen_cells u (by simp)];rfl
theorem wM{b:Wd}(h:a.kind≠.early)(k:bM z g (C j) (.makeChan 99 b))(l:c.eval b=Vy M 4)(i:∀fn,TP.funcs[a.fn]?=C fn->fn.norace=Vz)(q:K):
 stepG TP main (rg (a.at c (VP z (g::f)::e)) d) q=.go (rg (a.at (c.put (C j) (.chan (C q.heap.size))) (VP z f::e)) d) {q with heap:=q.heap.push (.chan 4 #[] Vz 0 0 Vz)}:=
 tq h k i λo n m=>by show VR.runT TP ((Instr.makeChan 99 (c.eval b)).bind _) q #[]=_;rw[l,Go.Sem.runT_bind',Ed];rfl
theorem FM{i:Tmp}{b:E}(p:a.kind≠.early)(r:bM z g (C j) (.recv 99 (.tmp i) J))(H:c.tmps[i]?=C (.chan (C b)))(D:∀fn,TP.funcs[a.fn]?=C fn->fn.norace=Vz):
 AtRecv TP b .nilIface (rg (a.at c (VP z (g::f)::e)) d) (rg (a.at c (VP z (g::f)::e)) d):=by
 refine⟨A,A,λq=>?_⟩;obtain⟨⟨x,L,u,t,k,y⟩,l,m,n,o⟩:=r;subst m n o
 have s:(execOp c.eval ⟨C j,.recv 99 (.tmp i) J,u,t,k,I⟩).run TP q=.ok (.comm #[rcase b .nilIface] J (.recv J)) q:=by go_simp;rfl
 have:=stepG_comm (P:=TP) (main:=J) (b:=a) (a:=c) (k:=e) (cs:=d) (rest:=f) l A p s;exact this
theorem yh(i:∃b,bM z g (C j) b):Go.Conc.served (rg (a.at c (VP z (g::f)::e)) d) h=rg (a.at (c.put (C j) h) (VP z f::e)) d:=by obtain⟨b,o,k,l,m,n⟩:=i;simp_all [Xl,Go.Conc.served,rg]
end
end
variable{d:VQ}{f:VD Item}{e:E}{g:VD E}{h:VE Vx}
section
variable[Inhabited aV]
theorem RR(q:K)(a:VE Wa):(Go.sizeOf 99).runT TP q a=(.ok 1 q,a):=by rfl
section
variable{main:VI}
theorem zZ{k m:Tmp}{B b:E}{X:VJ}{o:E×E}(L:a.kind≠.early)(P:bM z e I (.store 99 (.tmp k) (.tmp m)))(R:d.tmps[k]?=C (pt B 0))(T:d.tmps[m]?=C (.chan (C b)))(O:∀fn,TP.funcs[a.fn]?=C fn->fn.norace=Vz)
 (a5:q.heap[B]?=C (VH h X o))(a3:0<h.size)(a7:o.1=o.2):
 stepG TP main (rg (a.at d (VP z (e::g)::f)) l) q=.go (rg (a.at d (VP z g::f)) l) (q.setCell ⟨B,0,I⟩ (.chan (C b))) #[⟨.cell ⟨B,0,I⟩,J,Vz⟩]:=by
 obtain⟨⟨a0,a8,u,t,c,a2⟩,r,i,x,y⟩:=P;subst i x y;have S:=(cD R).1;have U:=(cD T).1;have D:q.cell? ⟨B,0,I⟩=C h[0]:=by simp_all [K.cell?]
 have H:q.frozen? ⟨B,0,I⟩=Vz:=by simp_all [K.frozen?]
 have Q:(execOp d.eval ⟨I,.store 99 (.tmp k) (.tmp m),u,t,c,I⟩).runT TP q #[]=(.ok .skip (q.setCell ⟨B,0,I⟩ (.chan (C b))),#[⟨.cell ⟨B,0,I⟩,J,Vz⟩]):=by
  unfold execOp;simp only[S,U];show((Instr.storeAt 99 (pt B 0) (.chan (C b))).bind λ_=>(Sem.pure Next.skip:VR Next)).runT TP q #[]=_;have v:(Instr.storeAt 99 (pt B 0) (.chan (C b)))=(Go.sizeOf 99).bind λW=>if(Value.chan (C b)).cells.size≠W then stuck "storeVar: the value has not the size of the variable"else storeCells ⟨B,0,I⟩ [.chan (C b)]:=A;rw[Zt,v,Zt,RR];simp only;rw[VK (by simp[Value.cells])]
  have a1:(storeCells ⟨B,0,I⟩ [.chan (C b)]).runT TP q #[]=(.ok () (q.setCell ⟨B,0,I⟩ (.chan (C b))),#[⟨.cell ⟨B,0,I⟩,J,Vz⟩]):=by show VR.runT TP ((store ⟨B,0,I⟩ (.chan (C b))).bind _) q #[]=_;rw[Zt,ti A D H];rfl
  simp_all
 have N:∀c∈(#[⟨.cell ⟨B,0,I⟩,J,Vz⟩]:VE Wa),∀s,c.loc≠.mark s:=λc a4 s a6=>by simp_all
 obtain⟨p,n⟩:=d;obtain⟨Y,w,i⟩:=fL (c:=TP) (a.at ⟨p,n⟩ (VP z (e::g)::f)) l (execOp (Act.eval ⟨p,n⟩) ⟨I,.store 99 (.tmp k) (.tmp m),u,t,c,I⟩) q;rw[ji r A,w];rw[Q]at i⊢
 rw[i L trivial];simp only[eN,stepG.apply,VR.runT,Wv,Xy,aX,aN,rg,GStep.after];rw[show(a.at ⟨p,n⟩ (VP z (e::g)::f)).fn=a.fn from A,seen_cells O N];simp[Xl,r,Act.put]
end
end
variable{a:K}{g:Vx}{c:VE Vx}{d:K}{f:Set}{h:Ren}{e:VD VM}
section
variable[Inhabited aV]
noncomputable def eM:Code:=(Tryz.f31.body).getD .skip
def opsOf:Code->VE Oper
 |.region _ a _=>a
 |_=>#[]
theorem kW:∀fn,TP.funcs[(base 31).fn]?=C fn->fn.norace=Vz:=λfn a=>by have:TP.funcs[31]?=C fn:=a;cases this;rfl
structure Kp(k:E->Prop)(a:K)(o:VL VT)(b H:E)(rq:E->RV)(v:E->Vx):Prop where
 closed:Closed k a
 bF:∀l,(0<l\/l=TP.globals.size)->l<=TP.globals.size->k l
 list:∀q,o=C q->k q.block
 elem:∀i,i<b->∃r t p y x,o=C ⟨r,t,I⟩/\a.heap[r]?=C (VH p y x)/\∀j,j<8->p[t+i*8+j]?=(rq i).jF[j]?
 MG:∀i,i<b->∀d:K,(∀n,k n->(d.heap[n]?).map Obj.whole=(a.heap[n]?).map Obj.whole)->Calls TP 38 #[Vy M i,.agg (rq i).jF] d λw z=>w=VN (v i)/\Below d.heap.size d z
 only:∀i,fg k (v i)
 small:b<2^20
def rY(b:E->Prop)(u:E)(a:E):Prop:=b a\/a=u\/a=u+1
def Ky(s u b d:E)(a:VL VT):VQ:=⟨#[pt s 0,.slice a b d,F,pt u 0,VG I 0 0,pt (u+1) 0,F,F,F,F,pt s 0,pt s 0,pt s 8,F,F,F,F,F,F,F,F,F,F,F,F,F,F,F,F,F,F,F,F,F,F,F,F,F,F,F,F,F],[]⟩
theorem CI(a:Obj):Obj.whole (Obj.whole a)=Obj.whole a:=by cases a<;>rfl
theorem xE(d:E->Prop)(a:K)(b:E):((jI d a).heap[b]?).map Obj.whole=(a.heap[b]?).map Obj.whole:=by
 by_cases e:d b
 .grind [iH,CI]
 rw[tT e]
def CV(b:VE Obj)(a:K):Prop:=a.heap=b
structure CY(a i:K)(s b q:E)(n:VL VT)(o:VE Vx)(r:VJ)(p:E×E):Prop where
 size:i.heap.size=a.heap.size+2
 tC:i.heap[s]?=C (VH (o.setIfInBounds 8 (VG I 0 0)) r p)
 old:∀k,k<a.heap.size->k≠s->i.heap[k]?=a.heap[k]?
 h3:i.heap[a.heap.size]?=C (VH #[.slice n b q] 25 (0,0))
 h5:i.heap[a.heap.size+1]?=C (VH #[F] 99 (0,0))
omit[Inhabited aV]in
theorem aB{i l:E}{n:VJ}{k:E×E}(o:a.heap[i]?=C (VH c n k)):(a.setCell ⟨i,l,I⟩ g).heap[i]?=C (VH (c.setIfInBounds l g) n k):=by simp[K.setCell,XH,o]
omit[Inhabited aV]in
theorem ah{d f b:E}(e:b≠d):(a.setCell ⟨d,f,I⟩ g).heap[b]?=a.heap[b]?:=by simp[K.setCell,XH,Xu e]
omit[Inhabited aV]in
theorem aI{b:VT}:(a.setCell b g).heap.size=a.heap.size:=by simp
theorem Pf{a2:K}{e:E}{a:VL VT}{a4:Vx}(b0:d.cell? ⟨s,8,I⟩=C a4)(b1:d.frozen? ⟨s,8,I⟩=Vz)(a5:d.heap=a2.heap){n X Y Z a0 a1 a6 a7 a8 f g h i k l m o p q r t v w x y z D H L N O P Q R S T U W:Vx}:
 wpList TP (opsOf (hd (tl eM))) (gL (λa3 a9=>a3=⟨#[pt s 0,.slice a b e,n,pt u 0,VG I 0 0,X,Y,Z,a0,a1,pt s 0,pt s 0,pt s 8,f,g,h,i,k,l,m,o,p,q,r,t,v,w,x,y,z,D,H,L,N,O,P,Q,R,S,T,U,W],[]⟩/\CV (a2.setCell ⟨s,8,I⟩ (VG I 0 0)).heap a9)) (opsOf (hd (tl eM))).toList ⟨#[pt s 0,.slice a b e,n,pt u 0,VG I 0 0,X,Y,Z,a0,a1,a6,a7,a8,f,g,h,i,k,l,m,o,p,q,r,t,v,w,x,y,z,D,H,L,N,O,P,Q,R,S,T,U,W],[]⟩ d:=by
 show wpList TP _ _ [⟨C 10,.move (.tmp 0),_,_,_,_⟩,⟨C 11,.nilCheck (.tmp 10),_,_,_,_⟩,⟨C 12,.fieldAddr 98 (.tmp 11) 8,_,_,_,_⟩,⟨I,.store 43 (.tmp 12) (.const (VG I 0 0)),_,_,_,_⟩] _ _
 go_wp2
 exact⟨A,by unfold CV K.setCell;rw[(VF a5).out]⟩
theorem MR(d:ma f m a){b:E}(h:m b):(a.heap[b]?).map Obj.whole=a.heap[b]?:=by
 obtain⟨i,e,g⟩:=d b h;rw[e];cases i with
 |cells c l k=>obtain⟨rfl,_⟩:=g;rfl
 |_=>rfl
theorem LK{p:E->Prop}{r:VL VT}{t:E}{rq:E->RV}{b8:E->Vx}{H:VE Vx}{c:VM}{P:VE Vx}{b3:VJ}{L:E×E}
 (u:Kp p a r b t rq b8)(d6:a.heap[s]?=C (VH P b3 L))(h7:8<P.size)(f5:L.1=L.2)(c6:¬p s)
 (b2:∀i,m i->p i)(f9:∀i,GD i->m i)(c9:Inv TP ar m h a)(o:ax ar h #[pt s 0,.slice r b t] H)
 (next:∀a5(b6:K) a6 a4 q,q.n=b->q.τ=b8->q.sh=p->CY a b6 s b t r P b3 L->Closed (rY p a.heap.size) b6->Inv TP ar (rY p a.heap.size) a5 (jI (rY p a.heap.size) b6)->cW m h a a5 (jI (rY p a.heap.size) b6)->a5 (a.heap.size+1) q.bx->
   aw ar a5 ⟨[],[]⟩ (Ky s a.heap.size b t r) a6->sG TP (C (a4,q,0)) I D ar (rY p a.heap.size) a5 (jI (rY p a.heap.size) b6) (rg ((base 31).at a6 [.code (tl (tl (tl (tl eM))))]) (c::e))):
 sG TP I I D ar m h a (rg (Frame.enter TP 31 H .normal) (c::e)):=by
 show(goalAt TP I I D ar m).G h a _
 have e9:Frame.enter TP 31 H .normal=(base 31).at ⟨H++Array.replicate (42-H.size) F,[]⟩ [.code eM]:=by rfl
 rw[e9];obtain⟨b4,b5,rfl⟩:∃b4 b5,H=#[b4,b5]:=by have:=o.1;simp at this;exact⟨H[0],H[1],by apply ZG (by simp[<-this]);intro w c7 l6;rcases(by omega:w=0\/w=1)with rfl|rfl<;>simp⟩
 have g6:an ar h (pt s 0) b4:=o.2 0 _ _ A rfl;have g7:an ar h (.slice r b t) b5:=o.2 1 _ _ A rfl;have g4:=aY (f:=ar) (h:=h)
 simp only[Xc,WO,XG,E.reduceAdd,E.reduceSub,Yk,
  Yl,YH,Yu,XN,Xe]
 have e0:aw ar h ⟨[],[]⟩ ⟨#[pt s 0,.slice r b t,F,F,F,F,F,F,F,F,F,F,F,F,F,F,F,F,F,F,F,F,F,F,F,F,F,F,F,F,F,F,F,F,F,F,F,F,F,F,F,F],[]⟩ ⟨#[b4,b5,F,F,F,F,F,F,F,F,F,F,F,F,F,F,F,F,F,F,F,F,F,F,F,F,F,F,F,F,F,F,F,F,F,F,F,F,F,F,F,F],[]⟩:=by
  refine⟨?_,⟨[],A,.nil⟩,by simp⟩;refine aZ.arr (.cons g6 (.cons g7 ?_))
  repeat (first|exact .nil|refine .cons g4 ?_)
 generalize (⟨#[b4,b5,F,F,F,F,F,F,F,F,F,F,F,F,F,F,F,F,F,F,F,F,F,F,F,F,F,F,F,F,F,F,F,F,F,F,F,F,F,F,F,F],[]⟩:VQ)=a6 at e0⊢
 have i1:=(Wh.1 d6).1;have S:∀i,m i->i<a.heap.size:=λi o=>by obtain⟨_,_,_,n,_⟩:=u.closed i (b2 i o);exact(Wh.1 n).1
 have e4:∀i,m i->i≠s:=λi o y=>c6 (y▸b2 i o);refine bw (bX ak (by decide) (by decide) (H:=[]) A (by decide+kernel) c9 e0 (λa7 b7=>a7=⟨#[pt s 0,.slice r b t,F,pt a.heap.size 0,VG I 0 0,F,F,F,F,F,F,F,F,F,F,F,F,F,F,F,F,F,F,F,F,F,F,F,F,F,F,F,F,F,F,F,F,F,F,F,F,F],[]⟩/\b7.heap=a.heap.push (.cells #[.slice r b t] 25)) (λd X _ _ _=>?_) (λ_ _ n l k=>by rw[n.2,bQ (S l k)]) ?_)
 .go_wp2
  exact⟨A,by simp[World.alloc,X]⟩
 rintro a5 _ k8 b7 e6 Q g2⟨rfl,a9⟩;have d7:b7.heap[s]?=C (VH P b3 L):=by rw[a9,bQ i1];exact d6
 refine bw (bX ak (by decide) (by decide) (H:=[]) A (by decide+kernel) e6 g2 (λa7 T=>a7=⟨#[pt s 0,.slice r b t,F,pt a.heap.size 0,VG I 0 0,F,F,F,F,F,pt s 0,pt s 0,pt s 8,F,F,F,F,F,F,F,F,F,F,F,F,F,F,F,F,F,F,F,F,F,F,F,F,F,F,F,F,F],[]⟩/\CV (b7.setCell ⟨s,8,I⟩ (VG I 0 0)).heap T) (λd X l0 l1 l2=>?_) (λ_ _ n l k=>by rw[show _=_ from n.2];exact ah (e4 l k)) ?_)
 .have f6:d.heap[s]?=C (VH P b3 L):=by rw[X];exact d7
  have i0:d.cell? ⟨s,8,I⟩=C P[8]:=by simp[K.cell?,f6,h7]
  have i4:d.frozen? ⟨s,8,I⟩=Vz:=by obtain⟨l4,l5⟩:=L;simp only at f5;subst f5;simp[K.frozen?,f6]
  exact Pf i0 i4 X
 rintro e5 _ d1 T e7 d4 e1⟨rfl,R⟩;have R:T.heap=(b7.setCell ⟨s,8,I⟩ (VG I 0 0)).heap:=R;have g1:T.heap.size=a.heap.size+1:=by rw[R,aI,a9];simp
 refine bw (eB ?_);show sG TP I I D ar m e5 T (rg ((base 31).at d1 (.inRegion (opsOf (hd (tl (tl eM)))) (0::[1,2])::[.code (tl (tl (tl eM)))])) (c::e));refine Mi (e:=.chan 4 #[] Vz 0 0 Vz) (l:=λq=>rg ((base 31).at (d1.put (C 13) (.chan (C q))) (.inRegion (opsOf (hd (tl (tl eM)))) [1,2]::[.code (tl (tl (tl eM)))])) (c::e)) A (λ_=>rfl) (λv=>wM (by decide) ⟨_,A,A,A,A⟩ A kW v) λq=>?_
 have g3:aw ar e5 ⟨[],[(13,.chan (C q))]⟩ ⟨#[pt s 0,.slice r b t,F,pt a.heap.size 0,VG I 0 0,F,F,F,F,F,pt s 0,pt s 0,pt s 8,F,F,F,F,F,F,F,F,F,F,F,F,F,F,F,F,F,F,F,F,F,F,F,F,F,F,F,F,F],[]⟩ (d1.put (C 13) (.chan (C q))):=by have Z:=e1.put (C 13) A (.bU (v:=.chan (C q)) trivial);refine aw.more (d0:=⟨[],[]⟩) Z ?_;simp[Act.put,<-e1.tmps.1]
 show(Oy TP q (.chan 4 #[] Vz 0 0 Vz) D ar m).G e5 T _;refine uW ak (by decide) (by decide) (L:=C 5) (R:=.alloc 99) ⟨_,A,A,A,A⟩ (W:=[13]) A (by decide+kernel) (by decide) e7 g3 (λa7 U=>a7=⟨#[pt s 0,.slice r b t,F,pt a.heap.size 0,VG I 0 0,pt (a.heap.size+1) 0,F,F,F,F,pt s 0,pt s 0,pt s 8,F,F,F,F,F,F,F,F,F,F,F,F,F,F,F,F,F,F,F,F,F,F,F,F,F,F,F,F,F],[]⟩/\U.heap=T.heap.push (.cells #[.chan I] 99)) (λd X _ _ _ k2 a4 y=>?_) (λ_ _ n l k=>by rw[n.2,bQ (by have:=S l k;omega)]) ?_
 .clear next o e9 e0 g2 e1 g3 g6 g7 g4 c9 u e6 e7 Q d4 R a9 d7 d6 S e4 b2 f9
  go_wp2
  show d.heap.push _=_;rw[X]
 rintro O _ x U e8 f0 a1⟨rfl,b0⟩;obtain⟨B,a8,f1⟩:=kX (j:=5) (a:=a.heap.size+1) a1 A;have c8:U.heap[a.heap.size+1]?=C (VH #[.chan I] 99 (0,0)):=by rw[b0,<-g1];simp
 refine Iu (l:=q) (w:=yt B q) A λv f2=>?_;obtain⟨l7,l8,f7,f8,i7⟩:=f2.obj _ _ a8;rw[c8]at f7;cases f7;cases i7 with
 |cells _ i2 i3=>
 rename_i h0 b9;have h9:h0.size=1:=i2.1.symm;have j4:b9.1=b9.2:=by rcases i3 with n|⟨n,_⟩;exact n;exact absurd A n
 have i8:=zZ (main:=J) (a:=base 31) (d:=x) (f:=[.code (tl (tl (tl eM)))]) (l:=c::e) (z:=opsOf (hd (tl (tl eM)))) (e:=2) (g:=[]) (by decide) ⟨_,A,A,A,A⟩ f1 (a1.kn (13,.chan (C q)) (by simp)) kW f8 (by omega) j4;have h8:=CF (v:=F) (N:=.chan (C q)) f2 (a:=⟨a.heap.size+1,0,I⟩) (g:=⟨B,0,I⟩) ⟨a8,A,A⟩ (.bU trivial) (d:=.chan I) (by simp[K.cell?,c8]) (by simp[K.frozen?,c8]) Vz U.tape
 refine⟨_,O,U.setCell ⟨a.heap.size+1,0,I⟩ F,_,_,_,i8,h8,λi o=>ah (by have:=S i o;omega),λy f4 _ i o=>by
  simp at f4;subst f4
  exact⟨by simp,λl k=>by cases k;have:=S i o;simp;omega⟩,A,?_,?_⟩
 .refine⟨99,b9,?_⟩;rw[aB f8]
  congr 2
  apply ZG
  .simp[h9]
  intro w Z d5;have:w=0:=by simp at d5;omega
  subst this;simp
 have d0:Inv TP ar m O (U.setCell ⟨a.heap.size+1,0,I⟩ F):=e8.keep e8.base (λi o=>ah (by have:=S i o;omega));obtain⟨N,a2⟩:∃N,N=U.setCell ⟨a.heap.size+1,0,I⟩ F:=⟨_,A⟩;rw[<-a2]at d0⊢
 have b1:∀i,i<a.heap.size->i≠s->N.heap[i]?=a.heap[i]?:=λi o i6=>by rw[a2,ah (by omega),b0,bQ (by omega),R,ah i6,a9,bQ o]
 have W:CY a N s b t r P b3 L:={
  size:=by rw[a2,aI,b0];simp[g1]
  tC:=by rw[a2,ah (by omega),b0,bQ (by omega),R,aB d7]
  old:=b1
  h3:=by rw[a2,ah (by omega),b0,bQ (by omega),R,ah (by omega),a9];simp
  h5:=by rw[a2,aB c8];rfl}
 have d8:∀i,p i->i<a.heap.size:=λi o=>by obtain⟨_,_,_,n,_⟩:=u.closed i o;exact(Wh.1 n).1
 have a0:Closed (rY p a.heap.size) N:=by
  rintro i(o|rfl|rfl)
  .obtain⟨q1,e2,e3,j7,j8,j9,k0,k1⟩:=u.closed i o;exact⟨q1,e2,e3,by rw[b1 i (d8 i o) (λy=>c6 (y▸o))];exact j7,j8,j9,λw l k=>(k0 w l k).mono λ_ n=>VA n,k1⟩
  .refine⟨_,_,_,W.h3,by simp,by simp,λw l k=>?_,pj (by intro b n;cases n)⟩;obtain⟨c7,k⟩:=Wh.1 k;have:w=0:=by simp at c7;omega
   subst this;subst k;cases r with
   |none=>exact .aP _ _
   |some i=>exact .slice (VA (u.list i A)) _ _
  refine⟨_,_,_,W.h5,by simp,by simp,λw l k=>?_,pj (by intro b n;cases n)⟩;obtain⟨c7,k⟩:=Wh.1 k;have:w=0:=by simp at c7;omega
  subst this;subst k;exact .bU
 have QX:∃z,x.tmps[3]?=C z/\an ar O (pt a.heap.size 0) z:=by
  have g0:3<x.tmps.size:=by rw[<-a1.tmps.1];simp
  exact⟨x.tmps[3],Wj g0,a1.tmps.2 3 _ _ A (Wj g0)⟩
 obtain⟨z,h5,j0⟩:=QX;have c0:∀(v:K) b,yt B q v->yt B q (v.at b):=λ_ _ n=>n;refine ny c0 A rfl (λv=>iM) ?_;refine ny c0 A rfl (k:=rg ((base 31).at x [.code (hd (tl (tl (tl eM)))),.code (tl (tl (tl (tl eM))))]) (c::e)) (λv=>by rfl) ?_;refine ny c0 A rfl (k:=rg ((base 31).at x [.inRegion (opsOf (hd (tl (tl (tl eM))))) [0,1],.code (tl (tl (tl (tl eM))))]) (c::e)) (λv=>by rfl) ?_
 refine ny c0 A rfl (k:=rg ((base 31).at (x.put (C 14) (.func (.func 37) #[] #[pt B 0,z])) [.inRegion (opsOf (hd (tl (tl (tl eM))))) [1],.code (tl (tl (tl (tl eM))))]) (c::e)) (λv=>tq (i:=C 14) (p:=.makeFunc (.func 37) #[] #[.tmp 5,.tmp 3]) (by decide) ⟨_,A,A,A,A⟩ kW (λk2 a4 y=>by
  simp[execOp,Act.eval,f1,h5]
  constructor<;>rfl)) ?_
 have i5:14<x.tmps.size:=by rw[<-a1.tmps.1];simp
 have h3:(x.put (C 14) (.func (.func 37) #[] #[pt B 0,z])).tmps[14]?=C (.func (.func 37) #[] #[pt B 0,z]):=by simp[Act.put,i5]
 have f3:∀Y,(0<Y\/Y=TP.globals.size)->Y<=TP.globals.size->rY p a.heap.size Y:=λY Z d5=>VA (u.bF Y Z d5)
 have j3:∀l,p l->((jI (rY p a.heap.size) N).heap[l]?).map Obj.whole=(a.heap[l]?).map Obj.whole:=λl k=>by rw[xE,b1 l (d8 l k) (λy=>c6 (y▸k))]
 have j1:an aL (λi d2=>rY p a.heap.size i/\O i d2) (pt a.heap.size 0) z:=by
  cases j0 with
  |ptr o=>exact .ptr ⟨⟨VC (VA A),o.1⟩,o.2.1,o.2.2⟩
 refine Iv (d:=b) (a7:=a.heap.size+1) (a6:=b8) (X:=rY p a.heap.size) (Z:=p) (Sp:=aL) A (λv=>go_step (j:=14) (by decide) ⟨_,A,A,A,A⟩ kW h3 v) A a0 f3 (λi n=>VA n) a8 (VC (VC A)) (λi n=>VA (b2 i n)) f9
  (IY (i:=a.heap.size+1) (n:=a.heap.size) (R:=r) (Q:=t) (rq:=rq) {
    x5:=VC (VC A)
    x3:=VC (VA A)
    h5:=⟨_,_,by rw[iH (.inr (.inr A)),W.h5];rfl⟩
    h3:=⟨_,_,by rw[iH (.inr (.inl A)),W.h3];rfl⟩
    elem:=λa3 d9=>by obtain⟨d3,j5,g8,k3,b9,q1,e2,e3⟩:=u.elem a3 d9;have k:=u.list _ q1;exact⟨d3,j5,g8,k3,_,q1,VA k,by rw[iH (.inl k),b1 d3 (d8 d3 k) (λy=>c6 (y▸k)),e2];rfl,e3⟩
    MG:=λa3 d9 d j2 _=>u.MG a3 d9 d λl k=>by rw[j2 l (.inl k)];exact j3 l k
    only:=λa3 _=>u.only a3
    small:=by have:=u.small;show b<2^40;omega} ⟨kO d0.base f3,qJ a0,vt a0⟩ ⟨VC (VC A),a8⟩ j1) λa4=>?_
 show(goalAt TP (C (a4,⟨q,b,b8,p,dz (rY p a.heap.size) O,B⟩,0)) I D ar (rY p a.heap.size)).G O (jI (rY p a.heap.size) N) _;refine bO ?_
 have i9:aw ar O ⟨[],[]⟩ (Ky s a.heap.size b t r) (x.put (C 14) (.func (.func 37) #[] #[pt B 0,z])):=by have Z:=a1.put (C 14) A (.bU (v:=.func (.func 37) #[] #[pt B 0,z]) trivial);exact aw.less (d0:=⟨[],[]⟩) Z A (by simp)
 refine next O N _ a4 _ A rfl rfl W a0 ⟨d0.base,qJ a0,vt a0⟩ ?_ a8 i9
 refine⟨((Q.trans d4).trans f0).le,λl k4 n=>((Q.trans d4).trans f0).fresh l k4 n,?_,λl k=>?_⟩
 .rw[pZ,W.size];omega
 rw[iH (.inl (b2 l k)),b1 l (S l k) (e4 l k)];exact MR c9.cY k
end
end Go.Sim
namespace Go.Sv
open Go.MapKept Go.Proofs Go.RowKit Go.Lib Go.WideShapes Go.Sort Go.Sim Wt
variable{c:K}{w':K}{e:Vx}{h:E}{d:E}{f:E}
def spot(d:VI)(a:B):Vx:=.agg #[.bool d,.string (bs a)]
def xj(a:Vx):Prop:=∃d b,a=.agg #[.bool d,.string b]
theorem Ng(d:VI)(a:B):xj (spot d a):=⟨d,bs a,A⟩
theorem Nh{d b:VI}{c e:B}(a:spot d c=spot b e):d=b/\c=e:=by unfold spot at a;simp only[Value.agg.injEq,VE.mk.injEq,VD.cons.injEq,Vx.bool.injEq,Value.string.injEq,and_true]at a;exact⟨a.1,yJ a.2⟩
theorem Tx:TP.stoodInHeld 253=Vz:=by decide+kernel
theorem PX:∃f d,TP.underlying 253=C (.struct #[f,d])/\f.type=4/\d.type=9/\f.offset=0/\d.offset=1/\f.name≠ "_"/\d.name≠ "_":=⟨_,_,A,A,A,A,A,by decide,by decide⟩
theorem TA:TP.underlying 4=C .bool:=A
theorem Qd(a b:Vx)(c:K):(part 4 #[a,b] 0).run TP c=.ok a c:=A
theorem MD(b a:Vx)(c:K):(part 9 #[b,a] 1).run TP c=.ok a c:=A
theorem SM(d h:VI)(f g:VX)(c:K):(Op.equal 253 (.agg #[.bool d,.string f]) (.agg #[.bool h,.string g])).run TP c=.ok (d==h&&f==g) c:=by
 obtain⟨v,w,o,t,u,r,s,p,q⟩:=PX
 have l:∀a b e,(Op.equalIn (e+1) 4 (.bool a) (.bool b)).run TP c=.ok (a==b) c:=λa b e=>by unfold Op.equalIn;simp[Xd TA,Result.andThen]
 have k:∀a b e,(Op.equalIn (e+1) 9 (.string a) (.string b)).run TP c=.ok (a==b) c:=λa b e=>by unfold Op.equalIn;simp[Xd vZ,Result.andThen]
 have n:(program).run TP c=.ok TP c:=A;show(Op.equalIn (9998+1+1) 253 _ _).run TP c=_;rw[Op.equalIn];simp only[Xx,Xd o,Result.andThen,n,Tx,WC,Wy];simp[t,u,r,s,p,q,Xx,Qd,MD,l,k,Result.andThen];have i:=k f g 9998;cases m:(f==g)<;>cases d<;>cases h<;>simp[i,m,MD,Result.andThen,Xx,show(9998+1:E)=9999 from A]at i⊢<;>simp[i,Result.andThen,Xx]
theorem QD(d:VI)(n:VX)(em:VI)(c:K):(Instr.checkKey em 10000 253 (.agg #[.bool d,.string n])).run TP c=.ok () c:=by obtain⟨q,r,g,o,p,l,m,i,k⟩:=PX;have e:∀b a,(Instr.checkKey em (a+1) 4 (.bool b)).run TP c=.ok () c:=λb a=>Zn (k:=.bool b) TA trivial em a;have f:∀b a,(Instr.checkKey em (a+1) 9 (.string b)).run TP c=.ok () c:=λb a=>Zn (k:=.string b) vZ trivial em a;show(Instr.checkKey em (9998+1+1) 253 _).run TP c=_;rw[Instr.checkKey];simp only[Xx,Xd g,Result.andThen];simp[o,p,l,m,i,k,Xx,Qd,MD,e,f,Result.andThen]
theorem KH{k:Vx}(w:xj k)(c:K):∀(b:VD Wb)(f:E),(∀h∈b,xj h.key)->((Instr.findAsking 253 k b f).run TP c=.ok I c/\∀h∈b,h.key≠k)\/∃j e,(Instr.findAsking 253 k b f).run TP c=.ok (C (f+j,e.val)) c/\b[j]?=C e/\e.key=k
 |[],f,_=>VA ⟨A,by simp⟩
 |e::b,f,g=>by
  obtain⟨d,a,rfl⟩:=w;obtain⟨m,l,q⟩:=g e (.head _);have n:=SM d m a l c;rw[<-q]at n;by_cases s:d=m/\a=l
  .obtain⟨rfl,rfl⟩:=s;refine VC ⟨0,e,?_,A,q⟩;unfold Instr.findAsking;rw[Xx,n];have:(a==a)=J:=(bytes_beq a a).2 A;simp[Result.andThen,this]
  have x:e.key≠.agg #[.bool d,.string a]:=λg=>s (by rw[q]at g;simp at g;exact⟨g.1.symm,g.2.symm⟩)
  have v:(d==m&&a==l)=Vz:=by
   cases r:(d==m&&a==l)with
   |false=>rfl
   |true=>simp only[WH,B_]at r;exact absurd ⟨r.1,(bytes_beq a l).1 r.2⟩ s
  rw[v]at n
  have y:(Instr.findAsking 253 (.agg #[.bool d,.string a]) (e::b) f).run TP c=(Instr.findAsking 253 (.agg #[.bool d,.string a]) b (f+1)).run TP c:=by rw[Instr.findAsking,Xx,n];rfl
  rw[y];rcases KH ⟨d,a,A⟩ c b (f+1) (λh i=>g h (.tail _ i))with⟨o,p⟩|⟨j,t,o,p,u⟩
  .exact VA ⟨o,λh i=>by
    cases i with
    |head=>exact x
    |tail _ i=>exact p h i⟩
  exact VC ⟨j+1,t,by rw[o,Y_,Z_ 1 j],by simpa using p,u⟩
theorem rL:CX TP 253 xj where
 SH:=λe c em⟨d,a,b⟩=>by subst b;exact QD d a em c
 Ue:=λe c i g h=>by rw[run_findKey_eq c A];have:=KH g c i 0 h;simpa using this
 same:=λe⟨d,a,b⟩=>by subst b;have f:(a==a)=J:=(bytes_beq a a).2 A;show Instr.sameBits (9998+1+1) _ _=J;simp[Instr.sameBits,f]
theorem Fw:TP.underlying 196=C (.map 253 61):=A
theorem Sk(c:K):(zeroValue 61).run TP c=.ok (VG I 0 0) c:=A
abbrev i64(a:VB):Vx:=Vy M a
def rn(c:K)(e:Vx)(b:VD VB):Prop:=
 (b=[]/\∃f,e=.slice f 0 0)\/∃h a d,e=VG (C ⟨h,0,I⟩) b.length a/\c.heap[h]?=C (VH d 3 (0,0))/\0<a/\b.length<=a/\a<=maxLen/\d.size=a/\d.toList.take b.length=b.map i64/\∀i∈d.toList,∃g,i=i64 g
def rowOf:Vx->VL E
 |VG (C f) _ (_+1)=>C f.block
 |_=>I
theorem NC(c:K):rn c (VG I 0 0) []:=VA ⟨A,I,A⟩
theorem rn.stay{i:VD VB}(b:rn c e i)(o:∀h,rowOf e=C h->w'.heap[h]?=c.heap[h]?):rn w' e i:=by
 rcases b with b|⟨h,a,k,rfl,l,m,n⟩
 .exact VA b
 refine VC ⟨h,a,k,A,?_,m,n⟩;rw[o h ?_]
 .exact l
 obtain⟨g,rfl⟩:∃g,a=g+1:=⟨a-1,by omega⟩;rfl
theorem rn.lt{k:VD VB}(g:rn c e k)(d:rowOf e=C h):h<c.heap.size:=by
 rcases g with⟨_,f,rfl⟩|⟨m,b,l,rfl,i,n,_⟩
 .cases f<;>cases d
 obtain⟨a,rfl⟩:∃a,b=a+1:=⟨b-1,by omega⟩;cases d;exact(Wh.1 i).1
def Cf(a:VE Vx):E->VD Vx->VE Vx
 |_,[]=>a
 |b,e::c=>Cf (a.setIfInBounds b e) (b+1) c
theorem fZ:∀(d:VD Vx)(a:VE Vx)(b:E),(Cf a b d).size=a.size
 |[],a,b=>rfl
 |e::c,a,b=>by unfold Cf;rw[fZ c];simp
theorem jh:∀(c:VD Vx)(b:VE Vx)(a:E),a+c.length<=b.size->(Cf b a c).toList=b.toList.take a++c++b.toList.drop (a+c.length)
 |[],b,a,f=>by
  unfold Cf;simp
 |e::d,b,a,f=>by
  simp only[WO]at f;unfold Cf;rw[jh d _ _ (by simp;omega)];have g:a<b.toList.length:=by simp;omega
  rw[VE.toList_setIfInBounds,VD.take_set,VD.drop_set,WO]
  have h:(b.toList.take (a+1)).set a e=b.toList.take a++[e]:=by rw[Zu g,VD.set_append_right _ _ (by simp;omega)];have i:min a b.toList.length=a:=Zk (G_ g);rw[Ye,i,E.sub_self];rfl
  rw[h,VV (by omega),show a+(d.length+1)=a+1+d.length by omega];simp
theorem fX:∀(i:VD Vx)(a:E){c:K}{b:VE Vx}{g:VJ}{f:E×E},c.heap[d]?=C (VH b g f)->(c.setCells d a i).heap[d]?=C (VH (Cf b a i) g f)
 |[],a,c,b,g,f,h=>h
 |e::k,a,c,b,g,f,h=>fX k (a+1) (aB h)
theorem dR(b:f≠d):∀(h:VD Vx)(a:E){c:K},(c.setCells d a h).heap[f]?=c.heap[f]?
 |[],a,c=>rfl
 |e::g,a,c=>by show((c.setCell ⟨d,a,I⟩ e).setCells d (a+1) g).heap[f]?=_;rw[dR b g (a+1),ah b]
theorem fY:∀(f:VD Vx)(a:E){c:K},(c.setCells d a f).heap.size=c.heap.size
 |[],a,c=>rfl
 |e::b,a,c=>by show((c.setCell ⟨d,a,I⟩ e).setCells d (a+1) b).heap.size=_;rw[fY b (a+1),aI]
variable{b:E}{d:VE Vx}{e:E}{a:K}{f:Vx}
theorem lK{h:VB}:∀{g:VD VB},qV g->(∀i∈g.take (g.countP (·<h)),i<h)/\(∀i∈g.drop (g.countP (·<h)),h<=i)/\g.countP (·<h)<=g.length
 |[],_=>by simp
 |m::g,o=>by
  obtain⟨n,p⟩:=Xq.1 o;obtain⟨q,r,s⟩:=lK (h:=h) p;by_cases l:m<h
  .have k:(m::g).countP (·<h)=g.countP (·<h)+1:=by rw[ZC];simp[l]
   rw[k,VD.take_succ_cons,VD.drop_succ_cons]
   exact⟨λi c=>by
    rcases Wo.1 c with rfl|c
    .exact l
    exact q i c,r,by simp;omega⟩
  have k:(m::g).countP (·<h)=0:=by
   rw[VD.countP_eq_zero];intro i c;rcases Wo.1 c with rfl|c
   .simpa using l
   have:=n i c;simp;omega
  rw[k];refine⟨by simp,λi c=>?_,Xg _⟩;rcases Wo.1 c with rfl|c
  .omega
  have:=n i c;omega
theorem DS{a:VB}{b:VD VB}(c:qV b)(k:a∉b):dI a b=b.take (b.countP (·<a))++a::b.drop (b.countP (·<a)):=by obtain⟨g,h,i⟩:=lK (h:=a) c;refine Gg c i g λe d=>?_;have:=h e d;have l:e≠a:=λf=>k (f▸Yi d);omega
theorem ND(d:E):∀b∈(Builtin.zeroCells (Vx.int M 0).cells d).toList,∃e,b=i64 e:=λb a=>by unfold Builtin.zeroCells at a;simp only[YJ,WY]at a;obtain⟨j,_,rfl⟩:=a;refine⟨0,?_⟩;have c:(Vx.int M 0).cells=#[i64 0]:=A;rw[c];simp[E.mod_one]
def FG(f:Vx)(h:VD VB)(a:K)(g:Ending)(e:K):Prop:=∃d,g=VN d/\rn e d h/\a.heap.size<=e.heap.size/\(∀c,c<a.heap.size->rowOf f≠C c->e.heap[c]?=a.heap[c]?)/\∀b,rowOf d=C b->rowOf f=C b\/a.heap.size<=b
theorem ve{b:VD VB}:∀f∈b.map i64,f.oneCell'=J:=λf a=>by obtain⟨e,_,rfl⟩:=WY.1 a;rfl
theorem ua{m:K}{c:E}{h:VD VB}{l:VD Vx}(o:m.heap[b]?=C (VH d 3 (0,0)))(i:d.toList=h.map i64++l)(p:d.size=c)(n:0<c)(q:c<=maxLen)(r:∀k∈l,∃e,k=i64 e)(t:e=h.length):rn m (VG (C ⟨b,0,I⟩) e c) h:=by
 subst t;have s:h.length<=c:=by have:=VU List.length i;simp at this;omega
 refine VC ⟨b,c,d,A,o,n,s,q,p,?_,λk g=>?_⟩
 .rw[i,Yz (by simp)]
 rw[i]at g;rcases WL.1 g with g|g
 .obtain⟨e,_,rfl⟩:=WY.1 g;exact⟨e,A⟩
 exact r k g
theorem iA{a:E}(c:0<a):rowOf (VG (C ⟨b,0,I⟩) e a)=C b:=by obtain⟨d,rfl⟩:∃d,a=d+1:=⟨a-1,by omega⟩;rfl
theorem Tb{c:VD VB}{h:VB}(d3:rn a f c)(c9:qV c)(e7:h∉c)(f3:c.length<2^40){r:E}{b1:VJ}(Y:a.heap[r]?=C (VH #[i64 h] b1 (0,0)))(e3:rowOf f≠C r):
 Calls TP 135 #[f,Vy M ((c.countP (·<h):E):VB),VG (C ⟨r,0,I⟩) 1 1] a (FG f (dI h c) a):=by
 have Z:∀j l,([i64 h]:VD Vx)[j]?=C l->a.cell? ⟨r,0+j,I⟩=C l:=λj l m=>by
  cases j with
  |zero=>simp at m;subst m;simp[K.cell?,Y]
  |succ j=>simp at m
 have Q:∀l∈[i64 h],l.oneCell'=J:=λl m=>by simp at m;subst m;rfl
 obtain⟨c1,c2,c3⟩:=lK (h:=h) c9;have a6:=DS c9 e7;obtain⟨g,c7⟩:∃g,g=c.countP (·<h):=⟨_,A⟩;rw[<-c7]at c1 c2 c3 a6⊢
 have W:(dI h c).length=c.length+1:=by rw[a6];simp;omega
 have X:(dI h c).map i64=(c.map i64).take g++i64 h::(c.map i64).drop g:=by rw[a6];simp
 have P:Tryz.sQ.t 3=3:=A
 have b9:∀w,(Builtin.zeroCells (Vx.int M 0).cells w).size=w:=λw=>by rw[Q'];exact E.mul_one w
 have b3:∀(base:VL VT)(d:E),c.length<=d->d<c.length+1->(base=I->c.length=0)->(∀H,base=C H->∀j l,(c.map i64)[j]?=C l->a.cell? (H.add j)=C l)->g=c.length->Calls TP 135 #[.slice base c.length d,Vy M ((g:E):VB),VG (C ⟨r,0,I⟩) 1 1] a (FG f (dI h c) a):=λbase d q1 e8 e9 f0 d2=>by
  have z:=Any2.slices_Insert_int_end_grow Tryz.tV base c.length d r 0 1 1 (c.map i64) [i64 h] a (by decide) q1 e8 (by omega) (by simp) A e9 f0 Z Q;rw[d2];refine I_ z λp b2⟨D,k⟩=>⟨_,D,?_,?_,?_,λb s=>VC ?_⟩
  .have c6:=j_ a (c.length+1) d 3;have a3:=Zl a (c.length+1) d 3 (by unfold maxLen;omega);rw[k,P];refine ua (WS a.drew _) (h:=dI h c) (l:=(Builtin.zeroCells (Vx.int M 0).cells (grownCap a (c.length+1) d 3-(c.length+1))).toList) ?_ ?_ (by omega) a3 (ND _) W.symm
   .rw[X,d2];have L:(c.map i64).take c.length=c.map i64:=C_ (by simp);have x:(c.map i64).drop c.length=[]:=Zv (by simp);rw[L,x];simp
   simp only[YD,Xc,WI,Ya,WO,XG,b9];omega
  .rw[k];simp
  .intro u q _;rw[k];exact a_ a.drew _ q
  have c6:=j_ a (c.length+1) d 3;rw[P,iA (by omega)]at s;cases s;exact Wl _
 rcases d3 with⟨rfl,H,rfl⟩|⟨b,o,v,rfl,s,y,b4,R,S,b5,b6⟩
 .exact b3 H 0 (by simp) (by simp) (λ_=>rfl) (λ_ _ j l m=>by simp at m) (by rw[c7];rfl)
 have f2:b<a.heap.size:=(Wh.1 s).1
 have a4:∀j l,(c.map i64)[j]?=C l->a.cell? ⟨b,0+j,I⟩=C l:=λj l m=>by
  rw[<-b5,XA]at m;split at m
  .simp only[K.cell?,s,Xr];simpa using m
  cases m
 have c0:∀j,a.frozen? ⟨b,j,I⟩=Vz:=λj=>by simp[K.frozen?,s]
 have d0:∀j,j<o->(a.cell? ⟨b,j,I⟩).isSome=J:=λj O=>by simp[K.cell?,s,S,O]
 have d9:b≠r:=λp=>e3 (by rw[iA y,p])
 have d1:∀w,w<=c.length->v.toList.take w=(c.map i64).take w:=λw e1=>by rw[<-b5,YZ,Zk e1]
 by_cases a5:g=c.length
 .by_cases a7:c.length+1<=o
  ·
   have z:=Any2.slices_Insert_int_end_room Tryz.tV b 0 c.length o r 0 1 1 [i64 h] a (by decide) a7 (by unfold maxLen at R;omega) A (λj O=>d0 _ (by omega)) (λj O=>c0 _) Z Q;rw[a5];refine I_ z λp b2⟨D,k⟩=>⟨_,D,?_,?_,?_,λu q=>VA (by rw[iA y]at q⊢;exact q)⟩
   .rw[k];refine ua (fX [i64 h] (0+c.length) s) (h:=dI h c) (l:=v.toList.drop (c.length+1)) ?_ (by rw[fZ];exact S) y R (λt n=>b6 t (Yi n)) W.symm;rw[jh _ _ _ (by simp;omega),X,a5,Xr,d1 _ (Wl _)];have x:(c.map i64).drop c.length=[]:=Zv (by simp);rw[x];rfl
   .rw[k,fY];exact Wl _
   intro u q T;rw[k,dR (λp=>T (by rw[iA y,p]))]
  exact b3 _ o b4 (by omega) (λp=>by cases p) (λH d4 j l m=>by
   cases d4;rw[pK];have:=a4 j l m
   rwa [Xr]at this) a5
 have c8:g<c.length:=by omega
 by_cases a7:c.length+1<=o
 ·
  have e5:a.shape? b=C (3,o):=by simp[K.shape?,s,S]
  have e4:a.shape? r=C (b1,1):=by simp[K.shape?,Y]
  have z:=Any2.slices_Insert_int_shift Tryz.tV b 0 c.length o g r 0 1 1 (c.map i64) [i64 h] a c8 (by decide) a7 (by unfold maxLen at R;omega) (λp=>d9 p.symm) (by simp) A a4 (λj O=>by rw[Xr];exact d0 _ (by omega)) (λj O=>c0 _) Z ve Q b1 3 1 o e4 e5 (by omega) (by simp[K.frozen?,Y]) (by simp[K.frozen?,Y]);refine I_ z λp b2⟨D,k⟩=>⟨_,D,?_,?_,?_,λu q=>VA (by rw[iA y]at q⊢;exact q)⟩
  .have d8:a.drew.heap[b]?=C (VH v 3 (0,0)):=s;have a1:=fX ((c.map i64).drop g) (0+(g+1)) d8;have a2:=fX [i64 h] (0+g) a1;rw[k];refine ua a2 (h:=dI h c) (l:=v.toList.drop (c.length+1)) ?_ (by rw[fZ,fZ];exact S) y R (λt n=>b6 t (Yi n)) W.symm;have N:((c.map i64).drop g).length=c.length-g:=by simp
   rw[jh _ _ _ (by rw[fZ];simp;omega),jh _ _ _ (by rw[N];omega),X,N,Xr,Xr];have a0:g+1+(c.length-g)=c.length+1:=by omega
   rw[a0]
   have L:(v.toList.take (g+1)++(c.map i64).drop g++v.toList.drop (c.length+1)).take g=(c.map i64).take g:=by rw[XQ,ZO (by simp;omega),YZ,Zk (by omega),d1 g (by omega)]
   have x:(v.toList.take (g+1)++(c.map i64).drop g++v.toList.drop (c.length+1)).drop (g+[i64 h].length)=(c.map i64).drop g++v.toList.drop (c.length+1):=by rw[XQ];exact VD.drop_left' (by simp;omega)
   rw[L,x];simp
  .rw[k,fY,fY];exact Wl _
  intro u q T;have b7:u≠b:=λp=>T (by rw[iA y,p]);rw[k,dR b7,dR b7];rfl
 ·
  have z:=Any2.slices_Insert_int_grow Tryz.tV b 0 c.length o g r 0 1 1 (c.map i64) [i64 h] a c8 (by decide) b4 (by omega) (by omega) (by simp) A a4 Z ve Q;have c6:=j_ a (c.length+1) o 3;have a3:=Zl a (c.length+1) o 3 (by unfold maxLen;omega);refine I_ z λp b2⟨D,k⟩=>⟨_,D,?_,?_,?_,λu q=>VC ?_⟩
  .obtain⟨i,U⟩:∃i,i=((c.map i64).take g).toArray++Builtin.zeroCells (Vx.int M 0).cells (c.length+1-g)++Builtin.zeroCells (Vx.int M 0).cells (grownCap a (c.length+1) o 3-(c.length+1)):=⟨_,A⟩
   have a8:i.size=grownCap a (c.length+1) o 3:=by rw[U];simp only[YD,Xc,Ye,Ya,b9];omega
   have e6:i.toList.take g=(c.map i64).take g:=by rw[U];simp only[Xj,XQ];rw[ZO (by simp;omega),YZ,E.min_self]
   have e2:∀t∈i.toList,∃e,t=i64 e:=λt n=>by
    rw[U]at n;simp only[Xj,WL]at n;rcases n with(n|n)|n
    .obtain⟨e,_,rfl⟩:=WY.1 (Za n);exact⟨e,A⟩
    .exact ND _ t n
    exact ND _ t n
   rw[P,<-U]at k;rw[k,P];have d5:(a.alloc (.cells i 3)).drew.heap[a.heap.size]?=C (VH i 3 (0,0)):=WS a _;have a1:=fX [i64 h] g d5;have d6:(((a.alloc (.cells i 3)).drew.setCells a.heap.size g [i64 h]).drew).heap[a.heap.size]?=C (VH (Cf i g [i64 h]) 3 (0,0)):=a1;have a2:=fX ((c.map i64).drop g) (g+1) d6;have N:((c.map i64).drop g).length=c.length-g:=by simp
   refine ua a2 (h:=dI h c) (l:=i.toList.drop (c.length+1)) ?_ (by rw[fZ,fZ];exact a8) (by omega) a3 (λt n=>e2 t (Yi n)) W.symm;rw[jh _ _ _ (by rw[fZ,N,a8];omega),jh _ _ _ (by simp;omega),X,N];have a0:g+1+(c.length-g)=c.length+1:=by omega
   rw[a0];have e0:g+[i64 h].length=g+1:=A;rw[e0];have f1:i.toList.length=grownCap a (c.length+1) o 3:=by rw[Yq];exact a8
   have L:(i.toList.take g++[i64 h]++i.toList.drop (g+1)).take (g+1)=(c.map i64).take g++[i64 h]:=by rw[e6];exact Yz (by simp;omega)
   have x:(i.toList.take g++[i64 h]++i.toList.drop (g+1)).drop (c.length+1)=i.toList.drop (c.length+1):=by
    rw[VD.drop_append,Zv (by simp;omega),XN,VD.drop_drop]
    congr 1
    simp;omega
   rw[L,x];simp
  .rw[k];show _<=((((a.alloc _).drew.setCells _ _ _).drew).setCells _ _ _).heap.size;rw[fY];show _<=(((a.alloc _).drew.setCells _ _ _)).heap.size;rw[fY];simp
  .intro u d7 T;rw[k];have b8:u≠a.heap.size:=by omega
   rw[dR b8];show((a.alloc _).drew.setCells a.heap.size g [i64 h]).heap[u]?=_;rw[dR b8];exact a_ a _ d7
  rw[P,iA (by omega)]at q;cases q;exact Wl _
variable{w:K}{g:VE Vx}{h:Vx}{f:E}{N:E}{d:E}
def NB(b:Vx):Prop:=∀a,b≠.int .u8 a
theorem Uo:∃a b,TP.underlying 193=C (.slice 1)/\(TP.info? 1=C a/\a.zero=C b/\a.size=1/\a.bytes<=1000/\b.cells.size=1/\0<1)/\∀c∈b.cells.toList,NB c:=by refine⟨_,_,A,⟨A,A,A,by decide,A,by decide⟩,?_⟩;intro c e f d;subst d;have:Vx.int .u8 f∈[Vx.nilFunc]:=e;simp at this
theorem frozenAt{b:VJ}(a:w.heap[e]?=C (VH g b (0,0)))(j:E):w.frozen? ⟨e,j,I⟩=Vz:=by simp[K.frozen?,a]
theorem Io{i:K}{o a:Obj}{c:Vx}(l:(w.alloc o).grownBy i c.ownBlock)(b:w.heap[e]?=C a)(n:c.ownBlock≠C e):i.heap[e]?=C a:=by have m:e<w.heap.size:=(Wh.1 b).1;rw[l.block e (by show _<(w.heap.push _).size;simp;omega) (λk=>n k.symm),Wk _ _ _ m,b]
theorem bV.alloc{a:Vx->Prop}{b:VJ}{size:E}{i:VD Vx}(c:bV a w b size h f i)(m:Obj):bV a (w.alloc m) b size h f i:=c.stay λl k=>Wk _ _ _ (c.lt l k)
def Kw(N:E)(h i e:Vx)(c:VD Vx)(g:Vx)(w:K)(f:Ending)(a:K):Prop:=f=VN (.tuple #[])/\w.heap.size<=a.heap.size/\(∀d,d<w.heap.size->d≠N->e.ownBlock≠C d->a.heap[d]?=w.heap[d]?)/\
 ∃b,a.heap[N]?=C (VH #[h,i,b] 195 (0,0))/\bV NB a 1 1 b (c.length+1) (c++[g])/\kL w e b
theorem Fx{z D c:Vx}{n:VD Vx}(fn:Fn)(o p:VE Vx)(i:w.heap[N]?=C (VH #[z,D,c] 195 (0,0)))(k:bV NB w 1 1 c n.length n)(a6:n.length<2^20):Calls TP 183 #[pt N 0,.func fn o p] w (Kw N z D c n (.func fn o p) w):=by
 obtain⟨a7,b3,m,T,X⟩:=Uo
 have x:c.ownBlock≠C N:=λa=>by obtain⟨g,b,_⟩:=k.blk N a;rw[i]at b;cases b
 have a4:N<w.heap.size:=(Wh.1 i).1;have c2:w.cell? ⟨N,2,I⟩=C c:=aa i 2 A;have O:=VF i;have W:=λZ=>k.alloc (w:=w) Z;have a5:=VF k.lt;have H:=VF x;clear i k x;go_enter Tryz.func183,Tryz.ntmps183
 go_wp2_with (at_builtin;refine lY A _ _ 193 A rfl (W _) m T X A [.func fn o p] A (cell_one_new _ _ _) (by intro b0 m;simp at m;subst m;exact⟨A,by intro a8 a;cases a⟩) (by omega) ?_;intro b1 b2 s r y;obtain⟨a0,a9,a2,rfl⟩:=s.slice;have l:=Io (c:=c) r O.out H.out;have a1:=aa l 2 A;have a3:=frozenAt l 2;have t:=VF l;have u:=VF r;have L:=VF y;clear l y;have v:=VF s;clear s r)
 go_end0
 refine⟨A,?_,λd R b Q=>?_,_,aB t.out,?_,λP S=>?_⟩
 .rw[aI];exact Wu (by simp) u.out.size
 .rw[ah b,u.out.block d (by simp;omega) (λa=>Q a.symm)];exact Wk _ _ _ R
 .refine v.out.stay λY U=>ah λa=>?_;obtain⟨g,b,_⟩:=v.out.blk Y U;rw[a,t.out]at b;cases b
 rcases L.out P S with q|q
 .exact VA q
 exact VC (Wu (by simp) q)
theorem Ek(w:K)(b c:Obj)(a:d<w.heap.size):((w.alloc b).alloc c).heap[d]?=w.heap[d]?:=by rw[Wk _ _ _ (by simp;omega),Wk _ _ _ a]
theorem Mo(w:K)(a b:Obj):((w.alloc a).alloc b).heap[w.heap.size]?=C a:=by rw[Wk _ _ _ (by simp),Xz]
theorem vq(w:K)(b a:Obj):((w.alloc b).alloc a).heap[w.heap.size+1]?=C a:=by have:=Xz (w.alloc b) a;simpa using this
inductive Un where
 |head (f:E) (g:VE Vx)
 |add (a f:E)
 |drop (a f:E)
def uo(N:E)(w:K)(a:Vx):Un->Prop
 |.head f g=>∃d e,a=.func (.func 190) #[] #[pt d 0,pt e 0]/\w.heap[d]?=C (VH g 190 (0,0))/\w.heap[e]?=C (VH #[pt f 0] 187 (0,0))
 |.add b f=>∃d e g,a=.func (.func 217) #[] #[pt d 0,pt e 0,pt g 0]/\w.heap[d]?=C (VH #[pt b 0] 187 (0,0))/\w.heap[e]?=C (VH #[pt f 0] 187 (0,0))/\w.heap[g]?=C (VH #[pt N 0] 94 (0,0))
 |.drop b f=>∃d e g,a=.func (.func 184) #[] #[pt d 0,pt e 0,pt g 0]/\w.heap[d]?=C (VH #[pt f 0] 187 (0,0))/\w.heap[e]?=C (VH #[pt b 0] 187 (0,0))/\w.heap[g]?=C (VH #[pt N 0] 94 (0,0))
def Hi(N:E)(h i f:Vx)(e:VD Vx)(k:Un)(w:K)(g:Ending)(a:K):Prop:=g=VN (.tuple #[])/\w.heap.size<=a.heap.size/\(∀d,d<w.heap.size->d≠N->f.ownBlock≠C d->a.heap[d]?=w.heap[d]?)/\
 ∃b c,a.heap[N]?=C (VH #[h,i,b] 195 (0,0))/\bV NB a 1 1 b (e.length+1) (e++[c])/\kL w f b/\uo N a c k
theorem Ad{O P o:Vx}{i:VD Vx}(n:w.heap[N]?=C (VH #[O,P,o] 195 (0,0)))(L:bV NB w 1 1 o i.length i)(a2:i.length<2^20)
 {p q:VX}{r s t u v x y z:VB}{a7 a8:Vx}(a:w.heap[f]?=C (VH #[.string p,.string q,Vy M r,Vy M s,Vy M t,Vy M u,Vy M v,Vy M x,Vy M y,Vy M z,a7,a8] 192 (0,0))):
 Calls TP 157 #[pt N 0,pt f 0] w (Hi N O P o i (.head f #[.string p,.string q,Vy M r,Vy M s,Vy M t,Vy M u,Vy M v,Vy M x,Vy M y,Vy M z]) w):=by
 have a1:N<w.heap.size:=(Wh.1 n).1;have b4:f<w.heap.size:=(Wh.1 a).1;have a9:=aa a 0 A;have c1:=aa a 1 A;have c2:=aa a 2 A;have c3:=aa a 3 A;have c4:=aa a 4 A;have c5:=aa a 5 A;have b0:=aa a 6 A;have b1:=aa a 7 A;have b2:=aa a 8 A;have b3:=aa a 9 A;have Q:=VF n;have k:=VF L;clear n L a;go_enter Tryz.func157,Tryz.ntmps157;have D:=Q.out;have H:=(k.out.alloc (.cells #[pt f 0] 187)).alloc (.cells #[.string p,.string q,Vy M r,Vy M s,Vy M t,Vy M u,Vy M v,Vy M x,Vy M y,Vy M z] 190);have R:=VF (Fx (.func 190) #[] #[pt (w.heap.size+1) 0,pt w.heap.size 0] (by rw[Ek _ _ _ a1];exact D) H a2);clear D H
 go_wp2_with (go_at_call 183;refine R.out.mono ?_;rintro c b5⟨rfl,a3,m,a6,T,U,W⟩)
 go_end0
 have b:∀a4 a5,((w.alloc a4).alloc a5).heap.size=w.heap.size+2:=λ_ _=>by simp
 rw[b]at a3;refine⟨A,by omega,λd Z X Y=>?_,a6,_,T,U,λS a0=>?_,_,_,A,?_,?_⟩
 .rw[m d (by rw[b];omega) X Y,Ek _ _ _ Z]
 .rcases W S a0 with l|l
  .exact VA l
  rw[b]at l;exact VC (by omega)
 .rw[m _ (by rw[b];omega) (by omega) (λc=>by have:=k.out.lt _ c;omega)];exact vq _ _ _
 rw[m _ (by rw[b];omega) (by omega) (λc=>by have:=k.out.lt _ c;omega)];exact Mo _ _ _
variable{c:E}{d:K}{u:E}{O:VE Wb}
abbrev NH(c d:VX)(e f g h i k l m:VB)(a b:Vx):VE Vx:=#[.string c,.string d,Vy M e,Vy M f,Vy M g,Vy M h,Vy M i,Vy M k,Vy M l,Vy M m,a,b]
abbrev OF(a b:VX)(c d e f g h i k:VB):VE Vx:=#[.string a,.string b,Vy M c,Vy M d,Vy M e,Vy M f,Vy M g,Vy M h,Vy M i,Vy M k]
theorem qx(d:K)(b e f:Obj)(a:c<d.heap.size):(((d.alloc b).alloc e).alloc f).heap[c]?=d.heap[c]?:=by rw[Wk _ _ _ (by simp;omega),Ek _ _ _ a]
theorem vN{b:Obj}(a:c≠f):(tH d f b).heap[c]?=d.heap[c]?:=by simp[tH,WK,Xu a]
theorem GH{a:Obj}(b:f<d.heap.size):(tH d f a).heap[f]?=C a:=by simp[tH,WK,b]
theorem uo.stay{n:Vx}{m:Un}(l:uo N d n m)(h:∀(c:E)(a:VE Vx)(k:VJ),d.heap[c]?=C (Obj.cells a k (0,0))->k=190\/k=187\/k=94->w'.heap[c]?=d.heap[c]?):uo N w' n m:=by
 cases m with
 |head e a=>obtain⟨c,f,rfl,b,g⟩:=l;exact⟨c,f,A,by rw[h c _ _ b (by decide)];exact b,by rw[h f _ _ g (by decide)];exact g⟩
 |add o e=>obtain⟨c,f,a,rfl,b,g,i⟩:=l;exact⟨c,f,a,A,by rw[h c _ _ b (by decide)];exact b,by rw[h f _ _ g (by decide)];exact g,by rw[h a _ _ i (by decide)];exact i⟩
 |drop o e=>obtain⟨c,f,a,rfl,b,g,i⟩:=l;exact⟨c,f,a,A,by rw[h c _ _ b (by decide)];exact b,by rw[h f _ _ g (by decide)];exact g,by rw[h a _ _ i (by decide)];exact i⟩
structure NK(N a e u:E)(H m Q:Vx)(P:VB)(k:VD Vx)(o p:VX)(q r s t v w x y:VB)(D:B->VL E)(L:B)(d:K)(z:Ending)(w':K):Prop where
 end_:z=VN (.tuple #[])
 size:d.heap.size<=w'.heap.size
 kept:∀c,c<d.heap.size->c≠N->c≠a->c≠u->m.ownBlock≠C c->w'.heap[c]?=d.heap[c]?
 tree:∃b h i,w'.heap[N]?=C (VH #[H,Vy M (P+1),b] 195 (0,0))/\bV NB w' 1 1 b (k.length+2) (k++[h,i])/\kL d m b/\uo N w' h (.head a (OF o p q r s t v w x y))/\uo N w' i (.add a e)
 nd:w'.heap[a]?=C (VH (NH o p q r s (t+1) v w (x+1) y Q (.map (C u))) 192 (0,0))
 kd:∃O g,w'.heap[u]?=C (.map O g)/\Kids O g λn=>if n=L then C e else D n
theorem SC{g:E}{e7 Z:Vx}{s:VB}{w:VD Vx}(b1:d.heap[N]?=C (VH #[e7,Vy M s,Z] 195 (0,0)))(e5:bV NB d 1 1 Z w.length w)(l0:w.length<2^19)
 {b5 b6:VX}{b7 b8 b9 p c0 c6 q c7:VB}{b4:Vx}(a8:d.heap[g]?=C (VH (NH b5 b6 b7 b8 b9 p c0 c6 q c7 b4 (.map (C u))) 192 (0,0)))
 {x:E}{d3:B->VL E}{P:B}(e2:d.heap[u]?=C (.map O x))(f6:Kids O x d3)(g6:d3 P=I){c8:VE Vx}(e3:d.heap[e]?=C (VH c8 192 (0,0)))(g0:c8[0]?=C (.string (bs P)))
 (k8:0<=p/\p<2^62)(k9:0<=q/\q<2^62)(l1:0<=s/\s<2^62):
 Calls TP 187 #[pt N 0,pt g 0,pt e 0] d (NK N g e u e7 Z b4 s w b5 b6 b7 b8 b9 p c0 c6 q c7 d3 P d):=by
 have i9:N<d.heap.size:=(Wh.1 b1).1;have g1:g<d.heap.size:=(Wh.1 a8).1;have j1:e<d.heap.size:=(Wh.1 e3).1;have j0:u<d.heap.size:=(Wh.1 e2).1;have f5:=VF (Ad (w:=((d.alloc (.cells #[pt N 0] 94)).alloc (.cells #[pt g 0] 187)).alloc (.cells #[pt e 0] 187)) (N:=N) (f:=g) (i:=w) (by rw[qx _ _ _ _ i9];exact b1) (((e5.alloc _).alloc _).alloc _) (by omega) (by rw[qx _ _ _ _ g1];exact a8));have S:=VF b1;have a2:=VF e5;have R:=VF a8;have c9:=VF e3;have Q:=VF e2;have h4:=VF f6;have i0:=VF g6;have HC:=VF g0;clear b1 e5 a8 e3 e2 f6 g6 g0;go_enter Tryz.func187,Tryz.ntmps187
 go_wp2_with (go_at_call 157;refine f5.out.mono ?_;rintro a k⟨rfl,j4,e1,a0,f8,g9,g5,g3,t⟩)
 have D:∀b3 j5 j6,(((d.alloc b3).alloc j5).alloc j6).heap.size=d.heap.size+3:=λ_ _ _=>by simp
 rw[D]at j4;have a9:∀b,Z.ownBlock=C b->b<d.heap.size:=a2.out.lt
 have z:∀c d2,c≠N->Z.ownBlock≠C c->(((d.alloc (.cells #[pt N 0] 94)).alloc (.cells #[pt g 0] 187)).alloc (.cells #[pt e 0] 187)).heap[c]?=C d2->k.heap[c]?=C d2:=λc d2 h n H=>by rw[e1 c (Wh.1 H).1 h n,H]
 have d5:k.heap[d.heap.size]?=C (VH #[pt N 0] 94 (0,0)):=z _ _ (by omega) (λa=>by have:=a9 _ a;omega) (by rw[Wk _ _ _ (by simp;omega)];exact Mo _ _ _);have d7:k.heap[d.heap.size+1]?=C (VH #[pt g 0] 187 (0,0)):=z _ _ (by omega) (λa=>by have:=a9 _ a;omega) (by rw[Wk _ _ _ (by simp)];exact vq _ _ _)
 have d9:k.heap[d.heap.size+1+1]?=C (VH #[pt e 0] 187 (0,0)):=z _ _ (by omega) (λa=>by have:=a9 _ a;omega) (by
  have:=vq (d.alloc (.cells #[pt N 0] 94)) (.cells #[pt g 0] 187) (.cells #[pt e 0] 187)
  simpa using this)
 have e4:k.heap[g]?=C (VH (NH b5 b6 b7 b8 b9 p c0 c6 q c7 b4 (.map (C u))) 192 (0,0)):=z _ _ (λa=>by have:=R.out;rw[a,S.out]at this;cases this) (λa=>by
  obtain⟨a3,v,_⟩:=a2.out.blk _ a
  rw[R.out]at v;cases v) (by rw[qx _ _ _ _ g1];exact R.out)
 have g4:k.heap[e]?=C (VH c8 192 (0,0)):=z _ _ (λa=>by have:=c9.out;rw[a,S.out]at this;cases this) (λa=>by
  obtain⟨a3,v,_⟩:=a2.out.blk _ a
  rw[c9.out]at v;cases v) (by rw[qx _ _ _ _ j1];exact c9.out)
 have a6:k.heap[u]?=C (.map O x):=z _ _ (λa=>by have:=Q.out;rw[a,S.out]at this;cases this) (λa=>by
  obtain⟨a3,v,_⟩:=a2.out.blk _ a
  rw[Q.out]at v;cases v) (by rw[qx _ _ _ _ j0];exact Q.out)
 have k3:=aa d5 0 A;have k4:=aa d7 0 A;have k5:=aa d9 0 A;have k6:=aa e4 11 A;have k7:=aa g4 0 HC.out;obtain⟨j2,f7⟩:=Pm (c:=k.drew) a6 h4.out i0.out e;obtain⟨r,W⟩:∃r,tH k.drew u (.map (O.push ⟨.string (bs P),pt e 0,x⟩) (x+1))=r:=⟨_,A⟩;rw[W]at j2;have U:u≠N:=λa=>by have:=Q.out;rw[a,S.out]at this;cases this
 have a7:u≠g:=λa=>by have:=Q.out;rw[a,R.out]at this;cases this
 have b2:N≠g:=λa=>by have:=S.out;rw[a,R.out]at this;cases this
 have y:∀c,c≠u->r.heap[c]?=k.heap[c]?:=λc d4=>by rw[<-W];exact vN d4
 have g2:r.heap[u]?=C (.map (O.push ⟨.string (bs P),pt e 0,x⟩) (x+1)):=by rw[<-W];exact GH (Wh.1 a6).1
 have g7:r.heap.size=k.heap.size:=by rw[<-W];simp[tH]
 have L:=(y g (Xu a7)).trans e4;have b0:=(y N (Xu U)).trans g9;have d6:=(y d.heap.size (by omega)).trans d5;have d8:=(y (d.heap.size+1) (by omega)).trans d7;have e0:=(y (d.heap.size+1+1) (by omega)).trans d9;have l4:=aa d6 0 A;have l5:=aa d8 0 A;have l6:=aa e0 0 A;have l7:=aa L 5 A;have l8:=aa L 8 A;have l9:=aa b0 1 A;have m0:=frozenAt L 5;have m1:=frozenAt L 8;have m2:=frozenAt b0 1;have e8:=VF d6;have e9:=VF d8;have f0:=VF e0;have d0:=VF L;have d1:=VF b0;have h8:=VF g2;have f1:=VF a6;have h6:=VF f7;have h5:=VF e1;have m:=VF y;have a1:=VF g5;have i3:=VF t;have f2:=VF g3;have i1:=VF g7;clear d5 d7 d9 e4 g4 a6 f7 e1 g5 g9 t g3 z a9 D f5 d6 d8 e0 L b0 g2 y W g7
 have q1:(((r.setCell ⟨g,5,I⟩ (Vy M (p+1))).setCell ⟨g,8,I⟩ (Vy M (q+1))).setCell ⟨N,1,I⟩ (Vy M (s+1))).heap[N]?=C (VH #[e7,Vy M (s+1),a0] 195 (0,0)):=by have:=aB (l:=1) (g:=Vy M (s+1)) (a:=(r.setCell ⟨g,5,I⟩ (Vy M (p+1))).setCell ⟨g,8,I⟩ (Vy M (q+1))) (i:=N) (by rw[ah b2,ah b2];exact d1.out);simpa using this
 have h0:(((r.setCell ⟨g,5,I⟩ (Vy M (p+1))).setCell ⟨g,8,I⟩ (Vy M (q+1))).setCell ⟨N,1,I⟩ (Vy M (s+1))).heap[g]?=C (VH (NH b5 b6 b7 b8 b9 (p+1) c0 c6 (q+1) c7 b4 (.map (C u))) 192 (0,0)):=by rw[ah (Xu b2)];have:=aB (l:=8) (g:=Vy M (q+1)) (aB (l:=5) (g:=Vy M (p+1)) d0.out);simpa using this
 have e6:∀c,c≠N->c≠g->(((r.setCell ⟨g,5,I⟩ (Vy M (p+1))).setCell ⟨g,8,I⟩ (Vy M (q+1))).setCell ⟨N,1,I⟩ (Vy M (s+1))).heap[c]?=r.heap[c]?:=λc h n=>by rw[ah h,ah n,ah n]
 have h1:(((r.setCell ⟨g,5,I⟩ (Vy M (p+1))).setCell ⟨g,8,I⟩ (Vy M (q+1))).setCell ⟨N,1,I⟩ (Vy M (s+1))).heap.size=k.heap.size:=by rw[aI,aI,aI,i1.out]
 have i8:=a1.out.lt
 have t:∀b,a0.ownBlock=C b->b≠N/\b≠g/\b≠u/\b≠d.heap.size/\b≠d.heap.size+1/\b≠d.heap.size+1+1:=λb i=>by
  obtain⟨a3,o,_⟩:=a1.out.blk b i;refine⟨?_,?_,?_,?_,?_,?_⟩<;>rintro rfl
  .rw[<-m.out _ (Xu U),d1.out]at o;cases o
  .rw[<-m.out _ (Xu a7),d0.out]at o;cases o
  .rw[f1.out]at o;cases o
  .rw[<-m.out _ (by omega),e8.out]at o;cases o
  .rw[<-m.out _ (by omega),e9.out]at o;cases o
  rw[<-m.out _ (by omega),f0.out]at o;cases o
 have i2:=VF (Fx (n:=w++[f8]) (.func 217) #[] #[pt (d.heap.size+1) 0,pt (d.heap.size+1+1) 0,pt d.heap.size 0] q1 (by
  rw[WI]
  exact a1.out.stay λb i=>by rw[e6 _ (t b i).1 (t b i).2.1,m.out _ (t b i).2.2.1]) (by simp;omega))
 have h9:=VF h0;have f3:=VF e6;have f4:=VF h1;have h7:=VF t;clear q1 h0 e6 h1 i8 t;generalize g8:bs P=l2 at*
 have k1:=VF g8;clear g8
 go_still_tail 10,(by kernel_rfl)
 change wpList _ _ _ _ _ k.drew
 go_wp2_with (go_at_call 183;refine i2.out.mono ?_;rintro a k0⟨rfl,j3,a5,j9,j7,h2,j8⟩)
 go_end0
 rw[f4.out]at j3 a5;have T:=h7.out
 have X:∀c,c≠N->c≠g->c≠u->a0.ownBlock≠C c->c<k.heap.size->k0.heap[c]?=k.heap[c]?:=λc h n H a4 i4=>by rw[a5 c i4 h a4,f3.out c h n,m.out c H]
 have Y:∀c,(∀b,a0.ownBlock=C b->b≠c)->a0.ownBlock≠C c:=λc l a=>l c a A;have D:(((d.alloc (.cells #[pt N 0] 94)).alloc (.cells #[pt g 0] 187)).alloc (.cells #[pt e 0] 187)).heap.size=d.heap.size+3:=by simp
 refine⟨A,by omega,λc d4 h n H a4=>?_,⟨j9,f8,.func (.func 217) #[] #[pt (d.heap.size+1) 0,pt (d.heap.size+1+1) 0,pt d.heap.size 0],j7,?_,λf9 i6=>?_,?_,?_⟩,?_,?_⟩
 .rw[X c h n H (λa=>?_) (by omega),h5.out c (by rw[D];omega) h a4,qx _ _ _ _ d4];rcases f2.out c a with l|l
  .exact a4 l
  rw[D]at l;omega
 .rw[WI,XQ]at h2;exact h2
 .rcases j8 f9 i6 with l|l
  .rcases f2.out f9 l with l|l
   .exact VA l
   rw[D]at l;exact VC (by omega)
  rw[f4.out]at l;exact VC (by omega)
 .refine i3.out.stay λc a3 l3 h n=>?_;have i7:=(Wh.1 h).1;refine X c ?_ ?_ ?_ (λa=>?_) i7
  .rintro rfl;rw[<-m.out _ (Xu U),d1.out]at h;cases h;revert n;decide
  .rintro rfl;rw[<-m.out _ (Xu a7),d0.out]at h;cases h;revert n;decide
  .rintro rfl;rw[f1.out]at h;cases h
  obtain⟨k2,i5,_⟩:=a1.out.blk c a;rw[i5]at h;cases h;revert n;decide
 .exact⟨_,_,_,A,by
   rw[X _ (by omega) (by omega) (by omega) (Y _ λb i=>(T b i).2.2.2.2.1) (by omega),<-m.out _ (by omega)];exact e9.out,by
   rw[X _ (by omega) (by omega) (by omega) (Y _ λb i=>(T b i).2.2.2.2.2) (by omega),<-m.out _ (by omega)];exact f0.out,by
   rw[X _ (by omega) (by omega) (by omega) (Y _ λb i=>(T b i).2.2.2.1) (by omega),<-m.out _ (by omega)];exact e8.out⟩
 .rw[a5 g (by omega) (Xu b2) (Y _ λb i=>(T b i).2.1)];exact h9.out
 refine⟨_,_,?_,h6.out⟩;rw[a5 u (by omega) U (Y _ λb i=>(T b i).2.2.1),f3.out u U a7];exact h8.out
theorem Hr(a:K)(c:Obj):Below a.heap.size a (a.alloc c):=⟨A,A,A,by simp,λd b=>Wk _ _ _ b⟩
noncomputable abbrev KP:VS:=Go.Proofs.Tryz.prog
theorem lI{a b:VB}(m:-2^63<=a/\a<2^63)(d:0<b/\b<2^31)(f:K):Calls KP 21 #[Vy M a,Vy M b] f λg i=>∃e:E,(e:VB)<b/\g=VN (Vy M e)/\i=f:=by
 go_enter Tryz.func21,Tryz.ntmps21
 go_wp2
 all_goals go_ret
 .have c:=VB.lt_tmod_of_pos (a+1) d.1
  have h:(a+1).tmod b<=0:=by
   have:(a+1).tmod b=-((-(a+1)).tmod b):=by simp
   have l:=VB.tmod_nonneg b (a:=-(a+1)) (by omega);omega
  exact⟨(-((a+1).tmod b)).toNat,by omega,by rw[VB.toNat_of_nonneg (by omega)];rfl,A⟩
 have c:=VB.emod_nonneg a (by omega:b≠0);have h:=VB.emod_lt_of_pos a d.1;exact⟨(a%b).toNat,by omega,by rw[VB.toNat_of_nonneg c];rfl,A⟩
def zK:VD (VD UInt8):=[[47,97],[47,98],[47,97,47,120],[47,97,47,121],[47,98,47,120],[47,97,47,120,47,122],[47,99]]
theorem OX{c:VB}(e:-2^63<=c/\c<2^63)(b:K):Calls KP 35 #[Vy M c] b λd g=>(∃f∈zK,d=VN (.string ⟨f.toArray⟩))/\Below b.heap.size b g:=by
 go_enter Tryz.func35,Tryz.ntmps35
 go_wp2_with (go_at_call 21;refine(lI e (by decide) _).mono ?_;rintro _ _⟨a,h,rfl,rfl⟩;obtain rfl|rfl|rfl|rfl|rfl|rfl|rfl:a=0\/a=1\/a=2\/a=3\/a=4\/a=5\/a=6:=(by omega))
 all_goals go_ret
 all_goals refine⟨?_,Hr b _⟩
 .exact⟨[47,97],by decide,A⟩
 .exact⟨[47,98],by decide,A⟩
 .exact⟨[47,97,47,120],by decide,A⟩
 .exact⟨[47,97,47,121],by decide,A⟩
 .exact⟨[47,98,47,120],by decide,A⟩
 .exact⟨[47,97,47,120,47,122],by decide,A⟩
 exact⟨[47,99],by decide,A⟩
end Go.Sv
