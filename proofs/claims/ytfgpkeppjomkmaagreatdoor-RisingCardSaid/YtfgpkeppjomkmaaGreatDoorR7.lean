/- Proved here: parts of the proof of the claimed theorem, no conditions; the last text states it -/
import Derived.Test.YtfgpkeppjomkmaaGreatDoorTie
import Derived.Test.YtfgpkeppjomkmaaGreatDoorCards
import Derived.Test.YtfgpkeppjomkmaaGreatDoorR6
set_option linter.all false
set_option maxRecDepth 100000
set_option maxHeartbeats 16000000
open _root_ renaming rfl->A,Nat->E,Int->VB,List->VD,Array->VE,Bool->VI,if_neg->VK,Option->VL,congrArg->VU,if_pos->VV,ByteArray->VX
open Option renaming some->C,none->I
open Go renaming undef->F,World->K,Value->Vx,TypeId->VJ,Frame->VM,Goroutine->VO,Act->VQ,Sem->VR,Program->VS,Addr->VT,Trace->VY,Event->Wa,MapEntry->Wb,FuncId->Wc,Operand->Wd
open Bool renaming true->J,false->Vz
open Go.Lib renaming hid->VF
open Go.MemOp renaming ofEvents->VZ
open Go.Op renaming operands->We
open Go.MemAct renaming ofEvent->Wf
open Go.IntKind renaming i64->M
open Go.Value renaming int->Vy,slice->VG,pointer->VW
open Or renaming inl->VA,inr->VC
open Go.Obj renaming cells->VH
open Go.Ending renaming returned->VN
open Go.Item renaming inRegion->VP
namespace Go.Sv
open Go.MapKept Go.Proofs Go.RowKit Go.Lib Go.WideShapes Go.Sort Go.Sim Wt
variable{c:K}{s:E}{al:VB}{q:VX}{T:E}{U:E}{W:E}
section
variable{v:E}{f p aF D Q:VB}{e z dd:VX}{x R O:VI}{N:VL VT}{L H:E}{g h i k l m o:VB}{r:VL VT}{u t:E}{y S:Vx}{KP P:K->Prop}
theorem pJ.Na{w n V d:VE Vx}{X:K}(Y:pJ T U W w n V X c)(a:E)(b:Vx)(Z:V.setIfInBounds a b=d):pJ T U W w n d X (c.setCell ⟨T+1+1+1,a,I⟩ b):=Z▸Y.set a b
theorem fS(e0:Calls TP 64 #[pt s 0,i64 al] (jz c (rV f al p e z aF D x (.slice N L H)) (gV q g h i k l m o (.slice r u t) y) al f) λw a=>w=VN (.bool J)/\pJ c.heap.size 107 158 (rV f al p e z aF D x (.slice N L H)) (gV q g h i k l m o (.slice r u t) y) (oS al f) a a/\KP a)(d9:∀c,Calls TP 104 #[y] c λg1 h6=>g1=VN (i64 Q)/\c=h6)(i4:(Q==7)=Vz)(i3:(Q !=0)=Vz)(f9:(p==8)=R)(f8:(p==10)=O)(e3:J=R/\q=dd\/Vz=R/\⟨#[]⟩=dd)(e4:J=O/\.slice r u t=S\/Vz=O/\VG I 0 0=S)
 (e1:x=Vz->∀a,KP a->P a)(d7:x=J->∀a,KP a->pJ c.heap.size 107 158 (rV f al p e z aF D x (.slice N L H)) (gV q g h i k l m o (.slice r u t) y) (oS al f) a a->a.cell? ⟨s,3,I⟩=C (pt v 0)/\∀g0,Calls TP 105 #[pt v 0,i64 al,.bool O,.string e] (a.drewN g0) λw Y=>w=VN (.tuple #[])/\Y.cell? ⟨s,3,I⟩=C (pt v 0)/\pJ c.heap.size 107 158 (rV f al p e z aF D x (.slice N L H)) (gV q g h i k l m o (.slice r u t) y) (oS al f) Y Y/\P Y):
 Calls TP 61 #[pt s 0,.agg (rV f al p e z aF D x (.slice N L H)),.agg (gV q g h i k l m o (.slice r u t) y)] c (lj c.heap.size (oV al 0 f 0 e dd J g h i k l m o S (VG I 0 0)) P):=by
 have d1:=VF e0;have c9:=VF d9;have f3:=VF e1;have e9:=VF d7;have f1:=VF (And.intro e3 e4);clear e0 d9 e1 d7 e3 e4;go_enter Tryz.func61,Tryz.ntmps61;cases x
 focus
  go_upto_region 12 with(first|(go_at_call 64;refine d1.out.mono ?_;rintro w a0⟨rfl,X,a4⟩;have d:=X.h0;have a6:=X.h1;have b1:=aa d 1 A;have b2:=aa d 2 A;have b3:=aa d 3 A;have c0:=aa d 7 A;have c6:=aa a6 9 A;have a2:=VF X;have c8:=VF (f3.out (by trivial) a0 a4);clear a4 X d a6)|(go_at_call 104;refine(c9.out _).mono ?_;rintro w a1⟨rfl,rfl⟩))
  clear b1 b2 b3 c0 c6
 rotate_left
 focus
  go_upto_region 11 with(first|(go_at_call 64;refine d1.out.mono ?_;rintro w a⟨rfl,X,a4⟩;have d:=X.h0;have a6:=X.h1;have b1:=aa d 1 A;have b2:=aa d 2 A;have b3:=aa d 3 A;have c0:=aa d 7 A;have c6:=aa a6 9 A;have f4:=VF X;have f2:=VF a4;clear a4 X d a6)|(go_at_call 104;refine(c9.out _).mono ?_;rintro w a1⟨rfl,rfl⟩))
  obtain⟨d5,d8⟩:=e9.out (by trivial) a f2.out f4.out;have c7:Calls TP 105 #[pt v 0,i64 al,.bool O,.string e] a.drew λw Y=>w=VN (.tuple #[])/\Y.cell? ⟨s,3,I⟩=C (pt v 0)/\pJ c.heap.size 107 158 (rV f al p e z aF D J (.slice N L H)) (gV q g h i k l m o (.slice r u t) y) (oS al f) Y Y/\P Y:=d8 1;have f0:=VF c7;clear c7 d8;have d2:a.drew.cell? ⟨s,3,I⟩=C (pt v 0)/\a.drew.cell? ⟨c.heap.size,1,I⟩=C (i64 al)/\a.drew.cell? ⟨c.heap.size,2,I⟩=C (i64 p)/\a.drew.cell? ⟨c.heap.size,3,I⟩=C (.string e):=⟨d5,b1,b2,b3⟩;clear d5 b1 b2 b3 c0 c6
  go_region_held3 (λa9=>a9.cell? ⟨s,3,I⟩=C (pt v 0)/\a9.cell? ⟨c.heap.size,1,I⟩=C (i64 al)/\a9.cell? ⟨c.heap.size,2,I⟩=C (i64 p)/\a9.cell? ⟨c.heap.size,3,I⟩=C (.string e))
   (first|with_reducible exact d2|with_reducible exact d3)
   (first|(go_at_call 105;refine f0.out.mono ?_;rintro w a0⟨rfl,d6,a5,e2⟩;have d3:a0.cell? ⟨s,3,I⟩=C (pt v 0)/\a0.cell? ⟨c.heap.size,1,I⟩=C (i64 al)/\a0.cell? ⟨c.heap.size,2,I⟩=C (i64 p)/\a0.cell? ⟨c.heap.size,3,I⟩=C (.string e):=⟨d6,aa a5.h0 1 A,aa a5.h0 2 A,aa a5.h0 3 A⟩;have a2:=VF a5;have c8:=VF e2;clear a5 e2 d6))
  clear d2 d3
  go_upto_region 12 with fail
 all_goals
  have f7:=aa a2.out.h0 3 A;have f5:=aa a2.out.h3 4 A;have h7:=frozenAt a2.out.h3 4;obtain⟨b8,e5⟩:∃b8,a0.setCell ⟨c.heap.size+1+1+1,4,I⟩ (.string e)=b8:=⟨_,A⟩;have b6:=a2.out.Na (d:=(oV al 0 f 0 e ⟨#[]⟩ Vz 0 0 0 0 0 0 0 (VG I 0 0) (VG I 0 0))) 4 _ A;rw[e5]at b6;have b4:=VF b6;clear b6
  go_upto_region 15 with fail
  clear f5 h7 e5;clear f7;have f6:=aa b4.out.h3 6 A;have h8:=frozenAt b4.out.h3 6;obtain⟨b9,e6⟩:∃b9,b8.setCell ⟨c.heap.size+1+1+1,6,I⟩ (.bool J)=b9:=⟨_,A⟩;have b7:=b4.out.Na (d:=(oV al 0 f 0 e ⟨#[]⟩ J 0 0 0 0 0 0 0 (VG I 0 0) (VG I 0 0))) 6 _ A;rw[e6]at b7;have b:=VF b7;clear b7
  go_upto_region 16 with fail
  clear f6 h8 e6;have g2:=aa b.out.h1 1 A;have g3:=aa b.out.h1 2 A;have g4:=aa b.out.h1 3 A;have g5:=aa b.out.h1 4 A;have g6:=aa b.out.h1 5 A;have g7:=aa b.out.h1 6 A;have g8:=aa b.out.h1 7 A;have g9:=aa b.out.h3 7 A;have h0:=aa b.out.h3 8 A;have h1:=aa b.out.h3 9 A;have h2:=aa b.out.h3 10 A;have h3:=aa b.out.h3 11 A;have h4:=aa b.out.h3 12 A;have h5:=aa b.out.h3 13 A;have h9:=frozenAt b.out.h3;obtain⟨a1,e7⟩:∃a1,(((((((b9.setCell ⟨c.heap.size+1+1+1,7,I⟩ (i64 g)).setCell ⟨c.heap.size+1+1+1,8,I⟩ (i64 h)).setCell ⟨c.heap.size+1+1+1,9,I⟩ (i64 i)).setCell ⟨c.heap.size+1+1+1,10,I⟩ (i64 k)).setCell ⟨c.heap.size+1+1+1,11,I⟩ (i64 l)).setCell ⟨c.heap.size+1+1+1,12,I⟩ (i64 m)).setCell ⟨c.heap.size+1+1+1,13,I⟩ (i64 o))=a1:=⟨_,A⟩;have b5:=((((((b.out.set 7 _).set 8 _).set 9 _).set 10 _).set 11 _).set 12 _).Na (d:=(oV al 0 f 0 e ⟨#[]⟩ J g h i k l m o (VG I 0 0) (VG I 0 0))) 13 _ A;rw[e7]at b5;have n:=VF b5;clear b5
  go_upto_region 17 with fail
  clear g2 g3 g4 g5 g6 g7 g8 g9 h0 h1 h2 h3 h4 h5 h9 e7;have i1:=aa n.out.h0 2 A;rcases f1.out with⟨⟨rfl,rfl⟩|⟨rfl,rfl⟩,⟨rfl,rfl⟩|⟨rfl,rfl⟩⟩
  .simp at f9 f8;omega
  focus
   go_upto_region 19 with fail
   have i0:=aa n.out.h1 0 A;have d4:=aa n.out.h3 5 A;have e8:=frozenAt n.out.h3 5;obtain⟨a7,b0⟩:∃a7,a1.setCell ⟨c.heap.size+1+1+1,5,I⟩ (.string q)=a7:=⟨_,A⟩;have Z:=n.out.Na (d:=(oV al 0 f 0 e q J g h i k l m o (VG I 0 0) (VG I 0 0))) 5 _ A;rw[b0]at Z;have a3:=VF Z;clear Z
  rotate_left
  focus
   go_upto_region 21 with fail
   have i2:=aa n.out.h1 8 A;have d4:=aa n.out.h3 14 A;have e8:=frozenAt n.out.h3 14;obtain⟨a7,b0⟩:∃a7,a1.setCell ⟨c.heap.size+1+1+1,14,I⟩ (.slice r u t)=a7:=⟨_,A⟩;have Z:=n.out.Na (d:=(oV al 0 f 0 e ⟨#[]⟩ J g h i k l m o (.slice r u t) (VG I 0 0))) 14 _ A;rw[b0]at Z;have a3:=VF Z;clear Z
  rotate_left
  have a3:=n
  rotate_left
  all_goals
   go_upto_region 22 with fail
   try clear d4 e8 b0
   refine Ym ?_;refine Yb A 38 _ A (c.heap.size+1+1+1) A 38 _ (0,0) _ a3.out.h3 A rfl rfl ?_;refine XD A 38 _ _ A (c.heap.size+1+1) _ A rfl 38 oZ a3.out.h2 A rfl mP ?_;have d0:=VF (qF A a3.out c8.out)
   go_wp2
   exact XP (gY A rfl (oQ d0.out.1 A)) A d0.out.2
end
variable{y:dH}{a:K}{i:K}{q:E}{u:E}{p:Tree}{m:Out}
section
variable[Inhabited aV]
theorem GB(a:K)(e f:VE Vx)(al b:VB):(jz a e f al b).heap.size=a.heap.size+4/\(∀c,c<a.heap.size->(jz a e f al b).heap[c]?=a.heap[c]?)/\pJ a.heap.size 107 158 e f (oS al b) (jz a e f al b) (jz a e f al b):=by
 have k:(a.alloc (.cells e 107)).heap.size=a.heap.size+1:=by simp
 have l:((a.alloc (.cells e 107)).alloc (.cells f 158)).heap.size=a.heap.size+2:=by simp
 have m:(((a.alloc (.cells e 107)).alloc (.cells f 158)).alloc (.cells oZ 38)).heap.size=a.heap.size+3:=by simp
 have i:=WS a (.cells e 107);have d:=WS (a.alloc (.cells e 107)) (.cells f 158);have g:=WS ((a.alloc (.cells e 107)).alloc (.cells f 158)) (.cells oZ 38);have h:=WS (((a.alloc (.cells e 107)).alloc (.cells f 158)).alloc (.cells oZ 38)) (.cells (oS al b) 38);rw[k]at d;rw[l]at g;rw[m]at h;refine⟨by simp,λc n=>?_,⟨?_,?_,?_,h,A,λ_ _=>rfl⟩⟩
 .rw[jz,Wk _ _ _ (by omega),Wk _ _ _ (by omega),Wk _ _ _ (by omega),Wk _ _ _ n]
 .rw[jz,Wk _ _ _ (by omega),Wk _ _ _ (by omega),Wk _ _ _ (by omega)];exact i
 .rw[jz,Wk _ _ _ (by omega),Wk _ _ _ (by omega)];exact d
 rw[jz,Wk _ _ _ (by omega)];exact g
section
variable{k:VB}{g:dH}{l:VD Out}{c h:kH}{d:K}{e f:VE Vx}{b:VB}
theorem pJ.qq{own n:E->Prop}{i k:E}{V:VE Vx}{g h:K}(a:pJ q i k e f V g g)(b:aJ own n g h)(d:∀c,q<=c->¬own c):pJ q i k e f V h h:=
 have lt:=λ(c:E)(m:Obj)(l:g.heap[c]?=C m)=>(Wh.1 l).1
 ⟨(b.keep _ (lt _ _ a.h0) (d _ (by omega))).trans a.h0,(b.keep _ (lt _ _ a.h1) (d _ (by omega))).trans a.h1,(b.keep _ (lt _ _ a.h2) (d _ (by omega))).trans a.h2,(b.keep _ (lt _ _ a.h3) (d _ (by omega))).trans a.h3,A,λ_ _=>rfl⟩
theorem Pg(t:aM s k y l c a)(v:aM s k g l h d)(D:g.tree=y.tree)(L:h.vs=c.vs)(o:aJ (aK s y.tree c) (aK s y.tree h) (jz a e f al b) d)(O:i.heap.size=d.heap.size)(r:∀m,m≠a.heap.size+1+1->m≠a.heap.size+1+1+1->i.heap[m]?=d.heap[m]?):
 aM s k g l h i/\aJ (aK s y.tree c) (aK s y.tree h) a i:=by
 obtain⟨N,w,_⟩:=GB a e f al b;have z:∀m,a.heap.size<=m->¬aK s y.tree c m:=λm n p=>by have:=t.bm p;omega
 have u:∀m,m=a.heap.size+1+1\/m=a.heap.size+1+1+1->¬aK s y.tree h m:=λm n=>(aJ.out o (a:=m) (by omega) (z m (by omega))).2.1;have H:∀m,dE h m->m<a.heap.size:=λm n=>t.kj (by unfold dE at n⊢;rw[L]at n;exact n);have P:=o.size;refine⟨v.same ⟨by omega,λm n=>?_,λm n=>?_⟩,⟨by omega,λm n x=>?_,λm n=>?_⟩⟩
 .rw[D]at n;exact r m (λq=>u m (VA q) n) (λq=>u m (VC q) n)
 .have:=H m n;rw[r m (by omega) (by omega)]
 .rw[r m (by omega) (by omega),o.keep m (by omega) x,w m n]
 rcases o.more m n with p|p
 .exact VA p
 exact VC (by omega)
def xf(s:E)(k:VB)(f:dH)(m:Out)(l:VD Out)(p:Tree)(c:kH)(h:E)(a:K)(g:Ending)(i:K):Prop:=∃e d,g=VN (.agg (iX m e))/\aM s k f l d i/\f.tree=p/\aJ (aK s p c) (aK s p d) a i/\d.vs=c.vs/\mg m e i/\∀b,e.1.ownBlock=C b\/e.2.ownBlock=C b->¬aK s p d b/\h<=b
theorem yF(y:dH)(id:VB)(b:VI)(c:B):dB y id b c={y with bR:=eT y.bR b c (dI id (y.bR b c))}:=by
 unfold dB eT
 congr 1
 funext d e
 by_cases a:d=b/\e=c
 .rw[VV a,VV a,a.1,a.2]
 rw[VK a,VK a]
theorem Mm{e:VD B}{f:Vx}(k:gf (e.map bs) u f a):lh e f a:=by
 rcases k with⟨b,c⟩|⟨q,h,g,r,i,b,c,l,s,d,m,n⟩
 .exact VA ⟨b,by simpa using c⟩
 rw[Ya]at b d;exact VC ⟨q,h,g,r,i,b,l,d,m,λp y o=>n p _ (by rw[XI,o];rfl)⟩
structure RQ(n:Sim.RV)(o:eK):Prop where
 al:n.al=o.al
 kind:n.kind=o.op.kind
 path:n.path=bs o.op.path
 data:n.data=bs o.op.data
 aF:n.aF=o.op.aF
 flags:n.flags=o.op.flags
 watch:n.watch=o.watch
theorem Me{c:B}{b:VB}(a:Wt.look p c=.no b):b=4\/b=7:=by
 unfold Wt.look at a;split at a
 .cases a;exact VA A
 split at a
 .cases a;exact VC A
 cases a
theorem pV(b:VB):∀a,Calls TP 104 #[.iface 32 (i64 b)] a λe i=>e=VN (i64 b)/\a=i:=λa=>(Dy a b).mono λ_ _⟨c,d⟩=>⟨c,d.symm⟩
theorem yX:∀a,Calls TP 104 #[.nilIface] a λd i=>d=VN (i64 0)/\a=i:=λa=>(Dw a).mono λ_ _⟨b,c⟩=>⟨b,c.symm⟩
theorem yg{g:CZ}{s:E}{i:VE Vx}(t:ck (nN g) s i a):∃c k l m n o p q d f e,i=#[.string c,i64 k,i64 l,i64 m,i64 n,i64 o,i64 p,i64 q,.slice d f e]/\gf (nN g).names s (.slice d f e) a/\
 match g with
 |.no _=>True
 |.yes b=>c=bs b.data/\k=b.stat.made/\l=b.stat.set/\m=b.stat.aF/\n=b.stat.fj/\o=b.stat.own/\p=b.stat.size/\q=b.stat.kids:=by
 obtain⟨_,u,r,h⟩:=t;obtain⟨d,f,e,rfl⟩:∃d f e,u=.slice d f e:=by rcases h with⟨rfl,_⟩|⟨_,_,_,_,_,rfl,_⟩<;>exact⟨_,_,_,A⟩
 obtain⟨w⟩:=i;cases g with
 |no v=>exact⟨_,_,_,_,_,_,_,_,d,f,e,VU VE.mk r,h,trivial⟩
 |yes b=>exact⟨_,_,_,_,_,_,_,_,d,f,e,VU VE.mk r,h,A,A,A,A,A,A,A,A⟩
theorem sZ(b:m.names=[])(c:m.results=[])(a:K):mg m kV a:=⟨VA ⟨A,b⟩,VA ⟨A,c⟩⟩
theorem Jg{b:VB}{a:eK}(d:Wt.known y a.al=J)(c:VB):Wt.eU y b a (.no c)=if c=7/\a.op.kind=9 then(if a.watch then dB (Wt.heard y a.al) a.al Vz a.op.path else Wt.heard y a.al,{al:=a.al,idx:=b,path:=a.op.path})else(Wt.heard y a.al,{al:=a.al,idx:=b,err:=c}):=by unfold Wt.eU;rw[VK (by rw[d];decide)]
theorem Et{b:VB}{a:eK}(d:Wt.known y a.al=J)(c:Wt.Seen):Wt.eU y b a (.yes c)=(if a.watch then dB (Wt.heard y a.al) a.al (decide (a.op.kind=10)) a.op.path else Wt.heard y a.al,{al:=a.al,idx:=b,path:=a.op.path,found:=J,stat:=c.stat,data:=if a.op.kind=8 then c.data else[],names:=if a.op.kind=10 then c.names else[]}):=by unfold Wt.eU;rw[VK (by rw[d];decide)]
theorem Pj(d0:aM s k y l c a){n:eK}{rq:Sim.RV}(h5:RQ rq n)(w:n.op.kind=8\/n.op.kind=9\/n.op.kind=10)(h8:Wt.known y n.al=J->0<n.al/\n.al<2^28)(b:VB){Q:CZ}(h1:Q=Wt.look y.tree n.op.path){d6:VE Vx}{b0:E}(i0:ck (nN Q) b0 d6 a)(h0:ni (aK s y.tree c) d6):
 Calls TP 61 #[pt s 0,.agg (aQ b rq),.agg (d6.push (nN Q).ev)] a (xf s k (Wt.eU y b n Q).1 (Wt.eU y b n Q).2 l y.tree c b0 a):=by
 obtain⟨al,j3,j5,j0,aF,j1,j7,i4,i3,i2⟩:=rq;obtain⟨D,z,e1,e2,e3,e4,a0⟩:=h5;simp only at D z e1 e2 e3 e4 a0;subst D z e1 e2 e3 e4 a0;obtain⟨dd,f8,f9,g0,g1,g2,g3,g4,S,U,T,rfl,e9,h9⟩:=yg i0;obtain⟨Z,d4⟩:∃Z,Z=(nN Q).ev:=⟨_,A⟩;rw[<-d4];obtain⟨e,u⟩:∃e,e=rV b n.al n.op.kind (bs n.op.path) (bs n.op.data) n.op.aF n.op.flags n.watch (.slice i4 i3 i2):=⟨_,A⟩;obtain⟨f,L⟩:∃f,f=gV dd f8 f9 g0 g1 g2 g3 g4 (.slice S U T) Z:=⟨_,A⟩;obtain⟨j8,i6,i7⟩:=GB a e f n.al b;have f6:=d0.old (by omega) i6;have f0:∀p,a.heap.size<=p->¬aK s y.tree c p:=λp o q=>by have:=d0.bm q;omega
 obtain⟨g,a4⟩:∃g,g=if Wt.known y n.al then Wt.heard y n.al else y:=⟨_,A⟩;have H:g.tree=y.tree:=by rw[a4];split<;>rfl
 have x:Calls TP 64 #[pt s 0,i64 n.al] (jz a e f n.al b) λr d=>r=VN (.bool (Wt.known y n.al))/\pJ a.heap.size 107 158 e f (oS n.al b) d d/\aM s k g l c d/\aJ (aK s y.tree c) (aK s y.tree c) (jz a e f n.al b) d:=
  (Gh f6 n.al).mono λr d⟨W,g9,e5⟩=>⟨W,i7.qq e5 f0,by rw[a4];exact g9,e5⟩
 have e8:∀p,(Value.slice S U T).ownBlock=C p->¬aK s y.tree c p:=λp o=>by
  cases S with
  |none=>cases o
  |some e0=>
   have:=h0 e0 U T A;have r:e0.block=p:=by simpa[Vx.ownBlock]using o
   rw[<-r];exact this
 have fin:∀(m:Out)(b5:Vx×Vx)(c8:dH)(KP:K->Prop),(∀d,KP d->∃h,aM s k c8 l h d/\h.vs=c.vs/\aJ (aK s y.tree c) (aK s y.tree h) (jz a e f n.al b) d)->c8.tree=y.tree->(b5=kV/\m.names=[]/\m.results=[]\/b5=(.slice S U T,VG I 0 0)/\m.results=[]/\gf (m.names.map bs) b0 (.slice S U T) a)->
  ∀r i,lj a.heap.size (iX m b5) KP r i->xf s k c8 m l y.tree c b0 a r i:=λm b5 c8 KP g7 f2 i1 r i⟨W,d,h2,h7,h3⟩=>by
  obtain⟨h,b7,f3,c9⟩:=g7 d h2;obtain⟨f5,a6⟩:=Pg d0 b7 f2 f3 c9 h7 h3;refine⟨b5,h,W,f5,f2,a6,f3,?_⟩;rcases i1 with⟨rfl,D,z⟩|⟨rfl,D,z⟩
  .exact⟨sZ D z i,λp o=>by rcases o with o|o<;>cases o⟩
  have h4:=Mm z
  have d3:∀p,(Value.slice S U T).ownBlock=C p->p<a.heap.size/\b0<=p:=λp o=>by
   rcases z with⟨d1,_⟩|⟨j4,i9,i8,j6,j2,d1,g5,g6,_⟩
   .rw[d1]at o;cases o
   rw[d1]at o;cases o;exact⟨(Wh.1 g6).1,g5⟩
  refine⟨⟨h4.stay λp o=>?_,VA ⟨A,D⟩⟩,λp o=>?_⟩
  .rw[a6.keep p (d3 p o).1 (e8 p o)]
  rcases o with o|o
  .exact⟨(aJ.out a6 (d3 p o).1 (e8 p o)).2.1,(d3 p o).2⟩
  cases o
 cases a3:Wt.known y n.al with
 |false=>
  rw[a3]at x a4
  have h6:Wt.eU y b n Q=(g,{al:=n.al,idx:=b,err:=3}):=by unfold Wt.eU;rw[VV a3,a4];rfl
  rw[h6];rw[u,L]at x;have:=wR x;refine this.mono (fin {al:=n.al,idx:=b,err:=3} kV g _ (λd⟨D,z⟩=>⟨c,D,A,by rw[u,L];exact z⟩) H (VA ⟨A,A,A⟩))
 |true=>
  rw[a3]at x a4;have f1:g=Wt.heard y n.al:=by rw[a4];rfl
  obtain⟨q1,i5⟩:=h8 a3
  have c0:∀t:VI,∀d,(aM s k g l c d/\aJ (aK s y.tree c) (aK s y.tree c) (jz a e f n.al b) d)->pJ a.heap.size 107 158 e f (oS n.al b) d d->d.cell? ⟨s,3,I⟩=C (pt c.tw 0)/\∀d5,Calls TP 105 #[pt c.tw 0,i64 n.al,.bool t,.string (bs n.op.path)] (d.drewN d5) λr Y=>r=VN (.tuple #[])/\Y.cell? ⟨s,3,I⟩=C (pt c.tw 0)/\pJ a.heap.size 107 158 e f (oS n.al b) Y Y/\
   ∃P,aM s k (dB g n.al t n.op.path) l {c with f:=P} Y/\aJ (aK s y.tree c) (aK s y.tree {c with f:=P}) (jz a e f n.al b) Y:=λt d⟨b7,c9⟩ g8=>by
   refine⟨aa b7.ch 3 A,λd5=>?_⟩;have d8:aM s k g l c (d.drewN d5):=b7.old (Wl _) (λ_ _=>rfl);refine(Qw d8.bR ⟨q1,i5⟩ t n.op.path).mono λr Y⟨W,P,f7,a6⟩=>?_;obtain⟨d9,b6⟩:=d8.watched f7 a6;rw[H]at b6;have d7:aJ (aK s y.tree c) (aK s y.tree {c with f:=P}) d Y:=⟨b6.size,b6.keep,b6.more⟩;refine⟨W,aa d9.ch 3 A,g8.qq d7 f0,P,?_,c9.trans d7⟩;rw[yF];exact d9
  have a5:∀d,(aM s k g l c d/\aJ (aK s y.tree c) (aK s y.tree c) (jz a e f n.al b) d)->∃h,aM s k g l h d/\h.vs=c.vs/\aJ (aK s y.tree c) (aK s y.tree h) (jz a e f n.al b) d:=λd⟨D,z⟩=>⟨c,D,A,z⟩;have b8:∀(t:VI) d,(∃P,aM s k (dB g n.al t n.op.path) l {c with f:=P} d/\aJ (aK s y.tree c) (aK s y.tree {c with f:=P}) (jz a e f n.al b) d)->∃h,aM s k (dB g n.al t n.op.path) l h d/\h.vs=c.vs/\aJ (aK s y.tree c) (aK s y.tree h) (jz a e f n.al b) d:=λt d⟨P,D,z⟩=>⟨_,D,A,z⟩;cases Q with
  |no r=>
   have W:=Me h1.symm;have a2:Z=.iface 32 (i64 r):=d4;have e6:(r !=0)=J:=by rcases W with rfl|rfl<;>rfl
   rw[Jg a3,<-f1];by_cases c6:r=7/\n.op.kind=9
   .rw[VV c6];obtain⟨rfl,e7⟩:=c6;have c7:(n.op.kind==9)=J:=by simp[e7]
    have t:(n.op.kind==10)=Vz:=by simp[e7]
    cases N:n.watch with
    |false=>rw[N]at u;subst u L;refine(BS x (by rw[a2];exact pV 7) A c7 t A).mono ?_;exact fin {al:=n.al,idx:=b,path:=n.op.path} kV g _ a5 H (VA ⟨A,A,A⟩)
    |true=>rw[N]at u;subst u L;refine(BT x (by rw[a2];exact pV 7) A c7 t A (c0 Vz)).mono ?_;exact fin {al:=n.al,idx:=b,path:=n.op.path} kV (dB g n.al Vz n.op.path) _ (b8 Vz) H (VA ⟨A,A,A⟩)
   rw[VK c6];subst u L;by_cases a0:r=7
   .have c7:(n.op.kind==9)=Vz:=by
     have:¬n.op.kind=9:=λq=>c6 ⟨a0,q⟩;simpa using this
    refine(yc x (by rw[a2];exact pV r) (VC ⟨by simp[a0],c7⟩) e6).mono ?_;exact fin {al:=n.al,idx:=b,err:=r} kV g _ a5 H (VA ⟨A,A,A⟩)
   refine(yc x (by rw[a2];exact pV r) (VA (by simp[a0])) e6).mono ?_;exact fin {al:=n.al,idx:=b,err:=r} kV g _ a5 H (VA ⟨A,A,A⟩)
  |yes v=>
   have a2:Z=.nilIface:=d4;obtain⟨rfl,rfl,rfl,rfl,rfl,rfl,rfl,rfl⟩:=h9;rw[Et a3,<-f1];have a1:∀a,Calls TP 104 #[Z] a λn i=>n=VN (i64 0)/\a=i:=by rw[a2];exact yX
   rcases w with w|w|w
   .have R:(n.op.kind==8)=J:=by simp[w]
    have t:(n.op.kind==10)=Vz:=by simp[w]
    have a7:decide (n.op.kind=10)=Vz:=by simp[w]
    have b3:(if n.op.kind=8 then v.data else[])=v.data:=VV w;have b2:(if n.op.kind=10 then v.names else[])=[]:=VK (by omega);rw[a7,b3,b2];cases N:n.watch with
    |false=>rw[N]at u;subst u L;refine(fS (v:=0) x a1 A rfl R t (VA ⟨A,A⟩) (VC ⟨A,A⟩) (λ_ _ q=>q) (λq=>by cases q)).mono ?_;exact fin {al:=n.al,idx:=b,path:=n.op.path,found:=J,stat:=v.stat,data:=v.data,names:=[]} kV g _ a5 H (VA ⟨A,A,A⟩)
    |true=>rw[N]at u;subst u L;refine(fS x a1 A rfl R t (VA ⟨A,A⟩) (VC ⟨A,A⟩) (λq=>by cases q) (λ_=>c0 Vz)).mono ?_;exact fin {al:=n.al,idx:=b,path:=n.op.path,found:=J,stat:=v.stat,data:=v.data,names:=[]} kV (dB g n.al Vz n.op.path) _ (b8 Vz) H (VA ⟨A,A,A⟩)
   .have R:(n.op.kind==8)=Vz:=by simp[w]
    have t:(n.op.kind==10)=Vz:=by simp[w]
    have a7:decide (n.op.kind=10)=Vz:=by simp[w]
    have b3:(if n.op.kind=8 then v.data else[])=[]:=VK (by omega);have b2:(if n.op.kind=10 then v.names else[])=[]:=VK (by omega);rw[a7,b3,b2];cases N:n.watch with
    |false=>rw[N]at u;subst u L;refine(fS (v:=0) x a1 A rfl R t (VC ⟨A,A⟩) (VC ⟨A,A⟩) (λ_ _ q=>q) (λq=>by cases q)).mono ?_;exact fin {al:=n.al,idx:=b,path:=n.op.path,found:=J,stat:=v.stat,data:=[],names:=[]} kV g _ a5 H (VA ⟨A,A,A⟩)
    |true=>rw[N]at u;subst u L;refine(fS x a1 A rfl R t (VC ⟨A,A⟩) (VC ⟨A,A⟩) (λq=>by cases q) (λ_=>c0 Vz)).mono ?_;exact fin {al:=n.al,idx:=b,path:=n.op.path,found:=J,stat:=v.stat,data:=[],names:=[]} kV (dB g n.al Vz n.op.path) _ (b8 Vz) H (VA ⟨A,A,A⟩)
   have R:(n.op.kind==8)=Vz:=by simp[w]
   have t:(n.op.kind==10)=J:=by simp[w]
   have a7:decide (n.op.kind=10)=J:=by simp[w]
   have b3:(if n.op.kind=8 then v.data else[])=[]:=VK (by omega);have b2:(if n.op.kind=10 then v.names else[])=v.names:=VV w;rw[a7,b3,b2];cases N:n.watch with
   |false=>rw[N]at u;subst u L;refine(fS (v:=0) x a1 A rfl R t (VC ⟨A,A⟩) (VA ⟨A,A⟩) (λ_ _ q=>q) (λq=>by cases q)).mono ?_;exact fin {al:=n.al,idx:=b,path:=n.op.path,found:=J,stat:=v.stat,data:=[],names:=v.names} (.slice S U T,VG I 0 0) g _ a5 H (VC ⟨A,A,e9⟩)
   |true=>rw[N]at u;subst u L;refine(fS x a1 A rfl R t (VC ⟨A,A⟩) (VA ⟨A,A⟩) (λq=>by cases q) (λ_=>c0 J)).mono ?_;exact fin {al:=n.al,idx:=b,path:=n.op.path,found:=J,stat:=v.stat,data:=[],names:=v.names} (.slice S U T,VG I 0 0) (dB g n.al J n.op.path) _ (b8 J) H (VC ⟨A,A,e9⟩)
end
end
variable{m:Tree}{N:E}{k:Path}{l:K}{v:E}{O:VE Vx}
section
variable[Inhabited aV]
theorem KJ{d r:Path->E}{x:Vx}(s:bS m d r a)(h:a.heap[N]?=C (VH #[pt (d []) 0,Vy M m.length,x] 195 (0,0))):
 Calls TP 109 #[pt N 0] a λc l=>c=VN (.tuple #[])/\pF m d r N [] l/\l.heap.size=a.heap.size/\(∀b,b≠N->l.heap[b]?=a.heap[b]?)/\∀b,¬vF l N b:=by
 have c2:=aa h 2 A;have H:=frozenAt h 2;have f:=VF h;have e:=VF s;go_enter Tryz.func109,Tryz.ntmps109
 go_wp2
 go_end0
 have g:∀b,b≠N->(a.setCell ⟨N,2,I⟩ (VG I 0 0)).heap[b]?=a.heap[b]?:=λb v=>ah v
 have n:(a.setCell ⟨N,2,I⟩ (VG I 0 0)).heap[N]?=C (VH #[pt (d []) 0,Vy M m.length,VG I 0 0] 195 (0,0)):=by have:=aB (l:=2) (g:=VG I 0 0) f.out;simp_all
 refine⟨A,⟨e.out.stay λk w=>?_,VG I 0 0,[],n,bV.nil _ _ _ _,trivial⟩,aI,g,λb⟨O,y,P,i,t⟩=>?_⟩
 .obtain⟨u,p⟩:=Wn.1 w;obtain⟨D,z,o,_⟩:=e.out.kd k u p;have q:=e.out.nd k u p;exact⟨g _ (λc=>by rw[c,f.out]at q;cases q),g _ (λc=>by rw[c,f.out]at o;cases o)⟩
 rw[n]at i;cases i;cases t
theorem PG(a:K)(g:VE Vx)(al e:VB):(tL a g al e).heap.size=a.heap.size+3/\(∀b,b<a.heap.size->(tL a g al e).heap[b]?=a.heap[b]?)/\kZ a.heap.size g (oS al e) (tL a g al e) (tL a g al e):=by
 have h:(a.alloc (.cells g 140)).heap.size=a.heap.size+1:=by simp
 have i:((a.alloc (.cells g 140)).alloc (.cells oZ 38)).heap.size=a.heap.size+2:=by simp
 have f:=WS a (.cells g 140);have c:=WS (a.alloc (.cells g 140)) (.cells oZ 38);have d:=WS ((a.alloc (.cells g 140)).alloc (.cells oZ 38)) (.cells (oS al e) 38);rw[h]at c;rw[i]at d;refine⟨by simp,λb k=>?_,⟨?_,?_,d,A,λ_ _=>rfl⟩⟩
 .rw[tL,Wk _ _ _ (by omega),Wk _ _ _ (by omega),Wk _ _ _ k]
 .rw[tL,Wk _ _ _ (by omega),Wk _ _ _ (by omega)];exact f
 rw[tL,Wk _ _ _ (by omega)];exact c
theorem DW(i:k.length<=4)(l:∀b∈k,cK b=J):(Wt.join k).length<2^31:=by
 have:∀(a:VD B),(∀b∈a,cK b=J)->([47].intercalate a).length<=a.length*13:=λa c=>by
  induction a with
  |nil=>simp[VD.intercalate]
  |cons e d g=>
   have:=Eh (c e (by simp));cases d with
   |nil=>simp[VD.intercalate];omega
   |cons v d=>
    have h:=g (λb f=>c b (WU _ f));simp[VD.intercalate]at h⊢
    omega
 grind [Wt.join]
theorem yN{i:Tree}(c:WF m){b:Wt.Op}(g:oE b){aE:VB}{h:B}{d:VD Wt.Ev}(e:Wt.change m b al aE=.yes i h d):d.length<=2/\h.length<2^31:=by
 by_cases f:b.kind=3
 .have a:=e;unfold Wt.change at a;rw[VV f]at a;have l:=gN c a;obtain⟨n,s,R,r,N,v,t,x,y,O,g,L,D,H,z,q,p,w⟩:=fH a
  have o:Wt.find i ((n::s).dropLast++[r])=C (cP b al aE):=by rw[q];exact fx (dK c.ord)
  obtain⟨P,Q⟩:=l.names _ _ o;exact⟨by simp_all,by grind [DW]⟩
 obtain⟨k,u,_,_,p,a⟩:=lr f e;have:=g.path
 grind [jX]
theorem zX{f:VB}{k:E}{e:VE Vx}(g:ck (nN (.no f)) k e a):∃b d c,e=#[.string ⟨#[]⟩,i64 0,i64 0,i64 0,i64 0,i64 0,i64 0,i64 0,.slice b d c]:=by
 obtain⟨_,l,h,i⟩:=g;obtain⟨b,d,c,rfl⟩:∃b d c,l=.slice b d c:=by rcases i with⟨rfl,_⟩|⟨_,_,_,_,_,rfl,_⟩<;>exact⟨_,_,_,A⟩
 exact⟨b,d,c,VU VE.mk h⟩
section
variable{h:VB}{i:dH}{q:VD Out}{d P:kH}{f:K}{g Q:VE Vx}{e:VB}
theorem kZ.qq{own k:E->Prop}{V:VE Vx}{c f:K}(a:kZ u g V c c)(d:aJ own k c f)(e:∀b,u<=b->b<u+3->¬own b):kZ u g V f f:=
 have lt:=λ(b:E)(i:Obj)(h:c.heap[b]?=C i)=>(Wh.1 h).1
 ⟨(d.keep _ (lt _ _ a.h0) (e _ (by omega) (by omega))).trans a.h0,(d.keep _ (lt _ _ a.h2) (e _ (by omega) (by omega))).trans a.h2,(d.keep _ (lt _ _ a.h3) (e _ (by omega) (by omega))).trans a.h3,A,λ_ _=>rfl⟩
theorem aM.Sa(e:aM s h y q d a){R:VD Un}(p:pF y.tree d.nb d.mb d.tb R l)(t:a.heap.size<=l.heap.size)(r:∀b,b<a.heap.size->b≠d.tb->l.heap[b]?=a.heap[b]?):aM s h y q d l/\aJ (aK s y.tree d) (aK s y.tree d) a l:=by
 obtain⟨iV,u,D,H,L,N,O⟩:=e.iV;have x:=u d.tb (VA A);have i:∀b,b<a.heap.size->iV b≠0->l.heap[b]?=a.heap[b]?:=λb c g=>r b c (λn=>g (n▸x));have m:=λb c=>i b (e.kj c) (by simp_all);refine⟨⟨p.kS,?_,e.wf,?_,?_,?_,?_,?_,?_,⟨iV,u,D,H,L,N,O⟩⟩,?_⟩
 .obtain⟨S,T,g,f,_⟩:=p.top;exact⟨S,VC f.slice,g⟩
 .exact e.bR.stay λb c=>i b (e.bm (VC (VC (VA c)))) (by simp_all)
 .rw[i d.hb (e.bm (.inr (.inr (.inr (.inl A))))) (by omega)];exact e.iU
 .rw[i s (e.bm (.inl A)) (by omega)];exact e.ch
 .exact e.row.stay λb c=>i b (e.bm (VC (VC (VC (VC c))))) (by simp_all)
 .exact⟨e.outs.1,λz Q o g f=>by
   have:=e.outs.2 z Q o g f;have k:=WG f
   exact⟨this.1.stay λb c=>by rw[m b (.inr (.inr ⟨o,k,.inl c⟩))],this.2.stay λb c=>by rw[m b (.inr (.inr ⟨o,k,.inr c⟩))]⟩⟩
 .obtain⟨⟨P,k⟩,f,v⟩:=e.bF;exact⟨⟨P,cf (m 1 (VA A)) k⟩,f.stay (by rw[m 4 (.inr (.inl A))]),Ws v t⟩
 exact⟨t,λb c w=>r b c λn=>w (VC (VA (VA n))),λb c=>VA c⟩
theorem aM.Tg(b:aM s h y q d a){o:E×E}(c:a.heap[v]?=C (VH O 269 o)):¬aK s y.tree d v:=by
 rintro(rfl|e|e|rfl|e)
 .rw[b.ch]at c;cases c
 .rcases e with rfl|⟨k,g,rfl|rfl⟩
  .obtain⟨t,_,p⟩:=b.top;simp_all
  .obtain⟨u,i⟩:=Wn.1 g;rw[b.tree.nd k u i]at c;cases c
  obtain⟨u,i⟩:=Wn.1 g;obtain⟨m,l,f,_⟩:=b.tree.kd k u i;simp_all
 .rcases e with rfl|rfl|⟨r,k,g⟩
  .rw[b.bR.tb]at c;cases c
  .obtain⟨m,l,f,_⟩:=b.bR.mp;simp_all
  obtain⟨n,f,_⟩:=b.bR.zU g;simp_all
 .obtain⟨m,l,f,_⟩:=b.iU;simp_all
 obtain⟨n,f,_⟩:=b.row.blk v e;simp_all
def nM(s:E)(h:VB)(m:Tree)(d:kH)(a:K)(r:dH)(z:VD Out)(w₂:K):Prop:=∃o,aM s h r z o w₂/\o.tb=d.tb/\aJ (aK s m d) (aK s r.tree o) a w₂/\(∀b,dE o b->dE d b)/\a.heap.size+3<=w₂.heap.size/\∀b,a.heap.size<=b->b<a.heap.size+3->¬aK s r.tree o b
variable{w₂ x:K}{r H:dH}{z L:VD Out}{o D:kH}
theorem nM.old(c:nM s h m d a r z w₂)(p:w₂.heap.size<=x.heap.size)(n:∀b,b<w₂.heap.size->x.heap[b]?=w₂.heap[b]?):nM s h m d a r z x:=by obtain⟨o,w,S,t,T,W,U⟩:=c;exact⟨o,w.old p n,S,t.trans ⟨p,λb R _=>n b R,λb c=>VA c⟩,T,by omega,U⟩
theorem nM.var(i:nM s h m d a r z w₂)(hd:∀b,dE d b->b<a.heap.size)(t:x.heap.size=w₂.heap.size)(f:∀b,b<a.heap.size\/a.heap.size+3<=b->x.heap[b]?=w₂.heap[b]?):nM s h m d a r z x:=by
 obtain⟨o,g,k,e,p,u,q⟩:=i
 have l:∀b,aK s r.tree o b->x.heap[b]?=w₂.heap[b]?:=λb c=>f b (by grind)
 refine⟨o,g.same ⟨by omega,l,λb c=>by grind⟩,k,⟨by omega,λb c n=>by rw[f b (.inl c),e.keep b c n],e.more⟩,p,by omega,q⟩
theorem nM.step(t:aM s h r z o w₂/\o.tb=d.tb/\aJ (aK s m d) (aK s r.tree o) a w₂/\(∀b,dE o b->dE d b)/\a.heap.size+3<=w₂.heap.size/\∀b,a.heap.size<=b->b<a.heap.size+3->¬aK s r.tree o b)(p:aM s h H L D x)(T:D.tb=o.tb)(c:aJ (aK s r.tree o) (aK s H.tree D) w₂ x)(W:∀b,dE D b->dE o b):nM s h m d a H L x:=by obtain⟨Z,U,n,X,a0,Y⟩:=t;have:=c.size;exact⟨D,p,T.trans U,n.trans c,λb S=>X b (W b S),by omega,λb w R=>(aJ.out c (a:=b) (by omega) (Y b w R)).2.1⟩
def Hk(s:E)(h:VB)(e:dH)(told:VD Out)(b:Out)(q:VD Out)(m:Tree)(d:kH)(a:K)(c:Ending)(l:K):Prop:=c=VN (.agg (iX b kV))/\b.names=[]/\b.results=[]/\nM s h m d a e (q++told) l
theorem PI(X:aM s h y q d a){c:eK}{rq:Sim.RV}(j7:RQ rq c)(j1:c.op.kind≠2)(j2:c.op.kind≠7)(h1:oE c.op)(m1:Qk y.tree)(e0:0<=y.aE/\y.aE<2^62)(m9:∀e6 z,(y.bR e6 z).length<=8)(m6:q.length+64<2^20)(e:VB):
 Calls TP 65 #[pt s 0,.agg (aQ e rq)] a λr l=>∃h2 told O,Wt.write y e c=(h2,told++[O])/\Hk s h h2 told O q y.tree d a r l:=by
 obtain⟨al,n0,n3,l8,aF,m0,n7,l2,l1,l0⟩:=rq;obtain⟨N,U,a8,W,g2,g3,g4⟩:=j7;simp only at N U a8 W g2 g3 g4;subst N U a8 W g2 g3 g4;obtain⟨g,a4⟩:∃g,g=rV e c.al c.op.kind (bs c.op.path) (bs c.op.data) c.op.aF c.op.flags c.watch (.slice l2 l1 l0):=⟨_,A⟩;obtain⟨l6,f2,h4⟩:=PG a g c.al e;have d4:=X.old (by omega) f2;have h0:∀b,a.heap.size<=b->¬aK s y.tree d b:=λb t p=>by have:=X.bm p;omega
 have b5:∀b,dE d b->b<a.heap.size:=λb t=>X.kj t;have e2:=fi j1;have e3:=fi j2;obtain⟨i,b9⟩:∃i:dH,i={y with aE:=y.aE+1}:=⟨_,A⟩;have a9:i.tree=y.tree:=by rw[b9]
 have m8:i.bR=y.bR:=by rw[b9]
 obtain⟨b3,g7⟩:∃b3,b3=tL a g c.al e:=⟨_,A⟩;rw[<-g7]at l6 f2 h4 d4
 have i8:(b3.setCell ⟨s,6,I⟩ (i64 (y.aE+1))).heap[s]?=C (VH (Dm y.timeout h d.tb d.tw d.hb y.now (y.aE+1) y.next d.ov .nilFunc) 98 (0,0)):=by have:=aB (l:=6) (g:=i64 (y.aE+1)) d4.ch;simp_all
 obtain⟨f4,h7⟩:=d4.nums i8 (by simp) (λb _ e5=>ah e5);have d5:aM s h i q d (b3.setCell ⟨s,6,I⟩ (i64 (y.aE+1))):=by simp_all
 obtain⟨n5,_,k2⟩:=d5.top
 let d3:K->Prop:=λf=>(aM s h i q d f/\d.tb=d.tb/\aJ (aK s y.tree d) (aK s i.tree d) a f/\(∀b,dE d b->dE d b)/\a.heap.size+3<=f.heap.size/\∀b,a.heap.size<=b->b<a.heap.size+3->¬aK s i.tree d b)/\pF i.tree d.nb d.mb d.tb [] f/\∀b,¬vF f d.tb b
 have b4:Calls TP 109 #[pt d.tb 0] (b3.setCell ⟨s,6,I⟩ (i64 (y.aE+1))) λr l=>r=VN (.tuple #[])/\kZ a.heap.size g (oS c.al e) l l/\(l.cell? ⟨s,2,I⟩=C (pt d.tb 0)/\l.cell? ⟨s,6,I⟩=C (i64 (y.aE+1)))/\d3 l:=
  (KJ d5.tree k2).mono λr o⟨x,a7,a0,j0,j8⟩=>by
    obtain⟨a6,a1⟩:=d5.Sa a7 (by omega) (λb _ e5=>j0 b e5);rw[a9]at a1;have d2:=h7.trans a1;have Z:=a6.ch;rw[b9]at Z;refine⟨x,h4.qq d2 (λb N _=>h0 b N),⟨aa Z 2 A,aa Z 6 A⟩,⟨a6,A,?_,λb p=>p,?_,λb N _=>by rw[a9];exact h0 b N⟩,a7,j8⟩
    .rw[a9];exact⟨by have:=d2.size;omega,λb t j3=>by rw[d2.keep b (by omega) j3,f2 b t],λb p=>VA p⟩
    simp_all
 have c7:∀f,d3 f->∀z,Calls TP 113 #[pt d.tb 0,.agg (tG c.op),i64 c.al,i64 (y.aE+1)] (f.drewN z) (gI i.tree d.nb d.mb d.tb [] (f.drewN z) (Wt.change i.tree c.op c.al (y.aE+1))):=λf⟨⟨f4,_⟩,a7,_⟩ z=>by have d6:aM s h i q d (f.drewN z):=f4.old (Wl _) (λ_ _=>rfl);obtain⟨⟨k9,e4⟩,k1,W⟩:=d6.bF;have i1:pF i.tree d.nb d.mb d.tb [] (f.drewN z):=a7.old λ_ _=>rfl;exact Lb i1 (by rw[a9];exact X.wf) (by simp_all) h1 e4 k1 W (by decide)
 have k7:Wt.write y e c=(match Wt.change i.tree c.op c.al (y.aE+1)with
  |.no r=>(i,[{al:=c.al,idx:=e,err:=r}])
  |.yes m k P=>match Wt.look m k with
   |.no _=>((Wt.tell e {i with tree:=m} P).1,(Wt.tell e {i with tree:=m} P).2++[{al:=c.al,idx:=e,path:=k}])
   |.yes T=>((Wt.tell e {i with tree:=m} P).1,(Wt.tell e {i with tree:=m} P).2++[{al:=c.al,idx:=e,path:=k,found:=J,stat:=T.stat}])):=by
  unfold Wt.write
  grind
 rw[k7];have tC:(Dm y.timeout h d.tb d.tw d.hb y.now y.aE y.next d.ov .nilFunc)[6]?=C (i64 y.aE):=A;rw[g7]at b4;rw[a4]at b4;cases Z:Wt.change i.tree c.op c.al (y.aE+1)with
 |no r=>
  rw[Z]at c7
  have i9:(r !=0)=J:=by grind [rA]
  refine(NA (q:=nM s h y.tree d a i q) e2 e3 X.ch tC A e0 b4 (λf u n z=>(c7 f u z).mono λl3 o⟨x,g8⟩=>?_) (pV r) i9).mono λl3 l⟨x,f,Y,a0,b6⟩=>⟨i,[],_,A,x,A,A,by
   rw[Yp]
   exact Y.var b5 a0 λb t=>b6 b (by omega) (by omega)⟩
  have j6:nM s h y.tree d a i q f:=⟨d,u.1.1,A,u.1.2.2.1,λb p=>p,u.1.2.2.2.2.1,u.1.2.2.2.2.2⟩;have e1:=u.1.1.ch;rw[b9]at e1;have b8:∀b,b<f.heap.size->o.heap[b]?=f.heap[b]?:=λb t=>g8.block b t;have j9:=g8.size;have lt:=λ(b:E)(O:Obj)(t:f.heap[b]?=C O)=>(Wh.1 t).1;have g9:=(b8 s (lt _ _ e1)).trans e1;exact⟨x,⟨(b8 _ (lt _ _ n.h0)).trans n.h0,(b8 _ (lt _ _ n.h2)).trans n.h2,(b8 _ (lt _ _ n.h3)).trans n.h3,A,λ_ _=>rfl⟩,⟨aa g9 2 A,aa g9 6 A⟩,j6.old j9 b8⟩
 |yes b1 k P=>
  rw[Z]at c7;simp only;obtain⟨m4,j5⟩:=yN (by rw[a9];exact X.wf) h1 Z;have i2:=rB (by rw[a9];exact X.wf) Z;obtain⟨Q,c0⟩:∃Q:dH,Q={i with tree:=b1}:=⟨_,A⟩;have k6:∀e6 z,(Q.bR e6 z).length<=8:=by simp_all
  have k0:Q.tree=b1:=by rw[c0]
  let b2:VL VT->E->E->K->Prop:=λD L H o=>nM s h y.tree d a Q q o/\Qo P (.slice D L H) (a.heap.size+3) o
  let S:K->Prop:=λw=>nM s h y.tree d a (Wt.tell e Q P).1 (q++(Wt.tell e Q P).2) w
  have g5:∀f,d3 f->kZ a.heap.size g (oS c.al e) f f->∀z,Calls TP 113 #[pt d.tb 0,.agg (tG c.op),i64 c.al,i64 (y.aE+1)] (f.drewN z) λr o=>∃D L H,r=VN (.tuple #[.string (bs k),.slice D L H,.nilIface])/\kZ a.heap.size g (oS c.al e) o o/\(o.cell? ⟨s,2,I⟩=C (pt d.tb 0)/\o.cell? ⟨s,6,I⟩=C (i64 (y.aE+1)))/\b2 D L H o:=λf u n z=>(c7 f u z).mono λr o⟨n2,n1,n4,h3,x,a7,m5,h8,a3⟩=>by
   have d6:aM s h i q d (f.drewN z):=u.1.1.old (Wl _) (λ_ _=>rfl);obtain⟨a6,a1⟩:=d6.Ty a7 i2 h8 u.2.2;rw[<-c0]at a6;have a0:=u.1.2.2.2.2.1;have k8:=u.1.2.2.2.2.2;have i7:kZ a.heap.size g (oS c.al e) (f.drewN z) (f.drewN z):=⟨n.h0,n.h2,n.h3,A,λ_ _=>rfl⟩;have d9:=a6.ch;rw[c0,b9]at d9;obtain⟨D,L,H,rfl⟩:∃D L H,h3=.slice D L H:=by rcases a3 with⟨_,rfl⟩|⟨v,rfl,_⟩<;>exact⟨_,_,_,A⟩
   refine⟨D,L,H,x,i7.qq a1 k8,⟨aa d9 2 A,aa d9 6 A⟩,nM.step u.1 a6 A ?_ (λb p=>p),?_⟩
   .rw[k0];exact⟨a1.size,a1.keep,a1.more⟩
   rcases a3 with p|⟨v,N,U,a8,W⟩
   .exact VA p
   exact VC ⟨v,N,U,Wu a0 a8,W⟩
  have g6:∀D L H o,b2 D L H o->kZ a.heap.size g (oV c.al 0 e 0 ⟨#[]⟩ ⟨#[]⟩ Vz 0 0 0 0 0 0 0 (VG I 0 0) (VG I 0 0)) o o->Calls TP 110 #[pt s 0,i64 e,.slice D L H] o λr w=>r=VN (.tuple #[])/\kZ a.heap.size g (oV c.al 0 e 0 ⟨#[]⟩ ⟨#[]⟩ Vz 0 0 0 0 0 0 0 (VG I 0 0) (VG I 0 0)) w w/\w.cell? ⟨s,2,I⟩=C (pt d.tb 0)/\S w:=λD L H o⟨⟨l7,U⟩,a3⟩ n=>by
   have f3:=U.1;refine(RX f3 k6 a3 (λb t=>?_) (by omega) (by omega) e).mono λr w⟨x,i3,a2,m7,h6,k5,d8⟩=>⟨x,n.qq h6 U.2.2.2.2.2,?_,nM.step U a2 d8 (by simp_all) k5⟩
   .rcases a3 with⟨_,p⟩|⟨v,N,_,_,W⟩
    .cases p;cases t
    rw[N]at t;cases t;exact f3.Tg W
   have:=aa a2.ch 2 A;simp_all
  have m2:∀D L H o a5,b2 D L H o->kZ a.heap.size g (oV c.al 0 e 0 ⟨#[]⟩ ⟨#[]⟩ Vz 0 0 0 0 0 0 0 (VG I 0 0) (VG I 0 0)) o a5->b2 D L H a5:=λD L H o a5⟨p,a3⟩ n=>⟨p.var b5 n.size λb t=>n.keep b (by omega),by
   rcases a3 with p|⟨v,N,U,a8,W⟩
   .exact VA p
   exact VC ⟨v,N,U,a8,(n.keep v (by omega)).trans W⟩⟩
  have m3:∀o a5,S o->kZ a.heap.size g (oV c.al 0 e 0 (bs k) ⟨#[]⟩ Vz 0 0 0 0 0 0 0 (VG I 0 0) (VG I 0 0)) o a5->S a5:=λo a5 p n=>p.var b5 n.size λb t=>n.keep b (by omega);have Y:∀R O,S R->S (R.alloc O):=λR O p=>p.old (by simp) λb t=>Wk _ _ _ t;have k4:(Wt.tell e Q P).1.tree=b1:=by simp_all [sw]
  have c8:∀w,S w->kZ a.heap.size g (oV c.al 0 e 0 (bs k) ⟨#[]⟩ Vz 0 0 0 0 0 0 0 (VG I 0 0) (VG I 0 0)) w w->Calls TP 58 #[pt d.tb 0,.string (bs k)] w λr R=>∃b0,r=VN (.tuple #[.agg b0,(nN (Wt.look b1 k)).ev])/\ck (nN (Wt.look b1 k)) w.heap.size b0 R/\(∀O,kZ a.heap.size g (oV c.al 0 e 0 (bs k) ⟨#[]⟩ Vz 0 0 0 0 0 0 0 (VG I 0 0) (VG I 0 0)) (R.alloc O) (R.alloc O))/\S R:=λw u n=>by
   have i6:=u;obtain⟨i3,a2,d8,_⟩:=u;obtain⟨⟨k9,e4⟩,_,_⟩:=a2.bF;obtain⟨n6,_,k3⟩:=a2.top;have b7:=Rf a2.tree (aa k3 0 A) a2.wf (bs k) e4 (by show k.length<2^31;exact j5);rw[k4,d8]at b7;refine b7.mono λr R⟨b0,x,c6,c9⟩=>⟨b0,x,c6,λO=>?_,nM.old i6 c9.size c9.block⟩;have lt:=λ(b:E)(O:Obj)(t:w.heap[b]?=C O)=>(Wh.1 t).1
   have e7:∀(b:E)(d1:Obj),w.heap[b]?=C d1->(R.alloc O).heap[b]?=C d1:=λb d1 p=>by have N:=lt b d1 p;rw[Wk _ _ _ (Ws N c9.size),c9.block b N];exact p
   exact⟨e7 _ _ n.h0,e7 _ _ n.h2,e7 _ _ n.h3,A,λ_ _=>rfl⟩
  cases b7:Wt.look b1 k with
  |no h5=>rw[b7]at c8;refine(wo (o:=h5) (e0:=S) (e1:=S) (S:=0) (T:=0) (U:=0) (W:=0) (X:=0) (Y:=0) (Z:=0) (a8:=⟨#[]⟩) e2 e3 X.ch tC A e0 b4 (by rw[<-a4];exact g5) yX (by rw[<-a4];exact g6) (λw u n=>?_) (by grind) (by grind) Y (.inr ⟨rfl,rfl⟩)).mono λr l⟨x,f,Y,a0,b6⟩=>⟨(Wt.tell e Q P).1,(Wt.tell e Q P).2,{al:=c.al,idx:=e,path:=k},by rw[c0],x,A,A,Y.var b5 a0 λb t=>b6 b (by omega) (by omega)⟩;rw[<-a4]at n;refine(c8 w u n).mono λr R⟨b0,x,c6,j4,d7⟩=>?_;obtain⟨e8,f0,e9,rfl⟩:=zX c6;exact⟨e8,f0,e9,x,by simp_all,d7⟩
  |yes T=>rw[b7]at c8;refine(wo (o:=0) (e0:=S) (e1:=S) (S:=T.stat.made) (T:=T.stat.set) (U:=T.stat.aF) (W:=T.stat.fj) (X:=T.stat.own) (Y:=T.stat.size) (Z:=T.stat.kids) (a8:=bs T.data) e2 e3 X.ch tC A e0 b4 (by rw[<-a4];exact g5) yX (by rw[<-a4];exact g6) (λw u n=>?_) (by grind) (by grind) Y (.inl ⟨rfl,rfl⟩)).mono λr l⟨x,f,Y,a0,b6⟩=>⟨(Wt.tell e Q P).1,(Wt.tell e Q P).2,{al:=c.al,idx:=e,path:=k,found:=true,stat:=T.stat},by rw[c0],x,A,A,Y.var b5 a0 λb t=>b6 b (by omega) (by omega)⟩;rw[<-a4]at n;refine(c8 w u n).mono λr R⟨b0,x,c6,j4,d7⟩=>?_;obtain⟨dd,f5,f6,f7,f8,f9,g0,g1,e8,f0,e9,rfl,_,rfl,rfl,rfl,rfl,rfl,rfl,rfl,rfl⟩:=yg c6;exact⟨e8,f0,e9,x,by simp_all,d7⟩
end
end
variable{b:K}{g:Tree}{e:Out}
section
variable[Inhabited aV]
section
variable{c:VB}{h:dH}{d i:VD Out}{a:kH}{f:E}
def Am(s:E)(c:VB)(h:dH)(i:VD Out)(g:Tree)(a:kH)(b e:K):Prop:=∃d,aM s c h i d e/\aJ (aK s g a) (aK s h.tree d) b e/\ij (dE a) (dE d) b.heap.size
def yA(s:E)(c:VB)(h:dH)(i:VD Out)(g:Tree)(a:kH)(b:K)(d:Ending)(e:K):Prop:=d=VN (.tuple #[])/\Am s c h i g a b e
theorem QA(a:Wt.TB (512*f) g)(l:f<2^20):Qk g:=λh e d=>by obtain⟨⟨b,i⟩,c,k⟩:=a h e d;exact⟨⟨b,by omega⟩,c,by omega⟩
theorem qL(q:aM s c y d a b)(w:d.length<2^20)(t:e.names=[])(u:e.results=[]):Calls TP 60 #[pt s 0,.agg (iX e kV)] b λo n=>o=VN (.tuple #[])/\∃m,aM s c y (d++[e]) m n/\aJ (aK s y.tree a) (aK s y.tree m) b n/\∀l,dE m l->dE a l:=
 (EY q w (sZ t u b) λl k=>by rcases k with k|k<;>cases k).mono λo n⟨v,x,r,p⟩=>⟨v,_,r,p,GU⟩
theorem BK(Y:aM s c y d a b)(b9:Ok y f)(c7:f<2^20)(d2:d.length+64<2^20){g:eK}{rq:Sim.RV}(b2:RQ rq g)(d1:oE g.op){i:VB}(e8:g.op.kind=3\/g.op.kind=4\/g.op.kind=5\/g.op.kind=6)(e7:i<64):
 Calls TP 40 #[pt s 0,.iface 140 (.agg (aQ i rq))] b (yA s c (Wt.step y i g).1 (d++(Wt.step y i g).2) y.tree a b):=by
 have d4:Wt.step y i g=if Wt.known y g.al=Vz then(y,[{al:=g.al,idx:=i,err:=3}])else Wt.write (Wt.heard y g.al) i g:=by
  have d5:Wt.task i g=.write:=by unfold Wt.task;rw[VK (by omega),VK (by omega),VK (by omega),VK (by omega),VK (by omega),VV (by omega)]
  unfold Wt.step;rw[d5]
 have d3:=b2;obtain⟨al,f0,f1,e5,aF,e6,f2,e1,e0,d9⟩:=rq;obtain⟨H,L,a0,a1,a2,a3,a4⟩:=b2;simp only at H L a0 a1 a2 a3 a4;subst H L a0 a1 a2 a3 a4;obtain⟨t,b3⟩:∃t,t=rV i g.al g.op.kind (bs g.op.path) (bs g.op.data) g.op.aF g.op.flags g.watch (.slice e1 e0 d9):=⟨_,A⟩;have b1:∀h,h<b.heap.size->(b.alloc (.cells t 140)).heap[h]?=b.heap[h]?:=λh m=>Wk _ _ _ m;have e9:(b.alloc (.cells t 140)).heap.size=b.heap.size+1:=by simp
 have a9:=WS b (.cells t 140);have b0:¬aK s y.tree a b.heap.size:=λP=>by have:=Y.bm P;omega
 have r:=Gh (Y.old (by omega) b1) g.al;have a6:∀{k:K},aJ (aK s y.tree a) (aK s y.tree a) (b.alloc (.cells t 140)) k->aJ (aK s y.tree a) (aK s y.tree a) b k:=λX=>⟨by have:=X.size;omega,λh m c8=>by rw[X.keep h (by omega) c8,b1 h m],λh P=>VA P⟩;rw[d4];cases a8:Wt.known y g.al with
 |false=>
  rw[a8]at r;rw[VV A];refine BJ (KP:=λk=>aM s c y d a k/\aJ (aK s y.tree a) (aK s y.tree a) b k) (p:=λW=>Am s c y (d++[{al:=g.al,idx:=i,err:=3}]) y.tree a b W) ?_ λk⟨O,N⟩=>?_
  .rw[<-b3];exact r.mono λD k⟨l,R,v⟩=>⟨l,(v.keep _ (by omega) b0).trans a9,R,a6 v⟩
  exact(qL O (by omega) (e:={al:=g.al,idx:=i,err:=3}) A rfl).mono λD w⟨l,z,u,p,S⟩=>⟨l,z,u,N.trans p,λh m=>VA (S h m)⟩
 |true=>
  rw[a8]at r;rw[VK (by decide)];have x:=b9.heard g.al;have b5:∀d8 e2,((Wt.heard y g.al).bR d8 e2).length<=8:=x.TC;have a5:Qk (Wt.heard y g.al).tree:=QA x.KN c7;have a7:0<=(Wt.heard y g.al).aE/\(Wt.heard y g.al).aE<2^62:=by have:=x.aE;omega
  have Q:=(x.write i (r:=g) (by omega) (by omega)).2;obtain⟨n,b4⟩:∃n,n=Wt.heard y g.al:=⟨_,A⟩;have d6:n.tree=y.tree:=by rw[b4];rfl
  rw[VV A]at r;rw[<-b4]at r b5 a5 a7 Q⊢
  refine IN (KP:=λk=>aM s c n d a k/\aJ (aK s y.tree a) (aK s y.tree a) b k) (p:=λW=>Am s c (Wt.write n i g).1 (d++(Wt.write n i g).2) y.tree a b W)
   (x:=λe b7 w=>b7=kV/\e.names=[]/\e.results=[]/\∃o told q,Wt.write n i g=(o,told++[e])/\aM s c o (d++told) q w/\aJ (aK s y.tree a) (aK s o.tree q) b w/\∀h,dE q h->dE a h) ?_ (λk⟨O,N⟩=>?_) λe b7 w⟨d7,c9,d0,o,told,q,U,u,p,T⟩=>?_
  .rw[<-b3];exact r.mono λD k⟨l,R,v⟩=>⟨l,(v.keep _ (by omega) b0).trans a9,R,a6 v⟩
  .refine(PI O d3 (by omega) (by omega) d1 a5 a7 b5 d2 i).mono λD w⟨o,told,e,U,l,H,L,q,u,_,p,T,_⟩=>⟨e,kV,l,A,H,L,o,told,q,U,u,N.trans ?_,T⟩;rw[d6]at p;exact p
  rw[U]at Q⊢
  rw[d7];simp only[WI,ZA]at Q;refine(qL u (by rw[WI];omega) c9 d0).mono λD e3⟨l,z,c6,c0,S⟩=>⟨l,z,?_,p.trans c0,λh m=>VA (T h (S h m))⟩;show aM s c o (d++(told++[e])) z e3;rw[<-XQ];exact c6
theorem Bb{e:VD (VB×VB)}(c:Vx):c∈e.map (λb=>i64 b.1)↔(fJ e c).isSome=J:=by
 constructor
 .intro a;obtain⟨b,d,rfl⟩:=WY.1 a;rw[eI,Zw,l_];exact⟨b,d,by simp⟩
 intro a;cases c with
 |int c g=>
  cases c with
  |i64=>rw[eI,Zw,l_]at a;obtain⟨b,d,f⟩:=a;exact WY.2 ⟨b,d,by rw[m_ f]⟩
  |_=>cases a
 |_=>cases a
theorem Bc{m:VD (VB×VB)}{l o:VB}(p:∀k∈m,k.1≠l):fJ (m++[(l,o)]) (i64 l)=C (i64 o)/\∀n,n≠i64 l->fJ (m++[(l,o)]) n=fJ m n:=by
 have r:m.find? (λk=>decide (k.1=l))=I:=VD.find?_eq_none.2 λk q=>by simpa using p k q
 refine⟨?_,λn t=>?_⟩
 .rw[eI,VD.find?_append,r];simp
 cases n with
 |int u j=>
  cases u with
  |i64=>rw[eI,eI,VD.find?_append];have:l≠j:=λk=>t (by rw[k]);simp[this]
  |_=>rfl
 |_=>rfl
theorem BI(p:aM s c y d a b)(x:Ok y f)(d0:f<2^20)(d4:d.length+64<2^20){q:eK}{rq:Sim.RV}(R:RQ rq q){h:VB}(d3:q.op.kind=1)(d2:h<64):
 Calls TP 40 #[pt s 0,.iface 136 (.agg (aQ h rq))] b (yA s c (Wt.step y h q).1 (d++(Wt.step y h q).2) y.tree a b):=by
 have b4:Wt.step y h q=if y.dp.length<8 then({y with aE:=y.aE+1,dp:=y.dp++[(y.next,y.now)],next:=y.next+1},[{al:=y.next,idx:=h}])else(y,[{idx:=h,err:=13}]):=by
  have b6:Wt.task h q=.enter:=by unfold Wt.task;rw[VK (by omega),VV (by omega)]
  unfold Wt.step;rw[b6]
 obtain⟨al,d8,e3,c8,aF,c9,e4,e2,e1,e0⟩:=rq;obtain⟨a9,c7,D,S⟩:=p.iU;have Q:a.hb<b.heap.size:=(Wh.1 D).1;have u:a.hb≠s:=λi=>by have:=p.ch;rw[<-i,D]at this;cases this
 have b5:a9.size=y.dp.length:=by
  have R:=x.wU;have:=S.size (l:=y.dp.map λi=>i64 i.1) ?_ Bb
  .rw[this,Ya]
  unfold Wt.keys at R;refine Zr.2 ((Zr.1 R).imp λk i=>?_);injection i with _ i
  omega
 have X:∀l:K,l.heap[a.hb]?=b.heap[a.hb]?->(Builtin.len_ #[96] 3 #[.map (C a.hb)]).run TP l=.ok (Vy M ((y.dp.length:E):VB)) l:=λl P=>by rw[<-b5];exact MT GS (P.trans D) 3
 rw[b4];by_cases W:y.dp.length<8
 .rw[VV W]
  obtain⟨b7,b8⟩:=Bc (m:=y.dp) (l:=y.next) (o:=y.now) λi t k=>by have:=x.key i.1 (WY.2 ⟨i,t,A⟩);omega
  have d1:=x.aE;have d5:=x.kI
  refine Ls (o:=Dm y.timeout c a.tb a.tw a.hb y.now y.aE y.next a.ov .nilFunc) (aE:=y.aE) (kI:=y.next) (now:=y.now) (q:=y.dp.length)
   (p:=λH=>Am s c {y with aE:=y.aE+1,dp:=y.dp++[(y.next,y.now)],next:=y.next+1} (d++[{al:=y.next,idx:=h}]) y.tree a b H)
   (a6:=λa1=>∃n m,a1=.map n m/\Mp NP n m (fJ (y.dp++[(y.next,y.now)]))) p.ch A Q X A rfl rfl u (by omega) (by omega) (by omega) (λl P=>?_) λl Z b0⟨a1,b3,n,m,b1,L⟩ z=>?_
  .obtain⟨n,m,v,L⟩:=S.put LQ GS (w:=l) (P.trans D) (k:=i64 y.next) ⟨_,A⟩ (i64 y.now) b7 b8;exact⟨_,v,n,m,A,L⟩
  subst b1;have d6:(rX b a.hb (.map n m)).heap.size=b.heap.size:=by simp[rX]
  have U:(rX b a.hb (.map n m)).heap[a.hb]?=C (.map n m):=by simp[rX,Q]
  have Y:∀g,g≠a.hb->(rX b a.hb (.map n m)).heap[g]?=b.heap[g]?:=λg o=>by simp[rX,WK,Xu o]
  obtain⟨a6,a4⟩:=p.hears U L (by omega) λg _ u=>Y g u
  obtain⟨a7,a5⟩:=a6.nums (w':=l) (now:=y.now) (aE:=y.aE+1) (kI:=y.next+1) b0 (by omega) λg o u=>by
   by_cases k:g=a.hb
   .rw[k,b3,U]
   rw[Y g k,z g (by omega) u k]
  refine(qL a7 (by omega) (e:={al:=y.next,idx:=h}) A rfl).mono λi c0⟨t,O,N,r,v⟩=>⟨t,O,N,(a4.trans a5).trans r,λg o=>VA (v g o)⟩
 rw[VK W];refine Dv (o:=Dm y.timeout c a.tb a.tw a.hb y.now y.aE y.next a.ov .nilFunc) (q:=y.dp.length) (p:=λH=>Am s c y (d++[{idx:=h,err:=13}]) y.tree a b H) p.ch A Q X (by omega) λl Z z=>?_;have a8:=p.old Z z;refine(qL a8 (by omega) (e:={idx:=h,err:=13}) A rfl).mono λi c0⟨t,O,N,r,v⟩=>⟨t,O,N,?_,λg o=>VA (v g o)⟩
 exact⟨by have:=r.size;omega,λg o b2=>by rw[r.keep g (by omega) b2,z g o],λg k=>by
  rcases r.more g k with k|k
  .exact VA k
  exact VC (by omega)⟩
end
end
variable{m:VE Vx}{h:K}{g:E}{t:E}{j:E}{p:Vx}{i:E}{d:E}
section
variable[Inhabited aV]
structure Sg where
 jE:dH
 outs:VD Out
 cnt:E
def vw(e:E->eK)(y:Sg)(d:E):Sg:=⟨(Wt.step y.jE d (e d)).1,y.outs++(Wt.step y.jE d (e d)).2,y.cnt+1⟩
def Es(e:E->eK)(y:Sg)(d:E):Sg:=⟨(Wt.eU y.jE d (e d) (Wt.look y.jE.tree (e d).op.path)).1,y.outs++[(Wt.eU y.jE d (e d) (Wt.look y.jE.tree (e d).op.path)).2],y.cnt+1⟩
def sO(e:E->eK)(d:E):VI:=decide ((e d).op.kind=8\/(e d).op.kind=9\/(e d).op.kind=10)
def Mc(e:E->eK)(y:Sg)(d:E):LR:=nN (Wt.look y.jE.tree (e d).op.path)
def Fp(e:E->eK)(rq:E->RV)(d:E):Vx:=.iface (if sO e d then 107 else if(e d).op.kind=1 then 136 else 140) (.agg (aQ d (rq d)))
def NQ(q:E)(y:dH)(r:VD Out)(m:E):Prop:=Ok y (q+m)/\r.length<=33*m
def UJ(q s:E)(o:VB)(y:Sg)(own a:E->Prop)(h:K):Prop:=∃f,aM s o y.jE y.outs f h/\own=aK s y.jE.tree f/\a=dE f/\NQ q y.jE y.outs y.cnt
def Vh(q s:E)(o:VB)(e:E->eK)(y:Sg)(d:E)(b:Vx)(own a:E->Prop)(h:K):Prop:=∃f p,b=.agg (iX (Wt.eU y.jE d (e d) (Wt.look y.jE.tree (e d).op.path)).2 p)/\aM s o (Es e y d).jE y.outs f h/\mg (Wt.eU y.jE d (e d) (Wt.look y.jE.tree (e d).op.path)).2 p h/\(∀g,p.1.ownBlock=C g\/p.2.ownBlock=C g->¬aK s (Es e y d).jE.tree f g)/\own=aK s (Es e y d).jE.tree f/\(a=λg=>dE f g\/p.1.ownBlock=C g\/p.2.ownBlock=C g)/\NQ q (Es e y d).jE (Es e y d).outs (Es e y d).cnt
theorem gX(b:∀e∈m.toList,NB e):¬aT m:=λ⟨d,a,c⟩=>b (.int .u8 a) (WW.2 (WN c)) a A
theorem Eu(y:dH)(b:VB)(e:eK)(a:CZ):(Wt.eU y b e a).1.tree=y.tree:=by
 unfold Wt.eU;split
 .rfl
 split
 .split
  .simp only;split<;>rfl
  rfl
 simp only;split<;>rfl
section
variable{o:VB}{r:VD Out}{f:kH}
theorem aM.Ei(l:aM s o y r f h)(b:aK s y.tree f g){T:VJ}{O:E×E}(a:h.heap[g]?=C (VH m T O)):¬aT m:=by
 refine gX ?_
 have S:NB f.ov:=λw e=>by rcases l.row.2 with⟨b,_⟩|⟨_,_,_,b,_⟩<;>(rw[b]at e;cases e)
 have base:∀(v:VD Vx),(∀k∈v,k=f.ov\/(match k with|.int .u8 _=>False|_=>True))->∀k∈v,NB k:=λv R k c w e=>by
  rcases R k c with b|b
  .exact S w (b.symm.trans e)
  rw[e]at b;exact b
 rcases b with rfl|b|b|rfl|b
 .rw[l.ch]at a;cases a;refine base _ λk c=>?_;simp only[Dm,Wo,Wx,Xo]at c;rcases c with rfl|rfl|rfl|rfl|rfl|rfl|rfl|rfl|rfl|rfl
  all_goals first|exact VC trivial|exact VA rfl
 .rcases b with rfl|⟨t,n,rfl|rfl⟩
  .obtain⟨U,u,D⟩:=l.top;rw[D]at a;cases a;refine base _ λk c=>VC ?_;simp only[Wo,Wx,Xo]at c;rcases c with rfl|rfl|rfl
   .trivial
   .trivial
   rcases u with rfl|⟨_,_,_,rfl⟩<;>trivial
  .obtain⟨i,q⟩:=Wn.1 n;rw[l.tree.nd t i q]at a;cases a;refine base _ λk c=>VC ?_;simp only[cV,Wo,Wx,Xo]at c;rcases c with rfl|rfl|rfl|rfl|rfl|rfl|rfl|rfl|rfl|rfl|rfl|rfl<;>trivial
  obtain⟨i,q⟩:=Wn.1 n;obtain⟨z,x,p,_⟩:=l.tree.kd t i q;rw[p]at a;cases a
 .rcases b with rfl|rfl|⟨d,t,n⟩
  .rw[l.bR.tb]at a;cases a;refine base _ λk c=>VC ?_;simp only[Wo,Wx,Xo]at c;rw[c];trivial
  .obtain⟨z,x,p,_⟩:=l.bR.mp;rw[p]at a;cases a
  rcases l.bR.row d t with⟨_,H,e⟩|⟨P,L,N,e,u,D,_,_,_,_,Q⟩
  .rw[e]at n;cases H<;>cases n
  rw[e]at n;have:P=g:=by
   cases L with
   |zero=>cases n
   |succ i=>simpa[rowOf]using n
  rw[<-this,u]at a;cases a;intro k c w e;obtain⟨i,q⟩:=Q k c;rw[q]at e;cases e
 .obtain⟨z,x,p,_⟩:=l.iU;rw[p]at a;cases a
 obtain⟨N,p,b⟩:=l.row.blk g b;rw[p]at a;cases a;exact b
theorem aM.forget(a:aM s o y r f h):∃l,nh (aK s y.tree f) h l/\aM s o y r f l/\∃b,(b=.tuple #[]\/∃i m,b=VG I i m)/\l.heap[f.tb]?=C (VH #[pt (f.nb []) 0,Vy M y.tree.length,b] 195 (0,0)):=by
 obtain⟨b,u,c⟩:=a.top;have Z:(b=.tuple #[]\/∃i m,b=VG I i m)->_:=λH=>(⟨h,⟨A,A,λ_=>VA A⟩,a,b,H,c⟩:∃l,nh (aK s y.tree f) h l/\aM s o y r f l/\∃b,(b=.tuple #[]\/∃i m,b=VG I i m)/\l.heap[f.tb]?=C (VH #[pt (f.nb []) 0,Vy M y.tree.length,b] 195 (0,0)));rcases u with rfl|⟨g,i,m,rfl⟩
 .exact Z (VA A)
 cases g with
 |none=>exact Z (VC ⟨i,m,A⟩)
 |some g=>
  have L:(h.setCell ⟨f.tb,2,I⟩ (.tuple #[])).heap[f.tb]?=C (VH #[pt (f.nb []) 0,Vy M y.tree.length,.tuple #[]] 195 (0,0)):=by have:=aB (l:=2) (g:=.tuple #[]) c;simpa using this
  have w:∀q,q≠f.tb->(h.setCell ⟨f.tb,2,I⟩ (.tuple #[])).heap[q]?=h.heap[q]?:=λq x=>ah x
  have a0:aM s o y r f (h.setCell ⟨f.tb,2,I⟩ (.tuple #[])):=by
   obtain⟨iV,Q,R,S,T,U,W⟩:=a.iV;have a3:=Q f.tb (VA A);have v:∀g,iV g≠0->(h.setCell ⟨f.tb,2,I⟩ (.tuple #[])).heap[g]?=h.heap[g]?:=λg u=>w g (λH=>u (H▸a3));have z:∀g,dE f g->(h.setCell ⟨f.tb,2,I⟩ (.tuple #[])).heap[g]?=h.heap[g]?:=λg e=>v g (by rw[W g e];decide);refine⟨a.tree.stay λY a2=>?_,⟨_,VA A,L⟩,a.wf,?_,?_,?_,?_,?_,?_,⟨iV,Q,R,S,T,U,W⟩⟩
   .obtain⟨i,N⟩:=Wn.1 a2;obtain⟨a6,a5,k,_⟩:=a.tree.kd Y i N;have O:=a.tree.nd Y i N;exact⟨w _ (λD=>by rw[D,c]at O;cases O),w _ (λD=>by rw[D,c]at k;cases k)⟩
   .exact a.bR.stay λg e=>v g (by rw[R g e];decide)
   .rw[v f.hb (by rw[S];decide)];exact a.iU
   .rw[v s (by rw[T];decide)];exact a.ch
   .exact a.row.stay λg e=>v g (by rw[U g e];decide)
   .exact⟨a.outs.1,λd X p u c=>by
     have:=a.outs.2 d X p u c;have k:=WG c
     exact⟨this.1.stay λg e=>by rw[z g (.inr (.inr ⟨p,k,.inl e⟩))],this.2.stay λg e=>by rw[z g (.inr (.inr ⟨p,k,.inr e⟩))]⟩⟩
   obtain⟨⟨a4,k⟩,c,a1⟩:=a.bF;exact⟨⟨a4,cf (z 1 (VA A)) k⟩,c.stay (by rw[z 4 (.inr (.inl A))]),by rw[aI];exact a1⟩
  refine⟨_,⟨aI,A,λq=>?_⟩,a0,_,VA A,L⟩;by_cases x:q=f.tb
  .subst x;refine VC ⟨VC (VA (VA A)),_,_,195,(0,0),c,L,A,λP a7 a8 n t=>?_⟩;rcases P with _|_|_|P
   .simp at n t;subst n t;exact VA A
   .simp at n t;subst n t;exact VA A
   .simp at n t;subst n t;exact VC ⟨A,trivial⟩
   simp at n
  exact VA (w q x)
theorem we(c:l.heap[t]?=(h.heap[t]?).map Sim.Obj.whole)(a:h.cell? ⟨t,j,I⟩=C p):l.cell? ⟨t,j,I⟩=C p:=by
 unfold K.cell? at a⊢
 rw[c];cases b:h.heap[t]? with
 |none=>rw[b]at a;simp at a
 |some d=>
  rw[b]at a;cases d with
  |cells m f e=>exact a
  |_=>simp at a
theorem aM.Sd(c:aM s o y r f h){P:Vx}(b2:P=.tuple #[]\/∃i m,P=VG I i m)(O:h.heap[f.tb]?=C (VH #[pt (f.nb []) 0,Vy M y.tree.length,P] 195 (0,0))){u:E->Prop}(b3:u 1){Y:E}(a6:o=Y){rq:E->RV}{e:E->eK}(a9:∀d,d<i->RQ (rq d) (e d))(a7:∀d,d<i->(e d).op.path.length<2^30):
 Kv u (nP y.tree f.nb f.mb f.tb) (λd=>nN (Wt.look y.tree (e d).op.path)) f.tb s Y i rq h:=by
 obtain⟨b8,b0,_⟩:=c.wf.root;have b1:(Wt.find y.tree []).isSome=J:=by rw[b0];rfl
 have v:∀a,(Wt.find y.tree a).isSome=J->nP y.tree f.nb f.mb f.tb (f.nb a):=λa k=>VC ⟨a,k,VA A⟩;have T:∀a,(Wt.find y.tree a).isSome=J->nP y.tree f.nb f.mb f.tb (f.mb a):=λa k=>VC ⟨a,k,VC A⟩;have U:∀{g m b4 a1},nP y.tree f.nb f.mb f.tb g->h.heap[g]?=C (VH m b4 a1)->¬aT m:=λN l=>c.Ei (VC (VA N)) l;refine⟨λg N=>?_,VA A,⟨_,_,_,c.ch,Xg _,by rw[<-a6];rfl,A,c.Ei (VA A) c.ch,λW Q p=>?_⟩,λd S b5 z b7=>?_⟩
 .rcases N with rfl|⟨a,k,rfl|rfl⟩
  .refine VA ⟨_,_,_,O,by simp,Xg _,U (VA A) O,λW Q p=>?_⟩;have b:=WW.2 (WN p);simp only[Wo,Wx,Xo]at b;rcases b with rfl|rfl|rfl
   .exact .ptr (v _ b1)
   .exact .int _ _
   rcases b2 with rfl|⟨_,_,rfl⟩
   .exact .bU
   exact .aP _ _
  .obtain⟨n,b⟩:=Wn.1 k;have l:=c.tree.nd a n b;refine VA ⟨_,_,_,l,by simp[cV],Xg _,U (v a k) l,λW Q p=>?_⟩;have q:=WW.2 (WN p);simp only[cV,Wo,Wx,Xo]at q;rcases q with rfl|rfl|rfl|rfl|rfl|rfl|rfl|rfl|rfl|rfl|rfl|rfl
   case inr.inr.inr.inr.inr.inr.inr.inr.inr.inr.inl=>
    split
    .exact .cH
    rename_i a5;exact .ptr (v _ (c.wf.up a a5 k))
   case inr.inr.inr.inr.inr.inr.inr.inr.inr.inr.inr=>exact .map (T a k)
   all_goals first|exact .string _|exact .int _ _
  obtain⟨n,b⟩:=Wn.1 k;obtain⟨L,H,l,D⟩:=c.tree.kd a n b;refine VC ⟨L,H,l,λa0 a4=>?_⟩;obtain⟨Q,t,a2,a3,x⟩:=D.key a0 a4;rw[a2,a3];refine⟨.string _,?_⟩;unfold cz at x;split at x
  .rename_i p;cases x;exact .ptr (v _ p)
  cases x
 .have q:=WW.2 (WN p);simp only[Dm,Wo,Wx,Xo]at q;rcases q with rfl|rfl|rfl|rfl|rfl|rfl|rfl|rfl|rfl|rfl
  case inr.inr.inr.inr.inr.inr.inr.inr.inl=>
   rcases c.row.2 with⟨R,_⟩|⟨_,_,_,R,_⟩<;>rw[R]
   .exact VA (.aP _ _)
   exact VC trivial
  all_goals first|exact VA (.int _ _)|exact VC trivial|exact VA .nilFunc
 obtain⟨⟨n,b⟩,_,_⟩:=c.bF
 have Z:lS y.tree f.nb f.mb b5:=⟨λw n b=>⟨_,by rw[z _ (.inl (v w (by rw[b];rfl))),c.tree.nd w n b];rfl⟩,λw n b=>by
  obtain⟨L,H,l,D⟩:=c.tree.kd w n b
  exact⟨L,H,by rw[z _ (.inl (T w (by rw[b];rfl))),l];rfl,D⟩⟩
 have a8:(rq d).path=bs (e d).op.path:=(a9 d S).path;have b6:=a7 d S;have:=Gl Z (we (z _ (VA (VA A))) (aa O 0 A)) c.wf (bs (e d).op.path) (we (z _ (VC b3)) b) (by show(e d).op.path.length<2^31;omega);rw[a8];exact this
end
section
variable{o q:E}{e:E->eK}{rq:E->RV}{u:E->Prop}
theorem rK:sO e d=J↔(e d).op.kind=8\/(e d).op.kind=9\/(e d).op.kind=10:=by unfold sO;exact decide_eq_true_iff
theorem GA{y:Sg}(a:sO e d=J)(c:d<64):Es e y d=vw e y d:=by
 have k:=rK.1 a
 have b:Wt.task d (e d)=.read:=by unfold Wt.task;rw[VK (by omega),VK (by omega),VK (by omega),VV (by omega)]
 unfold Es vw Wt.step;rw[b]
theorem QY(S:∀d,d<i->RQ (rq d) (e d))(Z:∀d,d<i->oE (e d).op)(U:∀d,d<i->(e d).op.kind=1\/(e d).op.kind=3\/(e d).op.kind=4\/(e d).op.kind=5\/(e d).op.kind=6\/(e d).op.kind=8\/(e d).op.kind=9\/(e d).op.kind=10)(c9:q<2^16)(d2:i<=64)(b8:u 1)(b4:1<=o/\o<2^16):
 HC (UJ q s o) (Vh q s o e) (Es e) (vw e) (Mc e) u s o i rq (sO e) (Fp e rq) Sg.cnt where
 TI:=λ_ _=>rfl
 QF:=λ_ _=>rfl
 sm:=λy own H h l a⟨f,b,c,k,z⟩=>⟨f,b.same (by rw[<-c,<-k];exact a),c,k,z⟩
 lt:=λy own H h⟨f,b,c,k,_⟩ g v=>by
  subst c k;rcases v with a|a
  .exact b.bm a
  exact b.kj a
 Ei:=λy own H h⟨f,b,c,k,_⟩ g v m e1 c8 Q=>by subst c k;exact b.Ei v Q
 pre:=λy own H h⟨f,b,c,k,z⟩=>by subst c k;obtain⟨l,b0,D,e2,x,N⟩:=b.forget;exact⟨l,_,f.tb,b0,⟨f,D,A,A,z⟩,λg v=>VC (VA v),D.Sd x N b8 A S λd U=>(Z d U).path⟩
 ev:=λy d=>by
  unfold Mc;cases Wt.look y.jE.tree (e d).op.path with
  |no n=>exact .iface _ _ _
  |yes a3=>exact .nil
 US:=λy d j=>by unfold Mc Es;simp only;rw[Eu]
 mh:=λy d b9 own H h l n⟨f,p,x,b,N,a6,a7,a8,a9⟩=>⟨f,p,x,b.old (by rw[n];exact Wl _) (λ_ _=>by rw[n]),⟨N.1.stay λg _=>by rw[n],N.2.stay λg _=>by rw[n]⟩,a6,a7,a8,a9⟩
 Qf:=λy d w iU Q own H h d4 e0⟨f,b,c,k,z⟩ b6 b1=>by
  subst c k;have b2:=rK.1 iU;have b5:=GA (y:=y) iU (by omega);obtain⟨q1,c6⟩:=z;obtain⟨Y,c0⟩:=Ok.step q1 d (e:=e d) (by omega) (by omega) (by omega)
  have W:NQ q (Es e y d).jE (Es e y d).outs (Es e y d).cnt:=by rw[b5];refine⟨Y,?_⟩;show(y.outs++_).length<=33*(y.cnt+1);rw[WI];omega
  refine(Pj b (S d w) b2 (λw=>?_) d A b6 b1).mono λn l⟨p,L,O,D,a0,a4,b7,X,R⟩=>⟨_,_,_,O,⟨L,p,A,D,X,λg v=>?_,A,A,W⟩,?_,λg v=>?_⟩
  .have x:=q1.key _ (gQ.1 w);have N:=q1.kI;omega
  .show¬aK s (Wt.eU _ _ _ _).1.tree L g;rw[a0];exact(R g v).1
  .show aJ _ (aK s (Wt.eU _ _ _ _).1.tree L) h l;rw[a0];exact a4
  rcases v with a|a
  .left;unfold dE at a⊢
   rw[<-b7];exact a
  right;have:=(R g a).2;omega
 snd:=λy d w iU Q b9 own H h⟨f,p,x,b,X,R,c,k,z⟩=>by
  subst c k x;have b3:=z.2
  have d1:y.outs.length+1<=33*(y.cnt+1):=by
   have:(Es e y d).outs.length=y.outs.length+1:=by show(y.outs++[_]).length=_;rw[WI,ZA]
   rw[<-this];exact b3
  refine(EY b (by omega) X R).mono λn l⟨O,d6,D,T⟩=>⟨_,_,O,⟨_,D,A,A,z⟩,T,λg v=>VA ?_⟩;rcases v with a|a|⟨a3,P,a⟩
  .exact VA (VA a)
  .exact VA (VC (VA a))
  rcases WL.1 P with P|P
  .exact VA (VC (VC ⟨a3,P,a⟩))
  rw[Xi.1 P]at a;exact VC a
 one:=λy d w iU Q own H h⟨f,b,c,k,z⟩=>by
  subst c k;have d3:¬((e d).op.kind=8\/(e d).op.kind=9\/(e d).op.kind=10):=λa=>by rw[rK.2 a]at iU;cases iU
  have d0:=U d w;obtain⟨q1,c6⟩:=z;obtain⟨Y,c0⟩:=Ok.step q1 d (e:=e d) (by omega) (by omega) (by omega)
  have W:NQ q (vw e y d).jE (vw e y d).outs (vw e y d).cnt:=by refine⟨Y,?_⟩;show(y.outs++_).length<=33*(y.cnt+1);rw[WI];omega
  have fin:∀{n l},yA s o (Wt.step y.jE d (e d)).1 (y.outs++(Wt.step y.jE d (e d)).2) y.jE.tree f h n l->∃a1 a2,n=VN (.tuple #[])/\UJ q s o (vw e y d) a1 a2 l/\aJ (aK s y.jE.tree f) a1 h l/\ij (dE f) a2 h.heap.size:=λ⟨O,L,D,T,a5⟩=>⟨_,_,O,⟨L,D,A,A,W⟩,T,a5⟩;unfold Fp;rw[VK (by rw[iU];decide)];by_cases x:(e d).op.kind=1
  .rw[VV x];exact(BI b q1 (by omega) (by omega) (S d w) x (by omega)).mono λn l a=>fin a
  rw[VK x];exact(BK b q1 (by omega) (by omega) (S d w) (Z d w) (by omega) (by omega)).mono λn l a=>fin a
 yes:=λd w iU=>by unfold Fp;rw[VV iU]
 no:=λd w iU=>⟨_,_,A,by
  rw[VK (by rw[iU];decide)]
  split<;>decide⟩
 Gt:=b4
 small:=by omega
end
end
variable{c:E}
section
variable{b aF e:VB}{i d:VX}{l:VI}{h:VL VT}{g f:E}
theorem fN(a:K)(b c:Obj):Below a.heap.size a ((a.alloc b).alloc c):=(fM a b).trans ((fM (a.alloc b) c).mono (by simp))
theorem Rn(m:0<=b/\b<64):Calls TP 38 #[i64 b,.agg #[i64 al,i64 1,.string i,.string d,i64 aF,i64 e,.bool l,.slice h g f]] a λc k=>c=VN (.iface 136 (.agg (rV b al 1 i d aF e l (.slice h g f))))/\Below a.heap.size a k:=by
 go_enter Tryz.func38,Tryz.ntmps38
 go_wp2
 go_ret;exact⟨A,fN a _ _⟩
theorem Ro(m:0<=b/\b<64):Calls TP 38 #[i64 b,.agg #[i64 al,i64 3,.string i,.string d,i64 aF,i64 e,.bool l,.slice h g f]] a λc k=>c=VN (.iface 140 (.agg (rV b al 3 i d aF e l (.slice h g f))))/\Below a.heap.size a k:=by
 go_enter Tryz.func38,Tryz.ntmps38
 go_wp2
 go_ret;exact⟨A,fN a _ _⟩
theorem Rp(m:0<=b/\b<64):Calls TP 38 #[i64 b,.agg #[i64 al,i64 4,.string i,.string d,i64 aF,i64 e,.bool l,.slice h g f]] a λc k=>c=VN (.iface 140 (.agg (rV b al 4 i d aF e l (.slice h g f))))/\Below a.heap.size a k:=by
 go_enter Tryz.func38,Tryz.ntmps38
 go_wp2
 go_ret;exact⟨A,fN a _ _⟩
theorem Rq(m:0<=b/\b<64):Calls TP 38 #[i64 b,.agg #[i64 al,i64 5,.string i,.string d,i64 aF,i64 e,.bool l,.slice h g f]] a λc k=>c=VN (.iface 140 (.agg (rV b al 5 i d aF e l (.slice h g f))))/\Below a.heap.size a k:=by
 go_enter Tryz.func38,Tryz.ntmps38
 go_wp2
 go_ret;exact⟨A,fN a _ _⟩
theorem Rr(m:0<=b/\b<64):Calls TP 38 #[i64 b,.agg #[i64 al,i64 6,.string i,.string d,i64 aF,i64 e,.bool l,.slice h g f]] a λc k=>c=VN (.iface 140 (.agg (rV b al 6 i d aF e l (.slice h g f))))/\Below a.heap.size a k:=by
 go_enter Tryz.func38,Tryz.ntmps38
 go_wp2
 go_ret;exact⟨A,fN a _ _⟩
theorem Rs(m:0<=b/\b<64):Calls TP 38 #[i64 b,.agg #[i64 al,i64 8,.string i,.string d,i64 aF,i64 e,.bool l,.slice h g f]] a λc k=>c=VN (.iface 107 (.agg (rV b al 8 i d aF e l (.slice h g f))))/\Below a.heap.size a k:=by
 go_enter Tryz.func38,Tryz.ntmps38
 go_wp2
 go_ret;exact⟨A,fN a _ _⟩
theorem Ru(m:0<=b/\b<64):Calls TP 38 #[i64 b,.agg #[i64 al,i64 9,.string i,.string d,i64 aF,i64 e,.bool l,.slice h g f]] a λc k=>c=VN (.iface 107 (.agg (rV b al 9 i d aF e l (.slice h g f))))/\Below a.heap.size a k:=by
 go_enter Tryz.func38,Tryz.ntmps38
 go_wp2
 go_ret;exact⟨A,fN a _ _⟩
theorem OZ(m:0<=b/\b<64):Calls TP 38 #[i64 b,.agg #[i64 al,i64 10,.string i,.string d,i64 aF,i64 e,.bool l,.slice h g f]] a λc k=>c=VN (.iface 107 (.agg (rV b al 10 i d aF e l (.slice h g f))))/\Below a.heap.size a k:=by
 go_enter Tryz.func38,Tryz.ntmps38
 go_wp2
 go_ret;exact⟨A,fN a _ _⟩
end
theorem Rw{b:E->eK}{rq:E->RV}(q:RQ (rq c) (b c))(o:(b c).op.kind=1\/(b c).op.kind=3\/(b c).op.kind=4\/(b c).op.kind=5\/(b c).op.kind=6\/(b c).op.kind=8\/(b c).op.kind=9\/(b c).op.kind=10)(t:c<64)(a:K):
 Calls TP 38 #[Vy M c,.agg (rq c).jF] a λp s=>p=VN (Fp b rq c)/\Below a.heap.size a s:=by
 have k:(0:VB)<=c/\(c:VB)<64:=by omega
 have m:=q.kind;unfold Fp sO;generalize (b c).op.kind=u at o m;obtain⟨n,r⟩:∃n,n=rq c:=⟨_,A⟩;rw[<-r]at m⊢
 obtain⟨al,v,i,d,aF,e,l,h,g,f⟩:=n;simp only at m;subst m;rcases o with rfl|rfl|rfl|rfl|rfl|rfl|rfl|rfl
 .exact Rn k
 .exact Ro k
 .exact Rp k
 .exact Rq k
 .exact Rr k
 .exact Rs k
 .exact Ru k
 exact OZ k
end Go.Sv
namespace Go.Sim
open Go.Conc Go.Proofs Go.RowKit
open Go.ConcN (PermW PermW.app PermW.of fork_knows WgLive RelBy sumTo)
open Go.ConcR (KK wgBlock WgAt stA smA rd wr mk DC0)
variable{c:VS}{T:VE VO}{e:K}{n:K}{b:E}{d:VO}{O:VE Wa}{f:Set}{m:E->Prop}{h:Ren}{y:bT}{q:K}{k:VY}{R:Loc->dw}
section
theorem Jv{g:VL (E×E)}{f:Outcome}(i:T[b]?=C d)(h:stepG c (b==0) d e=.ended f n O):
 runT c (crowd T e g) b=(.ended f n,VZ b d.frame.fn d.frame.place O):=by
 obtain⟨k,rfl⟩:=Wh.1 i;have l:=swapAt_of_lt k {(default:VO)with status:=.finished};show runT c {world:=e,gs:=T,rest:={timers:=#[],alone:=I,slice:=g}} b=_;unfold runT;simp only[l,h,GStep.es]
def Sr(c:VS)(f:Vx->K->Prop):eX:=λT q e k=>∃b n d,stepT c (crowd T q e)=(.ended b n,d)/\Go.Conc.Good c f (crowd T q e) b n (k++d)
variable[Inhabited aV]
section
variable{o:VD Ms}
theorem zT(t:dJ (aj c I) 0 o T q k R y d)(s:y.tag=I):∀b e,0<b->T[b]?=C e->∃g,QuitsD c g (Deaf k b) e/\Told k R b:=by
 intro b e p n;obtain⟨x,_,r,u⟩:=t.ok;have h:=r.each b e p n;have f:=u b p (Wh.1 n).1;generalize x b=w at h f;cases w with
 |lv g=>exact⟨g,h⟩
 |wk Q=>obtain⟨l,m,_⟩:=h;rw[s]at m;cases m
 |pr i v l z=>cases f
 |pb i v l z D P S=>cases f
 |pq i g=>cases f
theorem DO(m:dJ (aj c I) 0 o T q k R y d)(H:y.tag=I):k.HandedOver:=by
 intro b z r u⟨h,w,t,L⟩;obtain⟨g,f,n⟩:=Xf.1 r;have x:g.act.touch?=C h:=by have:k.act? b=C g.act:=act?_of f;rw[this]at w;exact w
 obtain⟨O,_,e,_⟩:=m.ok;have s:=e.ops b g f;rw[n]at s;obtain⟨N,_,told⟩:=zT m H z _ (by omega) (Wj s)
 obtain⟨j,P,i,p,l⟩:=told b g h f n x t (by
  by_cases v:R h.loc=.sync
  .right;rcases m.bF.NJ b h (by rw[Xm f];exact x) t v with e|⟨_,e⟩
   .exact L.resolve_left (λD=>D e)
   rw[r]at e;cases e;exact absurd A u
  exact VA v)
 refine⟨j,by simp[VY.g?,i,p],?_⟩;rcases l with rfl|l
 .rw[f]at i;cases i;exact absurd (n.symm.trans p) u
 exact l
structure Qt(q:K):Prop where
 heap:∀g,g<dq.heap.size->q.heap[g]?=dq.heap[g]?
 size:dq.heap.size<=q.heap.size
 os:q.os=dq.os
 out:q.output=dq.output
theorem Ow{D:Vx->K->Prop}(y:d.status=.running)(U:∀q,aU f h e q->Qt q->∃t,stepG c J d q=.ended (.done t) q #[]/\D t q):sG c I I (Sr c D) f m h e d:=by
 intro o
 induction (aj c I).wf.apply o with
 |intro o _ a6=>
  intro T q s k R g;have a1:∀p∈T,Go.Conc.awake p:=by
   intro p l;obtain⟨b,r,rfl⟩:=Xt.1 l;rcases WA b with rfl|w
   .have:T[0]=d:=by have:=g.me;simpa[Wj r]using this
    rw[this];exactλk L=>by rw[y]at L;cases L
   exact(aj c I).awake g.ok b _ w (Wj r)
  obtain⟨b,a7,n,N,r,a3,H⟩:=YO (P:=c) (w:=q) (sl:=s) a1 ⟨0,d,g.me,y⟩;have i:dJ (aj c I) 0 o T (q.at n) k R ⟨f,h,e,m,I⟩ d:=⟨(aj c I).at_ n g.ok,g.bF.at n,g.bg.at n,g.me,g.hears⟩;rcases WA b with rfl|w
  .obtain⟨t,u,v⟩:=U (q.at n) i.bg.rel ⟨i.bF.jH.heap,i.bF.jH.size,i.bF.jH.os,i.bF.jH.out⟩;refine cd.now ⟨_,_,_,H.trans (Jv g.me u),t,A,v,?_,?_,⟨λp l=>?_,A⟩,λj p l a8=>?_⟩
   .simpa[VZ]using g.bF.clean
   .simpa[VZ]using DO g A
   .obtain⟨j,a4,rfl⟩:=XM.1 l;have a5:j+1<T.size:=by simp[crowd]at a4;omega
    have a2:T[j+1]?=C (((crowd T q s).gs.toList.drop 1)[j]):=by
     simp only[crowd,VD.getElem_drop,VE.getElem_toList];rw[Wj a5]
     congr 2;omega
    obtain⟨z,x,_⟩:=zT g A (j+1) _ (by omega) a2;exact⟨z,x.leaves⟩
   obtain⟨z,x,_⟩:=zT g A j p (by omega) l;refine⟨z,?_⟩;have:=x.hears (crowd T q s).world;simpa[VZ,Deaf]using this
  obtain⟨Q,S,P,a9,O,u,v,W,X,Y,Z,a0⟩:=(aj c I).step N i.ok i.bF i.bg g.me y w r a3;exact cd.head (H.trans u) (a6 Q v S P N _ O ⟨X,Y,Z,W,a0.trans g.hears⟩)
end
section
variable{a:VO}
open Classical in
noncomputable def ew:Loc->dw:=λb=>if PS b then .ro else .iG 0
theorem KR(p:Base c h)(hrel:aU f h e dq)(z:ma f m e)(t:∀a i,h a i->m a)(v:∀a,m a->GD a):dJ (aj c I) 0 (tE (λ_=>.lv 0) 1) #[a] dq #[] ew ⟨f,h,e,m,I⟩ a:=by
 have low:∀k i,aA k i->i<dq.heap.size->ew k=.ro:=λk i u p=>by unfold ew;rw[VV ⟨i,u,p⟩]
 refine⟨⟨λ_=>.lv 0,A,⟨λb d r x=>?_,λb j L O r P s=>?_,λj _=>?_,λH w=>(by cases w),λq D n=>(by simp at n)⟩,λb r s=>rfl⟩,
  {clean:= ?_,mine:= ?_,low:= ?_,NJ:= ?_,norel:= ?_,OH:= ?_,iU:= ?_,row:= ?_,jH:=⟨low,λ_ _=>rfl,Wl _,A,A⟩},
  {base:=p,rel:=hrel,cY:=z,dv:=λa i o k y=>VC ⟨low k i y (hrel.right o),t a i o⟩,dY:= ?_,low:=⟨Wl _,λa i o _=>v a (t a i o)⟩},A,?_⟩
 .have:=(Wh.1 x).1;simp at this;omega
 .simp at s;omega
 .rfl
 .rintro S⟨b,j,_,⟨l,T,g,_⟩,_⟩;simp[VY.act?]at g
 .intro k b _ _ q l g;simp[touchAt,VY.act?]at g
 .intro b l g;simp[touchAt,VY.act?]at g
 .intro b l g;simp[touchAt,VY.act?]at g
 .intro a q n;simp[VY.act?]at n
 .intro q D l b n;simp at n
 .intro b l g;simp[touchAt,VY.act?]at g
 .intro k _ _ b l g;simp[touchAt,VY.act?]at g
 .intro a i _ k _ _ b l g;simp[touchAt,VY.act?]at g
 rfl
theorem EX{p:Vx->K->Prop}{o:VD Ms}(w:sG c I I (Sr c p) f m h e a)(x:dJ (aj c I) 0 o #[a] dq #[] R ⟨f,h,e,m,I⟩ a):
 ∃g last i n l,runNT c (g+1) (solo a dq) #[]=(.ended i n,l)/\runN c g (solo a dq)=.next last/\step c last=.ended i n/\Go.Conc.Good c p last i n l:=by
 obtain⟨g,s,r,v,l,D,i,n,H,u,z⟩:=w o #[a] dq I #[] R x;have t:runNT c g (solo a dq) #[]=(.next (crowd s r v),l):=D;refine⟨g,crowd s r v,i,n,l++H,?_,?_,?_,z⟩
 .rw[runNT_add,t];simp only[runNT,u]
 .rw[<-runNT_fst c g _ #[],t]
 show(stepT c _).1=_;rw[u]
end
end
variable{y:E}{D:eX}{T:VM}{N:VD VM}{z:VE Oper}{L:E}{U:VD E}{c:VQ}{q:VQ}{j:E}{s:E}{O:E}{u:Vx}{Y:VS}{d:VD Item}{Q:Oper}{w':K}
section
variable[Inhabited aV]
theorem FL{a5:Type}{c:VE a5}(b:c.size=42):∃d e q H X a0 a1 a2 a3 a4 f g h i k l m n o p r s t u v w x y z D L N O P Q R S T U W Y Z,c=#[d,e,q,H,X,a0,a1,a2,a3,a4,f,g,h,i,k,l,m,n,o,p,r,s,t,u,v,w,x,y,z,D,L,N,O,P,Q,R,S,T,U,W,Y,Z]:=by
 obtain⟨a⟩:=c;simp only[Xc]at b
 iterate 42
  rcases a with _|⟨_,a⟩
  simp at b
 rcases a with _|⟨_,a⟩
 .grind
 simp at b
def stepT{t:Type}(rd x:t->E->t)(H:E->VI)(a:t)(d:E):t:=if H d then rd a d else x a d
theorem Rg{d:E}{g:PD}{a8:VL dm}{l:Rt}{o:VD Item}{i k:E}(c7:ar.fr T.fn=J)(d0:T.kind≠.early)(d3:bM z L (C j) (.load 99 (.tmp i)))(c6:l.free (C j)=J)
 (b0:Inv TP ar m h e)(n:aw ar h l c q)(a6:c.tmps[i]?=C (pt k 0))(b9:h k g.bx)(d1:∃a9 w,e.heap[k]?=C (VH #[F] a9 w))(c9:j<c.tmps.size)
 (next:∀b v a,Inv TP ar m b a->cW m h e b a->a.heap=e.heap->aw ar b ⟨l.d0,(j,.chan (C g.rc))::l.kn⟩ (c.put (C j) F) v->sG TP (C (y,g,d)) a8 D ar m b a (rg (T.at v (VP z U::o)) N)):
 sG TP (C (y,g,d)) a8 D ar m h e (rg (T.at q (VP z (L::U)::o)) N):=by
 obtain⟨⟨e0,e4,a7,e5,e1,e3⟩,b5,P,a3,a4⟩:=d3;simp only at P a3 a4;subst P a3 a4;refine Il A λp a5 b8=>?_;obtain⟨a9,w,c0⟩:=b8;obtain⟨e6,e2,d2⟩:=d1;obtain⟨B,b6,b7⟩:=kX n a6;obtain rfl:B=g.bx:=(a5.inj _ _ _ _ b6 b9).1 A;have b3:q.eval (.tmp i)=pt g.bx 0:=by simp[Act.eval,b7]
 have b4:c.eval (.tmp i)=pt k 0:=by simp[Act.eval,a6]
 obtain⟨b,a,new,d7,d8,d9,d5,d6,b1,b2,c8,d4⟩:=oT (main:=J) (g:=o) (n:=N) (x:=U) ak c7 d0 b5 A (show iW TP ar.fn ar.bi ar.cj (.load 99 (.tmp i))=J by rfl) c6 b0 n (j:=j) A (N:=F)
  (λa7=>by rw[gZ (q:={e with tape:=a7}) A b4 d2];exact⟨A,A⟩) (gZ A b3 c0) (by rw[<-n.tmps.1];exact c9) a5
 exact⟨_,b,a,p,new,d7,d8,d9,d5,d6,A,next _ _ _ b1 b2 c8 d4⟩
section
variable{t:Type}{St:t->(E->Prop)->(E->Prop)->K->Prop}{a1:t->E->Vx->(E->Prop)->(E->Prop)->K->Prop}{rd x:t->E->t}{look:t->E->LR}{Z:E->Prop}{a2:E}{rq:E->RV}{H:E->VI}{X:E->Vx}{cnt:t->E}
variable{g:PD}{S:Ren}{r:K}{R a0:E->Prop}{W:t}
structure UG(Z m:E->Prop)(s O:E)(X:E->Vx)(g:PD)(S:Ren)(r:K)(R:E->Prop):Prop where
 dn:g.n=O
 dt:g.τ=X
 only:∀d,fg g.sh (g.τ d)
 sh:∀c,g.sh c->m c
 xl:∀c,Z c->m c
 NI:∀a,m a->a<r.heap.size/\¬R a
 JR:∀c,m c->∃b k,r.heap[c]?=C (VH b k (0,b.size))/\0<b.size/\(∀(L:E) a,b[L]?=C a->aR m a)/\¬aT b
 GF:∀i,(0<i\/i=TP.globals.size)->i<=TP.globals.size->m i
structure Ka(cnt:t->E)(St:t->(E->Prop)->(E->Prop)->K->Prop)(rd x:t->E->t)(H:E->VI)(rq:E->RV)(m:E->Prop)(s:E)(v:VD (E×Vx))(S:Ren)(r:K)(R a0:E->Prop)(W:t)(d:E)(a:VD E)(b:t)(h:Ren)(e:K)(c q:VQ):Prop where
 inv:Inv TP ar m h e
 grow:cW m S r h e
 rel:aw ar h ⟨[],v⟩ c q
 size:c.tmps.size=42
 defs:c.defers=[]
 Ut:c.tmps[0]?=C (pt s 0)
 st:∃own n o,c.tmps[6]?=C o/\St b own n e/\(gH R own r e/\ij a0 n r.heap.size)/\nL r.heap.size rq a o e/\∀i,o.ownBlock=C i->¬own i/\¬n i
 TL:a.foldl rd b=(VD.range d).foldl (stepT rd x H) W
 mem:∀p∈a,p<d/\H p=J
 len:cnt b+a.length=d
 QF:∀k,k<a.length->a.getD k 0=cnt b+k
def yz{t:Type}(St:t->(E->Prop)->(E->Prop)->K->Prop)(c:t)(own d:E->Prop)(e w':K):Prop:=∃a b,St c a b w'/\aJ own a e w'/\ij d b e.heap.size
def FE(h:E)(rq:E->RV)(f:VD E)(d:E)(mk:Vx->VQ)(b:K)(u:Vx)(g:VQ)(e:K):Prop:=
 ∃c,g=mk c/\nL h rq (f++[d]) c e/\b.heap.size<=e.heap.size/\(∀a,a<b.heap.size->u.ownBlock≠C a->e.heap[a]?=b.heap[a]?)/\∀a,c.ownBlock=C a->u.ownBlock=C a\/b.heap.size<=a
theorem nL.low{c:E}{rq:E->RV}{d:VD E}(f:nL c rq d u e){a:E}(b:u.ownBlock=C a):c<=a/\a<e.heap.size:=by
 rcases f with⟨rfl,_⟩|⟨i,g,h,rfl,k,l,_⟩
 .cases b
 cases b;grind
theorem Hq{a:VJ}(i:¬a=107)(e:K):(Instr.typeAssert (.iface a u) 101 107 J).run TP e=.ok (.tuple #[.agg #[Vy M 0,Vy M 0,Vy M 0,.string VX.empty,.string VX.empty,Vy M 0,Vy M 0,.bool Vz,VG I 0 0],.bool Vz]) e:=by have k:TP.underlying 107=C (.struct ((match TP.underlying 107 with|some (.struct b)=>b|_=>#[]))):=A;unfold Instr.typeAssert;simp only[Xx,Xd k,XJ,VK i];go_simp;rfl
theorem xx{i:Goal Y f J m}{o:Wc}{l:VE Wd}{P:VE VJ}{fn:Func}{a3:Code}(a7:T.kind≠.early)(a9:z[L]?=C Q)(b3:Region.wanted Q (yielded z c.tmps)=J)(b0:Q.op=.call {callee:=.value (.func o),args:=l,argTypes:=P})
 (a6:Y.funcs[o]?=C fn)(a8:(fn.name== "runtime.NumGoroutine")=Vz)(a4:fn.body=C a3)(b1:l.toList.all (dG Y f.fn)=J)(w:Inv Y f m h e){n:Rt}(a5:n.free Q.dst=J)(b2:aw f h n c q)
 {p:Vx->K->Prop}{k:VE Vx}(b6:l.map c.eval=k)(b7:Co i o k e p)
 (next:∀b v u a,Inv Y f m b a->cW m h e b a->aw f b n (c.put Q.dst u) v->p u a->i.G b a (rg (T.at v (VP z U::d)) N)):i.G h e (rg (T.at q (VP z (L::U)::d)) N):=
 Az a7 a9 b3 b0 a6 a8 a4 b1 w a5 b2 (by simp_all) next
theorem fold_succ(d:E)(a:t):(VD.range (d+1)).foldl (stepT rd x H) a=stepT rd x H ((VD.range d).foldl (stepT rd x H) a) d:=by rw[VD.range_succ,VD.foldl_append];rfl
theorem HC.push(i:HC St a1 rd x look Z s a2 O rq H X cnt){a:t}{own b:E->Prop}(k:St a own b e)(n:e.heap.size<=w'.heap.size)(l:∀c,c<e.heap.size->w'.heap[c]?=e.heap[c]?):St a own b w':=i.sm a own b e w' (vI (i.lt a own b e k) n l) k
theorem gH.old{own i:E->Prop}{a w2:K}(b:gH own i e a)(n:a.heap.size<=w2.heap.size)(l:∀c,c<a.heap.size->w2.heap[c]?=a.heap[c]?):gH own i e w2:=b.trans ⟨n,λc k _=>VA (l c k),λc b=>VA b⟩
noncomputable abbrev KF(D:eX)(y:E)(g:PD)(m:E->Prop)(d:E):Goal TP ar J m:=goalAt TP (C (y,g,d)) I D ar m
theorem Ba(o:HC St a1 rd x look Z s a2 O rq H X cnt)(G:UG Z m s O X g S r R){i3:Code}{p4:VD Item}(k4:(.block 0 (.loop i3):Code)=tl (hd (tl (tl (tl (tl (tl eM)))))))
 (last:∀a4 e6 h e c q,Ka cnt St rd x H rq m s [] S r R a0 W O a4 e6 h e c q->(goalAt TP I I D ar m).G h e (rg ((base 31).at q p4) N))
 {h:Ren}{e:K}{c q:VQ}(a:Ka cnt St rd x H rq m s [(15,.chan (C g.rc))] S r R a0 W 0 [] W h e c q):(KF D y g m 0).G h e (rg ((base 31).at q (.code (.block 0 (.loop i3))::p4)) N):=by
 obtain rfl:i3=(match tl (hd (tl (tl (tl (tl (tl eM))))))with|.block _ (.loop i3)=>i3|_=>.skip):=by rw[<-k4]
 clear k4;show(KF D y g m 0).G h e (rg ((base 31).at q (.code (.block 0 (.loop (.seq _ _)))::p4)) N);refine ia ?_;refine pX (c:=KF D y g m) (λj d h e q=>d+j=O/\∃a4 e6 c,Ka cnt St rd x H rq m s [(15,.chan (C g.rc))] S r R a0 W d a4 e6 h e c q) ?_ ?_ O (a:=0) ⟨by omega,_,_,_,a⟩
 .clear a h e c q;rintro j f6 d h e q⟨u1,a4,e6,c,a⟩;have f4:d<O:=by omega
  obtain⟨own,k1,v6,k2,d3,⟨a9,f9⟩,a5,d9⟩:=a.st;obtain⟨v3,o0⟩:=c;obtain⟨v4,b0,b7,b8,c9,d2,n,m1,j9,k0,b1,b2,b3,b4,b5,b6,v5,p7,m0,j4,j5,j6,j7,j8,i1,e7,e8,e9,f0,f7,f5,f1,d6,d7,d8,b9,c0,c6,c7,c8,d0,d1,rfl⟩:=FL a.size;have hd:o0=[]:=a.defs;subst hd;have l2:=a.Ut;simp only[WM,WX,WT,Wz]at l2 k2;subst l2 k2;obtain⟨i0,e4⟩:∃i0,X d=i0:=⟨_,A⟩;have hrel:=a.rel;have e3:=a.inv;refine bw (eB ?_);show sG TP (C (y,g,d)) I D ar m h e (rg ((base 31).at q (VP _ (0::[1])::_)) N);have e1:q.tmps[15]?=C (.chan (C g.rc)):=hrel.kn (15,_) (by simp);refine AY (n:=.nilIface) (FM (j:=16) (i:=15) (by decide) ⟨_,A,A,A,A⟩ e1 kW) (λ_ h8 g0=>?_) (λp=>absurd p (by rw[G.dn];omega));rw[yh ⟨_,_,A,A,A,A⟩];rw[G.dt,e4]at g0
  have d5:aw ar h ⟨[],[(15,.chan (C g.rc))]⟩ ⟨#[pt s 0,b0,b7,b8,c9,d2,n,m1,j9,k0,b1,b2,b3,b4,b5,b6,.tuple #[i0,.bool J],p7,m0,j4,j5,j6,j7,j8,i1,e7,e8,e9,f0,f7,f5,f1,d6,d7,d8,b9,c0,c6,c7,c8,d0,d1],[]⟩ (q.put (C 16) (.tuple #[h8,.bool J])):=by
   refine hrel.put (C 16) A (v:=.tuple #[i0,.bool J]) (.tuple A ?_);intro L w v7 a3 i6;rcases(by grind:L=0\/L=1)with rfl|rfl
   .simp_all
   simp at a3 i6;subst a3 i6;exact .bool _
  generalize q.put (C 16) (.tuple #[h8,.bool J])=s8 at d5⊢
  show(KF D y g m (d+1)).G h e _;refine uW ak (by decide) (by decide) (L:=C 17) (R:=.extract (.tmp 16) 1) ⟨_,A,A,A,A⟩ (W:=[15]) A (by rfl) (by decide) e3 d5 (λi f2=>i=⟨#[pt s 0,b0,b7,b8,c9,d2,n,m1,j9,k0,b1,b2,b3,b4,b5,b6,.tuple #[i0,.bool J],.bool J,m0,j4,j5,j6,j7,j8,i1,e7,e8,e9,f0,f7,f5,f1,d6,d7,d8,b9,c0,c6,c7,c8,d0,d1],[]⟩/\f2.heap=e.heap) (λw' v _ _ _ h7 y p=>?_) (λi f2 a w _=>by rw[a.2]) ?_
  .clear f6 a last a5 d3 a9 d9 hrel e3 e1 d5 f4 g0 o G e4
   go_wp2
  rintro s1 _ s9 f2 e0 f3 e5⟨rfl,e2⟩;refine bO (bw (iI (k:=J) (iJ e0.base e5 (by decide) A) (rJ (ia (bw ?_)))));refine bX ak (by decide) (by decide) (H:=[15]) A (by rfl) e0 e5 (λi a8=>i=⟨#[pt s 0,b0,b7,b8,c9,d2,n,i0,j9,k0,b1,b2,b3,b4,b5,b6,.tuple #[i0,.bool J],.bool J,i0,j4,j5,j6,j7,j8,i1,e7,e8,e9,f0,f7,f5,f1,d6,d7,d8,b9,c0,c6,c7,c8,d0,d1],[]⟩/\a8.heap=f2.heap) (λw' v _ _ _=>?_) (λi f2 a w _=>by rw[a.2]) ?_
  .clear f6 a last a5 d3 a9 d9 hrel e3 e1 d5 f4 g0 o G e4 e5 e0 f3 e2
   go_wp2
   exact⟨A,v⟩
  rintro z5 _ w9 a6 g1 g2 g4⟨rfl,h1⟩;have g3:a6.heap=e.heap:=h1.trans e2;refine bw (bw ?_);cases o9:H d with
  |true=>
   have s0:=o.yes d f4 o9;rw[e4]at s0;subst s0;obtain⟨⟨l3,l4,l5,l6,l7,l8,l9,l0,k9,l1⟩,k8⟩:∃v2,rq d=v2:=⟨_,A⟩;refine bX ak (by decide) (by decide) (H:=[15]) A (by rfl) g1 g4 (λi a8=>i=⟨#[pt s 0,b0,b7,b8,c9,d2,n,.iface 107 (.agg (aQ d (rq d))),pt a6.heap.size 0,.bool J,b1,b2,b3,b4,b5,b6,.tuple #[.iface 107 (.agg (aQ d (rq d))),.bool J],.bool J,.iface 107 (.agg (aQ d (rq d))),.tuple #[.agg (aQ d (rq d)),.bool J],.iface 107 (.agg (aQ d (rq d))),.tuple #[.agg (aQ d (rq d)),.bool J],.agg (aQ d (rq d)),.bool J,i1,e7,e8,e9,f0,f7,f5,f1,d6,d7,d8,b9,c0,c6,c7,c8,d0,d1],[]⟩/\a8.heap=a6.heap.push (.cells (aQ d (rq d)) 107 (0,0))) (λw' v _ _ _=>?_) ?_ ?_
   .rw[k8];unfold aQ;rw[<-v];clear f6 a last a5 d3 a9 d9 hrel e3 e1 d5 f4 g0 o G e4 e5 e0 f3 e2 g4 g1 g2 h1 g3 k8 v
    go_wp2
    rename_i t8;refine t8 _ _ ?_
    go_wp2
    exact⟨A,A⟩
   .grind [yd]
   rintro v9 _ t0 q0 g8 h0 g5⟨rfl,h4⟩;obtain⟨b,j0⟩:∃u,aQ d (rq d)=u:=⟨_,A⟩;rw[j0]at h4 g5;refine bw (bX ak (by decide) (by decide) (H:=[15]) A (by rfl) g8 g5 (λi a8=>i=⟨#[pt s 0,b0,b7,b8,c9,d2,n,.iface 107 (.agg b),pt a6.heap.size 0,.bool J,b1,b2,b3,b4,b5,b6,.tuple #[.iface 107 (.agg b),.bool J],.bool J,.iface 107 (.agg b),.tuple #[.agg b,.bool J],.iface 107 (.agg b),.tuple #[.agg b,.bool J],.agg b,.bool J,.bool J,e7,e8,e9,f0,f7,f5,f1,d6,d7,d8,b9,c0,c6,c7,c8,d0,d1],[]⟩/\a8.heap=q0.heap) (λw' v _ _ _=>?_) (λi f2 a w _=>by rw[a.2]) ?_)
   .clear f6 a last a5 d3 a9 d9 hrel e3 e1 d5 f4 g0 o G e4 e5 e0 f3 e2 g4 g1 g2 h1 g3 k8 g5 g8 h0 h4 j0
    go_wp2
    exact⟨A,v⟩
   rintro w0 _ t1 f8 g9 h9 h2⟨rfl,i9⟩;refine iI (k:=J) (iJ g9.base h2 (by decide) A) (bw ?_);have j1:a6.heap.size=e.heap.size:=by rw[g3]
   have u7:f8.heap.size=a6.heap.size+1:=by simp_all
   have q6:f8.heap[a6.heap.size]?=C (VH (aQ d (rq d)) 107 (0,0)):=by simp_all
   have i4:∀c,c<e.heap.size->f8.heap[c]?=e.heap[c]?:=λc a7=>by grind
   have r9:∀P,n.ownBlock=C P->P<e.heap.size:=λP d4=>by
    rcases a5 with⟨rfl,_⟩|⟨x8,x5,x6,rfl,_,x9,_⟩
    .cases d4
    cases d4;grind
   have r6:nL r.heap.size rq a4 n f8:=a5.kept λP d4=>i4 P (r9 P d4);have j3:r.heap.size<=e.heap.size:=a.grow.size;have u6:=o.small;have u0:=a.len;refine bX ak (by decide) (by decide) (H:=[15]) A (by rfl) g9 h2 (FE r.heap.size rq a4 d (λg7=>⟨#[pt s 0,b0,b7,b8,c9,d2,g7,.iface 107 (.agg b),pt a6.heap.size 0,.bool J,b1,b2,b3,b4,b5,b6,.tuple #[.iface 107 (.agg b),.bool J],.bool J,.iface 107 (.agg b),.tuple #[.agg b,.bool J],.iface 107 (.agg b),.tuple #[.agg b,.bool J],.agg b,.bool J,.bool J,n,.agg b,VG (C ⟨f8.heap.size,0,I⟩) 1 1,g7,f7,f5,f1,d6,d7,d8,b9,c0,c6,c7,c8,d0,d1],[]⟩) f8 n) (λw' v _ _ _=>?_) ?_ ?_
   .have p0:b=#[Vy M d,Vy M l3,Vy M l4,.string l5,.string l6,Vy M l7,Vy M l8,.bool l9,.slice l0 k9 l1]:=by rw[<-j0,k8];rfl
    have r5:∀Q,nL r.heap.size rq a4 n (w'.alloc Q):=λQ=>r6.kept λP d4=>by
     show(w'.heap.push Q)[P]?=_
     grind
    have r1:(w'.alloc (.cells #[Vy M d,Vy M l3,Vy M l4,.string l5,.string l6,Vy M l7,Vy M l8,.bool l9,.slice l0 k9 l1] 107)).heap[w'.heap.size]?=C (VH (aQ d (rq d)) 107 (0,0)):=by rw[j0,p0];show(w'.heap.push _)[_]?=_;simp
    have q7:∀h8 m2,nL r.heap.size rq (a4++[d]) h8 m2->(w'.alloc (.cells #[Vy M d,Vy M l3,Vy M l4,.string l5,.string l6,Vy M l7,Vy M l8,.bool l9,.slice l0 k9 l1] 107)).grownBy m2 n.ownBlock->(∀P,h8.ownBlock=C P->n.ownBlock=C P\/(w'.alloc (.cells #[Vy M d,Vy M l3,Vy M l4,.string l5,.string l6,Vy M l7,Vy M l8,.bool l9,.slice l0 k9 l1] 107)).heap.size<=P)->FE r.heap.size rq a4 d (λg7=>⟨#[pt s 0,b0,b7,b8,c9,d2,g7,.iface 107 (.agg b),pt a6.heap.size 0,.bool J,b1,b2,b3,b4,b5,b6,.tuple #[.iface 107 (.agg b),.bool J],.bool J,.iface 107 (.agg b),.tuple #[.agg b,.bool J],.iface 107 (.agg b),.tuple #[.agg b,.bool J],.agg b,.bool J,.bool J,n,.agg b,VG (C ⟨f8.heap.size,0,I⟩) 1 1,g7,f7,f5,f1,d6,d7,d8,b9,c0,c6,c7,c8,d0,d1],[]⟩) f8 n ((λg7=>⟨#[pt s 0,b0,b7,b8,c9,d2,g7,.iface 107 (.agg b),pt a6.heap.size 0,.bool J,b1,b2,b3,b4,b5,b6,.tuple #[.iface 107 (.agg b),.bool J],.bool J,.iface 107 (.agg b),.tuple #[.agg b,.bool J],.iface 107 (.agg b),.tuple #[.agg b,.bool J],.agg b,.bool J,.bool J,n,.agg b,VG (C ⟨w'.heap.size,0,I⟩) 1 1,g7,f7,f5,f1,d6,d7,d8,b9,c0,c6,c7,c8,d0,d1],[]⟩) h8) m2:=λh8 m2 q1 h5 h6=>⟨h8,by rw[v],q1,by
     have:=h5.size
     grind,λP d4 r0=>by
     have y1:P<w'.heap.size:=by rw[v];exact d4
     rw[h5.block P (by show P<(w'.heap.push _).size;simp;omega) (by intro p;exact r0 p.symm)];show(w'.heap.push _)[P]?=_
     grind,λP d4=>(h6 P d4).imp id λa=>by
     grind⟩
    have s3:=VF q7;have s6:=VF r5;have s4:=VF r1;have k4:=q6;rw[<-v,j0,p0]at k4;have cell:∀j u,#[Vx.int M d,Vy M l3,Vy M l4,.string l5,.string l6,Vy M l7,Vy M l8,.bool l9,.slice l0 k9 l1][j]?=C u->w'.cell? ⟨a6.heap.size,j,I⟩=C u:=λj u y8=>by simp_all [K.cell?]
    have x1:=cell 0 _ A;have c1:=cell 1 _ A;have c2:=cell 2 _ A;have c3:=cell 3 _ A;have c4:=cell 4 _ A;have c5:=cell 5 _ A;have x2:=cell 6 _ A;have x3:=cell 7 _ A;have x4:=cell 8 _ A;have y4:r.heap.size<=w'.heap.size+1:=by grind
    have t9:a4.length<2^30:=by omega
    clear q7 r5 r1 cell k4;subst p0;clear f6 a last a5 d3 a9 f9 d9 hrel e3 e1 d5 f4 g0 o G e4 e5 e0 f3 e2 g4 g1 g2 h1 g3 k8 g5 g8 h0 h4 j0 r6 i4 q6 u7 j1 h2 g9 h9 i9 r9 j3 u6 u0 v
    go_wp2_with (at_builtin;refine nR A _ _ A rfl rfl (s6.out _) s4.out t9 (by simp_all) ?_;intro h8 m2 q1 h5 h6)
    exact s3.out _ _ q1 h5 h6
   .rintro i a8⟨g7,_,_,y6,d4,_⟩ w a3;have t6:=(G.NI w a3).1;refine d4 w (by omega) λp=>?_;have:=a5.low p;omega
   rintro w1 _ t2 n6 i7 i8 j2⟨g7,rfl,u5,y7,y2,y0⟩;refine rI (id:=1) A ?_;have r3:∀c,c<e.heap.size->n.ownBlock≠C c->n6.heap[c]?=e.heap[c]?:=λc a7 r0=>by grind
   have u2:=o.lt e6 own k1 e d3;refine f6 (d+1) _ _ _ ⟨by omega,a4++[d],e6,_,⟨i7,((((a.grow.trans f3).trans g2).trans h0).trans h9).trans i8,j2,A,A,A,⟨own,k1,g7,A,?_,⟨?_,f9⟩,u5,?_⟩,?_,?_,?_,?_⟩⟩
   .refine o.sm e6 own k1 e n6 ⟨by omega,λc a7=>r3 c (u2 c (VA a7)) λp=>(d9 c p).1 a7,λc a7=>by grind⟩ d3
   .exact⟨by omega,λc a7 u3=>(a9.keep c a7 u3).trans (VA (r3 c (by omega) λp=>by have:=(a5.low p).1;omega)),a9.more⟩
   .grind
   .rw[VD.foldl_append,a.TL,fold_succ];simp_all [stepT]
   .intro w a3;rcases WL.1 a3 with a3|a3
    .exact⟨by have:=(a.mem w a3).1;omega,(a.mem w a3).2⟩
    simp_all
   .simp;omega
   intro m9 m6;rw[WI]at m6;simp only[WO,XG]at m6;by_cases p:m9<a4.length
   .have:=a.QF m9 p;simp_all
   obtain rfl:m9=a4.length:=by omega
   simp_all
  |false=>
   obtain⟨l,k,r2,i5⟩:=o.no d f4 o9;rw[e4]at r2;subst r2;refine bX ak (by decide) (by decide) (H:=[15]) A (by rfl) g1 g4 (λi a8=>i=⟨#[pt s 0,b0,b7,b8,c9,d2,n,.iface l k,pt a6.heap.size 0,.bool Vz,b1,b2,b3,b4,b5,b6,.tuple #[.iface l k,.bool J],.bool J,.iface l k,.tuple #[.agg #[Vy M 0,Vy M 0,Vy M 0,.string VX.empty,.string VX.empty,Vy M 0,Vy M 0,.bool Vz,VG I 0 0],.bool Vz],.iface l k,.tuple #[.agg #[Vy M 0,Vy M 0,Vy M 0,.string VX.empty,.string VX.empty,Vy M 0,Vy M 0,.bool Vz,VG I 0 0],.bool Vz],.agg #[Vy M 0,Vy M 0,Vy M 0,.string VX.empty,.string VX.empty,Vy M 0,Vy M 0,.bool Vz,VG I 0 0],.bool Vz,i1,e7,e8,e9,f0,f7,f5,f1,d6,d7,d8,b9,c0,c6,c7,c8,d0,d1],[]⟩/\a8.heap=a6.heap.push (.cells #[Vy M 0,Vy M 0,Vy M 0,.string VX.empty,.string VX.empty,Vy M 0,Vy M 0,.bool Vz,VG I 0 0] 107 (0,0))) (λw' v _ _ _=>?_) ?_ ?_
   .rw[<-v];have y5:=Hq (u:=k) i5 w';clear f6 a last a5 d3 a9 f9 d9 hrel e3 e1 d5 f4 g0 o G e4 e5 e0 f3 e2 g4 g1 g2 h1 g3 v i5
    go_wp2
    exact⟨A,A⟩
   .grind [yd]
   rintro v9 _ t0 q0 g8 h0 g5⟨rfl,h4⟩;refine bw (bX ak (by decide) (by decide) (H:=[15]) A (by rfl) g8 g5 (λi a8=>i=⟨#[pt s 0,b0,b7,b8,c9,d2,n,.iface l k,pt a6.heap.size 0,.bool Vz,b1,b2,b3,b4,b5,b6,.tuple #[.iface l k,.bool J],.bool J,.iface l k,.tuple #[.agg #[Vy M 0,Vy M 0,Vy M 0,.string VX.empty,.string VX.empty,Vy M 0,Vy M 0,.bool Vz,VG I 0 0],.bool Vz],.iface l k,.tuple #[.agg #[Vy M 0,Vy M 0,Vy M 0,.string VX.empty,.string VX.empty,Vy M 0,Vy M 0,.bool Vz,VG I 0 0],.bool Vz],.agg #[Vy M 0,Vy M 0,Vy M 0,.string VX.empty,.string VX.empty,Vy M 0,Vy M 0,.bool Vz,VG I 0 0],.bool Vz,.bool Vz,e7,e8,e9,f0,f7,f5,f1,d6,d7,d8,b9,c0,c6,c7,c8,d0,d1],[]⟩/\a8.heap=q0.heap) (λw' v _ _ _=>?_) (λi f2 a w _=>by rw[a.2]) ?_)
   .clear f6 a last a5 d3 a9 f9 d9 hrel e3 e1 d5 f4 g0 o G e4 e5 e0 f3 e2 g4 g1 g2 h1 g3 g5 g8 h0 h4 i5
    go_wp2
    exact⟨A,v⟩
   rintro w0 _ t1 f8 g9 h9 h2⟨rfl,i9⟩;refine iI (k:=Vz) (iJ g9.base h2 (by decide) A) (rJ (bw (eB ?_)));have j1:a6.heap.size=e.heap.size:=by rw[g3]
   have m8:f8.heap.size=e.heap.size+1:=by simp_all
   have i4:∀c,c<e.heap.size->f8.heap[c]?=e.heap[c]?:=λc a7=>by grind
   have j3:r.heap.size<=e.heap.size:=a.grow.size;refine uW ak (by decide) (by decide) (L:=C 29) (R:=.move (.tmp 0)) ⟨_,A,A,A,A⟩ (W:=[15]) A (by rfl) (by decide) g9 h2 (λi a8=>i=⟨#[pt s 0,b0,b7,b8,c9,d2,n,.iface l k,pt a6.heap.size 0,.bool Vz,b1,b2,b3,b4,b5,b6,.tuple #[.iface l k,.bool J],.bool J,.iface l k,.tuple #[.agg #[Vy M 0,Vy M 0,Vy M 0,.string VX.empty,.string VX.empty,Vy M 0,Vy M 0,.bool Vz,VG I 0 0],.bool Vz],.iface l k,.tuple #[.agg #[Vy M 0,Vy M 0,Vy M 0,.string VX.empty,.string VX.empty,Vy M 0,Vy M 0,.bool Vz,VG I 0 0],.bool Vz],.agg #[Vy M 0,Vy M 0,Vy M 0,.string VX.empty,.string VX.empty,Vy M 0,Vy M 0,.bool Vz,VG I 0 0],.bool Vz,.bool Vz,e7,e8,e9,f0,pt s 0,f5,f1,d6,d7,d8,b9,c0,c6,c7,c8,d0,d1],[]⟩/\a8.heap=f8.heap) (λw' v _ _ _ h7 y p=>?_) (λi f2 a w _=>by rw[a.2]) ?_
   .clear f6 a last a5 d3 a9 f9 d9 hrel e3 e1 d5 f4 g0 o G e4 e5 e0 f3 e2 g4 g1 g2 h1 g3 g5 g8 h0 h4 i5 h2 g9 h9 i9 i4 m8 j1 j3
    go_wp2
   rintro w1 _ t2 n6 i7 i8 j2⟨rfl,m5⟩;refine uW ak (by decide) (by decide) (L:=C 30) (R:=.move (.tmp 6)) ⟨_,A,A,A,A⟩ (W:=[15]) A (by rfl) (by decide) i7 j2 (λi a8=>i=⟨#[pt s 0,b0,b7,b8,c9,d2,n,.iface l k,pt a6.heap.size 0,.bool Vz,b1,b2,b3,b4,b5,b6,.tuple #[.iface l k,.bool J],.bool J,.iface l k,.tuple #[.agg #[Vy M 0,Vy M 0,Vy M 0,.string VX.empty,.string VX.empty,Vy M 0,Vy M 0,.bool Vz,VG I 0 0],.bool Vz],.iface l k,.tuple #[.agg #[Vy M 0,Vy M 0,Vy M 0,.string VX.empty,.string VX.empty,Vy M 0,Vy M 0,.bool Vz,VG I 0 0],.bool Vz],.agg #[Vy M 0,Vy M 0,Vy M 0,.string VX.empty,.string VX.empty,Vy M 0,Vy M 0,.bool Vz,VG I 0 0],.bool Vz,.bool Vz,e7,e8,e9,f0,pt s 0,n,f1,d6,d7,d8,b9,c0,c6,c7,c8,d0,d1],[]⟩/\a8.heap=n6.heap) (λw' v _ _ _ h7 y p=>?_) (λi f2 a w _=>by rw[a.2]) ?_
   .clear f6 a last a5 d3 a9 f9 d9 hrel e3 e1 d5 f4 g0 o G e4 e5 e0 f3 e2 g4 g1 g2 h1 g3 g5 g8 h0 h4 i5 h2 g9 h9 i9 i4 m8 j1 j3 j2 i7 i8 m5
    go_wp2
   rintro q2 _ x0 i2 m3 o1 p2⟨rfl,o8⟩;have q8:i2.heap=f8.heap:=o8.trans m5;have k6:∀c,c<e.heap.size->i2.heap[c]?=e.heap[c]?:=λc a7=>by simp_all
   have r7:i2.heap.size=e.heap.size+1:=by simp_all
   have o4:St e6 own k1 i2:=o.push d3 (by omega) k6;have h3:cW m S r q2 i2:=(((((a.grow.trans f3).trans g2).trans h0).trans h9).trans i8).trans o1;have o3:gH R own r i2:=a9.old (by omega) k6;have k7:∀c,m c->¬own c:=λc a7=>a9.free (G.NI c a7).1 (G.NI c a7).2
   obtain⟨p9,k5,o7⟩:=Ch (a:=i2) o (b3:=C (y,g,d+1)) (D:=D) (m:=m) (λz0 w2 y9 p=>by cases p;exact⟨G.only,G.sh⟩) o4 (a5.kept λP d4=>k6 P (a5.low d4).2) (λP d4=>(d9 P d4).1) (λw a3=>⟨by have:=(a.mem w a3).1;omega,(a.mem w a3).2⟩) a.QF (by have:=a.len;omega) G.xl k7
    (λc a7=>by
      obtain⟨i3,h7,v0,v1⟩:=G.JR c a7
      exact⟨i3,h7,by rw[h3.keep c a7];exact v0,v1⟩) G.GF
   have m7:∀c,m c->p9.heap[c]?=i2.heap[c]?:=λc a7=>by
    rcases k5.blk c with p|⟨p,_⟩
    .exact p
    simp_all
   refine AV k5 k7 ?_;have n7:Inv TP ar m q2 p9:=m3.keep m3.base m7;refine xx (l:=#[.tmp 29,.tmp 30]) (P:=#[76,103]) (by decide) A rfl rfl Tryz.func39 (by decide) A (by decide) n7 A p2 (by simp[Act.eval]) o7 λs2 t3 z1 n5 n8 o2 p3⟨u9,n1,n3,o5,k3,o6⟩=>?_;subst u9;have p1:aw ar s2 ⟨[],[(15,.chan (C g.rc))]⟩ ⟨#[pt s 0,b0,b7,b8,c9,d2,n,.iface l k,pt a6.heap.size 0,.bool Vz,b1,b2,b3,b4,b5,b6,.tuple #[.iface l k,.bool J],.bool J,.iface l k,.tuple #[.agg #[Vy M 0,Vy M 0,Vy M 0,.string VX.empty,.string VX.empty,Vy M 0,Vy M 0,.bool Vz,VG I 0 0],.bool Vz],.iface l k,.tuple #[.agg #[Vy M 0,Vy M 0,Vy M 0,.string VX.empty,.string VX.empty,Vy M 0,Vy M 0,.bool Vz,VG I 0 0],.bool Vz],.agg #[Vy M 0,Vy M 0,Vy M 0,.string VX.empty,.string VX.empty,Vy M 0,Vy M 0,.bool Vz,VG I 0 0],.bool Vz,.bool Vz,e7,e8,e9,f0,pt s 0,n,.tuple #[],d6,d7,d8,b9,c0,c6,c7,c8,d0,d1],[]⟩ t3:=p3;have q9:e.heap.size+1<=n5.heap.size:=by have:=k3.size;omega
   refine bO (bw (bX ak (by decide) (by decide) (H:=[15]) A (by rfl) n8 p1 (λi a8=>i=⟨#[pt s 0,b0,b7,b8,c9,d2,VG I 0 0,.iface l k,pt a6.heap.size 0,.bool Vz,b1,b2,b3,b4,b5,b6,.tuple #[.iface l k,.bool J],.bool J,.iface l k,.tuple #[.agg #[Vy M 0,Vy M 0,Vy M 0,.string VX.empty,.string VX.empty,Vy M 0,Vy M 0,.bool Vz,VG I 0 0],.bool Vz],.iface l k,.tuple #[.agg #[Vy M 0,Vy M 0,Vy M 0,.string VX.empty,.string VX.empty,Vy M 0,Vy M 0,.bool Vz,VG I 0 0],.bool Vz],.agg #[Vy M 0,Vy M 0,Vy M 0,.string VX.empty,.string VX.empty,Vy M 0,Vy M 0,.bool Vz,VG I 0 0],.bool Vz,.bool Vz,e7,e8,e9,f0,pt s 0,n,.tuple #[],d6,d7,d8,b9,c0,c6,c7,c8,d0,d1],[]⟩/\a8.heap=n5.heap) (λw' v _ _ _=>?_) (λi f2 a w _=>by rw[a.2]) ?_))
   .clear f6 a last a5 d3 a9 f9 d9 hrel e3 e1 d5 f4 g0 o G e4 e5 e0 f3 e2 g4 g1 g2 h1 g3 g5 g8 h0 h4 i5 h2 g9 h9 i9 i4 m8 j1 j3 j2 i7 i8 m5 p2 m3 o1 o8 q8 k6 r7 o4 h3 o3 k7 k5 o7 m7 n7 p3 n8 o2 p1 o5 k3 o6 q9
    go_wp2
    exact⟨A,v⟩
   rintro z3 _ w7 n4 q3 q4 r8⟨rfl,m4⟩;have q5:St (a4.foldl rd e6) n1 n3 n4:=o.push o5 (by simp_all) (λc _=>by rw[m4]);refine bX ak (by decide) (by decide) (H:=[15]) A (by rfl) q3 r8 (λi a8=>i=⟨#[pt s 0,b0,b7,b8,c9,d2,VG I 0 0,.iface l k,pt a6.heap.size 0,.bool Vz,b1,b2,b3,b4,b5,b6,.tuple #[.iface l k,.bool J],.bool J,.iface l k,.tuple #[.agg #[Vy M 0,Vy M 0,Vy M 0,.string VX.empty,.string VX.empty,Vy M 0,Vy M 0,.bool Vz,VG I 0 0],.bool Vz],.iface l k,.tuple #[.agg #[Vy M 0,Vy M 0,Vy M 0,.string VX.empty,.string VX.empty,Vy M 0,Vy M 0,.bool Vz,VG I 0 0],.bool Vz],.agg #[Vy M 0,Vy M 0,Vy M 0,.string VX.empty,.string VX.empty,Vy M 0,Vy M 0,.bool Vz,VG I 0 0],.bool Vz,.bool Vz,e7,e8,e9,f0,pt s 0,n,.tuple #[],pt s 0,.iface l k,.tuple #[],b9,c0,c6,c7,c8,d0,d1],[]⟩/\yz St (x (a4.foldl rd e6) d) n1 n3 n4 a8) (λw' v _ _ _=>?_) ?_ ?_
   .have r4:Calls TP 40 #[pt s 0,.iface l k] w' λp p8=>p=VN (.tuple #[])/\yz St (x (a4.foldl rd e6) d) n1 n3 n4 p8:=by
     have:=o.one (a4.foldl rd e6) d f4 o9 (by rw[pO o.TI];exact a.len) n1 n3 w' (o.push q5 (by simp_all) (λc _=>by rw[v]));rw[e4]at this;exact this.mono λp p8⟨n0,n2,q1,h5,h6,p6⟩=>⟨q1,n0,n2,h5,h6.heap v.symm,by simp_all⟩
    have s5:=VF r4;clear r4;clear f6 a last a5 d3 a9 f9 d9 hrel e3 e1 d5 f4 g0 o G e4 e5 e0 f3 e2 g4 g1 g2 h1 g3 g5 g8 h0 h4 i5 h2 g9 h9 i9 i4 m8 j1 j3 j2 i7 i8 m5 p2 m3 o1 o8 q8 k6 r7 o4 h3 o3 k7 k5 o7 m7 n7 p3 n8 o2 p1 o5 k3 o6 q9 r8 q3 q4 m4 q5 v
    go_wp2_with (go_at_call 40;refine s5.out.mono ?_;rintro p p8⟨rfl,u4⟩)
    exact⟨A,u4⟩
   .rintro i a8⟨_,n0,n2,h5,h6,p6⟩ w a3;have t6:=G.NI w a3;have t7:=h3.size;refine h6.keep w (by grind) ?_;exact k3.free (by omega) (k7 w a3)
   rintro z4 _ w8 z2 s7 t5 u8⟨rfl,n0,n2,h5,h6,p6⟩;have t7:=h3.size;have y3:n4.heap.size=n5.heap.size:=by rw[m4]
   refine AX (f6 (d+1) _ _ _ ⟨by omega,[],x (a4.foldl rd e6) d,_,⟨s7,?_,u8,A,A,A,⟨n0,n2,_,A,h5,⟨?_,?_⟩,VA ⟨A,A⟩,(λP d4=>by cases d4)⟩,?_,(λw a3=>by cases a3),by rw[o.QF,pO o.TI,a.len];rfl,(λm9 m6=>by cases m6)⟩⟩)
   .refine cW.trans (cW.trans (β₁:=s2) (w₁:=n5) ?_ q4) t5;have t4:cW m S r q2 p9:=⟨h3.le,h3.fresh,by rw[k5.size];exact h3.size,λc a7=>by rw[m7 c a7];exact h3.keep c a7⟩;exact t4.trans o2
   .exact((o3.trans k3).old (by omega) (λc _=>by rw[m4])).trans h6.qq
   .exact(f9.trans o6 (by omega)).trans p6 (by omega)
   rw[fold_succ,<-a.TL]
   grind [stepT]
 clear a h e c q;rintro d h e q⟨u1,a4,e6,c,a⟩;obtain rfl:d=O:=by omega
 obtain⟨own,k1,v6,k2,d3,⟨a9,f9⟩,a5,d9⟩:=a.st;obtain⟨v3,o0⟩:=c;obtain⟨v4,b0,b7,b8,c9,d2,n,m1,j9,k0,b1,b2,b3,b4,b5,b6,v5,p7,m0,j4,j5,j6,j7,j8,i1,e7,e8,e9,f0,f7,f5,f1,d6,d7,d8,b9,c0,c6,c7,c8,d0,d1,rfl⟩:=FL a.size;have hd:o0=[]:=a.defs;subst hd;have l2:=a.Ut;simp only[WM,WX,WT,Wz]at l2 k2;subst l2 k2;have hrel:=a.rel;have e3:=a.inv;refine bw (eB ?_);show sG TP (C (y,g,d)) I D ar m h e (rg ((base 31).at q (VP _ (0::[1])::_)) N);have e1:q.tmps[15]?=C (.chan (C g.rc)):=hrel.kn (15,_) (by simp);refine AY (n:=.nilIface) (FM (j:=16) (i:=15) (by decide) ⟨_,A,A,A,A⟩ e1 kW) (λp=>absurd p (by rw[G.dn];omega)) (λ_=>?_);rw[yh ⟨_,_,A,A,A,A⟩]
 have d5:aw ar h ⟨[],[]⟩ ⟨#[pt s 0,b0,b7,b8,c9,d2,n,m1,j9,k0,b1,b2,b3,b4,b5,b6,.tuple #[.nilIface,.bool Vz],p7,m0,j4,j5,j6,j7,j8,i1,e7,e8,e9,f0,f7,f5,f1,d6,d7,d8,b9,c0,c6,c7,c8,d0,d1],[]⟩ (q.put (C 16) (.tuple #[.nilIface,.bool Vz])):=by
  refine aw.less (d1:=⟨[],[(15,.chan (C g.rc))]⟩) ?_ A (by simp);refine hrel.put (C 16) A (v:=.tuple #[.nilIface,.bool Vz]) (.tuple A ?_);intro L w v7 a3 i6;rcases(by grind:L=0\/L=1)with rfl|rfl
  .simp at a3 i6;subst a3 i6;exact .nilIface
  simp at a3 i6;subst a3 i6;exact .bool _
 generalize q.put (C 16) (.tuple #[.nilIface,.bool Vz])=s8 at d5⊢
 show(goalAt TP I I D ar m).G h e _;refine uW ak (by decide) (by decide) (L:=C 17) (R:=.extract (.tmp 16) 1) ⟨_,A,A,A,A⟩ (W:=[]) A (by rfl) (by decide) e3 d5 (λi f2=>i=⟨#[pt s 0,b0,b7,b8,c9,d2,n,m1,j9,k0,b1,b2,b3,b4,b5,b6,.tuple #[.nilIface,.bool Vz],.bool Vz,m0,j4,j5,j6,j7,j8,i1,e7,e8,e9,f0,f7,f5,f1,d6,d7,d8,b9,c0,c6,c7,c8,d0,d1],[]⟩/\f2.heap=e.heap) (λw' v _ _ _ h7 y p=>?_) (λi f2 a w _=>by rw[a.2]) ?_
 .clear a last a5 d3 a9 f9 d9 hrel e3 e1 d5 o G
  go_wp2
 rintro s1 _ s9 f2 e0 f3 e5⟨rfl,e2⟩;refine bO (bw (iI (k:=Vz) (iJ e0.base e5 (by decide) A) (rI (id:=0) A ?_)));refine last a4 e6 _ _ _ _ ⟨e0,a.grow.trans f3,e5,A,A,A,⟨own,k1,_,A,o.push d3 (by simp_all) (λc _=>by rw[e2]),⟨a9.old (by simp_all) (λc _=>by rw[e2]),f9⟩,a5.kept (λP _=>by rw[e2]),d9⟩,a.TL,a.mem,a.len,a.QF⟩
end
end
variable{d:Vx}{e:E}{a:K}
section
variable[Inhabited aV]
theorem results31{b:VE Vx}(e:b[4]?=C d)(a:K):(results Tryz.f31 b).run TP a=.ok d a:=by have c:Tryz.f31.results=#[ResultVar.tmp 4]:=A;unfold results;rw[c];simp[go_sem,e]
structure Kg(b:E->Prop)(own t:E->Prop)(a r:K):Prop where
 size:a.heap.size<=r.heap.size
 keep:∀n,n<a.heap.size->¬own n->¬b n->fK a r n
 list:∀n,b n->r.heap[n]?=(a.heap[n]?).map Obj.whole
 more:∀n,t n->own n\/a.heap.size<=n
section
variable{f:Type}{St:f->(E->Prop)->(E->Prop)->K->Prop}{p:f->E->Vx->(E->Prop)->(E->Prop)->K->Prop}{rd k:f->E->f}{look:f->E->LR}{b:E->Prop}{q:E}{rq:E->RV}{i:E->VI}{o:E->Vx}{cnt:f->E}
variable{c h:E->Prop}{g:f}
theorem Is(H:HC St p rd k look b s q e rq i o cnt)(p1:cnt g=0){g5:VL VT}{h4:E}{Z:VE Vx}{h6:VJ}{a2:E×E}(L:Kp b a g5 e h4 rq o)(e7:a.heap[s]?=C (VH Z h6 a2))(l7:8<Z.size)(m5:a2.1=a2.2)(j0:¬b s)(m3:c s)(m9:∀l,m l->b l)(m8:∀l,GD l->m l)
 (h0:∀l,c l->l<a.heap.size/\¬b l)(f6:∀g4,CY a g4 s e h4 g5 Z h6 a2->St g c h (jI (rY b a.heap.size) g4))(out:∀k0 own O a,St k0 own O a->∃Z h6 a2 d,a.heap[s]?=C (VH Z h6 a2)/\Z[8]?=C d):
 Co (goalAt TP I I D ar m) 31 #[pt s 0,.slice g5 e h4] a λd t=>∃own O,St ((VD.range e).foldl (stepT rd k i) g) own O t/\t.cell? ⟨s,8,I⟩=C d/\Kg b c own a t/\ij h O a.heap.size:=by
 intro r2 s1 g6 l0 Q r next
 refine LK L e7 l7 m5 j0 m9 m8 Q r λe3 g4 i2 h5 h9 l1 i4 i3 U e9 a0 y f0 f5=>?_;have j3:∀l,b l->l<a.heap.size:=λl r=>by obtain⟨_,_,_,n,_⟩:=L.closed l r;exact(Wh.1 n).1
 obtain⟨Y,f4⟩:∃Y,(Ky s a.heap.size e h4 g5).tmps=Y:=⟨_,A⟩;have p7:Y.size=42:=by rw[<-f4];rfl
 have f7:Y[0]?=C (pt s 0):=by rw[<-f4];rfl
 have n6:Y[5]?=C (pt (a.heap.size+1) 0):=by rw[<-f4];rfl
 replace f5:aw ar e3 ⟨[],[]⟩ ⟨Y,[]⟩ i2:=by rw[<-f4];exact f5
 clear f4;obtain⟨q6,a6,b7,d3,g0,g3,S,d9,e0,e1,a7,a8,a9,b0,b1,b2,b3,b4,b5,b6,b8,b9,c0,c6,c7,c8,c9,d0,d1,d2,d4,d5,d6,d7,d8,n7,k1,h7,f8,f9,g1,g2,rfl⟩:=FL p7;simp only[WM,WX,WT,Wz]at f7 n6;subst f7 n6;show(KF D h5 h9 (rY b a.heap.size) 0).G e3 _ (rg ((base 31).at i2 [.code (.seq _ _)]) (g6::l0));obtain⟨u,z⟩:∃u,u=jI (rY b a.heap.size) g4:=⟨_,A⟩;rw[<-z]at a0 y⊢
 have N:=f6 g4 U;rw[<-z]at N;have p6:u.heap.size=a.heap.size+2:=by rw[z,pZ,U.size]
 refine bw (bX ak (by decide) (by decide) (H:=[]) A (by decide+kernel) a0 f5 (λw T=>w=⟨#[pt s 0,a6,b7,d3,g0,pt (a.heap.size+1) 0,VG I 0 0,d9,e0,e1,a7,a8,a9,b0,b1,b2,b3,b4,b5,b6,b8,b9,c0,c6,c7,c8,c9,d0,d1,d2,d4,d5,d6,d7,d8,n7,k1,h7,f8,f9,g1,g2],[]⟩/\T.heap=u.heap) (λt a1 _ _ _=>?_) (λw k3 n v _=>by rw[n.2]) ?_)
 .clear f5 N next H L e7 f6 out Q a0 y r U e9 z f0
  go_wp2
  exact⟨A,a1⟩
 rintro u8 _ s4 T k6 i5 n1⟨rfl,j1⟩;refine bw (bw (eB ?_));refine Rg (j:=15) (i:=5) (k:=a.heap.size+1) (by decide) (by decide) ⟨_,A,A,A,A⟩ A k6 n1 A (i5.le _ _ f0) ⟨99,_,by rw[j1,z,iH (.inr (.inr A)),U.h5];rfl⟩ (by simp) λr3 s5 n8 k7 l3 m6 n2=>?_;show(KF D h5 h9 (rY b a.heap.size) 0).G r3 n8 _;refine bO ?_;have f2:n8.heap=u.heap:=m6.trans j1
 have G:UG b (rY b a.heap.size) s e o h9 e3 u c:={
  dn:=l1
  dt:=i4
  only:=λq3=>by rw[i4,i3];exact L.only q3
  sh:=λl n=>VA (by rw[i3]at n;exact n)
  xl:=λl n=>VA n
  NI:=λv a4=>by
   rcases a4 with a4|rfl|rfl
   .exact⟨by have:=j3 v a4;omega,λf3=>(h0 v f3).2 a4⟩
   .exact⟨by omega,λf3=>by have:=(h0 _ f3).1;omega⟩
   exact⟨by omega,λf3=>by have:=(h0 _ f3).1;omega⟩
  JR:=λl r=>by obtain⟨o4,a5,t1,j7,j8,t5,q4⟩:=e9 l r;exact⟨o4,a5,by rw[z,iH r,j7];rfl,j8,q4⟩
  GF:=λe5 R p0=>VA (L.bF e5 R p0)}
 refine Ba (R:=c) (a0:=h) (W:=g) H G A ?_ ⟨k7,i5.trans l3,n2,A,A,A,⟨c,h,_,A,H.push N (by rw[f2];exact Wl _) (λl _=>by rw[f2]),⟨(gH.refl _ _).old (by rw[f2];exact Wl _) (λl _=>by rw[f2]),λl n=>VA n⟩,VA ⟨A,A⟩,(λe5 g9=>by cases g9)⟩,A,(λv a4=>by cases a4),by rw[p1];rfl,(λt6 p2=>by cases p2)⟩;clear f5 n1 n2 k6 i5 j1 k7 l3 m6 f2 N;intro r8 k0 u6 t l i2 n;obtain⟨own,O,u3,l6,N,⟨e8,g7⟩,h2,X⟩:=n.st;obtain⟨Y,o6⟩:=l;obtain⟨q6,a6,b7,d3,g0,g3,S,d9,e0,e1,a7,a8,a9,b0,b1,b2,b3,b4,b5,b6,b8,b9,c0,c6,c7,c8,c9,d0,d1,d2,d4,d5,d6,d7,d8,n7,k1,h7,f8,f9,g1,g2,rfl⟩:=FL n.size;have hd:o6=[]:=n.defs;subst hd;have f7:=n.Ut;simp only[WM,WX,WT,Wz]at f7 l6;subst f7 l6;refine bw (eB ?_);refine uW ak (by decide) (by decide) (L:=C 35) (R:=.move (.tmp 0)) ⟨_,A,A,A,A⟩ (W:=[]) A (by decide+kernel) (by decide) n.inv n.rel (λw T=>w=⟨#[pt s 0,a6,b7,d3,g0,g3,S,d9,e0,e1,a7,a8,a9,b0,b1,b2,b3,b4,b5,b6,b8,b9,c0,c6,c7,c8,c9,d0,d1,d2,d4,d5,d6,d7,d8,pt s 0,k1,h7,f8,f9,g1,g2],[]⟩/\T.heap=t.heap) (λt a1 _ _ _ a5 h5 x=>?_) (λw k3 n v _=>by rw[n.2]) ?_
 .clear n next H L e7 f6 out Q a0 y r e9 z f0 h2 X N e8 g7 G
  go_wp2
 rintro u9 _ s6 r1 i0 i6 j5⟨rfl,j2⟩;refine uW ak (by decide) (by decide) (L:=C 36) (R:=.move (.tmp 6)) ⟨_,A,A,A,A⟩ (W:=[]) A (by decide+kernel) (by decide) i0 j5 (λw T=>w=⟨#[pt s 0,a6,b7,d3,g0,g3,S,d9,e0,e1,a7,a8,a9,b0,b1,b2,b3,b4,b5,b6,b8,b9,c0,c6,c7,c8,c9,d0,d1,d2,d4,d5,d6,d7,d8,pt s 0,S,h7,f8,f9,g1,g2],[]⟩/\T.heap=r1.heap) (λt a1 _ _ _ a5 h5 x=>?_) (λw k3 n v _=>by rw[n.2]) ?_
 .clear n next H L e7 f6 out Q a0 y r e9 z f0 h2 X N e8 g7 G j5 i0 i6 j2
  go_wp2
 rintro k5 _ s7 e2 i1 l4 n3⟨rfl,m7⟩;have W:e2.heap=t.heap:=m7.trans j2;have m1:St k0 own O e2:=H.push N (by rw[W];exact Wl _) (λl _=>by rw[W]);have a3:cW (rY b a.heap.size) e3 u k5 e2:=(n.grow.trans i6).trans l4;have h1:∀l,rY b a.heap.size l->¬own l:=λl r=>e8.free (G.NI l r).1 (G.NI l r).2
 obtain⟨k2,g8,m4⟩:=Ch (a:=e2) H (b3:=I) (D:=D) (m:=rY b a.heap.size) (λt8 r6 t4 x=>by cases x) m1 (h2.kept λe5 g9=>by rw[W]) (λe5 g9=>(X e5 g9).1) n.mem n.QF (by have:=n.len;omega) G.xl h1
  (λl r=>by
    obtain⟨g6,a5,j7,j8⟩:=G.JR l r
    exact⟨g6,a5,by rw[a3.keep l r];exact j7,j8⟩) G.GF
 have j4:∀l,rY b a.heap.size l->k2.heap[l]?=e2.heap[l]?:=λl r=>by
  rcases g8.blk l with x|⟨x,_⟩
  .exact x
  exact absurd x (h1 l r)
 refine AV g8 h1 ?_;have k8:Inv TP ar (rY b a.heap.size) k5 k2:=i1.keep i1.base j4;refine xx (l:=#[.tmp 35,.tmp 36]) (P:=#[76,103]) (by decide) A rfl rfl Tryz.func39 (by decide) A (by decide) k8 A n3 (by simp[Act.eval]) m4 λr4 o3 u2 q9 k9 l5 n4⟨q0,n5,q7,i9,l9,m2⟩=>?_;subst q0;have n0:aw ar r4 ⟨[],[]⟩ ⟨#[pt s 0,a6,b7,d3,g0,g3,S,d9,e0,e1,a7,a8,a9,b0,b1,b2,b3,b4,b5,b6,b8,b9,c0,c6,c7,c8,c9,d0,d1,d2,d4,d5,d6,d7,d8,pt s 0,S,.tuple #[],f8,f9,g1,g2],[]⟩ o3:=n4;obtain⟨r5,u1,t2,h8,i7,j6⟩:=out _ _ _ _ i9;refine bO (bw (bX ak (by decide) (by decide) (H:=[]) A (by decide+kernel) k9 n0 (λw T=>w=⟨#[pt s 0,a6,b7,d3,h8,g3,S,d9,e0,e1,a7,a8,a9,b0,b1,b2,b3,b4,b5,b6,b8,b9,c0,c6,c7,c8,c9,d0,d1,d2,d4,d5,d6,d7,d8,pt s 0,S,.tuple #[],pt s 0,pt s 0,pt s 8,h8],[]⟩/\T.heap=q9.heap) (λt a1 _ _ _=>?_) (λw k3 n v _=>by rw[n.2]) ?_))
 .have t3:t.cell? ⟨s,8,I⟩=C h8:=by simp[K.cell?,a1,i7,j6]
  clear n next H L e7 f6 out Q a0 y r e9 z f0 h2 X N e8 g7 G j5 i0 i6 j2 n3 i1 l4 m7 W m1 a3 h1 g8 m4 j4 k8 k9 l5 n4 i9 l9 m2 n0 i7 j6 U l7 m5 j0 m3 h0 l1 i4 i3 j3 p6
  go_wp2
  exact⟨A,a1⟩
 rintro e4 _ o2 P o0 o8 p8⟨rfl,f1⟩;have m0:=H.push i9 (w':=P) (by rw[f1];exact Wl _) (λl _=>by rw[f1]);rw[n.TL]at m0;have l8:gH c n5 u P:=((e8.old (w2:=e2) (by rw[W];exact Wl _) (λl _=>by rw[W])).trans l9).old (by rw[f1];exact Wl _) (λl _=>by rw[f1]);refine Goal.pure _ A rfl (g₁:=rg {(base 31).at o2 [.code .ret]with mode:=.returning} (g6::l0)) (λs0=>by rw[be A];simp[stepG.exec,Frame.at,rg]) ?_
 have e6:cW (rY b a.heap.size) e3 u e4 P:=by have o7:cW (rY b a.heap.size) e3 u k5 k2:=⟨a3.le,a3.fresh,by rw[g8.size];exact a3.size,λl r=>by rw[j4 l r];exact a3.keep l r⟩;exact(o7.trans l5).trans o8
 have h3:∀l,m l->P.heap[l]?=a.heap[l]?:=λl r=>(e6.keep l (VA (m9 l r))).trans (y.keep l r);refine Ov (s:=e4) (l:=P) (u:=m) (λ_ _ n=>n) id (λ_ n=>n) (Q.cY.keep h3) m8 ?_;have n9:Inv TP ar m e4 P:=⟨o0.base,Q.cY.keep h3,Q.kC.keep h3⟩
 have l2:cW m r2 a e4 P:=⟨λv k4 n=>e6.le _ _ (y.le _ _ n),λv k4 q2=>by
  rcases e6.fresh v k4 q2 with R|R
  .exact y.fresh v k4 R
  exact VC (Wu y.size R),Wu y.size e6.size,h3⟩
 show(goalAt TP I I D ar m).G e4 P _;refine pP (W:=λd t=>∃own O,St ((VD.range e).foldl (stepT rd k i) g) own O t/\t.cell? ⟨s,8,I⟩=C d/\Kg b c own a t/\ij h O a.heap.size) ak (by decide) A (fn:=Tryz.f31) Tryz.func31 n9 A p8 A (Tp.all λa5=>⟨h8,results31 A _,n5,q7,?_,?_,?_,?_⟩) λd q8 r0 o1 o9 p9 L=>next e4 d q8 r0 o1 (l2.trans o9) p9 L
 .exact H.push m0 (Wl _) (λ_ _=>rfl)
 .simp[K.cell?,f1,i7,j6]
 .refine⟨l2.size,λl r X p5=>?_,λl r=>?_,λl r=>?_⟩
  .have p3:¬rY b a.heap.size l:=by
    rintro(n|n|n)
    .exact p5 n
    .omega
    omega
   have p4:l≠s:=λx=>X (x▸m3);have i8:u.heap[l]?=a.heap[l]?:=by rw[z,tT p3,U.old l r p4]
   exact fK.trans (VA i8) (l8.keep l (by omega) X)
  .have i8:u.heap[l]?=(a.heap[l]?).map Obj.whole:=by rw[z,iH (.inl r),U.old l (j3 l r) (λx=>j0 (x▸r))]
   have:=e6.keep l (VA r);show P.heap[l]?=_;rw[this,i8]
  rcases l8.more l r with R|R
  .exact VA R
  exact VC (by omega)
 exactλl r=>(g7.trans m2 (by rw[W];exact n.grow.size) l r).imp id λn=>by omega
end
end
variable{d:VS}{c:K}{e:VM}{l:VD VM}{S:Exit->VQ->K->Prop}{s:VQ}{id:E}{Q:E}{H:VO}{p:VD Item}{R:VD E}{t:VQ}{y:Vx}{q:K}{U:K}{O:Oper}
section
variable[Inhabited aV]
section
variable{main:VI}{r:Goal d f main m}
variable{u:Rt}
def He(m:E->Prop)(c b:K):Prop:=∀a,m a->b.heap[a]?=c.heap[a]?
theorem FB(a:VD Oper):∀p,(∀j,j<a.length->a[j]?=z[p+j]?)->wpOps d z S (VD.range' p a.length)=wpList d z S a:=by
 induction a with
 |nil=>intro p _;funext s c;simp[wpOps,wpList]
 |cons O a g=>
  intro p b;have e:z[p]?=C O:=by simpa using(b 0 (by simp)).symm
  have h:=g (p+1) λj f=>by have:=b (j+1) (by simpa using f);simpa[Y_,Z_ 1]using this
  funext s c
  simp only[WO,VD.range'_succ,wpOps,e,wpList,h]
theorem bn(n:Good d f)(w:f.fr e.fn=J)(P:e.kind≠.early){a:VD Oper}{i:VD E}(T:u.kn.map (·.1)=i)(W:rR d f i a.toArray=J)
 (v:∀b:K,b.heap=c.heap->b.os=c.os->b.output=c.output->wpList d a.toArray (gL λo k=>He m c k/\S .normal o k) a s b):CW r e u l (.region id a.toArray Vz) S s c:=
 mz n w P (qy T W) (λX=>v _ A rfl rfl) (λ_ _ g=>g.1) λ_ _ g=>g.2
theorem eP(b:z.size=Q)(a:CO r e u l z (VD.range' 0 Q) S s c):CW r e u l (.region id z Vz) S s c:=
 xy (by rw[ZN,b];exact a)
def NM(r:Goal d f main m)(e:VM)(u x:Rt)(l:VD VM)(z:VE Oper)(a:VD E)(S:Exit->VQ->K->Prop)(s:VQ)(c:K):Prop:=
 ∀(h:Ren)(p:VD Item)(t:VQ),Inv d f m h c->aw f h x s t->kl d f main m r e u l p S h c->r.G h c (rg (e.at t (VP z a::p)) l)
theorem nl{a:VD E}(b:NM r e u u l z a S s c):CO r e u l z a S s c:=b
theorem yQ{x:Rt}{a:VD E}(hd:x.d0=u.d0)(g:∀k∈u.kn,k∈x.kn)(d:CO r e u l z a S s c):NM r e u x l z a S s c:=
 λh p t b i f=>d h p t b (i.less hd g) f
theorem yR{x:Rt}{more:VD E}{i:VL Tmp}{k:Op}(v:Good d f)(a3:f.fr e.fn=J)(a4:e.kind≠.early)(a6:bM z L i k){o:VD E}(a5:x.kn.map (·.1)=o)(a7:iW d f.fn f.bi f.cj k=J)(a2:(o.all λp=>i !=C p)=J)
 (a0:∀a:K,a.heap=c.heap->a.os=c.os->a.output=c.output->∀b1 b0 W,(⟨i,k,b1,b0,W,I⟩:Oper).wp d s a (λg b=>He m c b/\NM r e u x l z more S g b) (gL λ_ _=>False)):NM r e u x l z (L::more) S s c:=
 λh p t w a8 a1=>uW v a3 a4 a6 a5 a7 a2 w a8 (λg b=>He m c b/\NM r e u x l z more S g b) (λa X b3 Y Z=>a0 a X Y Z) (λ_ _ n=>n.1)
  λb2 g T b P N a9 n=>n.2 b2 p T P a9 (a1.grow N)
end
section
variable{N:VO}{r:dc}
theorem Ox(b4:H.status=.running)(a7:∀q,Qt q->∃k:VE Wa,stepG d J H q=.go N q k/\∀a∈k,a.write=Vz/\∃i,a.loc=.cell i/\i.block<dq.heap.size)(next:sG d r I D f m h c N):sG d r I D f m h c H:=by
 intro a a6 q b1 X P b;refine kN (p:=aj d r) b4 (λa a6 q b1 X P b=>?_) a a6 q b1 X P b;have jH:=b.bF.jH;obtain⟨k,a8,Z⟩:=a7 q ⟨jH.heap,jH.size,jH.os,jH.out⟩;refine⟨_,_,_,iL (c:=d) b.me a8,?_⟩
 have b2:∀o∈VZ 0 H.frame.fn H.frame.place k,∀i,o.act.touch?=C i->∃e,aA i.loc e/\e<dq.heap.size/\i.write=Vz:=λo n i a3=>by
  obtain⟨a,g,rfl⟩:=Go.Conc.mem_ofEvents n;obtain⟨q1,a5,W,b6⟩:=Z a g;rcases vU a3 with⟨Y,b7,_⟩|⟨a4,Y⟩
  .exact⟨a5.block,VC ⟨a5,by rw[Y,W],A⟩,b6,by rw[b7,q1]⟩
  rw[W]at Y;cases Y
 have w:∀a∈k,∀a4,a.loc≠.mark a4:=λa g a4 T=>by obtain⟨_,a5,W,_⟩:=Z a g;rw[W]at T;cases T
 have a2:jM X q q P P 0 (VZ 0 H.frame.fn H.frame.place k):={
  size:=Wl _
  os:=A
  out:=A
  heap:=λe _=>VC (VC (VA A))
  old:=λ_ _ _ _=>rfl
  new:=λb9 e _ a8 Z=>by omega
  touch:=λo n i a3 T=>by obtain⟨e,b0,a1,b5⟩:=b2 o n i a3;have a9:=jH.ro i.loc e b0 a1;refine⟨sY _ _ _ _ o n,e,b0,Ws a1 jH.size,VC ⟨Ws a1 jH.size,VC (VA ⟨a9,b5,b.bF.row i.loc T a9⟩)⟩⟩
  norel:=dX λa g s v=>w a g _ v
  iU:=VC ⟨b.hears,λo n=>by
   obtain⟨a,g,rfl⟩:=Go.Conc.mem_ofEvents n
   exact⟨A,λv=>w a g _ (fC v),λv=>w a g _ (fC v)⟩⟩}
 have hd:Deaf (X++VZ 0 H.frame.fn H.frame.place k) 0=0:=by rw[Yt,b.hears];exact w_ (λa g=>⟨w a g _,w a g _⟩) 0
 exact next _ _ _ _ _ _ ⟨zD b a2 (sY _ _ _ _) A (Ren.le_refl _) (λ_ _ _ _ _ _ _ _ _=>rfl) (λb3 a0=>by cases a0) (λc7 a7 b3 a0=>by cases a0),b.bF.step a2,b.bg.stay a2 (λ_ _ _=>rfl),by rw[Wq (by simpa using(Wh.1 b.me).1)],hd⟩
end
section
variable{u x:Rt}
theorem Cr{main:VI}{g:VL Tmp}{m:Op}{new:VE Wa}(o:e.kind≠.early)(v:bM z L g m)(u:∀fn,d.funcs[e.fn]?=C fn->fn.norace=Vz)(b:∀i h a,(execOp t.eval ⟨g,m,i,h,a,I⟩).runT d q #[]=(.ok (.value y) U,new))(r:∀a∈new,∀w,a.loc≠.mark w):
 stepG d main (rg (e.at t (VP z (L::R)::p)) l) q=.go (rg (e.at (t.put g y) (VP z R::p)) l) U new:=by
 obtain⟨⟨x,D,i,h,a,H⟩,n,c,f,k⟩:=v;simp only at c f k;subst c f k;have b:=b i h a;rw[Zb]at b;have c:=(Zc b).1;have f:=(Zc b).2;have:=Go.Conc.stepG_value (P:=d) (main:=main) (a:=t) (b:=e) (k:=p) (cs:=l) (rest:=R) n A o c;refine aac this ?_;rw[listed,f,seen_cells u r];rfl
theorem ja(a7:∀fn,d.funcs[e.fn]?=C fn->fn.norace=Vz)(a6:e.kind≠.early){more:VD E}{w:Op}(a8:bM z L (C j) w){P V:Vx}(a3:x.free (C j)=J)(a4:j<s.tmps.size)
 (b0:∀q,Qt q->∀i:Wd->Vx,(∀a y,(a,y)∈x.kn->i (.tmp a)=y)->(∀k,i (.const k)=k)->(∀(a:E) p Q,s.tmps[a]?=C (.int p Q)->i (.tmp a)=.int p Q)->∃new:VE Wa,(∀b4 b2 b,(execOp i ⟨C j,w,b4,b2,b,I⟩).runT d q #[]=(.ok (.value V) q,new))/\∀b∈new,b.write=Vz/\∃T,b.loc=.cell T/\T.block<dq.heap.size)
 (b1:∀h:Ren,an f h P V)(next:NM (goalAt d I I D f m) e u ⟨x.d0,(j,V)::x.kn⟩ l z more S (s.put (C j) P) c):NM (goalAt d I I D f m) e u x l z (L::more) S s c:=by
 intro h p t W g a1;have a5:j<t.tmps.size:=by rw[<-g.tmps.1];exact a4
 have a9:(t.put (C j) V).tmps[j]?=C V:=by simp[Act.put,a5]
 refine Ox (N:=rg (e.at (t.put (C j) V) (VP z more::p)) l) A (λq a0=>?_) (next h p _ W ((g.put (C j) a3 (b1 h)).more a9) a1)
 obtain⟨new,X,o⟩:=b0 q a0 t.eval (λa y n=>by have:=g.kn (a,y) n;simp[Act.eval,WB,this]) (λk=>rfl) (λa p Q n=>by
  obtain⟨b6,Y,Z⟩:=g.tmps.get n;cases Z
  simp[Act.eval,WB,Y])
 exact⟨new,Cr a6 a8 a7 X (λb a2 b5 v=>by obtain⟨_,b7,b3,_⟩:=o b a2;rw[b3]at v;cases v),o⟩
end
section
variable{r:Goal d f J m}
variable{u x:Rt}
def TE(r:Goal d f J m)(p:Wc)(q:VD (E×Vx))(o:VE Vx)(c:K)(n:Vx->K->Prop):Prop:=
 ∀(h:Ren)(e:VE Vx)(g:VM)(l:VD VM),Inv d f m h c->ax f h o e->(∀i∈q,e[i.1]?=C i.2)->
  (∀b y k a,Inv d f m b a->cW m h c b a->an f b y k->n y a->r.G b a (rg (g.finish k) l))->r.G h c (rg (Frame.enter d p e .normal) (g::l))
theorem Lf(z:Good d f){a:Wc}{u:VD (E×Vx)}{k:VE Vx}{fn:Func}{n:Code}(Z:f.fr a=J)(t:d.funcs[a]?=C fn)(X:fn.body=C n){g:Vx->K->Prop}
 (T:∀i l,CW r (base a) ⟨[],u⟩ (i::l) n S ⟨k++Array.replicate (fn.ntmps-k.size) F,[]⟩ c)
 (U:∀b s c,S b s c->(b=.normal\/b=.ret)/\s.defers=[]/\∀e,∃y,(results fn s.tmps).run d {c with tape:=e}=.ok y {c with tape:=e}/\g y {c with tape:=e}):TE r a u k c g:=by
 intro h m i l D p a0 next
 have Q:Frame.enter d a m .normal=(base a).at ⟨m++Array.replicate (fn.ntmps-m.size) F,[]⟩ [.code n]:=by simp[Frame.enter,Frame.at,base,t,X]
 rw[Q];refine T i l h [] _ D ⟨by rw[<-p.1];exact p.append (ax.replicate _ aY),⟨[],A,.nil⟩,λa5 a1=>?_⟩ λb x O P w H N a3 a6=>?_
 .have o:=a0 a5 a1;rw[XV (Wh.1 o).1];exact o
 obtain⟨Y,hd,a2⟩:=U b O w a6
 have fin:∀v,r.G x w (rg {(base a).at P v with mode:=.returning} (i::l)):=λv=>pP z Z A t H A a3 hd (W:=g) (Tp.all λe=>a2 e) λy a7 a8 L R a4 W=>next x y a7 a8 L (N.trans R) a4 W
 rcases Y with rfl|rfl
 .exact r.pure A rfl (λq=>by rw[be A];simp[stepG.exec,Frame.at,rg]) (fin [])
 exact fin
theorem Lg{more:VD E}{b:Wc}{a3:VD (E×Vx)}{a:VE Wd}{a6:VE VJ}{fn:Func}{a7:Code}(b3:e.kind≠.early)(b2:x.free O.dst=J)(a1:z[L]?=C O)(c6:Region.wanted O (yielded z s.tmps)=J)(b7:O.op=.call {callee:=.value (.func b),args:=a,argTypes:=a6})
 (a0:d.funcs[b]?=C fn)(b5:(fn.name== "runtime.NumGoroutine")=Vz)(Z:fn.body=C a7)(a2:a.toList.all (dG d f.fn)=J)(b4:∀i∈a3,∃n,a[i.1]?=C (.tmp n)/\(n,i.2)∈x.kn){X:Vx->K->Prop}{v:VE Vx}(w:a.map s.eval=v)(b1:TE r b a3 v c X)
 (next:∀y o,X y o->NM r e u x l z more S (s.put O.dst y) o):NM r e u x l z (L::more) S s c:=by
 subst w;intro h p t W k b0;have c7:Region.wanted O (yielded z t.tmps)=J:=by rw[<-ga k.tmps];exact c6
 have b6:(z[L]?).bind (·.dst)=O.dst:=by rw[a1];rfl
 have b9:∀q,stepG d J (rg (e.at t (VP z (L::more)::p)) l) q=.go (rg (Frame.enter d b (a.map t.eval) .normal) (e.at t (VP z (L::more)::p)::l)) q:=by
  intro q
  have:=goes_call (P:=d) (main:=J) (w:=q) (cs:=l) (k:=p) (rest:=more) (K:=λH c Y=>H=rg (Frame.enter d b (a.map t.eval) .normal) (e.at t (VP z (L::more)::p)::l)/\c=q/\Y=#[]) a1 c7 b3 b7 a0 b5 Z ⟨by simp[G,rg,Frame.enter,Frame.at,base,a0,Z],A,A⟩
  obtain⟨H,c,Y,a8,rfl,rfl,rfl⟩:=x_ this;exact a8
 have w:ax f h (a.map s.eval) (a.map t.eval):=by
  refine⟨by simp,λj d3 d4 g T=>?_⟩;rw[WE]at g T;cases P:a[j]? with
  |none=>rw[P]at g;cases g
  |some a4=>rw[P]at g T;cases g;cases T;refine ln W.base k.tmps s.defers t.defers a4 ?_;rw[Xn]at a2;exact a2 a4 (by rw[WW];exact WN P)
 refine r.pure A rfl b9 (b1 h _ _ _ W w (λi b8=>?_) λc9 y d2 o a5 N c0 a9=>?_)
 .obtain⟨n,q1,c8⟩:=b4 i b8;have:=k.kn (n,i.2) c8;rw[WE,q1];simp[Act.eval,WB,this]
 rw[Xl,b6];exact next y o a9 c9 p _ a5 ((k.mono N.le).put O.dst b2 c0) (b0.grow N)
end
end
end Go.Sim
namespace Go.Sv
open Go.MapKept Go.Proofs Go.RowKit Go.Lib Go.WideShapes Go.Sort Go.Sim Wt
variable{s:E}{y:dH}{d:K}{w':K}{b:E}{k:E}{m:E->Prop}{q:Vx}{x:VE Vx}{D:eX}
section
variable[Inhabited aV]
def kH.clear(e:kH):kH:={e with ov:=VG I 0 0,vs:=[]}
section
variable{u:VB}{t:VD Out}{e:kH}
theorem jd(a:aK s y.tree e.clear b):aK s y.tree e b:=by
 rcases a with a|a|a|a|a
 .exact VA a
 .exact VC (VA a)
 .exact VC (VC (VA a))
 .exact VC (VC (VC (VA a)))
 cases a
theorem sE(a:dE e.clear b):b=1\/b=4:=by
 rcases a with a|a|⟨q,c,_⟩
 .exact VA a
 .exact VC a
 cases c
theorem aM.clear(c:aM s u y t e d)(tC:w'.heap[s]?=C (VH (Dm y.timeout u e.tb e.tw e.hb y.now y.aE y.next (VG I 0 0) .nilFunc) 98 (0,0)))(a2:d.heap.size<=w'.heap.size)(N:∀b,b<d.heap.size->b≠s->w'.heap[b]?=d.heap[b]?):aM s u y [] e.clear w':=by
 obtain⟨iV,R,S,T,L,a9,U⟩:=c.iV;have w:∀b,aK s y.tree e b->iV b≠3->w'.heap[b]?=d.heap[b]?:=λb a Z=>N b (c.bm a) (λl=>Z (l▸L));have v:∀b,nP y.tree e.nb e.mb e.tb b->w'.heap[b]?=d.heap[b]?:=λb a=>w b (VC (VA a)) (by rw[R b a];decide);have a1:∀b,ey e.tw e.mw e.f b->w'.heap[b]?=d.heap[b]?:=λb a=>w b (VC (VC (VA a))) (by rw[S b a];decide)
 have P:∀b,b=1\/b=4->w'.heap[b]?=d.heap[b]?:=λb a=>by have Q:dE e b:=a.elim VA (λg=>VC (VA g));exact N b (c.kj Q) (λl=>by have:=U b Q;rw[l,L]at this;cases this)
 exact{
  tree:=c.tree.stay λW O=>⟨v _ (VC ⟨W,O,VA A⟩),v _ (VC ⟨W,O,VC A⟩)⟩
  top:=by obtain⟨a4,X,n⟩:=c.top;exact⟨a4,X,by show w'.heap[e.tb]?=_;rw[v _ (.inl A)];exact n⟩
  wf:=c.wf
  bR:=c.bR.stay a1
  iU:=by show∃a7 a6,w'.heap[e.hb]?=_/\_;rw[w e.hb (.inr (.inr (.inr (.inl A)))) (by rw[T];decide)];exact c.iU
  ch:=tC
  row:=bV.nil _ _ _ _
  outs:=⟨A,λa8 b0 q g _=>by simp at g⟩
  bF:=by obtain⟨⟨a3,a0⟩,n,Y⟩:=c.bF;exact⟨⟨a3,cf (P 1 (VA A)) a0⟩,n.stay (by rw[P 4 (.inr A)]),Ws Y a2⟩
  iV:=⟨iV,R,S,T,L,λb g=>(by cases g),λb a=>U b ((sE a).elim VA (λg=>VC (VA g)))⟩}
structure CN(i h s:E)(u:VB)(y:dH)(o:E)(t:VD Out)(e:kH)(d:K):Prop where
 jE:aM s u y t e d
 ptr:d.heap[h]?=C (VH #[pt s 0] 78 (0,0))
 ok:Ok y o
 own:∀b,aK s y.tree e b->i<=b/\b≠h
 Pu:i<=h
 use:∀b,dE e b->b=1\/b=4\/i<=b
theorem CN.old{i h o:E}(a:CN i h s u y o t e d)(g:d.heap.size<=w'.heap.size)(c:∀b,b<d.heap.size->w'.heap[b]?=d.heap[b]?):CN i h s u y o t e w':=
 ⟨a.jE.old g c,by rw[c h (Wh.1 a.ptr).1];exact a.ptr,a.ok,a.own,a.Pu,a.use⟩
end
section
variable{f:E->eK}
theorem foldl_congr{l w:Type}{n g:l->w->l}:∀(a:VD w)(b:l),(∀b,∀c∈a,n b c=g b c)->a.foldl n b=a.foldl g b
 |[],_,_=>rfl
 |c::a,b,v=>by rw[Yo,Yo,v b c (Yx ..)];exact foldl_congr a _ λb N L=>v b N (WU _ L)
theorem mJ(y:dH)(a:VB)(b:eK)(c:VD eK):Wt.handle y a (b::c)=((Wt.handle (Wt.step y a b).1 (a+1) c).1,(Wt.step y a b).2++(Wt.handle (Wt.step y a b).1 (a+1) c).2):=A
theorem BH(f:E->eK):∀(b:VD eK)(a:E)(c:Sg),(∀e d,b[e]?=C d->f (a+e)=d)->
 (VD.range' a b.length).foldl (vw f) c=⟨(Wt.handle c.jE a b).1,c.outs++(Wt.handle c.jE a b).2,c.cnt+b.length⟩
 |[],a,c,_=>by simp[Wt.handle]
 |d::b,a,c,g=>by
  have h:f a=d:=by simpa using g 0 d (by simp)
  rw[WO,VD.range'_succ,Yo,BH f b (a+1) _ λe k i=>by
   have:=g (e+1) k (by simpa using i)
   rw[<-this];congr 1;omega]
  rw[mJ];unfold vw;simp only[h,XQ,VB.natCast_add,VB.cast_ofNat_Int,Sg.mk.injEq,true_and];omega
theorem JD(P:k<=64)(c:Sg){g:VD eK}(w:g.length=k)(v:∀a l,g[a]?=C l->f a=l):
 (VD.range k).foldl (Sim.stepT (Es f) (vw f) (sO f)) c=⟨(Wt.handle c.jE 0 g).1,c.outs++(Wt.handle c.jE 0 g).2,c.cnt+k⟩:=by
 rw[foldl_congr (g:=vw f) _ _ λb a n=>?_]
 .rw[ZN,<-w];exact BH f g 0 c λa l n=>by rw[Xr];exact v a l n
 unfold Sim.stepT;have O:=d_.1 n;cases L:sO f a with
 |true=>rw[VV A];exact GA L (by omega)
 |false=>rw[VK (by decide)]
end
structure Da(m:E->Prop)(i:E)(d:K):Prop where
 lt:∀b,m b->b<i
 cl:Closed m d
 wh:∀b,m b->(d.heap[b]?).map Sim.Obj.whole=d.heap[b]?
 gl:∀a,(0<a\/a=TP.globals.size)->a<=TP.globals.size->m a
 rb:∀b,GD b->m b
theorem Da.keep{i:E}(a:Da m i d)(e:∀b,m b->w'.heap[b]?=d.heap[b]?):Da m i w':=
 ⟨a.lt,λb c=>by rw[e b c];exact a.cl b c,λb c=>by rw[e b c];exact a.wh b c,a.gl,a.rb⟩
def rm(i h:E)(own:E->Prop)(p:VL VT)(k:E)(rq:E->RV)(d:K):Prop:=
 (p=I/\k=0)\/∃b f a m e,p=C ⟨b,f,I⟩/\d.heap[b]?=C (VH a m e)/\0<a.size/\e.2<=a.size/\(∀(l:E) g,a[l]?=C g->aR (λ_=>False) g)/\¬aT a/\(∀c,c<k->∀j,j<8->a[f+c*8+j]?=(rq c).jF[j]?)/\i<=b/\b≠h/\¬own b
theorem pk{a c:E->Prop}(d:aR a q)(e:∀b,a b->c b):aR c q:=aR.mono e d
theorem mq(a:fK d w' b){i:VJ}{e:E×E}(g:d.heap[b]?=C (VH x i e))(h:¬aT x):w'.heap[b]?=d.heap[b]?:=by
 rcases a with a|⟨k,o,l,m,f,c,n⟩
 .exact a
 rw[g]at c;cases c;exact absurd f h
section
variable{i h z o H:E}{t:VD Out}{e:kH}{p:VL VT}{rq:E->RV}{f:E->eK}{r:VD eK}
structure fE(ro:E->Prop)(i h s z:E)(y:dH)(o:E)(e:kH)(p:VL VT)(r:VD eK)(d:K)(q:Vx)(w':K)(a:kH):Prop where
 at':CN i h s z (Wt.handle y 0 r).1 (o+r.length) (Wt.handle y 0 r).2 a w'
 val:q=a.ov
 keep:∀b,b<d.heap.size->¬aK s y.tree e b->(∀c,p≠C ⟨b,c,I⟩)->fK d w' b
 ro:∀b,ro b->w'.heap[b]?=d.heap[b]?
 size:d.heap.size<=w'.heap.size
 own:∀b,aK s (Wt.handle y 0 r).1.tree a b->aK s y.tree e b\/d.heap.size<=b
 use:∀b,dE a b->b=1\/b=4\/d.heap.size<=b
theorem DQ(u:CN i h s z y o t e d)(L:Da m i d)(e0:1<=z/\z<2^16)(Y:rm i h (aK s y.tree e) p k rq d)(b6:k<=64)(d4:o<2^16)
 (b8:∀g,g<k->RQ (rq g) (f g))(e3:∀g,g<k->oE (f g).op)(b3:∀g,g<k->(f g).op.kind=1\/(f g).op.kind=3\/(f g).op.kind=4\/(f g).op.kind=5\/(f g).op.kind=6\/(f g).op.kind=8\/(f g).op.kind=9\/(f g).op.kind=10)
 (e2:∀g,(rq g).oa=I)(b4:r.length=k)(e4:∀g b9,r[g]?=C b9->f g=b9):
 Co (goalAt TP I I D ar m) 31 #[pt s 0,.slice p k H] d λq w'=>∃d1,fE m i h s z y o e p r d q w' d1:=by
 obtain⟨v,a6⟩:∃v:E->Prop,v=λb=>m b\/∃P,p=C ⟨b,P,I⟩:=⟨_,A⟩;have W:∀b,m b->v b:=λb a=>by rw[a6];exact VA a
 have a2:∀b,v b->m b\/∃P,p=C ⟨b,P,I⟩:=λb a=>by rw[a6]at a;exact a
 have bm:∀b,aK s y.tree e b->b<d.heap.size:=λb a=>u.jE.bm a
 have a7:∀b,aK s y.tree e b->¬v b:=λb a w=>by
  rcases a2 b w with l|⟨P,l⟩
  .have:=L.lt b l;have:=(u.own b a).1;omega
  rcases Y with⟨c,_⟩|⟨X,S,Q,U,N,c,_,_,_,_,_,_,_,_,a5⟩
  .rw[l]at c;cases c
  rw[l]at c;cases c;exact a5 a
 have d6:Closed v d:=λb n=>by
  rcases a2 b n with l|⟨P,l⟩
  .obtain⟨x,f2,N,q1,T,a8,a9,b0⟩:=L.cl b l;exact⟨x,f2,N,q1,T,a8,λa0 a1 w=>pk (a9 a0 a1 w) W,b0⟩
  rcases Y with⟨c,_⟩|⟨X,S,Q,U,N,c,q1,T,a8,a9,b0,_⟩
  .rw[l]at c;cases c
  rw[l]at c;cases c;exact⟨Q,U,N,q1,T,a8,λa0 a1 w=>pk (a9 a0 a1 w) (λ_ a=>a.elim),b0⟩
 have f0:v 1:=W 1 (L.gl 1 (VA (by decide)) (by decide+kernel));have HC:=QY (q:=o) (s:=s) b8 e3 b3 d4 b6 f0 e0;have tC:¬v s:=a7 s (VA A)
 have d3:Kp v d p k H rq (Fp f rq):={
  closed:=d6
  bF:=λb1 l c=>W b1 (L.gl b1 l c)
  list:=λb n=>by
   rcases Y with⟨c,_⟩|⟨X,S,Q,U,N,c,_⟩
   .rw[n]at c;cases c
   rw[n]at c;cases c;rw[a6];exact VC ⟨S,n⟩
  elem:=λg Z=>by
   rcases Y with⟨_,c⟩|⟨X,S,Q,U,N,c,q1,_,_,_,_,f1,_⟩
   .omega
   exact⟨X,S,Q,U,N,c,q1,f1 g Z⟩
  MG:=λg Z w' _=>Rw (b8 g Z) (b3 g Z) (by omega) w'
  only:=λg=>by
   unfold Fp;refine .iface _ (.agg λa0 a1 w=>?_);have b5:=WW.2 (WN w);simp only[aQ,Wo,Wx,Xo]at b5;rcases b5 with rfl|rfl|rfl|rfl|rfl|rfl|rfl|rfl|rfl
   case inr.inr.inr.inr.inr.inr.inr.inr=>rw[e2 g];exact .aP _ _
   all_goals first|exact .int _ _|exact .string _|exact .bool _
  small:=by omega}
 have base:=Is (D:=D) (g:=⟨y,[],0⟩) (c:=aK s y.tree e.clear) (h:=dE e.clear) (m:=m) HC A d3 u.jE.ch (by simp) A tC (VA A) W L.rb (λb n=>⟨bm b (jd n),a7 b (jd n)⟩) (λf4 a3=>?_) (λg3 own g5 g8⟨a4,R,_⟩=>⟨_,_,_,_,R.ch,A⟩)
 .intro f5 c9 x d0 c6 n next
  refine base f5 c9 x d0 c6 n λf6 q f3 c0 c7 d2 e9⟨g0,g6,⟨a4,R,e1,e8,q1,T⟩,d5,O,b2⟩=>next f6 q f3 c0 c7 d2 e9 ?_
  subst e1 e8;have d7:=JD (f:=f) b6 ⟨y,[],0⟩ b4 e4;rw[d7]at R O q1 T;simp only[XN,Xr]at R O q1 T;have b7:∀b,aK s (Wt.handle y 0 r).1.tree a4 b->aK s y.tree e b\/d.heap.size<=b:=λb a=>(O.more b a).imp jd id;have e6:c0.heap[h]?=d.heap[h]?:=by
   refine mq (O.keep h (Wh.1 u.ptr).1 (λa=>(u.own h (jd a)).2 A) (λa=>?_)) u.ptr ?_
   .rcases a2 h a with l|⟨P,l⟩
    .have:=L.lt h l;have:=u.Pu;omega
    rcases Y with⟨c,_⟩|⟨X,S,Q,U,N,c,_,_,_,_,_,_,_,a5,_⟩
    .rw[l]at c;cases c
    rw[l]at c;cases c;exact a5 A
   exact pj (by intro k a;cases a)
  refine⟨a4,⟨R,by rw[e6];exact u.ptr,by rw[b4];exact q1,λb n=>?_,u.Pu,λb n=>?_⟩,?_,λb n d9 d8=>?_,λb n=>?_,O.size,b7,λb n=>?_⟩
  .have e7:=(Wh.1 u.ptr).1;have e5:=u.Pu;rcases b7 b n with a|a
   .exact u.own b a
   exact⟨by omega,by omega⟩
  .have e7:=(Wh.1 u.ptr).1;have e5:=u.Pu;rcases b2 b n with a|a
   .rcases sE a with a|a
    .exact VA a
    exact VC (VA a)
   exact VC (VC (by omega))
  .have:=aa R.ch 8 A;rw[d5]at this;exact Xa this
  .by_cases w:v b
   .rcases a2 b w with l|⟨P,l⟩
    .exact VA (by rw[O.list b (W b l)];exact L.wh b l)
    exact absurd l (d8 P)
   exact O.keep b n (λa=>d9 (jd a)) w
  .rw[O.list b (W b n)];exact L.wh b n
  rcases b2 b n with a|a
  .exact(sE a).imp id VA
  exact VC (VC a)
 have c8:=u.jE.clear (w':=f4) (by rw[a3.tC];rfl) (by rw[a3.size];omega) a3.old;refine⟨e.clear,c8.same ⟨by rw[pZ];exact Wl _,λb n=>tT ?_,λb _=>xE _ _ _⟩,A,A,u.ok,by simp⟩;have l:=jd n;have c:=bm b l;rintro(a|a|a)
 .exact a7 b l a
 .omega
 omega
end
end
end Go.Sv
namespace Go.Sim
open Go.Conc Go.Proofs Go.RowKit
open Go.ConcN (PermW PermW.app PermW.of fork_knows WgLive RelBy sumTo)
open Go.ConcR (KK wgBlock WgAt stA smA rd wr mk DC0)
variable{e:VS}{f:Set}{m:E->Prop}{c:K}{n:VM}{p:VD VM}{z:VE Oper}{S:Exit->VQ->K->Prop}{d:VQ}{l:E}{h:Oper}
section
variable[Inhabited aV]
section
variable{main:VI}{k:Goal e f main m}
variable{g:Rt}
def Kk(e:VS)(f:Set)(g:Rt)(z:VE Oper)(a:VD E):Prop:=∀l∈a,∀h,z[l]?=C h->iW e f.fn f.bi f.cj h.op=J/\g.free h.dst=J
theorem qz(G:Good e f){x:VQ->K->Prop}:∀(L:VD E){b:Ren}{c o:K}{d p:VQ},Kk e f g z L->Base e b->aU f b c o->aw f b g d p->Tp (λc=>wpOps e z (gL x) L d c) c->
 ∃n t D s y,Base e n/\aU f n s y/\b.le n/\aw f n g t D/\Tp (x t) s/\kK f c s
 |[],b,c,o,d,p,_,k,i,m,a=>⟨b,d,p,c,o,k,i,Ren.le_refl _,m,a,.refl _⟩
 |l::r,b,c,o,d,p,H,k,i,m,a=>by
  have w:Kk e f g z r:=λj Q=>H j (WU _ Q);cases v:z[l]? with
  |none=>simp only[wpOps,v]at a;exact qz G r w k i m a
  |some h=>
   have u:=H l (Yx ..) h v;simp only[wpOps,v]at a;by_cases q:Region.wanted h (yielded z d.tmps)=J
   .simp only[q,Wv]at a;obtain⟨n,t,D,s,y,q1,R,S,T,U,W⟩:=Mz G k i m u.1 u.2 (a.mono λc q=>q.resolve_right λa4=>eR a4.2);obtain⟨a5,O,P,a3,N,X,Y,Z,a0,a1,a2⟩:=qz G r w q1 R T U;exact⟨a5,O,P,a3,N,X,Y,Ren.le_trans S Z,a0,a1,W.trans a2⟩
   simp only[q]at a;exact qz G r w k i (m.put h.dst u.2 aY) a
theorem lu(r:Good e f)(u:f.fr n.fn=J)(v:n.kind≠.early){L:VQ->K->Prop}{more:VD E}:∀(R:VD E){d:VQ}{c:K},Kk e f g z R->Tp (λc=>wpOps e z (gL L) R d c) c->
 (∀o i,Tp (L o) i->gJ f m c i)->(∀o i,Tp (L o) i->CO k n g p z more S o i)->CO k n g p z (R++more) S d c
 |[],d,c,_,a,s,next=>next d c a
 |l::t,d,c,a2,a,s,next=>by
  have w:Kk e f g z t:=λj a9=>a2 j (WU _ a9);intro a5 Q a8 H x P;rw[Xe];cases b:z[l]? with
  |none=>simp only[wpOps,b]at a;refine k.pure A rfl (λa7=>stepG_unwanted (by rw[b];rfl)) ?_;rw[b];exact lu r u v t w a s next a5 Q a8 H x P
  |some h=>
   have O:=a2 l (Yx ..) h b;simp only[wpOps,b]at a;by_cases q:Region.wanted h (yielded z d.tmps)=J
   .simp only[q,Wv]at a;refine FW r k u v b q O.1 O.2 H x (a.mono λc q=>q.resolve_right λD=>eR D.2) (λa6 o a1 i b3 q1 T a4 U y=>?_) λa6 o a1 i q1 T a4 U y b0 b1=>?_
    .obtain⟨c0,N,b5,Z,b4,b6,b7,b8,b9,W,b2⟩:=qz r t w q1 T U y;obtain⟨a0,X,Y⟩:=s N Z W;exact⟨a0,b2.trans X,Y⟩
    refine lu r u v t w b1 (λN Z W=>?_) next a6 Q a1 q1 b0 (P.grow ⟨T,a4,U,y⟩)
    obtain⟨a0,X,Y⟩:=s N Z W;exact⟨a0,X,λD a3=>by rw[Y D a3,y D a3]⟩
   simp only[q]at a;refine k.pure A rfl (λa7=>stepG_unwanted ?_) ?_
   .rw[b];simp only[Xp,Xw];rw[<-ga x.tmps];simpa using q
   rw[b];exact lu r u v t w a s next a5 Q _ H (x.put h.dst O.2 aY) P
theorem co_take(L:Good e f)(N:f.fr n.fn=J)(P:n.kind≠.early){H:VD E}(Q:g.kn.map (·.1)=H)(b o:E){more:VD E}{a:VD Oper}(D:a.map C=(VD.range' b o).map (λl=>z[l]?))(U:rR e f H a.toArray=J)
 (r:∀t:K,t.heap=c.heap->t.os=c.os->t.output=c.output->wpList e z (gL λq i=>He m c i/\CO k n g p z more S q i) a d t):CO k n g p z (VD.range' b o++more) S d c:=by
 have R:a.length=o:=by simpa using VU List.length D
 have x:∀j,j<a.length->a[j]?=z[b+j]?:=λj y=>by
  have s:=VU (λw=>w[j]?) D;simp only[XI,VD.getElem?_range' (show j<o by omega),E.one_mul,Xp]at s;rw[Xb y]at s⊢
  exact Xa s
 have W:Kk e f g z (VD.range' b o):=λl O h T=>by
  obtain⟨j,y,rfl⟩:∃j,j<o/\l=b+j:=by have:=VD.mem_range'_1.1 O;exact⟨l-b,by omega,by omega⟩
  have s:=x j (by omega);exact jv (qy Q U) (z:=a.toArray) (L:=j) (by rw[WM,s,T])
 refine lu L N P (L:=λq i=>He m c i/\CO k n g p z more S q i) (VD.range' b o) W (.all λv=>by rw[<-R,FB a b x];exact r _ A rfl rfl) (λq i r=>⟨i,.refl _,?_⟩) λq i r=>FR ?_
 .obtain⟨v,u⟩:=r.one;exactλw X=>u.1 w X
 obtain⟨v,u⟩:=r.one;exact⟨v,u.2⟩
end
section
variable{k:Goal e f J m}
variable{g:Rt}
theorem uI(u:Good e f){a:Wc}{b s:VE Vx}{fn:Func}{r:Code}(H:f.fr a=J)(D:e.funcs[a]?=C fn)(y:fn.body=C r){q:Vx->K->Prop}(L:b++Array.replicate (fn.ntmps-b.size) F=s)
 (w:∀v p,CW k (base a) ⟨[],[]⟩ (v::p) r S ⟨s,[]⟩ c)
 (x:∀i d c,S i d c->(i=.normal\/i=.ret)/\d.defers=[]/\∀o,∃t,(results fn d.tmps).run e {c with tape:=o}=.ok t {c with tape:=o}/\q t {c with tape:=o}):Co k a b c q:=by
 subst L;exact FQ u H D y w x
theorem Hz(v:Good e f){a:Wc}{s:VD (E×Vx)}{b t:VE Vx}{fn:Func}{r:Code}(L:f.fr a=J)(H:e.funcs[a]?=C fn)(D:fn.body=C r){q:Vx->K->Prop}(N:b++Array.replicate (fn.ntmps-b.size) F=t)
 (x:∀w p,CW k (base a) ⟨[],s⟩ (w::p) r S ⟨t,[]⟩ c)
 (y:∀i d c,S i d c->(i=.normal\/i=.ret)/\d.defers=[]/\∀o,∃u,(results fn d.tmps).run e {c with tape:=o}=.ok u {c with tape:=o}/\q u {c with tape:=o}):TE k a s b c q:=by
 subst N;exact Lf v L H D x y
theorem mr{more:VD E}{i:Wc}{b:VE Wd}{s:VE VJ}{fn:Func}{t:Code}(D:n.kind≠.early)(x:g.free h.dst=J)(L:z[l]?=C h)(P:Region.wanted h (yielded z d.tmps)=J)(N:h.op=.call {callee:=.value (.func i),args:=b,argTypes:=s})
 (y:e.funcs[i]?=C fn)(H:(fn.name== "runtime.NumGoroutine")=Vz)(v:fn.body=C t)(O:b.toList.all (dG e f.fn)=J){o:Vx->K->Prop}{a:VE Vx}(u:b.map d.eval=a)(w:Co k i a c o)
 (next:∀q r,o q r->CO k n g p z more S (d.put h.dst q) r):CO k n g p z (l::more) S d c:=by
 subst u;exact Oi D x L P N y H v O w next
end
end
end Go.Sim
namespace Go.Sv
open Go.MapKept Go.Proofs Go.RowKit Go.Lib Go.WideShapes Go.Sort Go.Sim Wt
variable{D:eX}{m:E->Prop}{s:E}{g:E}{y:dH}{c:K}{l:K}{b:E}{e:Vx}{k:Out}{d:VE Vx}
section
variable[Inhabited aV]
variable{h f i p H:E}{u:VD Out}{q:kH}{r:VL VT}{rq:E->RV}{t:E->eK}{z:VD eK}
theorem Da.eq(a:Da m h c)(d:l.heap=c.heap):Da m h l:=a.keep λb _=>by rw[d]
theorem rm.eq{own:E->Prop}(b:rm h f own r g rq c)(a:l.heap=c.heap):rm h f own r g rq l:=by simp_all [rm]
theorem CN.eq(a:CN h f s i y p u q c)(d:l.heap=c.heap):CN h f s i y p u q l:=a.old (by simp_all) λb _=>by rw[d]
theorem Di{e a:K}(g:fK c l b)(d:e.heap=c.heap)(f:a.heap=l.heap):fK e a b:=by simp_all [fK]
theorem fE.eq{n:kH}{o t:K}(a:fE m h f s i y p q r z c e l n)(d:o.heap=c.heap)(k:t.heap=l.heap):fE m h f s i y p q r z o e t n where
 at':=a.at'.eq k
 val:=a.val
 keep:=λb w u v=>Di (a.keep b (by simp_all) u v) d k
 ro:=λb g=>by rw[k,d];exact a.ro b g
 size:=by rw[k,d];exact a.size
 own:=λb g=>by rw[d];exact a.own b g
 use:=λb g=>by rw[d];exact a.use b g
theorem MZ(T:CN h f s i y p u q c)(S:Da m h c)(a1:1<=i/\i<2^16)(W:rm h f (aK s y.tree q) r g rq c)(a0:g<=64)(X:p<2^16)
 (a4:∀a,a<g->RQ (rq a) (t a))(a3:∀a,a<g->oE (t a).op)(Y:∀a,a<g->(t a).op.kind=1\/(t a).op.kind=3\/(t a).op.kind=4\/(t a).op.kind=5\/(t a).op.kind=6\/(t a).op.kind=8\/(t a).op.kind=9\/(t a).op.kind=10)
 (a2:∀a,(rq a).oa=I)(Z:z.length=g)(a5:∀a Q,z[a]?=C Q->t a=Q):
 Co (goalAt TP I I D ar m) 18 #[pt f 0,.slice r g H] c λe l=>∃n,fE m h f s i y p q r z c e l n:=by
 refine FQ ak (by decide) (fn:=Tryz.f18) Tryz.func18 A (S:=λN b l=>N=.ret/\b.defers=[]/\∃e,b.tmps[4]?=C e/\∃n,fE m h f s i y p q r z c e l n) (λb0 b1=>?_) ?_
 .show CW _ _ _ _ _ _ ⟨#[pt f 0,.slice r g H,F,F,F,F,F,F,F,F,F],[]⟩ c;refine aO (bn ak (by decide) (by decide) (i:=[]) A (by rfl) λa7 o _ _=>?_)
  go_wp2
  refine show _/\_ from⟨λd _=>by rw[o],?_⟩;have U:CN h f s i y p u q a7:=T.old (by simp_all) λb _=>by rw[o]
  refine aO (eP (Q:=7) A (Sim.co_take ak (by decide) (by decide) (H:=[]) A 0 5 (a:=[_,_,_,_,_]) A (by rfl) λR v _ _=>?_));have L:CN h f s i y p u q R:=U.old (by simp_all) λb _=>by rw[v]
  have b3:R.cell? ⟨f,0,I⟩=C (pt s 0):=by simp[K.cell?,L.ptr]
  go_wp2
  refine show _/\_ from⟨λd _=>by rw[v],?_⟩;refine mr (a:=#[pt s 0,.slice r g H]) (l:=5) (more:=[6]) (by decide) A rfl rfl rfl Tryz.func31 (by decide) A (by decide) (by simp[Act.eval]) (DQ L (S.eq (v.trans o)) a1 (W.eq (v.trans o)) a0 X a4 a3 Y a2 Z a5) λe b6 w=>?_;refine Sim.co_take ak (by decide) (by decide) (H:=[]) A 6 1 (more:=[]) (a:=[_]) A (by rfl) λb7 O _ _=>?_
  go_wp2
  refine show _/\_ from⟨λd _=>by rw[O],dF (mA ?_)⟩;obtain⟨n,w⟩:=w;exact⟨A,A,e,A,n,w.eq (v.trans o).symm O⟩
 rintro N b l⟨rfl,hd,e,b2,x⟩;refine⟨VC A,hd,λb5=>⟨e,?_,?_⟩⟩
 .simp_all [results]
 obtain⟨n,x⟩:=x;exact⟨n,x.eq A rfl⟩
theorem jm(c:K)(k:Obj):(c.alloc k).heap.size=c.heap.size+1:=by simp
def Ur(a:eK):RV:=⟨a.al,a.op.kind,bs a.op.path,bs a.op.data,a.op.aF,a.op.flags,a.watch,I,0,0⟩
abbrev Cb(a:eK):VE Vx:=#[Vy M a.al,Vy M a.op.kind,.string (bs a.op.path),.string (bs a.op.data),Vy M a.op.aF,Vy M a.op.flags,.bool a.watch,VG I 0 0]
theorem Qz{a:eK}(Q:CN h f s i y p u q c)(a0:Da m h c)(c7:1<=i/\i<2^16)(b9:p<2^16)(c8:oE a.op)(a8:a.op.kind=1\/a.op.kind=3\/a.op.kind=4\/a.op.kind=5\/a.op.kind=6\/a.op.kind=8\/a.op.kind=9\/a.op.kind=10):
 Co (goalAt TP I I D ar m) 28 #[pt f 0,Vy M a.al,Vy M a.op.kind,.string (bs a.op.path),.string (bs a.op.data),Vy M a.op.aF,Vy M a.op.flags,.bool a.watch] c λe l=>∃x,fE m h f s i y p q I [a] c e l x:=by
 refine uI ak (by decide) (fn:=Tryz.f28) Tryz.func28 A (S:=λO b l=>O=.ret/\b.defers=[]/\∃e,b.tmps[16]?=C e/\∃x,fE m h f s i y p q I [a] c e l x) (s:=#[pt f 0,Vy M a.al,Vy M a.op.kind,.string (bs a.op.path),.string (bs a.op.data),Vy M a.op.aF,Vy M a.op.flags,.bool a.watch,F,F,F,F,F,F,F,F,F,F,F,F,F,F,F,F,F,F,F,F,F,F,F,F]) (by kernel_rfl) (λd6 d7=>?_) ?_
 .refine aO (bn ak (by decide) (by decide) (i:=[]) A (by rfl) λf6 b2 _ _=>?_)
  go_wp2
  refine show _/\_ from⟨λd _=>by rw[b2],?_⟩;refine aO (bn ak (by decide) (by decide) (i:=[]) A (by rfl) λf7 d8 _ _=>?_)
  go_wp2
  have e4:=(Wh.1 Q.ptr).1;have e5:=Q.Pu;have X:∀d,m d->d<c.heap.size:=λd w=>by have:=a0.lt d w;omega
  refine show _/\_ from⟨λd w=>?_,?_⟩
  .simp_all [Wk]
  refine aO (bn ak (by decide) (by decide) (i:=[]) A (by rfl) λY b3 _ _=>?_)
  have o:Y.heap[c.heap.size]?=C (VH #[Vy M a.al,Vy M 0,.string ⟨#[]⟩,.string ⟨#[]⟩,Vy M 0,Vy M 0,.bool a.watch,VG I 0 0] 31 (0,0)):=by grind [Go.MapKept.heap_alloc]
  have d1:∀b,b<c.heap.size->Y.heap[b]?=c.heap[b]?:=λb n=>by simp_all [Wk]
  have e9:Y.heap.size=c.heap.size+1:=by simp_all
  clear b3;have a3:=aa o 1 A;have a4:=aa o 2 A;have a5:=aa o 3 A;have a6:=aa o 4 A;have a7:=aa o 5 A;have b4:=frozenAt o 1;have b5:=frozenAt o 2;have b6:=frozenAt o 3;have b7:=frozenAt o 4;have b8:=frozenAt o 5
  go_wp2
  refine show _/\_ from⟨λd w=>?_,?_⟩
  .grind [ah,Below.heap_alloc]
  refine aO (eP (Q:=5) A (Sim.co_take ak (by decide) (by decide) (H:=[]) A 0 3 (a:=[_,_,_]) A (by rfl) λP a1 _ _=>?_))
  have v:P.heap[c.heap.size]?=C (VH (Cb a) 31 (0,0)):=by rw[a1];exact aB (aB (aB (aB (aB o))))
  have d2:∀b,b<c.heap.size->P.heap[b]?=c.heap[b]?:=λb n=>by grind [ah]
  have f0:P.heap.size=c.heap.size+1:=by simp_all
  clear a1 o a3 a4 a5 a6 a7 b4 b5 b6 b7 b8;have a3:=aa v 0 A;have a4:=aa v 1 A;have a5:=aa v 2 A;have a6:=aa v 3 A;have a7:=aa v 4 A;have d9:=aa v 5 A;have e0:=aa v 6 A;have e1:=aa v 7 A
  go_wp2
  generalize e6:P.alloc _=Z
  have c0:Z.heap[c.heap.size+1]?=C (VH (Cb a) 31 (0,0)):=by grind [Go.MapKept.heap_alloc]
  have d3:∀b,b<c.heap.size+1->Z.heap[b]?=P.heap[b]?:=λb n=>by grind [Below.heap_alloc]
  have f1:Z.heap.size=c.heap.size+2:=by grind [jm]
  have T:=λb n=>(d3 b (by omega)).trans (d2 b n);refine show _/\_ from⟨λd w=>?_,?_⟩
  .have b0:=X d w;rw[T d b0,ah (by omega),ah (by omega),ah (by omega),ah (by omega),ah (by omega),d1 d b0]
  have b1:=Q.old (by omega) T;refine mr (a:=#[pt f 0,VG (C ⟨c.heap.size+1,0,I⟩) 1 1]) (l:=3) (more:=[4]) (by decide) A rfl rfl rfl Tryz.func18 (by decide) A (by decide) (by kernel_rfl) (MZ (rq:=λ_=>Ur a) (t:=λ_=>a) (z:=[a]) b1 (a0.keep λb n=>T b (X b n)) c7 ?_ (by decide) b9 (λ_ _=>⟨A,A,A,A,A,A,A⟩) (λ_ _=>c8) (λ_ _=>a8) (λ_=>rfl) A (λR d L=>?_)) λe f8 W=>?_
  .refine VC ⟨_,0,Cb a,31,(0,0),A,c0,(by simp),(by simp),λc9 d w=>?_,?_,λR a8 j e3=>?_,by omega,by omega,λL=>?_⟩
   .have a9:=WW.2 (WN w);simp only[Wo,Wx,Xo]at a9;rcases a9 with rfl|rfl|rfl|rfl|rfl|rfl|rfl|rfl
    all_goals first|exact .int _ _|exact .string _|exact .bool _|exact .aP _ _
   .refine gX λd w e7 O=>?_;simp_all
   .obtain rfl:R=0:=by omega
    rw[E.zero_mul,Xr];rfl
   have:=Q.jE.bm L;omega
  .rcases R with _|R
   .simp_all
   cases L
  refine Sim.co_take ak (by decide) (by decide) (H:=[]) A 4 1 (more:=[]) (a:=[_]) A (by rfl) λf9 a2 _ _=>?_
  go_wp2
  refine show _/\_ from⟨λd _=>by rw[a2],dF (mA ?_)⟩;obtain⟨x,W⟩:=W;refine⟨A,A,e,A,x,?_⟩;have N:=W.eq A a2
  exact{
   at':=N.at'
   val:=N.val
   keep:=λb n c6 _=>by have:=N.keep b (by omega) c6 (λe8 O=>by cases O;omega);simp_all [fK]
   ro:=λb n=>(N.ro b n).trans (T b (X b n))
   size:=by have:=N.size;omega
   own:=λb n=>(N.own b n).imp id λL=>by omega
   use:=λb n=>(N.use b n).imp id λL=>L.imp id λL=>by omega}
 rintro O b l⟨rfl,hd,e,e2,U⟩;refine⟨VC A,hd,λf2=>⟨e,?_,?_⟩⟩
 .simp_all [results]
 obtain⟨x,U⟩:=U;exact⟨x,U.eq A rfl⟩
abbrev zG:VE Vx:=#[Vy M 0,Vy M 0,Vy M 0,Vy M 0,.string ⟨#[]⟩,.string ⟨#[]⟩,.bool Vz,Vy M 0,Vy M 0,Vy M 0,Vy M 0,Vy M 0,Vy M 0,Vy M 0,VG I 0 0,VG I 0 0]
theorem lH:∀{a:VD Out}{n:VD (Vx×Vx)},a.length=n.length->(gz a n).length=a.length*16
 |[],[],_=>rfl
 |k::a,e::n,o=>by
  have:=lH (a:=a) (n:=n) (by simpa using o);simp only[gz,VD.zip_cons_cons,YW,WI,WO]at this⊢
  rw[this];show 16+a.length*16=_;omega
theorem MA{e:Vx×Vx}(a:mg k e c):(iX k e).all (·.oneCell')=J:=by
 obtain⟨i,l⟩:=e;obtain⟨b,g,d,f⟩:∃b g d,i=.slice b g d:=by rcases a.1 with⟨a,_⟩|⟨_,_,_,_,_,a,_⟩<;>exact⟨_,_,_,a⟩
 obtain⟨m,o,n,h⟩:∃b g d,l=.slice b g d:=by rcases a.2 with⟨a,_⟩|⟨_,_,_,_,_,a,_⟩<;>exact⟨_,_,_,a⟩
 subst f h
 kernel_rfl
theorem zF{e:Vx×Vx}(a:mg k e c):∃b g d f i h,e=(.slice b g d,.slice f i h):=by
 obtain⟨l,m⟩:=e;obtain⟨b,g,d,n⟩:∃b g d,l=.slice b g d:=by rcases a.1 with⟨a,_⟩|⟨_,_,_,_,_,a,_⟩<;>exact⟨_,_,_,a⟩
 obtain⟨f,i,h,o⟩:∃b g d,m=.slice b g d:=by rcases a.2 with⟨a,_⟩|⟨_,_,_,_,_,a,_⟩<;>exact⟨_,_,_,a⟩
 simp_all
theorem DZ{a:VD Out}{b:VD (Vx×Vx)}{g:VE Vx}(m:(a++[k]).length=b.length)(l:g.toList.take ((a++[k]).length*16)=gz (a++[k]) b):∃c,b[a.length]?=C c/\∀j e,(iX k c).toList[j]?=C e->g[a.length*16+j]?=C e:=by
 obtain⟨i,c,rfl⟩:∃i c,b=i++[c]:=by
  rcases h:b.reverse with _|⟨d,t⟩
  .simp at h;subst h;simp at m
  exact⟨t.reverse,d,by rw[<-ZJ b,h];simp⟩
 have f:a.length=i.length:=by simpa using m
 rw[qA f]at l;refine⟨c,by rw[f];simp,λj e n=>?_⟩
 have o:(g.toList.take ((a++[k]).length*16))[a.length*16+j]?=C e:=by rw[l,XC (by rw[lH f];omega),lH f];rw[show a.length*16+j-a.length*16=j by omega];exact n
 grind
def xe(u:VD Out)(e:Vx):Prop:=(u=[]/\e=.agg (iX {err:=-1} kV))\/∃k a,u.getLast?=C k/\e=.agg (iX k a)/\∃b g d c h f,a=(.slice b g d,.slice c h f)
def Su(m:E->Prop)(h f s i:E)(y:dH)(p:E)(q:kH)(e:eK)(c:K)(g:Exit)(b:VQ)(l:K):Prop:=g=.ret/\b.defers=[]/\∃d k a,b.tmps.getD 16 F=pt c.heap.size 0/\l.heap[c.heap.size]?=C (VH d 38 k)/\d.size=16/\fE m h f s i y p q I [e] c a.ov l a/\xe (Wt.handle y 0 [e]).2 (.agg d)
theorem Tk{k:kH}{l:eK}{u n:K}{b:VQ}{v:E×E}(g:fE m h f s i y p q I [l] c e u k)(N:∀b,m b->b<c.heap.size)(P:f<c.heap.size)(D:∀b,aK s (Wt.handle y 0 [l]).1.tree k b\/dE k b->b≠c.heap.size)(o:∀t,t≠c.heap.size->n.heap[t]?=u.heap[t]?)(Q:n.heap.size=u.heap.size)(hd:b.defers=[])(w:b.tmps.getD 16 F=pt c.heap.size 0)(z:n.heap[c.heap.size]?=C (VH d 38 v))(O:d.size=16)(H:xe (Wt.handle y 0 [l]).2 (.agg d)):Su m h f s i y p q l c .ret b n:=by
 refine⟨A,hd,d,v,k,w,z,O,?_,H⟩;have r:=g.at'
 exact{
  at':=⟨r.jE.same ⟨by omega,λb a=>o b (D b (VA a)),λb a=>by simp_all⟩,by rw[o f (by omega)];exact r.ptr,r.ok,r.own,r.Pu,r.use⟩
  val:=A
  keep:=λb a L x=>by
   have:=g.keep b a L x
   grind [fK]
  ro:=λb a=>by have:=N b a;rw[o b (by omega)];exact g.ro b a
  size:=by grind
  own:=g.own
  use:=g.use}
theorem Rm{a:eK}(Y:CN h f s i y p u q c)(b7:Da m h c)(e6:1<=i/\i<2^16)(e2:p<2^16)(e7:oE a.op)(S:a.op.kind=1\/a.op.kind=3\/a.op.kind=4\/a.op.kind=5\/a.op.kind=6\/a.op.kind=8\/a.op.kind=9\/a.op.kind=10):
 Co (goalAt TP I I D ar m) 16 #[pt f 0,Vy M a.al,Vy M a.op.kind,.string (bs a.op.path),.string (bs a.op.data),Vy M a.op.aF,Vy M a.op.flags,.bool a.watch] c λe l=>∃x,fE m h f s i y p q I [a] c x.ov l x/\xe (Wt.handle y 0 [a]).2 e:=by
 refine uI ak (by decide) (fn:=Tryz.f16) Tryz.func16 A (S:=Su m h f s i y p q a c) (s:=#[pt f 0,Vy M a.al,Vy M a.op.kind,.string (bs a.op.path),.string (bs a.op.data),Vy M a.op.aF,Vy M a.op.flags,.bool a.watch,F,F,F,F,F,F,F,F,F,F,F,F,F,F,F,F,F,F,F,F,F,F,F,F,F,F,F,F,F]) (by kernel_rfl) (λf3 f4=>?_) ?_
 .refine aO (bn ak (by decide) (by decide) (i:=[]) A (by rfl) λg9 d8 _ _=>?_)
  go_wp2
  have d1:=(Wh.1 Y.ptr).1;have g0:=Y.Pu;have a1:∀d,m d->d<c.heap.size:=λd T=>by have:=b7.lt d T;omega
  refine show _/\_ from⟨λd T=>?_,?_⟩
  .simp_all [Wk]
  refine aO (eP (Q:=10) A (Sim.co_take ak (by decide) (by decide) (H:=[]) A 0 8 (a:=[_,_,_,_,_,_,_,_]) A (by rfl) λb6 b8 _ _=>?_))
  have b5:b6.heap[c.heap.size]?=C (VH zG 38 (0,0)):=by grind [Go.MapKept.heap_alloc]
  have a9:∀b,b<c.heap.size->b6.heap[b]?=c.heap[b]?:=λb v=>by simp_all [Wk]
  have e9:b6.heap.size=c.heap.size+1:=by simp_all
  go_wp2
  refine show _/\_ from⟨λd _=>by rw[b8],?_⟩;clear b8;refine mr (a:=#[pt f 0,Vy M a.al,Vy M a.op.kind,.string (bs a.op.path),.string (bs a.op.data),Vy M a.op.aF,Vy M a.op.flags,.bool a.watch]) (l:=8) (more:=[9]) (by decide) A rfl rfl rfl Tryz.func28 (by decide) A (by decide) (by kernel_rfl) (Qz (a:=a) (Y.old (by omega) a9) (b7.keep λb v=>a9 b (a1 b v)) e6 e2 e7 S) λe b0 o=>?_;obtain⟨x,o⟩:=o
  have f7:b0.heap[c.heap.size]?=C (VH zG 38 (0,0)):=by rw[<-b5];refine mq (o.keep _ (by omega) (λw=>by have:=Y.jE.bm w;omega) (λ_ w=>by cases w)) b5 (gX λd T g3 a5=>?_);simp_all
  have a3:fE m h f s i y p q I [a] c x.ov b0 x:={
   at':=o.at'
   val:=A
   keep:=λb v e5 _=>by have:=o.keep b (by omega) e5 (λg4 a5=>by cases a5);simp_all [fK]
   ro:=λb v=>(o.ro b v).trans (a9 b (a1 b v))
   size:=by grind
   own:=λb v=>(o.own b v).imp id λw=>by omega
   use:=λb v=>(o.use b v).imp id λw=>w.imp id λw=>by omega}
  have c9:∀b,aK s (Wt.handle y 0 [a]).1.tree x b\/dE x b->b≠c.heap.size:=λb v a5=>by
   have f6:=Y.jE.bF.2.2;rcases v with v|v
   .rcases o.own b v with w|w
    .have:=Y.jE.bm w;omega
    omega
   rcases o.use b v with w|w|w<;>omega
  have e8:=o.val;subst e8;have g1:c.heap.size<b0.heap.size:=by grind
  clear o b5 a9 e9 d8;have a8:=a3.at'.jE.row;obtain⟨W,a0⟩:∃W,(Wt.handle y 0 [a]).2=W:=⟨_,A⟩;refine Sim.co_take ak (by decide) (by decide) (H:=[]) A 9 1 (more:=[]) (a:=[_]) A (by rfl) λf0 a6 _ _=>?_
  go_wp2
  refine show _/\_ from⟨λd _=>by rw[a6],dF (show CW _ _ _ _ _ _ _ _ from ?_)⟩;obtain⟨b1,b2,a4⟩:∃b1 b2,x.ov=.slice b1 W.length b2:=by
   rw[a0]at a8;rcases a8.2 with⟨Z,R⟩|⟨Q,O,L,Z,_⟩
   .exact⟨_,_,by rw[Z,R]⟩
   simp_all
  rw[a4];have c0:f0.heap[c.heap.size]?=C (VH zG 38 (0,0)):=by simp_all
  refine aO (aO (bn ak (by decide) (by decide) (i:=[]) A (by rfl) λh0 P _ _=>?_));rcases c8:W.reverse with _|⟨k,t⟩
  .obtain rfl:W=[]:=by simpa using c8
   go_wp2
   refine show _/\_ from⟨λd _=>by rw[P],(show CW _ _ _ _ _ _ _ _ from ?_)⟩;refine cI (g:=J) (by decide) A ?_;show CW _ _ _ _ (.seq _ _) _ _ _;refine(aO (eP (Q:=2) A (Sim.co_take ak (by decide) (by decide) (H:=[]) A 0 1 (more:=[1]) (a:=[_]) A (by decide+kernel) λh1 b3 _ _=>?_)))
   go_wp2
   refine show _/\_ from⟨λd _=>by rw[b3],?_⟩;refine Sim.co_take ak (by decide) (by decide) (H:=[]) A 1 1 (more:=[]) (a:=[_]) A (by decide+kernel) λd6 N _ _=>?_;have c6:d6.heap[c.heap.size]?=C (VH zG 38 (0,0)):=by rw[N,b3,P];exact c0
   refine XD A 38 _ _ A c.heap.size (iX {err:=-1} kV) A rfl 38 zG c6 A rfl (by kernel_rfl) ?_;refine show _/\_ from⟨λd T=>?_,dF (show CW _ _ _ _ _ _ _ _ from mA ?_)⟩
   .rw[XX _ _ _ _ (by have:=a1 d T;omega),N]
   refine Tk a3 a1 d1 c9 (λa2 S=>?_) ?_ A rfl (YE _ _ _ _ _ _ c6) A (VA ⟨a0,A⟩)
   .rw[XX _ _ _ _ S,N,b3,P,a6]
   simp_all
  obtain⟨n,rfl⟩:∃n,W=n++[k]:=⟨t.reverse,by rw[<-ZJ W,c8];simp⟩
  obtain⟨Q,O,L,Z,R,o,b4,b9,e0,_⟩:=(by
   rw[a0]at a8;rcases a8.2 with⟨_,R⟩|w
   .simp at R
   exact w:∃Q O L,x.ov=VG (C ⟨Q,0,I⟩) (n++[k]).length O/\b0.heap[Q]?=C (VH L 38 (0,0))/\(n++[k]).length<=O/\O<=maxLen/\L.size=O*16/\L.toList.take ((n++[k]).length*16)=gz (n++[k]) x.vs/\∀d∈L.toList,NB d)
  obtain⟨rfl,rfl⟩:b1=C ⟨Q,0,I⟩/\b2=O:=by rw[Z]at a4;cases a4;exact⟨A,A⟩
  obtain⟨X,d3,d4⟩:∃X,x.vs[n.length]?=C X/\∀j e,(iX k X).toList[j]?=C e->L[n.length*16+j]?=C e:=by have d0:=a3.at'.jE.outs.1;rw[a0]at d0;exact DZ d0 e0
  have d2:=a3.at'.jE.outs.2 n.length k X (by rw[a0];simp) d3;clear d3;have e4:(n++[k]).length=n.length+1:=by simp
  rw[e4]at o a4⊢
  have S:n.length+1<2^63:=by unfold maxLen at b4;omega
  generalize n.length=a2 at o a4 d4 S⊢
  have f9:((a2:VB)+1==0)=Vz:=by simp;omega
  have f8:wrap64 ((a2:VB)+1-1)=a2:=by unfold wrap64;omega
  go_wp2
  refine show _/\_ from⟨λd _=>by rw[P],(show CW _ _ _ _ _ _ _ _ from ?_)⟩;refine cI (g:=Vz) (by decide) (by simp[Act.eval]) ?_;refine ej (show CW _ _ _ _ _ _ _ _ from ?_);refine aO (eP (Q:=7) A (Sim.co_take ak (by decide) (by decide) (H:=[]) A 0 5 (more:=[5,6]) (a:=[_,_,_,_,_]) A (by decide+kernel) λd6 N _ _=>?_))
  go_wp2
  refine show _/\_ from⟨λd _=>by rw[N],?_⟩;refine Sim.co_take ak (by decide) (by decide) (H:=[]) A 5 2 (more:=[]) (a:=[_,_]) A (by decide+kernel) λd7 a7 _ _=>?_;have c7:d7.heap[c.heap.size]?=C (VH zG 38 (0,0)):=by rw[a7,N,P];exact c0
  refine wpList_load_mid A 38 _ A Q (a2*16) A (iX k X).toList _ (λj e e3=>?_) A rfl rfl ?_
  .have e1:d7.heap[Q]?=C (VH L 38 (0,0)):=by rw[a7,N,P,a6];exact R
   exact aa e1 _ (d4 j e e3)
  refine XD A 38 _ _ A c.heap.size (iX k X) A rfl 38 zG c7 A rfl (MA d2) ?_;refine show _/\_ from⟨λd T=>?_,dF (show CW _ _ _ _ _ _ _ _ from mA ?_)⟩
  .rw[XX _ _ _ _ (by have:=a1 d T;omega),a7]
  refine Tk a3 a1 d1 c9 (λa2 S=>?_) ?_ A rfl (YE _ _ _ _ _ _ c7) A (VC ⟨k,X,by rw[a0];simp,A,zF d2⟩)
  .rw[XX _ _ _ _ S,a7,N,P,a6]
  simp_all
 rintro a5 b l⟨rfl,hd,d,d9,x,Z,R,o,b4,b9⟩;refine⟨VC A,hd,λd5=>⟨.agg d,?_,x,b4.eq A rfl,b9⟩⟩;exact z_ (ty:=38) A _ _ c.heap.size 38 d d9 _ Z R A rfl (by rw[o];rfl)
end
variable{d:E}{a:K}{e:Path}
theorem RY(a:K):Calls TP 51 #[] a λd c=>d=VN (pt (a.heap.size+2) 0)/\c=((a.alloc (.map #[] 0)).alloc (.cells (cV [] {} 0 a.heap.size) 192)).alloc (.cells #[pt (a.heap.size+1) 0,Vy M 1,VG I 0 0] 195):=by
 have f:∀b,(Instr.makeMap 188 I).run TP b=.ok (.map (C b.heap.size)) (b.alloc (.map #[] 0)):=λb=>k_ (P:=TP) 188 b;go_enter Tryz.func51,Tryz.ntmps51
 go_wp2
 go_ret;exact⟨A,A⟩
theorem Sh(a:K):Calls TP 52 #[] a λd c=>d=VN (pt (a.heap.size+1) 0)/\c=(a.alloc (.map #[] 0)).alloc (.cells #[.map (C a.heap.size)] 198):=by
 have f:∀b,(Instr.makeMap 196 I).run TP b=.ok (.map (C b.heap.size)) (b.alloc (.map #[] 0)):=λb=>k_ (P:=TP) 196 b;go_enter Tryz.func52,Tryz.ntmps52
 go_wp2
 go_ret;exact⟨A,A⟩
structure PT(b:E)(h g:VB)(a c:K):Prop where
 size:c.heap.size=b+9
 old:∀f,f<b->c.heap[f]?=a.heap[f]?
 h1:c.heap[b+1]?=C (.map #[] 0)
 h2:c.heap[b+2]?=C (VH (cV [] {} 0 (b+1)) 192 (0,0))
 h3:c.heap[b+3]?=C (VH #[pt (b+2) 0,Vy M 1,VG I 0 0] 195 (0,0))
 h4:c.heap[b+4]?=C (.map #[] 0)
 h5:c.heap[b+5]?=C (VH #[.map (C (b+4))] 198 (0,0))
 h6:c.heap[b+6]?=C (.map #[] 0)
 h7:c.heap[b+7]?=C (VH (Dm h g (b+3) (b+5) (b+6) 0 0 1 (VG I 0 0) .nilFunc) 98 (0,0))
 h8:c.heap[b+8]?=C (VH #[pt (b+7) 0] 78 (0,0))
theorem eC(a:K)(b:Obj)(c:a.heap.size=d):(a.alloc b).heap[d]?=C b:=by rw[<-c];exact(XZ a b).1
theorem bh(c:Obj){e:Obj}(b:a.heap[d]?=C e):(a.alloc c).heap[d]?=C e:=by rw[(XZ a c).2 d (Wh.1 b).1];exact b
theorem dS(g:Obj)(f:a.heap.size=d):(a.alloc g).heap.size=d+1:=by simp[f]
theorem Qx(a:K)(b c d e f g h k l:Obj):(((((((((a.alloc b).alloc c).alloc d).alloc e).alloc f).alloc g).alloc h).alloc k).alloc l).heap.size=a.heap.size+9/\(∀i,i<a.heap.size->(((((((((a.alloc b).alloc c).alloc d).alloc e).alloc f).alloc g).alloc h).alloc k).alloc l).heap[i]?=a.heap[i]?)/\(((((((((a.alloc b).alloc c).alloc d).alloc e).alloc f).alloc g).alloc h).alloc k).alloc l).heap[a.heap.size+1]?=C c/\(((((((((a.alloc b).alloc c).alloc d).alloc e).alloc f).alloc g).alloc h).alloc k).alloc l).heap[a.heap.size+2]?=C d/\(((((((((a.alloc b).alloc c).alloc d).alloc e).alloc f).alloc g).alloc h).alloc k).alloc l).heap[a.heap.size+3]?=C e/\(((((((((a.alloc b).alloc c).alloc d).alloc e).alloc f).alloc g).alloc h).alloc k).alloc l).heap[a.heap.size+4]?=C f/\(((((((((a.alloc b).alloc c).alloc d).alloc e).alloc f).alloc g).alloc h).alloc k).alloc l).heap[a.heap.size+5]?=C g/\(((((((((a.alloc b).alloc c).alloc d).alloc e).alloc f).alloc g).alloc h).alloc k).alloc l).heap[a.heap.size+6]?=C h/\(((((((((a.alloc b).alloc c).alloc d).alloc e).alloc f).alloc g).alloc h).alloc k).alloc l).heap[a.heap.size+7]?=C k/\(((((((((a.alloc b).alloc c).alloc d).alloc e).alloc f).alloc g).alloc h).alloc k).alloc l).heap[a.heap.size+8]?=C l:=by
 have m:(a.alloc b).heap.size=a.heap.size+1:=dS _ A;have n:((a.alloc b).alloc c).heap.size=a.heap.size+2:=dS _ m;have o:(((a.alloc b).alloc c).alloc d).heap.size=a.heap.size+3:=dS _ n;have p:((((a.alloc b).alloc c).alloc d).alloc e).heap.size=a.heap.size+4:=dS _ o;have q:(((((a.alloc b).alloc c).alloc d).alloc e).alloc f).heap.size=a.heap.size+5:=dS _ p;have r:((((((a.alloc b).alloc c).alloc d).alloc e).alloc f).alloc g).heap.size=a.heap.size+6:=dS _ q;have s:(((((((a.alloc b).alloc c).alloc d).alloc e).alloc f).alloc g).alloc h).heap.size=a.heap.size+7:=dS _ r;have t:((((((((a.alloc b).alloc c).alloc d).alloc e).alloc f).alloc g).alloc h).alloc k).heap.size=a.heap.size+8:=dS _ s;have v:(((((((((a.alloc b).alloc c).alloc d).alloc e).alloc f).alloc g).alloc h).alloc k).alloc l).heap.size=a.heap.size+9:=dS _ t;refine⟨v,λi u=>?_,?_,?_,?_,?_,?_,?_,?_,?_⟩
 .rw[(XZ _ _).2 i (by rw[t];omega),(XZ _ _).2 i (by rw[s];omega),(XZ _ _).2 i (by rw[r];omega),(XZ _ _).2 i (by rw[q];omega),(XZ _ _).2 i (by rw[p];omega),(XZ _ _).2 i (by rw[o];omega),(XZ _ _).2 i (by rw[n];omega),(XZ _ _).2 i (by rw[m];omega),(XZ _ _).2 i u]
 .exact bh _ (bh _ (bh _ (bh _ (bh _ (bh _ (bh _ (eC _ _ m)))))))
 .exact bh _ (bh _ (bh _ (bh _ (bh _ (bh _ (eC _ _ n))))))
 .exact bh _ (bh _ (bh _ (bh _ (bh _ (eC _ _ o)))))
 .exact bh _ (bh _ (bh _ (bh _ (eC _ _ p))))
 .exact bh _ (bh _ (bh _ (eC _ _ q)))
 .exact bh _ (bh _ (eC _ _ r))
 .exact bh _ (eC _ _ s)
 exact eC _ _ t
theorem QE{e d:VB}(a:K):Calls TP 34 #[Vy M e,Vy M d] a λf c=>f=VN (pt (a.heap.size+6) 0)/\c=((((((a.alloc (.map #[] 0)).alloc (.cells (cV [] {} 0 a.heap.size) 192)).alloc (.cells #[pt (a.heap.size+1) 0,Vy M 1,VG I 0 0] 195)).alloc (.map #[] 0)).alloc (.cells #[.map (C (a.heap.size+3))] 198)).alloc (.map #[] 0)).alloc (.cells (Dm e d (a.heap.size+2) (a.heap.size+4) (a.heap.size+5) 0 0 1 (VG I 0 0) .nilFunc) 98):=by
 have h:∀b,(Instr.makeMap 96 I).run TP b=.ok (.map (C b.heap.size)) (b.alloc (.map #[] 0)):=λb=>k_ (P:=TP) 96 b;go_enter Tryz.func34,Tryz.ntmps34
 go_wp2_with (first
  |(go_at_call 51;refine(RY _).mono ?_;rintro _ _⟨rfl,rfl⟩)
  |(go_at_call 52;refine(Sh _).mono ?_;rintro _ _⟨rfl,rfl⟩))
 go_ret;exact⟨A,A⟩
theorem OQ{d b:VB}(r:1<=d/\d<=100)(q:1<=b/\b<=8)(a:K):Calls TP 26 #[.agg #[Vy M d,Vy M b]] a λp c=>p=VN (.tuple #[pt (a.heap.size+8) 0,.nilIface])/\PT a.heap.size d b a c:=by
 go_enter Tryz.func26,Tryz.ntmps26
 go_wp2_with (go_at_call 34;refine(QE _).mono ?_;rintro _ _⟨rfl,rfl⟩)
 go_ret2;refine⟨A,?_⟩
 obtain⟨e,o,f,g,h,i,k,l,m,n⟩:=Qx a (.cells #[Vy M d,Vy M b] 69) (.map #[] 0) (.cells (cV [] {} 0 (a.heap.size+1)) 192) (.cells #[pt (a.heap.size+1+1) 0,Vy M 1,VG I 0 0] 195) (.map #[] 0) (.cells #[.map (C (a.heap.size+1+3))] 198) (.map #[] 0)
  (.cells (Dm d b (a.heap.size+1+2) (a.heap.size+1+4) (a.heap.size+1+5) 0 0 1 (VG I 0 0) .nilFunc) 98) (.cells #[pt (a.heap.size+1+6) 0] 78)
 exact⟨e,o,f,g,h,i,k,l,m,n⟩
theorem mV:Stamped #[] 0:=⟨by simp,by simp,by simp⟩
theorem fO{b:Nd}(a:Wt.find [([],{})] e=C b):e=[]/\b={}:=by
 rcases e with _|⟨c,e⟩
 .exact⟨A,(Xa a).symm⟩
 have:Wt.find [([],{})] (c::e)=I:=by unfold Wt.find;simp[Wt.find]
 rw[this]at a;cases a
theorem OR{x w:VB}(f:PT b x w a c)(o:b=a.heap.size)(L:(∃n,a.cell? ⟨1,0,I⟩=C (Vy M n))/\yB a/\4<a.heap.size):
 ∃i,aM (b+7) w {timeout:=x} [] i c/\(∀g,aK (b+7) [([],{})] i g->b<=g/\g≠b+8)/\∀g,dE i g->g=1\/g=4:=by
 subst o;obtain⟨b,o⟩:∃b,a.heap.size=b:=⟨_,A⟩;rw[o]at f⊢
 let i:kH:={tb:=b+3,nb:=λ_=>b+2,mb:=λ_=>b+1,tw:=b+5,mw:=b+4,f:=λ_=>I,hb:=b+6,ov:=VG I 0 0,vs:=[]}
 have t:∀g,nP [([],{})] i.nb i.mb i.tb g->g=b+1\/g=b+2\/g=b+3:=λg h=>by
  rcases h with f|⟨e,_,f|f⟩
  .exact VC (VC f)
  .exact VC (VA f)
  exact VA f
 have v:∀g,ey i.tw i.mw i.f g->g=b+4\/g=b+5:=λg h=>by
  rcases h with f|f|⟨d,l,f⟩
  .exact VC f
  .exact VA f
  cases f
 have u:∀g,dE i g->g=1\/g=4:=λg h=>by
  rcases h with f|f|⟨r,f,_⟩
  .exact VA f
  .exact VC f
  cases f
 have z:Kids #[] 0 (cz [([],{})] i.nb []):=⟨mV,λs f=>by simp at f,λa6 Q f=>by
  exfalso;unfold cz at f;split at f
  .rename_i D;obtain⟨y,m⟩:=Wn.1 D;have:=(fO m).1;simp at this
  cases f⟩
 refine⟨i,⟨?_,?_,Af,?_,?_,?_,?_,?_,?_,?_⟩,λg h=>?_,u⟩
 .exact{
   nd:=λe n k=>by obtain⟨rfl,rfl⟩:=fO k;exact f.h2
   kd:=λe n k=>by obtain⟨rfl,rfl⟩:=fO k;exact⟨_,_,f.h1,z⟩
   inj:=λe l k p _=>by obtain⟨y,m⟩:=Wn.1 k;obtain⟨P,q⟩:=Wn.1 p;rw[(fO m).1,(fO q).1]
   Bz:=λe l k p _=>by
    obtain⟨y,m⟩:=Wn.1 k;obtain⟨P,q⟩:=Wn.1 p
    rw[(fO m).1,(fO q).1]}
 .exact⟨VG I 0 0,VC ⟨_,_,_,A⟩,f.h3⟩
 .exact⟨f.h5,⟨_,_,f.h4,mV,λs f=>by simp at f,(λd r f=>by cases f)⟩,(λd l=>VA ⟨A,_,A⟩),(λd l X a5 S f=>by cases f),(λd l=>VD.Pairwise.nil),(λd l b1 O=>by cases O)⟩
 .refine⟨_,_,f.h6,mV,λs f=>by simp at f,λd r f=>?_⟩;unfold fJ at f;split at f<;>cases f
 .exact f.h7
 .exact bV.nil _ _ _ _
 .exact⟨A,λd a3 r f=>by simp at f⟩
 .obtain⟨⟨n,N⟩,H,T⟩:=L;exact⟨⟨n,cf (f.old 1 (by omega)) N⟩,H.stay (by rw[f.old 4 (by omega)]),by rw[f.size];omega⟩
 .refine⟨λg=>if g<=b+3 then(if g<=b then 5 else 0)else if g<=b+5 then 1 else if g=b+6 then 2 else 3,λg h=>?_,λg h=>?_,?_,?_,λg h=>(by cases h),λg h=>?_⟩
  .have:=t g h;show(if g<=b+3 then(if g<=b then 5 else 0)else if g<=b+5 then 1 else if g=b+6 then 2 else 3)=0;rw[VV (by omega),VK (by omega)]
  .have:=v g h;dsimp only;rw[VK (by omega),VV (by omega)]
  .show(if b+6<=b+3 then(if b+6<=b then 5 else 0)else if b+6<=b+5 then 1 else if b+6=b+6 then 2 else 3)=2;rw[VK (by omega),VK (by omega),VV A]
  .show(if b+7<=b+3 then(if b+7<=b then 5 else 0)else if b+7<=b+5 then 1 else if b+7=b+6 then 2 else 3)=3;rw[VK (by omega),VK (by omega),VK (by omega)]
  have:=u g h;dsimp only;rw[VV (by omega),VV (by omega)]
 rcases h with f|f|f|f|f
 .exact⟨by omega,by omega⟩
 .have:=t g f;omega
 .have:=v g f;omega
 .have:g=b+6:=f;omega
 cases f
variable{r:Vx}{u:E}{t:VD VM}{z:VE Oper}{S:Exit->VQ->K->Prop}{e:E}{j:E}
section
variable[Inhabited aV]
def Kc(b:VB):Prop:=b=1\/b=3\/b=4\/b=5\/b=6\/b=8\/b=9\/b=10
structure yz(ro:E->Prop)(p g s f:E)(y:dH)(h:E)(o:kH)(i:eK)(c:K)(n:VE Vx)(d:E)(k:K)(v:kH):Prop where
 at':CN p g s f (Wt.handle y 0 [i]).1 (h+1) (Wt.handle y 0 [i]).2 v k
 keep:∀a,a<c.heap.size->¬aK s y.tree o a->fK c k a
 ro:∀a,ro a->k.heap[a]?=c.heap[a]?
 size:c.heap.size<=k.heap.size
 own:∀a,aK s (Wt.handle y 0 [i]).1.tree v a->aK s y.tree o a\/c.heap.size<=a
 use:∀a,dE v a->a=1\/a=4\/c.heap.size<=a
 blk:k.heap[d]?=C (VH n 38 (0,0))
 new:c.heap.size<=d
 free:¬aK s (Wt.handle y 0 [i]).1.tree v d
 last:xe (Wt.handle y 0 [i]).2 (.agg n)
 ok:n.all (·.oneCell')=J
 Ei:¬aT n
 sz:n.size=16
theorem Bn{q:VD Out}(e:xe q r):∃b,r=.agg b/\b.all (·.oneCell')=J/\¬aT b/\b.size=16:=by
 rcases e with⟨_,rfl⟩|⟨l,m,_,rfl,a,u,h,g,k,i,rfl⟩
 .refine⟨_,A,by kernel_rfl,gX λb c f d=>?_,A⟩;simp only[iX,oV,Wo,Wx,Xo]at c;rcases c with rfl|rfl|rfl|rfl|rfl|rfl|rfl|rfl|rfl|rfl|rfl|rfl|rfl|rfl|rfl|rfl<;>cases d
 refine⟨_,A,by kernel_rfl,gX λb c f d=>?_,A⟩;simp only[iX,oV,Wo,Wx,Xo]at c;rcases c with rfl|rfl|rfl|rfl|rfl|rfl|rfl|rfl|rfl|rfl|rfl|rfl|rfl|rfl|rfl|rfl<;>cases d
section
variable{p g f h x:E}{q:VD Out}{o:kH}
variable{d:VM}{a:VQ}
theorem ls{N:Sim.Rt}{l:eK}{more:VD E}{R:VE Wd}{b3:VE VJ}{a9:VD E}(a7:N.kn.map (·.1)=a9)(c6:N.free (C j)=J)(c7:(a9.all λy=>C b !=C y)=J)(a3:ar.fr d.fn=J)(U:d.kind≠.early)
 (b5:bM z e (C j) (.call {callee:=.value (.func 16),args:=R,argTypes:=b3}))(b6:bM z (e+1) (C b) (.alloc 38))(b7:bM z (e+2) I (.store 38 (.tmp b) (.tmp j)))
 (a4:j<a.tmps.size)(a6:b<a.tmps.size)(a5:j≠b)(d2:iW TP ar.fn ar.bi ar.cj (.store 38 (.tmp b) (.tmp j))=J)(c0:R.toList.all (dG TP ar.fn)=J)
 (b9:R.map a.eval=#[pt g 0,Vy M l.al,Vy M l.op.kind,.string (bs l.op.path),.string (bs l.op.data),Vy M l.op.aF,Vy M l.op.flags,.bool l.watch])
 (Q:CN p g s f y h q o c)(Z:Da m p c)(d0:1<=f/\f<2^16)(b8:h<2^16)(d1:oE l.op)(c8:Kc l.op.kind)
 (next:∀n a0 b2 T,yz m p g s f y h o l c n a0 b2 T->CO (goalAt TP I I D ar m) d N t z more S ((a.put (C j) (.agg n)).put (C b) (pt a0 0)) b2):
 CO (goalAt TP I I D ar m) d N t z (e::(e+1)::(e+2)::more) S a c:=by
 obtain⟨e6,d5,b0,d6,d8⟩:=b5;refine mr U (by rw[b0];exact c6) d5 (by unfold Region.wanted;rw[d8]) d6 Tryz.func16 (by decide) A c0 b9 (Rm (a:=l) Q Z d0 b8 d1 c8) λr v L=>?_;obtain⟨T,w,a1⟩:=L;rw[b0];obtain⟨n,rfl,a8,d4,Y⟩:=Bn a1;have e4:g<c.heap.size:=(Wh.1 Q.ptr).1;have X:∀n,m n->n<c.heap.size:=λn d3=>by have:=Z.lt n d3;have:=Q.Pu;omega
 have e5:=w.size;refine nl (yR ak a3 U b6 a7 (by decide) c7 λe9 H _ _ e0 d9 b4=>?_)
 go_wp2
 refine⟨λi k=>(Wk _ _ _ (by have:=X i k;rw[H];omega)).trans (by rw[H]),?_⟩;refine yR ak a3 U b7 a7 d2 (by simp) λP O _ _ e0 d9 b4=>?_;have a2:P.heap[v.heap.size]?=C (VH zG 38 (0,0)):=by rw[O,<-H];exact(XZ _ _).1
 have d7:∀i,i<v.heap.size->P.heap[i]?=v.heap[i]?:=λi k=>by rw[O,Wk _ _ _ (by rw[H];exact k),H]
 have b1:P.heap.size=v.heap.size+1:=by rw[O,jm,H]
 refine wp_store_row 38 _ _ A v.heap.size n ?_ ?_ 38 zG a2 (by rw[Y];rfl) (by rw[Y];rfl) a8 ?_
 .simp[Act.eval,a4,a6]
 .simp[Act.eval,a4,a6,VE.getElem_setIfInBounds,a5,Xu a5]
 have W:∀i,i<v.heap.size->(P.setRow v.heap.size n).heap[i]?=v.heap[i]?:=λi k=>by rw[XX _ _ _ _ (by omega),d7 i k]
 refine⟨λi k=>?_,next n v.heap.size _ T ?_⟩
 .rw[XX _ _ _ _ (by have:=X i k;omega),O]
 exact{
  at':=w.at'.old (by rw[ZP,b1];omega) W
  keep:=λi k c9=>by
   have:=w.keep i k c9 (λ_ L=>by cases L);unfold fK at this⊢
   rw[W i (by omega)];exact this
  ro:=λi k=>by rw[W i (by have:=X i k;omega)];exact w.ro i k
  size:=by rw[ZP,b1];omega
  own:=w.own
  use:=w.use
  blk:=YE _ _ _ _ _ _ a2
  new:=by omega
  free:=λL=>by have:=w.at'.jE.bm L;omega
  last:=a1
  ok:=a8
  Ei:=d4
  sz:=Y}
end
end
variable{v:E}{f:VE Vx}{q:E}{z:Out}
section
variable[Inhabited aV]
theorem NU{a:VE Vx}(b:a.size=v):a=((VD.range v).map λd=>a.getD d F).toArray:=by refine ZG (by simp[b]) λd c e=>?_;simp[WB,c]
abbrev RM(b:VB)(c:E)(d:E)(a:E->Vx):VQ:=⟨#[Vy M b,a 1,VW I,pt c 0,.nilIface,Vy M (d+1),a 6,a 7,a 8,a 9,a 10,a 11,a 12,a 13,a 14,a 15,a 16,a 17,a 18,a 19,a 20,a 21,a 22,a 23,a 24,a 25,a 26,a 27,a 28,a 29,a 30,a 31,a 32,a 33,a 34,a 35,a 36,a 37,a 38,a 39,a 40,a 41,a 42,a 43,a 44,a 45,a 46,a 47,a 48,a 49,a 50,a 51,a 52,a 53,a 54,a 55,a 56,a 57,a 58,a 59,a 60,a 61,a 62,a 63,a 64,a 65,a 66,a 67,a 68,a 69,a 70,a 71,a 72,a 73,a 74,a 75,a 76,a 77],[]⟩
theorem GI{k:VB}{c:E}{a:VQ}(i:a.tmps.size=78)(hd:a.defers=[])(b:a.tmps[0]?=C (Vy M k))(e:a.tmps[2]?=C (VW I))(f:a.tmps[3]?=C (pt c 0))(g:a.tmps[4]?=C (.nilIface))(h:a.tmps[5]?=C (Vy M (d+1))):∃n,a=RM k c d n:=by obtain⟨m,o⟩:=a;simp only at i hd b e f g h;subst hd;exact⟨λd=>m.getD d F,VU (λl=>(⟨l,[]⟩:VQ)) ((NU i).trans (by simp only[VD.range,VD.range.loop,VD.map,WB,b,e,f,g,h,Xw]))⟩
structure CP(ro:E->Prop)(h:E)(a:K)(sx s g:E)(y:dH)(u:E)(e:kH)(i:K):Prop where
 at':∃n,CN h sx s g y u n e i
 keep:∀b,b<a.heap.size->fK a i b
 ro:∀b,ro b->i.heap[b]?=a.heap[b]?
 size:a.heap.size<=i.heap.size
 own:∀b,aK s y.tree e b->a.heap.size<=b
 use:∀b,dE e b->b=1\/b=4\/a.heap.size<=b
 sx:a.heap.size<=sx
section
variable{h c g u:E}{e k:kH}{t r:K}
theorem CP.eq(b:CP m h a c s g y u e t)(d:r.heap=t.heap):CP m h a c s g y u e r where
 at':=by obtain⟨z,k⟩:=b.at';exact⟨z,k.eq d⟩
 keep:=λf i=>Di (b.keep f i) A d
 ro:=λf i=>by rw[d];exact b.ro f i
 size:=by rw[d];exact b.size
 own:=b.own
 use:=b.use
 sx:=b.sx
theorem CP.one{p:eK}(d:CP m h a c s g y u e t)(w:∀b,m b->b<a.heap.size)(l:yz m h c s g y u e p t f q r k):CP m h a c s g (Wt.handle y 0 [p]).1 (u+1) k r where
 at':=⟨_,l.at'⟩
 keep:=λb i=>(d.keep b i).trans (l.keep b (by have:=d.size;omega) λv=>by have:=d.own b v;omega)
 ro:=λb i=>(l.ro b i).trans (d.ro b i)
 size:=Wu d.size l.size
 own:=λb i=>(l.own b i).elim (d.own b) λn=>Wu d.size n
 use:=λb i=>(l.use b i).imp id λn=>n.imp id λo=>Wu d.size o
 sx:=d.sx
end
structure Qi(s:E)(y:dH)(e:kH)(q:E)(f:VE Vx)(a:K):Prop where
 blk:a.heap[q]?=C (VH f 38 (0,0))
 free:¬aK s y.tree e q
 Ei:¬aT f
section
variable{h c g u:E}{e k:kH}{t r:K}{p:eK}{H:E}{W:VE Vx}
theorem Qi.eq(a:Qi s y e q f t)(b:r.heap=t.heap):Qi s y e q f r:=⟨by rw[b];exact a.blk,a.free,a.Ei⟩
theorem yz.SD(a:yz m h c s g y u e p t f q r k):Qi s (Wt.handle y 0 [p]).1 k q f r:=⟨a.blk,a.free,a.Ei⟩
theorem Qi.next(a:Qi s y e q f t)(b:yz m h c s g y u e p t W H r k):Qi s (Wt.handle y 0 [p]).1 k q f r:=by have d:=(Wh.1 a.blk).1;refine⟨?_,λi=>(b.own q i).elim a.free λl=>by omega,a.Ei⟩;rw[<-a.blk];exact mq (b.keep q d a.free) a.blk a.Ei
end
structure JW(m:E->Prop)(h:E)(a:K)(b:Vx)(i:K)(c s g:E)(k:kH):Prop where
 val:b=pt c 0
 Vo:1<=g/\g<=8
 jE:CP m h a c s g Wt.sB 7 k i
theorem lp:∀a,(b:a<7)->Wt.handle (oq a) 0 [MN[a]'b]=(oq (a+1),[Tl[a]'b]):=λa b=>by rw[vQ a b,<-De a b,mJ];exact ZM A (Yp _)
theorem NY:∀d:E,d<3->Wt.handle (oq d) 0 [Wt.rq 0 1 [] [] 0 0 Vz]=(oq (d+1),[{al:=(d:VB)+1}])
 |0,_=>lp 0 (by decide)
 |1,_=>lp 1 (by decide)
 |2,_=>lp 2 (by decide)
theorem gR(a:xe [z] (.agg f)):∃b,f=iX z b:=by
 rcases a with⟨a,_⟩|⟨e,b,c,d,_⟩
 .cases a
 grind
def LN(b:E)(a:VQ):E:=match a.tmps[b]? with
 |some (.int _ v)=>v.toNat
 |_=>0
theorem Rl{c:VB}:Ok {timeout:=c} 0 where
 wf:=Af
 wU:=VD.Pairwise.nil
 key:=λb a=>by cases a
 kI:=show(1:VB)<=1/\(1:VB)<=(0:E)+1 by decide
 xC:=by simp
 aE:=show(0:VB)<=0/\(0:VB)<=512*(0:E)by decide
 tK:=λb p=>VD.Pairwise.nil
 tJ:=λb p f a=>by cases a
 KN:=λe v a=>by obtain⟨rfl,rfl⟩:=fO a;simp
section
variable{h:E}
theorem KL{a1:VB}(d3:-2^63<=a1/\a1<2^63)(S:Da m h a)(d0:(∃Q,a.cell? ⟨1,0,I⟩=C (Vy M Q))/\yB a/\4<a.heap.size)(f8:h<=a.heap.size):
 Co (goalAt TP I I D ar m) 14 #[Vy M a1] a λW X=>∃c s g k,JW m h a W X c s g k:=by
 refine uI ak (by decide) (fn:=Tryz.f14) Tryz.func14 A (S:=λb6 l X=>b6=.ret/\l.defers=[]/\∃W,l.tmps[2]?=C W/\∃c s g k,JW m h a W X c s g k) (s:=#[Vy M a1,F,F,F,F,F,F,F,F,F,F,F,F,F,F,F,F,F,F,F,F,F,F,F,F,F,F,F,F,F,F,F,F,F,F,F,F,F,F,F,F,F,F,F,F,F,F,F,F,F,F,F,F,F,F,F,F,F,F,F,F,F,F,F,F,F,F,F,F,F,F,F,F,F,F,F,F,F]) (by kernel_rfl) (λe1 e2=>?_) ?_
 .have U:∀f,m f->f<a.heap.size:=λf d4=>by have:=S.lt f d4;omega
  refine aO (bn ak (by decide) (by decide) (i:=[]) A (by rfl) λt b0 _ _=>?_)
  go_wp2
  refine show _/\_ from⟨λf _=>by rw[b0],(show CW _ _ _ _ _ _ _ _ from ?_)⟩;refine aO (bn ak (by decide) (by decide) (i:=[]) A (by rfl) λr b7 _ _=>?_)
  go_wp2_with (first
   |(go_at_call 21;refine(lI d3 (by decide) _).mono ?_;rintro _ _⟨Q,f7,rfl,rfl⟩)
   |(go_at_call 26;refine(OQ (by decide) (by omega) _).mono ?_;rintro _ _⟨rfl,P⟩))
  rename_i d6 _ _ d7
  obtain⟨e,B⟩:∃e,CP m h a (a.heap.size+8) (a.heap.size+7) (1+Q) Tw 0 e d7:=by
   have Y:=b7.trans b0;have d2:(1+(Q:VB))=((1+Q:E):VB):=by omega
   rw[Y,d2]at P;obtain⟨e,c0,b4,b8⟩:=OR (a:=d6) P (by rw[Y]) ⟨by grind [World.cell?],d0.2.1.stay (by rw[Y]),by grind⟩;refine⟨e,⟨[],c0,P.h8,Rl,λl H=>⟨by have:=(b4 l H).1;omega,(b4 l H).2⟩,by omega,λl H=>(b8 l H).imp id VA⟩,λl H=>?_,λl H=>?_,?_,λl H=>(b4 l H).1,λl H=>(b8 l H).imp id VA,by omega⟩
   .exact VA (by rw[P.old l H,Y])
   .rw[P.old l (U l H),Y]
   rw[P.size];omega
  refine show _/\_ from⟨λz y=>(B.ro z y).trans (by rw[b0]),(show CW _ _ _ _ _ _ _ _ from ?_)⟩;clear P;generalize a.heap.size+8=c at B⊢
  generalize a.heap.size+7=s at B;refine aO (aO (bn ak (by decide) (by decide) (i:=[]) A (by rfl) λg5 b1 _ _=>?_))
  go_wp2
  replace B:=B.eq b1;refine show _/\_ from⟨λz y=>by rw[b1],(show CW _ _ _ _ _ _ _ _ from ?_)⟩;clear b1 b7;refine cI (g:=Vz) (by decide) A (ej (show CW _ _ _ _ _ _ _ _ from ?_));refine aO (aO (bn ak (by decide) (by decide) (i:=[]) A (by rfl) λd8 b2 _ _=>?_))
  go_wp2
  replace B:=B.eq b2;refine show _/\_ from⟨λz y=>by rw[b2],(show CW _ _ _ _ _ _ _ _ from ?_)⟩;clear b2;refine kQ (yV (w:=λl X=>∃d,d<=3/\(∃b9,l=RM a1 c d b9)/\∃e,CP m h a c s (1+Q) (oq d) d e X) (P:=λl a=>4-LN 5 l) ⟨0,by decide,GI A rfl rfl rfl rfl rfl rfl,e,B⟩ ?_);rintro l d8⟨d,f5,⟨b9,rfl⟩,e,B⟩;dsimp only[RM];refine aO (aO (bn ak (by decide) (by decide) (i:=[]) A (by rfl) λg6 T _ _=>?_));rcases(by omega:d=3\/d<3)with rfl|d1
  .go_wp2
   replace B:=B.eq T;refine show _/\_ from⟨λz y=>by rw[T],(show CW _ _ _ _ _ _ _ _ from ?_)⟩;clear T;refine cI (g:=Vz) (by decide) A (tR ?_);show CW _ _ _ _ _ _ _ _;refine aO (eP (Q:=4) A (Sim.co_take ak (by decide) (by decide) (H:=[]) A 0 1 (more:=[1,2,3]) (a:=[_]) A (by rfl) λa7 i _ _=>?_))
   go_wp2
   replace B:=B.eq i;refine show _/\_ from⟨λz y=>by rw[i],(show CO _ _ _ _ _ _ _ _ _ from ?_)⟩;clear i;obtain⟨a6,w⟩:=B.at';refine ls (a9:=[]) A rfl rfl (l:=Wt.rq 1 3 Wt.pA Wt.first 0 0 Vz) (j:=41) (b:=7) (by decide) (by decide) ⟨_,A,A,A,A⟩ ⟨_,A,A,A,A⟩ ⟨_,A,A,A,A⟩ (show 41<78 by decide) (show 7<78 by decide) (by decide) (by rfl) (by decide) (by kernel_rfl) w (S.keep B.ro) (by omega) (by omega) ⟨by decide,by decide,by decide,by decide⟩ (VC (VA A)) λf c6 a8 e3 b=>?_;replace B:=B.one U b;have o:=b.last;have n:=b.SD;have u:=lp 3 (by decide)
   change Wt.handle _ _ [Wt.rq 1 3 Wt.pA Wt.first 0 0 Vz]=_ at u
   rw[u]at B o n;obtain⟨g2,rfl⟩:=gR o;clear w o b u;refine dF (show CW _ _ _ _ _ _ _ _ from ?_);dsimp only[Act.put];refine aO (eP (Q:=4) A (Sim.co_take ak (by decide) (by decide) (H:=[]) A 0 1 (more:=[1,2,3]) (a:=[_]) A (by rfl) λa7 i _ _=>?_))
   go_wp2
   replace B:=B.eq i;replace n:=n.eq i;refine show _/\_ from⟨λz y=>by rw[i],(show CO _ _ _ _ _ _ _ _ _ from ?_)⟩;clear i;obtain⟨a6,w⟩:=B.at';refine ls (a9:=[]) A rfl rfl (l:=Wt.rq 2 3 Wt.pB [] 0 0 Vz) (j:=43) (b:=8) (by decide) (by decide) ⟨_,A,A,A,A⟩ ⟨_,A,A,A,A⟩ ⟨_,A,A,A,A⟩ (show 43<78 by decide) (show 8<78 by decide) (by decide) (by rfl) (by decide) (by kernel_rfl) w (S.keep B.ro) (by omega) (by omega) ⟨by decide,by decide,by decide,by decide⟩ (VC (VA A)) λf c7 a8 e4 b=>?_;replace B:=B.one U b;have o:=b.last;have x:=b.SD;replace n:=n.next b;have u:=lp 4 (by decide)
   change Wt.handle _ _ [Wt.rq 2 3 Wt.pB [] 0 0 Vz]=_ at u
   rw[u]at B o x n;obtain⟨g3,rfl⟩:=gR o;clear w o b u;refine dF (show CW _ _ _ _ _ _ _ _ from ?_);dsimp only[Act.put];refine aO (eP (Q:=4) A (Sim.co_take ak (by decide) (by decide) (H:=[]) A 0 1 (more:=[1,2,3]) (a:=[_]) A (by rfl) λa7 i _ _=>?_))
   go_wp2
   replace B:=B.eq i;replace n:=n.eq i;replace x:=x.eq i;refine show _/\_ from⟨λz y=>by rw[i],(show CO _ _ _ _ _ _ _ _ _ from ?_)⟩;clear i;obtain⟨a6,w⟩:=B.at';refine ls (a9:=[]) A rfl rfl (l:=Wt.rq 3 3 OV yn 0 0 Vz) (j:=45) (b:=9) (by decide) (by decide) ⟨_,A,A,A,A⟩ ⟨_,A,A,A,A⟩ ⟨_,A,A,A,A⟩ (show 45<78 by decide) (show 9<78 by decide) (by decide) (by rfl) (by decide) (by kernel_rfl) w (S.keep B.ro) (by omega) (by omega) ⟨by decide,by decide,by decide,by decide⟩ (VC (VA A)) λf c8 a8 e5 b=>?_;replace B:=B.one U b;have o:=b.last;have N:=b.SD;replace n:=n.next b;replace x:=x.next b;have u:=lp 5 (by decide)
   change Wt.handle _ _ [Wt.rq 3 3 OV yn 0 0 Vz]=_ at u
   rw[u]at B o N n x;obtain⟨g4,rfl⟩:=gR o;clear w o b u;refine dF (show CW _ _ _ _ _ _ _ _ from ?_);dsimp only[Act.put];refine aO (eP (Q:=4) A (Sim.co_take ak (by decide) (by decide) (H:=[]) A 0 1 (more:=[1,2,3]) (a:=[_]) A (by rfl) λa7 i _ _=>?_))
   go_wp2
   replace B:=B.eq i;replace n:=n.eq i;replace x:=x.eq i;replace N:=N.eq i;refine show _/\_ from⟨λz y=>by rw[i],(show CO _ _ _ _ _ _ _ _ _ from ?_)⟩;clear i;obtain⟨a6,w⟩:=B.at';refine ls (a9:=[]) A rfl rfl (l:=Wt.rq 1 8 OV [] 0 0 Vz) (j:=47) (b:=10) (by decide) (by decide) ⟨_,A,A,A,A⟩ ⟨_,A,A,A,A⟩ ⟨_,A,A,A,A⟩ (show 47<78 by decide) (show 10<78 by decide) (by decide) (by rfl) (by decide) (by kernel_rfl) w (S.keep B.ro) (by omega) (by omega) ⟨by decide,by decide,by decide,by decide⟩ (VC (VC (VC (VC (VC (VA A)))))) λf a9 a8 c9 b=>?_;replace B:=B.one U b;have o:=b.last;have R:=b.SD;replace n:=n.next b;replace x:=x.next b;replace N:=N.next b;have u:=lp 6 (by decide)
   change Wt.handle _ _ [Wt.rq 1 8 OV [] 0 0 Vz]=_ at u
   rw[u]at B o R n x N;obtain⟨g1,rfl⟩:=gR o;clear w o b u;refine dF (show CW _ _ _ _ _ _ _ _ from ?_);dsimp only[Act.put];refine aO (aO (bn ak (by decide) (by decide) (i:=[]) A (by rfl) λO L _ _=>?_));replace B:=B.eq L;replace n:=n.eq L;have e9:O.cell? ⟨c6,3,I⟩=C (Vy M 0):=aa n.blk 3 A;replace x:=x.eq L;have f0:O.cell? ⟨c7,3,I⟩=C (Vy M 0):=aa x.blk 3 A;replace N:=N.eq L;have f1:O.cell? ⟨c8,3,I⟩=C (Vy M 0):=aa N.blk 3 A;replace R:=R.eq L;have e7:O.cell? ⟨a9,3,I⟩=C (Vy M 0):=aa R.blk 3 A;have f2:O.cell? ⟨a9,5,I⟩=C (.string ⟨#[116,104,105,114,100]⟩):=aa R.blk 5 A;have f3:O.cell? ⟨a9,7,I⟩=C (Vy M 6):=aa R.blk 7 A
   go_wp2
   refine show _/\_ from⟨λz y=>by rw[L],(show CW _ _ _ _ _ _ _ _ from ?_)⟩;refine cI (g:=Vz) (by decide) A (ej (show CW _ _ _ _ _ _ _ _ from ?_));refine aO (bn ak (by decide) (by decide) (i:=[]) A (by rfl) λd5 Z _ _=>?_)
   go_wp2
   refine show _/\_ from⟨λz y=>by rw[Z],(show CW _ _ _ _ _ _ _ _ from mA ?_)⟩;exact⟨A,A,_,A,c,s,1+Q,c9,A,⟨by omega,by omega⟩,B.eq Z⟩
  have f6:decide (((d:VB)+1)<=3)=J:=by simp;omega
  go_wp2
  replace B:=B.eq T;refine show _/\_ from⟨λz y=>by rw[T],(show CW _ _ _ _ _ _ _ _ from ?_)⟩;clear T;refine cI (g:=J) (by decide) A (ej (show CW _ _ _ _ _ _ _ _ from ?_));refine aO (kQ (aO (eP (Q:=4) A (Sim.co_take ak (by decide) (by decide) (H:=[]) A 0 1 (more:=[1,2,3]) (a:=[_]) A (by rfl) λa7 i _ _=>?_))))
  go_wp2
  replace B:=B.eq i;refine show _/\_ from⟨λz y=>by rw[i],(show CO _ _ _ _ _ _ _ _ _ from ?_)⟩;clear i;obtain⟨a6,w⟩:=B.at';refine ls (a9:=[]) A rfl rfl (l:=Wt.rq 0 1 [] [] 0 0 Vz) (j:=30) (b:=6) (by decide) (by decide) ⟨_,A,A,A,A⟩ ⟨_,A,A,A,A⟩ ⟨_,A,A,A,A⟩ (show 30<78 by decide) (show 6<78 by decide) (by decide) (by rfl) (by decide) (by kernel_rfl) w (S.keep B.ro) (by omega) (by omega) ⟨by decide,by decide,by decide,by decide⟩ (VA A) λf b5 a8 k b=>?_;have a3:=B.one U b;have o:=b.last;rw[NY d d1]at a3 o;obtain⟨g0,rfl⟩:=gR o;have b3:=b.blk;clear B w o b;refine dF (show CW _ _ _ _ _ _ _ _ from ?_);refine aO (bn ak (by decide) (by decide) (i:=[]) A (by rfl) λO L _ _=>?_);rw[<-L]at b3;have e8:O.cell? ⟨b5,3,I⟩=C (Vy M 0):=aa b3 3 A;have e6:O.cell? ⟨b5,0,I⟩=C (Vy M (d+1)):=aa b3 0 A
  go_wp2
  refine show _/\_ from⟨λz y=>by rw[L],(show CW _ _ _ _ _ _ _ _ from ?_)⟩;replace a3:=a3.eq L;refine cI (g:=Vz) (by decide) A (ej (show CW _ _ _ _ _ _ _ _ from ?_));refine bn ak (by decide) (by decide) (i:=[]) A (by rfl) λd5 Z _ _=>?_
  go_wp2
  refine show _/\_ from⟨λz y=>by rw[Z],(show(∃_,_)/\_ from⟨⟨d+1,by omega,GI A rfl rfl rfl rfl rfl (by rfl),k,a3.eq Z⟩,?_⟩)⟩;show 4-((d:VB)+1+1).toNat<4-((d:VB)+1).toNat;omega
 rintro b6 l X⟨rfl,hd,W,f4,a0⟩;refine⟨VC A,hd,λa2=>⟨W,?_,?_⟩⟩
 .simp_all [results]
 obtain⟨c,s,g,k,a0⟩:=a0;exact⟨c,s,g,k,⟨a0.val,a0.Vo,a0.jE.eq A⟩⟩
end
end
variable{q:K}{al:VB}{b:VX}
def fits(a:VB):Prop:=-2^63<=a/\a<2^63
abbrev zV(al d:VB)(e a:VX)(aF b:VB)(c:VI):VE Vx:=#[Vy M al,Vy M d,.string e,.string a,Vy M aF,Vy M b,.bool c,VG I 0 0]
def NL(al a:VB)(d c:VX)(aF b:VB):Prop:=
 (1<=al/\al<=3)/\(a=3\/a=4\/a=5\/a=8\/a=9\/a=10\/a=6)/\(∃f∈zK,d=⟨f.toArray⟩)/\c.size<=16/\(-1<=aF/\aF<=2)/\0<=b/\b<=3
theorem wrap_small{a:VB}(b:-2^63<=a)(c:a<2^63):IntKind.i64.wrap a=a:=by rw[IntKind.wrap_i64];omega
structure lZ(a q:K)(g i f e h:VB)(b:VX)(c:VI)(al:VB):Prop where
 h0:q.heap[a.heap.size]?=C (VH #[Vy M g,Vy M i,Vy M f,Vy M e,Vy M h,.string b,.bool c] 72 (0,0))
 h1:q.heap[a.heap.size+1]?=C (VH (zV 0 0 ⟨#[]⟩ ⟨#[]⟩ 0 0 Vz) 31 (0,0))
 h2:q.heap[a.heap.size+1+1]?=C (VH #[Vy M 3,Vy M 4,Vy M 5,Vy M 8,Vy M 9,Vy M 10,Vy M 6] 3 (0,0))
 h3:q.heap[a.heap.size+1+1+1]?=C (VH (zV al 0 ⟨#[]⟩ ⟨#[]⟩ 0 0 c) 31 (0,0))
 size:a.heap.size+4<=q.heap.size
 NG:Below a.heap.size a q
theorem TX(a:K)(g i f e h:VB)(b:VX)(c:VI)(al:VB):lZ a ((((a.alloc (.cells #[Vy M g,Vy M i,Vy M f,Vy M e,Vy M h,.string b,.bool c] 72)).alloc (.cells (zV 0 0 ⟨#[]⟩ ⟨#[]⟩ 0 0 Vz) 31)).alloc (.cells #[Vy M 3,Vy M 4,Vy M 5,Vy M 8,Vy M 9,Vy M 10,Vy M 6] 3)).alloc (.cells (zV al 0 ⟨#[]⟩ ⟨#[]⟩ 0 0 c) 31)).drew g i f e h b c al:=by
 have k:=dS (a:=a) (.cells #[Vy M g,Vy M i,Vy M f,Vy M e,Vy M h,.string b,.bool c] 72) A;have l:=dS (.cells (zV 0 0 ⟨#[]⟩ ⟨#[]⟩ 0 0 Vz) 31) k;have m:=dS (.cells #[Vy M 3,Vy M 4,Vy M 5,Vy M 8,Vy M 9,Vy M 10,Vy M 6] 3) l;have n:=dS (.cells (zV al 0 ⟨#[]⟩ ⟨#[]⟩ 0 0 c) 31) m
 exact⟨bh _ (bh _ (bh _ (eC _ _ A))),bh _ (bh _ (eC _ _ k)),bh _ (eC _ _ l),eC _ _ m,YF n.symm,⟨A,A,A,Wu (by omega) (YF n.symm),λd o=>by
  show((((a.alloc _).alloc _).alloc _).alloc _).heap[d]?=_
  rw[(Go.MapKept.heap_alloc _ _).2 d (by rw[m];omega),(Go.MapKept.heap_alloc _ _).2 d (by rw[l];omega),(Go.MapKept.heap_alloc _ _).2 d (by rw[k];omega),(Go.MapKept.heap_alloc _ _).2 d o]⟩⟩
section
variable{k:K}{g i f e h:VB}{c:VI}
theorem lZ.stay(d:lZ a q g i f e h b c al)(l:Below q.heap.size q k):lZ a k g i f e h b c al:=by have p:=d.size;have n:=l.size;exact⟨by rw[l.block _ (by omega)];exact d.h0,by rw[l.block _ (by omega)];exact d.h1,by rw[l.block _ (by omega)];exact d.h2,by rw[l.block _ (by omega)];exact d.h3,by omega,⟨l.os.trans d.NG.os,l.tape.trans d.NG.tape,l.output.trans d.NG.output,Wu d.NG.size n,λm o=>(l.block m (by omega)).trans (d.NG.block m o)⟩⟩
theorem lZ.c1(d:lZ a q g i f e h b c al):q.cell? ⟨a.heap.size,1,I⟩=C (Vy M i):=aa d.h0 1 A
theorem lZ.c2(d:lZ a q g i f e h b c al):q.cell? ⟨a.heap.size,2,I⟩=C (Vy M f):=aa d.h0 2 A
theorem lZ.c3(d:lZ a q g i f e h b c al):q.cell? ⟨a.heap.size,3,I⟩=C (Vy M e):=aa d.h0 3 A
theorem lZ.c4(d:lZ a q g i f e h b c al):q.cell? ⟨a.heap.size,4,I⟩=C (Vy M h):=aa d.h0 4 A
theorem lZ.c5(d:lZ a q g i f e h b c al):q.cell? ⟨a.heap.size,5,I⟩=C (.string b):=aa d.h0 5 A
theorem lZ.UR(l:lZ a q g i f e h b c al)(d:E)(m:(d:VB)<7):∃k,(k=3\/k=4\/k=5\/k=8\/k=9\/k=10\/k=6)/\q.cell? ⟨a.heap.size+1+1,d,I⟩=C (Vy M k):=by
 obtain rfl|rfl|rfl|rfl|rfl|rfl|rfl:d=0\/d=1\/d=2\/d=3\/d=4\/d=5\/d=6:=by omega
 .exact⟨3,by omega,aa l.h2 0 A⟩
 .exact⟨4,by omega,aa l.h2 1 A⟩
 .exact⟨5,by omega,aa l.h2 2 A⟩
 .exact⟨8,by omega,aa l.h2 3 A⟩
 .exact⟨9,by omega,aa l.h2 4 A⟩
 .exact⟨10,by omega,aa l.h2 5 A⟩
 exact⟨6,by omega,aa l.h2 6 A⟩
end
theorem FZ{k:K}{g i f e h:VB}{c:VI}(l:lZ a q g i f e h b c al)(m:∀d,d≠a.heap.size+1+1+1->k.heap[d]?=q.heap[d]?)(s:k.heap.size=q.heap.size)(n:k.os=q.os)(o:k.tape=q.tape)(p:k.output=q.output):Below a.heap.size a k:=
 ⟨n.trans l.NG.os,o.trans l.NG.tape,p.trans l.NG.output,by rw[s];exact l.NG.size,λd r=>(m d (by omega)).trans (l.NG.block d r)⟩
theorem AR{d:VE Vx}(B:Below a.heap.size a q):Below a.heap.size a (q.setRow (a.heap.size+1) d):=
 ⟨B.os,B.tape,B.output,by rw[ZP];exact B.size,λm l=>(XX _ _ _ _ (by omega)).trans (B.block m l)⟩
theorem NV{g i f e h:VB}{c:VI}(b1:fits g)(X:fits i)(b2:fits f)(a0:fits e)(W:fits h)(hd:(b.size:VB)<2^63)(a:K):
 Calls KP 27 #[.agg #[Vy M g,Vy M i,Vy M f,Vy M e,Vy M h,.string b,.bool c]] a λb8 c8=>(∃al b4 b5 a8 aF a9 c,NL al b4 b5 a8 aF a9/\b8=VN (.agg (zV al b4 b5 a8 aF a9 c)))/\Below a.heap.size a c8:=by
 unfold fits at b1 X b2 a0 W;go_enter Tryz.func27,Tryz.ntmps27
 go_upto_region 2 with fail
 go_region_held3 (λq=>q.cell? ⟨a.heap.size,0,I⟩=C (Vy M g)/\q.cell? ⟨a.heap.size,6,I⟩=C (.bool c)) (go_keep)
  (first
    |(go_at_call 21;refine(lI b1 (by decide) _).mono ?_;rintro _ _⟨p,c9,rfl,rfl⟩))
 go_upto_region 3 with fail
 all_goals (
  refine(show∀L:K,lZ a L g i f e h b c (IntKind.i64.wrap (1+p))->Code.wp KP _ _ _ L fromλL d=>?_) _ (TX _ _ _ _ _ _ _ _ _);have c6:IntKind.i64.wrap (1+(p:VB))=1+p:=by rw[wrap_small]<;>omega
  rw[c6]at d⊢
  have c2:=d.c2
  go_upto_region 4 with(go_at_call 35;refine(OX b2 _).mono ?_;rintro _ o⟨⟨l,b3,rfl⟩,w⟩)
  replace d:=d.stay w;clear w c2;have c5:=d.c5;rcases D_ 16 b.size with b0|b0
  .have Z:decide ((16:VB)<b.size)=J:=by simp;omega
   go_upto_region 7 with fail
   have c1:=d.c1;have c3:=d.c3;have c4:=d.c4;clear c5 Z
   go_upto_region 8 with(go_at_call 21;refine(lI X (by decide) _).mono ?_;rintro _ o⟨a2,Y,rfl,rfl⟩;obtain⟨n,c0,U⟩:=d.UR a2 Y)
   clear c1 U
   go_upto_region 9 with(go_at_call 21;refine(lI a0 (by decide) _).mono ?_;rintro _ o⟨k,c7,rfl,rfl⟩;have a1:wrap64 ((k:VB)-1)=k-1:=by unfold wrap64;omega)
   clear c3 a1
   go_upto_region 10 with(go_at_call 21;refine(lI W (by decide) _).mono ?_;rintro _ o⟨m,b9,rfl,rfl⟩)
   clear c4;have a3:_=C (Vx.int M 0):=aa d.h3 1 A;have a4:_=C (Value.string ⟨#[]⟩):=aa d.h3 2 A;have a5:_=C (Value.string ⟨#[]⟩):=aa d.h3 3 A;have a6:_=C (Vx.int M 0):=aa d.h3 4 A;have a7:_=C (Vx.int M 0):=aa d.h3 5 A;have N:=frozenAt d.h3 1;have O:=frozenAt d.h3 2;have P:=frozenAt d.h3 3;have Q:=frozenAt d.h3 4;have R:=frozenAt d.h3 5
   go_upto_region 11 with fail
   clear a3 a4 a5 a6 a7 N O P Q R;have x:=aB (l:=5) (g:=Vy M m) (aB (l:=4) (g:=Vy M (k-1)) (aB (l:=3) (g:=.string (b.extract 0 16)) (aB (l:=2) (g:=.string ⟨l.toArray⟩) (aB (l:=1) (g:=Vy M n) d.h3))))
   have t:∀v,v≠a.heap.size+1+1+1->(((((o.setCell ⟨a.heap.size+1+1+1,1,I⟩ (Vy M n)).setCell ⟨a.heap.size+1+1+1,2,I⟩ (.string ⟨l.toArray⟩)).setCell ⟨a.heap.size+1+1+1,3,I⟩ (.string (b.extract 0 16))).setCell ⟨a.heap.size+1+1+1,4,I⟩ (Vy M (k-1))).setCell ⟨a.heap.size+1+1+1,5,I⟩ (Vy M m)).heap[v]?=o.heap[v]?:=λv r=>by rw[ah r,ah r,ah r,ah r,ah r]
   have y:(((((o.setCell ⟨a.heap.size+1+1+1,1,I⟩ (Vy M n)).setCell ⟨a.heap.size+1+1+1,2,I⟩ (.string ⟨l.toArray⟩)).setCell ⟨a.heap.size+1+1+1,3,I⟩ (.string (b.extract 0 16))).setCell ⟨a.heap.size+1+1+1,4,I⟩ (Vy M (k-1))).setCell ⟨a.heap.size+1+1+1,5,I⟩ (Vy M m)).heap.size=o.heap.size:=by simp only[aI]
   have w:=FZ d t y A rfl rfl;generalize S:(((((o.setCell ⟨a.heap.size+1+1+1,1,I⟩ (Vy M n)).setCell ⟨a.heap.size+1+1+1,2,I⟩ (.string ⟨l.toArray⟩)).setCell ⟨a.heap.size+1+1+1,3,I⟩ (.string (b.extract 0 16))).setCell ⟨a.heap.size+1+1+1,4,I⟩ (Vy M (k-1))).setCell ⟨a.heap.size+1+1+1,5,I⟩ (Vy M m))=s at x t y w⊢
   have T:s.heap[a.heap.size+1+1+1]?=C (VH (zV (1+p) n ⟨l.toArray⟩ (b.extract 0 16) (k-1) m c) 31 (0,0)):=x;have D:s.heap[a.heap.size+1]?=C (VH (zV 0 0 ⟨#[]⟩ ⟨#[]⟩ 0 0 Vz) 31 (0,0)):=by rw[t _ (by omega)];exact d.h1
   clear x t y S;refine Ym ?_;refine Yb A 31 _ A (a.heap.size+1+1+1) A 31 (zV (1+p) n ⟨l.toArray⟩ (b.extract 0 16) (k-1) m c) (0,0) _ T A rfl rfl ?_;refine XD A 31 _ _ A (a.heap.size+1) (zV (1+p) n ⟨l.toArray⟩ (b.extract 0 16) (k-1) m c) A rfl 31 _ D A rfl (by kernel_rfl) ?_;have H:=YE s _ _ (zV (1+p) n ⟨l.toArray⟩ (b.extract 0 16) (k-1) m c) _ _ D;have z:=AR (d:=zV (1+p) n ⟨l.toArray⟩ (b.extract 0 16) (k-1) m c) w;generalize s.setRow (a.heap.size+1) _=b6 at H z⊢
   go_wp2
   exact XP (z_ A _ _ (a.heap.size+1) 31 _ _ _ A H A rfl rfl) A ⟨⟨_,_,_,_,_,_,_,⟨⟨by omega,by omega⟩,by omega,⟨l,b3,A⟩,(by rw[VX.size_extract];omega),⟨by omega,by omega⟩,by omega,by omega⟩,A⟩,z⟩
  have Z:decide ((16:VB)<b.size)=Vz:=by simp;omega
  go_upto_region 7 with fail
  have c1:=d.c1;have c3:=d.c3;have c4:=d.c4;clear c5 Z
  go_upto_region 8 with(go_at_call 21;refine(lI X (by decide) _).mono ?_;rintro _ o⟨a2,Y,rfl,rfl⟩;obtain⟨n,c0,U⟩:=d.UR a2 Y)
  clear c1 U
  go_upto_region 9 with(go_at_call 21;refine(lI a0 (by decide) _).mono ?_;rintro _ o⟨k,c7,rfl,rfl⟩;have a1:wrap64 ((k:VB)-1)=k-1:=by unfold wrap64;omega)
  clear c3 a1
  go_upto_region 10 with(go_at_call 21;refine(lI W (by decide) _).mono ?_;rintro _ o⟨m,b9,rfl,rfl⟩)
  clear c4;have a3:_=C (Vx.int M 0):=aa d.h3 1 A;have a4:_=C (Value.string ⟨#[]⟩):=aa d.h3 2 A;have a5:_=C (Value.string ⟨#[]⟩):=aa d.h3 3 A;have a6:_=C (Vx.int M 0):=aa d.h3 4 A;have a7:_=C (Vx.int M 0):=aa d.h3 5 A;have N:=frozenAt d.h3 1;have O:=frozenAt d.h3 2;have P:=frozenAt d.h3 3;have Q:=frozenAt d.h3 4;have R:=frozenAt d.h3 5
  go_upto_region 11 with fail
  clear a3 a4 a5 a6 a7 N O P Q R;have x:=aB (l:=5) (g:=Vy M m) (aB (l:=4) (g:=Vy M (k-1)) (aB (l:=3) (g:=.string b) (aB (l:=2) (g:=.string ⟨l.toArray⟩) (aB (l:=1) (g:=Vy M n) d.h3))))
  have t:∀v,v≠a.heap.size+1+1+1->(((((o.setCell ⟨a.heap.size+1+1+1,1,I⟩ (Vy M n)).setCell ⟨a.heap.size+1+1+1,2,I⟩ (.string ⟨l.toArray⟩)).setCell ⟨a.heap.size+1+1+1,3,I⟩ (.string b)).setCell ⟨a.heap.size+1+1+1,4,I⟩ (Vy M (k-1))).setCell ⟨a.heap.size+1+1+1,5,I⟩ (Vy M m)).heap[v]?=o.heap[v]?:=λv r=>by rw[ah r,ah r,ah r,ah r,ah r]
  have y:(((((o.setCell ⟨a.heap.size+1+1+1,1,I⟩ (Vy M n)).setCell ⟨a.heap.size+1+1+1,2,I⟩ (.string ⟨l.toArray⟩)).setCell ⟨a.heap.size+1+1+1,3,I⟩ (.string b)).setCell ⟨a.heap.size+1+1+1,4,I⟩ (Vy M (k-1))).setCell ⟨a.heap.size+1+1+1,5,I⟩ (Vy M m)).heap.size=o.heap.size:=by simp only[aI]
  have w:=FZ d t y A rfl rfl;generalize S:(((((o.setCell ⟨a.heap.size+1+1+1,1,I⟩ (Vy M n)).setCell ⟨a.heap.size+1+1+1,2,I⟩ (.string ⟨l.toArray⟩)).setCell ⟨a.heap.size+1+1+1,3,I⟩ (.string b)).setCell ⟨a.heap.size+1+1+1,4,I⟩ (Vy M (k-1))).setCell ⟨a.heap.size+1+1+1,5,I⟩ (Vy M m))=s at x t y w⊢
  have T:s.heap[a.heap.size+1+1+1]?=C (VH (zV (1+p) n ⟨l.toArray⟩ b (k-1) m c) 31 (0,0)):=x;have D:s.heap[a.heap.size+1]?=C (VH (zV 0 0 ⟨#[]⟩ ⟨#[]⟩ 0 0 Vz) 31 (0,0)):=by rw[t _ (by omega)];exact d.h1
  clear x t y S;refine Ym ?_;refine Yb A 31 _ A (a.heap.size+1+1+1) A 31 (zV (1+p) n ⟨l.toArray⟩ b (k-1) m c) (0,0) _ T A rfl rfl ?_;refine XD A 31 _ _ A (a.heap.size+1) (zV (1+p) n ⟨l.toArray⟩ b (k-1) m c) A rfl 31 _ D A rfl (by kernel_rfl) ?_;have H:=YE s _ _ (zV (1+p) n ⟨l.toArray⟩ b (k-1) m c) _ _ D;have z:=AR (d:=zV (1+p) n ⟨l.toArray⟩ b (k-1) m c) w;generalize s.setRow (a.heap.size+1) _=b6 at H z⊢
  go_wp2
  exact XP (z_ A _ _ (a.heap.size+1) 31 _ _ _ A H A rfl rfl) A ⟨⟨_,_,_,_,_,_,_,⟨⟨by omega,by omega⟩,by omega,⟨l,b3,A⟩,b0,⟨by omega,by omega⟩,by omega,by omega⟩,A⟩,z⟩)
variable{h:VX}{a:E}{f:E}
section
variable[Inhabited aV]
abbrev Ni(a c d e b:VB)(h:VX)(f:VI):VE Vx:=#[Vy M a,Vy M c,Vy M d,Vy M e,Vy M b,.string h,.bool f]
theorem OM{b:E}{n t u v s:VB}{w:VI}(d:∀j i,(Ni n t u v s h w)[j]?=C i->q.cell? ⟨e,b+j,I⟩=C i):
 ∃new,(Instr.loadAt 72 (VW (C ⟨e,b,I⟩))).runT TP q #[]=(.ok (.agg (Ni n t u v s h w)) q,new)/\∀x∈new,x.write=Vz/\∃i,x.loc=.cell i/\i.block=e:=by
 have y:q.cell? ⟨e,b,I⟩=C (Vy M n):=d 0 _ A;have z:q.cell? ⟨e,b+1,I⟩=C (Vy M t):=d 1 _ A;have H:q.cell? ⟨e,b+2,I⟩=C (Vy M u):=d 2 _ A;have L:q.cell? ⟨e,b+3,I⟩=C (Vy M v):=d 3 _ A;have N:q.cell? ⟨e,b+4,I⟩=C (Vy M s):=d 4 _ A;have O:q.cell? ⟨e,b+5,I⟩=C (.string h):=d 5 _ A;have P:q.cell? ⟨e,b+6,I⟩=C (.bool w):=d 6 _ A;refine⟨_,ZM ?_ A,?_⟩
 .go_simp
 simp[go_sem,Instr.loadAt,Instr.sureAddr,loadVar,loadCells,loadCellsFrom,isAgg,y,z,H,L,N,O,P]
structure rh(k g:Vx)(l:VL VT)(f o:E)(p:E->VE Vx):Prop where
 val:k=.slice l f o
 rel:∀w:Ren,an ar w g k
 small:f<2^63
 row:∀a,a<f->∃e t b i n s d h u,l=C ⟨e,t,I⟩/\e<dq.heap.size/\p a=Ni b i n s d h u/\fits b/\fits i/\fits n/\fits s/\fits d/\(h.size:VB)<2^63/\∀j v,(Ni b i n s d h u)[j]?=C v->dq.cell? ⟨e,t+a*7+j,I⟩=C v
structure uj(b:eK):Prop where
 al:1<=b.al/\b.al<=3
 kind:b.op.kind=3\/b.op.kind=4\/b.op.kind=5\/b.op.kind=8\/b.op.kind=9\/b.op.kind=10\/b.op.kind=6
 path:b.op.path∈zK
 data:b.op.data.length<=16
 aF:-1<=b.op.aF/\b.op.aF<=2
 flags:0<=b.op.flags/\b.op.flags<=3
def CR(a:Vx):Prop:=aR (λ_=>False) a/\NB a
theorem Lo{d:eK}{b:Vx}(a:b∈(Cb d).toList):CR b:=by
 simp only[Wo,Wx,Xo]at a;rcases a with rfl|rfl|rfl|rfl|rfl|rfl|rfl|rfl
 all_goals refine⟨?_,λe c=>by cases c⟩
 all_goals first|exact .int _ _|exact .string _|exact .bool _|exact .aP _ _
theorem Tt(d:eK):∀a∈(Cb d).toList,a.oneCell'=J/\CR a:=λa b=>⟨by
 have c:=b;simp only[Wo,Wx,Xo]at c
 rcases c with rfl|rfl|rfl|rfl|rfl|rfl|rfl|rfl<;>rfl,Lo b⟩
def eL(a:VD eK)(d:Vx)(c:K):Prop:=bV CR c 31 8 d a.length (a.flatMap λb=>(Cb b).toList)
abbrev RN(g:Vx)(c:Vx)(a:E)(b:E->Vx):VQ:=⟨#[g,b 1,VG I 0 0,c,Vy M a,b 5,b 6,b 7,b 8,b 9,b 10,b 11,b 12,b 13,b 14,b 15,b 16,b 17,b 18,b 19,b 20,b 21,b 22,b 23,b 24,b 25],[]⟩
theorem GK{g:Vx}{i:Vx}{b:VQ}(h:b.tmps.size=26)(hd:b.defers=[])(c:b.tmps[0]?=C (g))(d:b.tmps[2]?=C (VG I 0 0))(e:b.tmps[3]?=C (i))(f:b.tmps[4]?=C (Vy M a)):∃m,b=RN g i a m:=by obtain⟨l,n⟩:=b;simp only at h hd c d e f;subst hd;exact⟨λa=>l.getD a F,VU (λk=>(⟨k,[]⟩:VQ)) ((NU h).trans (by simp only[VD.range,VD.range.loop,VD.map,WB,c,d,e,f,Xw]))⟩
section
variable{r:E}{k g:Vx}{l:VL VT}{o:E}{p:E->VE Vx}
theorem Mw:∀fn,TP.funcs[(Go.Conc.base 15).fn]?=C fn->fn.norace=Vz:=λfn a=>by grind [Go.Conc.base,Tryz.f15,Tryz.func15]
theorem To:∃a c,TP.underlying 25=C (.slice 31)/\(TP.info? 31=C a/\a.zero=C c/\a.size=8/\a.bytes<=1000/\c.cells.size=8/\0<8)/\∀b∈c.cells.toList,CR b:=by refine⟨_,_,A,⟨A,A,A,by decide,A,by decide⟩,?_⟩;intro b d;have e:b∈(Cb {}).toList:=d;exact Lo e
def Sx(g:Vx)(f:E)(c:K)(a:VQ)(e:K):Prop:=∃b d,b.length<=40/\b.length<=f/\(∃k,a=RN g d b.length k)/\(∀i∈b,uj i)/\eL b d e/\(∀a,a<c.heap.size->e.heap[a]?=c.heap[a]?)/\c.heap.size<=e.heap.size/\∀h,d.ownBlock=C h->c.heap.size<=h
theorem BU(T:rh k g l f o p)(f1:Da m r c)(k3:r<=c.heap.size):
 TE (goalAt TP I I D ar m) 15 [(0,k)] #[g] c λL O=>∃s:VD eK,(∀i∈s,uj i)/\s.length<=40/\eL s L O/\(∀b,b<c.heap.size->O.heap[b]?=c.heap[b]?)/\c.heap.size<=O.heap.size/\∀v,L.ownBlock=C v->c.heap.size<=v:=by
 refine Hz ak (by decide) (fn:=Tryz.f15) Tryz.func15 A (S:=λn b O=>n=.ret/\b.defers=[]/\∃L,b.tmps[2]?=C L/\∃s:VD eK,(∀i∈s,uj i)/\s.length<=40/\eL s L O/\(∀b,b<c.heap.size->O.heap[b]?=c.heap[b]?)/\c.heap.size<=O.heap.size/\∀v,L.ownBlock=C v->c.heap.size<=v) (t:=#[g,F,F,F,F,F,F,F,F,F,F,F,F,F,F,F,F,F,F,F,F,F,F,F,F,F]) (by kernel_rfl) (λl6 l7=>?_) ?_
 .have k5:∀d,m d->d<c.heap.size:=λd w=>by have:=f1.lt d w;omega
  refine aO (bn ak (by decide) (by decide) (i:=[0]) A (by rfl) λn1 Y _ _=>?_)
  go_wp2
  refine show _/\_ from⟨λd _=>by rw[Y],(show CW _ _ _ _ _ _ _ _ from ?_)⟩;refine aO (bn ak (by decide) (by decide) (i:=[0]) A (by rfl) λn4 a0 _ _=>?_)
  go_wp2
  refine show _/\_ from⟨λd _=>by rw[a0],(show CW _ _ _ _ _ _ _ _ from ?_)⟩;refine aO (aO (bn ak (by decide) (by decide) (i:=[0]) A (by rfl) λn5 c7 _ _=>?_))
  go_wp2
  refine show _/\_ from⟨λd _=>by rw[c7],(show CW _ _ _ _ _ _ _ _ from ?_)⟩;have f2:=c7.trans (a0.trans Y);clear c7 a0 Y;refine kQ (yV (w:=Sx g f c) (P:=λb _=>40-LN 4 b) ⟨[],VG I 0 0,by decide,Xg _,GK A rfl rfl rfl rfl rfl,(λi b1=>by cases b1),bV.nil _ _ _ _,(λb _=>by rw[f2]),(by simp_all),(λv b1=>by cases b1)⟩ ?_);rintro b i1⟨s,e1,g3,h2,⟨X,rfl⟩,a4,U,b5,d7,a5⟩;dsimp only[RN];generalize b4:s.length=a at g3 h2⊢
  refine aO (aO (eP (Q:=8) A (nl ?_)));refine yR ak (by decide) (by decide) (L:=0) (more:=[1,2,3,4,5,6,7]) ⟨_,A,A,A,A⟩ (o:=[0]) A (by rfl) (by decide) λn6 a1 _ _ y H n=>?_
  go_wp2
  refine⟨λd _=>by rw[a1],?_⟩;refine ja Mw (by decide) (L:=1) (more:=[2,3,4,5,6,7]) (j:=7) ⟨_,A,A,A,A⟩ (P:=g) (V:=k) A (show 7<26 by decide) (λq a2 P R _ _=>⟨#[],λy H n=>?_,by simp⟩) T.rel ?_
  .show(Sem.pure (Next.value (P (.tmp 0)))).runT TP q #[]=_;simp_all
  refine ja Mw (by decide) (L:=2) (more:=[3,4,5,6,7]) (j:=8) ⟨_,A,A,A,A⟩ (P:=Vy M f) (V:=Vy M f) A (show 8<26 by decide) (λq a2 P R _ _=>⟨#[],λy H n=>?_,by simp⟩) (λ_=>.int _ _) ?_
  .have d1:=R 7 k (by simp);rw[T.val]at d1;rw[Zb];refine ZM ?_ ?_
   .simp[execOp,d1,go_sem]
   simp[execOp,d1,go_sem]
  refine yQ A (λH k4=>by simp_all) ?_;dsimp only[Act.put];refine Sim.co_take ak (by decide) (by decide) (H:=[0]) A 3 5 (more:=[]) (a:=[_,_,_,_,_]) A (by rfl) λn7 Q _ _=>?_;by_cases b3:a<f/\a<40
  .have c1:decide ((a:VB)<f)=J:=by simp;omega
   have c2:decide ((a:VB)<40)=J:=by simp;omega
   go_wp2
   refine show _/\_ from⟨λd _=>by rw[Q],dF (show CW _ _ _ _ _ _ _ _ from ?_)⟩;refine cI (g:=J) (by decide) A (ej (show CW _ _ _ _ _ _ _ _ from ?_));obtain⟨e,e0,e3,e6,e7,e8,e5,e4,swa,g4,g6,k2,f5,f8,f9,g0,f7,f6,g8⟩:=T.row a b3.1;clear c1 c2;refine aO (kQ (aO (eP (Q:=7) A (nl ?_))));refine ja Mw (by decide) (L:=0) (more:=[1,2,3,4,5,6]) (j:=16) ⟨_,A,A,A,A⟩ (P:=g) (V:=k) A (show 16<26 by decide) (λq a2 P R _ _=>⟨#[],λy H n=>?_,by simp⟩) T.rel ?_
   .show(Sem.pure (Next.value (P (.tmp 0)))).runT TP q #[]=_;simp_all
   refine yR ak (by decide) (by decide) (L:=1) (more:=[2,3,4,5,6]) ⟨_,A,A,A,A⟩ (o:=[16,0]) A (by rfl) (by decide) λi2 z _ _ y H n=>?_
   go_wp2
   refine⟨λd _=>by rw[z],?_⟩;refine ja Mw (by decide) (L:=2) (more:=[3,4,5,6]) (j:=18) ⟨_,A,A,A,A⟩ (P:=.tuple #[]) (V:=VW (C ⟨e,e0+a*7,I⟩)) A (show 18<26 by decide) (λq a2 P R _ g2=>⟨#[],λy H n=>?_,by simp⟩) (λ_=>.bU trivial) ?_
   .have c9:=R 16 k (by simp);have g1:=g2 17 M a A;rw[T.val,g4]at c9;refine ZM ?_ ?_
    .simp[execOp,c9,g1,go_sem];omega
    simp[execOp,c9,g1,go_sem,Instr.indexAt];omega
   refine ja Mw (by decide) (L:=3) (more:=[4,5,6]) (j:=19) ⟨_,A,A,A,A⟩ (P:=.agg (Ni e3 e6 e7 e8 e5 e4 swa)) (V:=.agg (Ni e3 e6 e7 e8 e5 e4 swa)) A (show 19<26 by decide) (λq a2 P R _ g2=>?_) (λo1=>?_) ?_
   .have j6:P (.tmp 18)=VW (C ⟨e,e0+a*7,I⟩):=R 18 _ (by simp)
    obtain⟨new,Y,a0⟩:=OM (q:=q) (e:=e) (b:=e0+a*7) (n:=e3) (t:=e6) (u:=e7) (v:=e8) (s:=e5) (h:=e4) (w:=swa) λj d w=>by
     have:=g8 j d w;unfold K.cell? at this⊢
     rw[a2.heap e g6];exact this
    refine⟨new,λy H n=>?_,λn k1=>⟨(a0 n k1).1,?_⟩⟩
    .show VR.runT TP ((Instr.loadAt 72 (P (.tmp 18))).bind λd=>Sem.pure (Next.value d)) q #[]=_;rw[j6,Go.Sem.runT_bind',Y];rfl
    grind
   .refine .agg A λa d o0 w k8=>?_;obtain rfl:=Xa (w.symm.trans k8);have h3:=WW.2 (WN w);simp only[Wo,Wx,Xo]at h3;rcases h3 with rfl|rfl|rfl|rfl|rfl|rfl|rfl
    all_goals first|exact .int _ _|exact .string _|exact .bool _
   refine yQ A (λH k4=>by simp_all) ?_;dsimp only[Act.put];refine Sim.co_take ak (by decide) (by decide) (H:=[0]) A 4 3 (more:=[]) (a:=[_,_,_]) A (by rfl) λn8 f4 _ _=>?_
   go_wp2_with (go_at_call 27;refine(NV f5 f8 f9 g0 f7 f6 _).mono ?_;rintro _ u⟨⟨al,k9,m6,c0,aF,j5,i3,j8,rfl⟩,d2⟩)
   obtain⟨h8,h1,⟨l0,h5,rfl⟩,k0,h9,g9⟩:=j8;obtain⟨c6,rfl⟩:∃c6:VD UInt8,c0=bs c6:=⟨c0.data.toList,by cases c0;rfl⟩;obtain⟨i,d5⟩:∃i:eK,i={al:=al,op:={kind:=k9,path:=l0,data:=c6,aF:=aF,flags:=j5},watch:=i3}:=⟨_,A⟩;have d6:uj i:=by rw[d5];exact⟨h8,h1,h5,by grind [bs,ByteArray.size],h9,g9⟩
   generalize d9:u.alloc _=S;have d0:=f4.trans (z.trans (Q.trans a1))
   have x:S.heap[u.heap.size]?=C (VH (Cb i) 31 (0,0)):=by rw[<-d9,d5];exact(XZ _ _).1
   have b9:=d2.size;rw[d0]at b9;have b8:S.heap.size=u.heap.size+1:=by grind [jm]
   have a8:∀b,b<i1.heap.size->S.heap[b]?=i1.heap[b]?:=λb a3=>by rw[<-d9,Wk _ _ _ (by omega),d2.block b (by simp_all),d0]
   clear d9 d2 d5;refine show _/\_ from⟨λd w=>?_,dF (show CW _ _ _ _ _ _ _ _ from ?_)⟩
   .grind
   refine eP (Q:=5) A (Sim.co_take ak (by decide) (by decide) (H:=[0]) A 0 3 (more:=[3,4]) (a:=[_,_,_]) A (by rfl) λN f3 _ _=>?_);rw[<-f3]at x;have i7:N.cell? ⟨u.heap.size,0,I⟩=C (Vy M i.al):=aa x 0 A;have i8:N.cell? ⟨u.heap.size,1,I⟩=C (Vy M i.op.kind):=aa x 1 A;have i9:N.cell? ⟨u.heap.size,2,I⟩=C (.string (bs i.op.path)):=aa x 2 A;have j0:N.cell? ⟨u.heap.size,3,I⟩=C (.string (bs i.op.data)):=aa x 3 A;have j1:N.cell? ⟨u.heap.size,4,I⟩=C (Vy M i.op.aF):=aa x 4 A;have j2:N.cell? ⟨u.heap.size,5,I⟩=C (Vy M i.op.flags):=aa x 5 A;have j3:N.cell? ⟨u.heap.size,6,I⟩=C (.bool i.watch):=aa x 6 A;have j4:N.cell? ⟨u.heap.size,7,I⟩=C (VG I 0 0):=aa x 7 A
   go_wp2
   generalize k7:N.alloc _=e9
   have g7:e9.heap[S.heap.size]?=C (VH (Cb i) 31 (0,0)):=by grind [heap_alloc]
   have W:∀b,b<S.heap.size->e9.heap[b]?=S.heap[b]?:=λb a3=>by grind [Below.heap_alloc]
   have e2:e9.heap.size=S.heap.size+1:=by grind [jm]
   clear k7 i7 i8 i9 j0 j1 j2 j3 j4 x;refine show _/\_ from⟨λd w=>W d (by grind),?_⟩;refine Sim.co_take ak (by decide) (by decide) (H:=[0]) A 3 1 (more:=[4]) (a:=[_]) A (by rfl) λl1 Z _ _=>?_;rw[<-Z,b8]at g7
   have g5:bV CR l1 31 8 e1 a (s.flatMap λi=>(Cb i).toList):=by rw[<-b4];exact U.stay λa6 h0=>by rw[Z,W a6 (by have:=U.lt a6 h0;omega),a8 a6 (U.lt a6 h0)]
   obtain⟨m8,m9,d8,h6,h7⟩:=To;refine lY A (.tmp 21) (.tmp 23) 25 A rfl g5 d8 h6 h7 (q:=⟨u.heap.size+1,0,I⟩) (u:=1) A (Cb i).toList A (λj X d8=>by grind [pK,aa]) (Tt i) (by omega) ?_;intro i0 l2 b2 d4 h4
   have b6:∀b,b<c.heap.size->l2.heap[b]?=c.heap[b]?:=λb a3=>by rw[d4.block b (by grind) (λn=>by have:=a5 b n.symm;omega),Z,W b (by omega),a8 b (by omega),b5 b a3]
   have a9:=d4.size;rw[Z]at a9;have a7:=λv d3=>(h4 v d3).elim (a5 v) λb1=>by grind
   have f0:=VF (And.intro b2 (And.intro b6 (And.intro a9 a7)));have i4:=VF (And.intro a8 (And.intro W b5));clear d4 h4 b2 b6 a9 a7 g7 a8 W b5 U g5 d8 h6 h7 g8 k2 Z;refine show He _ _ _/\_ from⟨λd w=>?_,(show CO _ _ _ _ _ [4] _ (Act.put _ (C 24) i0) _ from ?_)⟩
   .obtain⟨b2,b6,a9,a7⟩:=f0.out;obtain⟨a8,W,b5⟩:=i4.out
    grind
   dsimp only[Act.put];refine Sim.co_take ak (by decide) (by decide) (H:=[0]) A 4 1 (more:=[]) (a:=[_]) A (by rfl) λn3 b0 _ _=>?_
   go_wp2
   refine show _/\_ from⟨λd w=>by rw[b0],dF (show CW _ _ _ _ _ _ _ _ from ?_)⟩;refine bn ak (by decide) (by decide) (i:=[0]) A (by rfl) λn2 i6 _ _=>?_;have k6:wrap64 ((a:VB)+1)=a+1:=by grind [wrap64]
   have i5:=VF (And.intro b3 (And.intro b4 (And.intro a4 (And.intro d6 (And.intro d7 (And.intro b9 (And.intro b8 (And.intro e2 b0))))))));clear b3 b4 a4 d6 d7 b9 b8 e2 b0 d0 f4 f3 h5 h1 h8 k0 h9 g9 f5 f8 f9 g0 f7 f6 g4 g6 z Q a1 a5 g3 h2 T f1 k3 k5 f2
   go_wp2
   refine show _/\_ from⟨λd w=>by rw[i6],?_⟩;obtain⟨b2,b6,a9,a7⟩:=f0.out;obtain⟨b3,b4,a4,d6,d7,b9,b8,e2,b0⟩:=i5.out;refine show Sx _ _ _ _ _/\_ from⟨⟨s++[i],i0,?_,?_,GK A rfl rfl rfl rfl ?_,?_,?_,?_,?_,?_⟩,?_⟩
   .simp;omega
   .simp;omega
   .simp_all
   .grind
   .simp_all [bV,eL]
   .simp_all
   .grind
   .exact a7
   show 40-(wrap64 ((a:VB)+1)).toNat<40-(a:VB).toNat;rw[k6];omega
  rcases(by omega:f<=a\/(a<f/\40<=a))with j9|j9
  .go_wp2
   refine show _/\_ from⟨λd _=>by rw[Q],dF (show CW _ _ _ _ _ _ _ _ from ?_)⟩;refine cI (g:=Vz) (by decide) A (tR ?_);show CW _ _ _ _ _ _ _ _;refine aO (bn ak (by decide) (by decide) (i:=[0]) A (by rfl) λi2 z _ _=>?_)
   go_wp2
   refine show _/\_ from⟨λd _=>by rw[z],(show CW _ _ _ _ _ _ _ _ from mA ?_)⟩;have c8:=z.trans (Q.trans a1);exact⟨A,A,e1,A,s,a4,by omega,U.stay λv d3=>by rw[c8],λb a3=>by simp_all,by simp_all,a5⟩
  have c2:decide ((a:VB)<40)=Vz:=by simp;omega
  go_wp2
  refine show _/\_ from⟨λd _=>by rw[Q],dF (show CW _ _ _ _ _ _ _ _ from ?_)⟩;refine cI (g:=Vz) (by decide) A (tR ?_);show CW _ _ _ _ _ _ _ _;refine aO (bn ak (by decide) (by decide) (i:=[0]) A (by rfl) λi2 z _ _=>?_)
  go_wp2
  refine show _/\_ from⟨λd _=>by rw[z],(show CW _ _ _ _ _ _ _ _ from mA ?_)⟩;have c8:=z.trans (Q.trans a1);exact⟨A,A,e1,A,s,a4,by omega,U.stay λv d3=>by rw[c8],λb a3=>by simp_all,by simp_all,a5⟩
 rintro n b O⟨rfl,hd,L,m1,j7⟩;refine⟨VC A,hd,λy=>⟨L,?_,j7⟩⟩;simp_all [results]
end
end
section
variable[Inhabited aV]
def xa:VD E->Code->Code
 |[],b=>b
 |0::a,.seq c _=>xa a c
 |_::a,.seq _ d=>xa a d
 |_::a,.block _ b=>xa a b
 |_::a,.loop b=>xa a b
 |0::a,.cond _ c _=>xa a c
 |_::a,.cond _ _ d=>xa a d
 |_,b=>b
abbrev tI(f:VB)(h:Vx)(g:E)(cnt:VB)(e:Vx)(a:E)(d:E)(c:E)(b:E->Vx):VQ:=⟨#[Vy M f,h,b 2,b 3,.bool Vz,pt g 0,Vy M cnt,e,Vy M a,pt d 0,pt c 0,b 11,b 12,b 13,b 14,b 15,b 16,b 17,b 18,b 19,b 20,b 21,b 22,b 23,b 24,b 25,b 26,b 27,b 28,b 29,b 30,b 31,b 32,b 33,b 34,b 35,b 36,b 37,b 38,b 39,b 40,b 41,b 42,b 43,b 44,b 45,b 46,b 47,b 48,b 49,b 50,b 51,b 52,b 53,b 54,b 55,b 56,b 57,b 58,b 59,b 60,b 61,b 62,b 63,b 64,b 65,b 66,b 67,b 68,b 69,b 70,b 71,b 72,b 73,b 74,b 75,b 76,b 77,b 78,b 79,b 80,b 81,b 82,b 83,b 84,b 85,b 86,b 87,b 88,b 89,b 90,b 91,b 92,b 93,b 94,b 95,b 96,b 97,b 98,b 99,b 100,b 101,b 102,b 103,b 104,b 105,b 106,b 107,b 108,b 109,b 110,b 111,b 112,b 113,b 114,b 115,b 116],[]⟩
theorem Pp{q:VB}{s:Vx}{r:E}{cnt:VB}{p:Vx}{d:E}{c:E}{b:VQ}(o:b.tmps.size=117)(hd:b.defers=[])(e:b.tmps[0]?=C (Vy M q))(f:b.tmps[1]?=C (s))(h:b.tmps[4]?=C (.bool Vz))(i:b.tmps[5]?=C (pt r 0))(k:b.tmps[6]?=C (Vy M cnt))(l:b.tmps[7]?=C (p))(m:b.tmps[8]?=C (Vy M a))(n:b.tmps[9]?=C (pt d 0))(g:b.tmps[10]?=C (pt c 0)):∃v,b=tI q s r cnt p a d c v:=by obtain⟨u,w⟩:=b;simp only at o hd e f h i k l m n g;subst hd;exact⟨λa=>u.getD a F,VU (λt=>(⟨t,[]⟩:VQ)) ((NU o).trans (by simp only[VD.range,VD.range.loop,VD.map,WB,e,f,h,i,k,l,m,n,g,Xw]))⟩
theorem eZ{h:VB}{k:Vx}{i:E}{cnt:VB}{g:Vx}{f e:E}{b:VQ}{d:VQ->Prop}(v:b.tmps.size=117)(hd:b.defers=[])(m:b.tmps[0]?=C (Vy M h))(n:b.tmps[1]?=C (k))(p:b.tmps[4]?=C (.bool Vz))(q:b.tmps[5]?=C (pt i 0))(r:b.tmps[6]?=C (Vy M cnt))(s:b.tmps[7]?=C (g))(t:b.tmps[8]?=C (Vy M a))(u:b.tmps[9]?=C (pt f 0))(o:b.tmps[10]?=C (pt e 0))(l:∀c,d (tI h k i cnt g a f e c)):d b:=by obtain⟨c,rfl⟩:=Pp v hd m n p q r s t u o;exact l c
abbrev Fa(d:VB)(f:Vx)(e:E)(cnt:VB)(c:Vx)(a:E)(b:E->Vx):VQ:=⟨#[Vy M d,f,b 2,b 3,.bool Vz,pt e 0,Vy M cnt,c,Vy M a,b 9,b 10,b 11,b 12,b 13,b 14,b 15,b 16,b 17,b 18,b 19,b 20,b 21,b 22,b 23,b 24,b 25,b 26,b 27,b 28,b 29,b 30,b 31,b 32,b 33,b 34,b 35,b 36,b 37,b 38,b 39,b 40,b 41,b 42,b 43,b 44,b 45,b 46,b 47,b 48,b 49,b 50,b 51,b 52,b 53,b 54,b 55,b 56,b 57,b 58,b 59,b 60,b 61,b 62,b 63,b 64,b 65,b 66,b 67,b 68,b 69,b 70,b 71,b 72,b 73,b 74,b 75,b 76,b 77,b 78,b 79,b 80,b 81,b 82,b 83,b 84,b 85,b 86,b 87,b 88,b 89,b 90,b 91,b 92,b 93,b 94,b 95,b 96,b 97,b 98,b 99,b 100,b 101,b 102,b 103,b 104,b 105,b 106,b 107,b 108,b 109,b 110,b 111,b 112,b 113,b 114,b 115,b 116],[]⟩
theorem GJ{m:VB}{o:Vx}{n:E}{cnt:VB}{l:Vx}{b:VQ}(k:b.tmps.size=117)(hd:b.defers=[])(c:b.tmps[0]?=C (Vy M m))(d:b.tmps[1]?=C (o))(e:b.tmps[4]?=C (.bool Vz))(f:b.tmps[5]?=C (pt n 0))(g:b.tmps[6]?=C (Vy M cnt))(h:b.tmps[7]?=C (l))(i:b.tmps[8]?=C (Vy M a)):∃r,b=Fa m o n cnt l a r:=by obtain⟨q,s⟩:=b;simp only at k hd c d e f g h i;subst hd;exact⟨λa=>q.getD a F,VU (λp=>(⟨p,[]⟩:VQ)) ((NU k).trans (by simp only[VD.range,VD.range.loop,VD.map,WB,c,d,e,f,g,h,i,Xw]))⟩
theorem Jy{f:VB}{h:Vx}{g:E}{cnt:VB}{e:Vx}{b:VQ}{d:VQ->Prop}(r:b.tmps.size=117)(hd:b.defers=[])(k:b.tmps[0]?=C (Vy M f))(l:b.tmps[1]?=C (h))(m:b.tmps[4]?=C (.bool Vz))(n:b.tmps[5]?=C (pt g 0))(o:b.tmps[6]?=C (Vy M cnt))(p:b.tmps[7]?=C (e))(q:b.tmps[8]?=C (Vy M a))(i:∀c,d (Fa f h g cnt e a c)):d b:=by obtain⟨c,rfl⟩:=GJ r hd k l m n o p q;exact i c
end
variable{e:K}{n:VD VM}{a:Out}
section
variable[Inhabited aV]
variable{q l:Vx}{h cnt:VB}{k d c:E}{g:Vx}{p:E->Vx}{b:eK}{r:Vx×Vx}
theorem MO(x:e.heap[d]?=C (VH (Cb b) 31 (0,0)))(t:e.heap[c]?=C (VH (iX a r) 38 (0,0)))(U:a.err=0->b.op.kind=3->a.found=J/\a.stat.made=cnt/\a.stat.set=cnt)
 (w:∀u P,P.heap=e.heap->S .normal (tI h l k cnt g f d c u) P):CW (goalAt TP I I D ar m) (Go.Conc.base 3) ⟨[],[(1,q)]⟩ n (xa [1,1,1,1,1,0,1,0,0,1,0,0,1,1,1,0] (Tryz.f3.body.getD .skip)) S (tI h l k cnt g f d c p) e:=by
 show CW _ _ _ _ (.seq _ _) _ _ _;dsimp only[tI];refine aO (bn ak (by decide) (by decide) (i:=[1]) A (by rfl) λo s _ _=>?_);rw[<-s]at x t;by_cases y:a.err=0
 .by_cases z:b.op.kind=3
  .obtain⟨T,W,X⟩:=U y z;have R:=aa x 1 (VU (λi=>C (Vx.int M i)) z);have L:=aa t 3 (VU (λi=>C (Vx.int M i)) y);have Y:=aa t 6 (VU (λi=>C (Vx.bool i)) T);have Z:=aa t 7 (VU (λi=>C (Vx.int M i)) W);have a0:=aa t 8 (VU (λi=>C (Vx.int M i)) X)
   go_wp2
   refine show _/\_ from⟨λQ N=>by rw[s],(show CW _ _ _ _ _ _ _ _ from ?_)⟩;refine cI (g:=Vz) (by decide) A (ej ?_);exact eZ (d:=λv=>S .normal v o) A rfl rfl rfl rfl rfl rfl rfl rfl rfl rfl (λu=>w u o s)
  have a1:(b.op.kind==3)=Vz:=by simp[z]
  have R:o.cell? ⟨d,1,I⟩=C (Vy M b.op.kind):=aa x 1 A;have L:=aa t 3 (VU (λi=>C (Vx.int M i)) y)
  go_wp2
  refine show _/\_ from⟨λQ N=>by rw[s],(show CW _ _ _ _ _ _ _ _ from ?_)⟩;refine cI (g:=Vz) (by decide) A (ej ?_);exact eZ (d:=λv=>S .normal v o) A rfl rfl rfl rfl rfl rfl rfl rfl rfl rfl (λu=>w u o s)
 have L:o.cell? ⟨c,3,I⟩=C (Vy M a.err):=aa t 3 A
 go_wp2
 refine show _/\_ from⟨λQ N=>by rw[s],(show CW _ _ _ _ _ _ _ _ from ?_)⟩;refine cI (g:=Vz) (by decide) A (ej ?_);exact eZ (d:=λv=>S .normal v o) A rfl rfl rfl rfl rfl rfl rfl rfl rfl rfl (λu=>w u o s)
end
section
variable[Inhabited aV]
variable{q l:Vx}{h cnt:VB}{k d b:E}{g:Vx}{p:E->Vx}{c:eK}{r:Vx×Vx}
theorem MQ(x:e.heap[d]?=C (VH (Cb c) 31 (0,0)))(u:e.heap[b]?=C (VH (iX a r) 38 (0,0)))(T:a.err=0->c.op.kind=5->a.stat.set=cnt/\a.stat.made<cnt)
 (w:∀s P,P.heap=e.heap->S .normal (tI h l k cnt g f d b s) P):CW (goalAt TP I I D ar m) (Go.Conc.base 3) ⟨[],[(1,q)]⟩ n (xa [1,1,1,1,1,0,1,0,0,1,0,0,1,1,1,1] (Tryz.f3.body.getD .skip)) S (tI h l k cnt g f d b p) e:=by
 show CW _ _ _ _ (.seq _ _) _ _ _;dsimp only[tI];refine aO (bn ak (by decide) (by decide) (i:=[1]) A (by rfl) λi o _ _=>?_);rw[<-o]at x u;by_cases y:a.err=0
 .by_cases z:c.op.kind=5
  .obtain⟨U,Z⟩:=T y z;have W:decide (cnt<=a.stat.made)=Vz:=by simp;omega
   have R:=aa x 1 (VU (λt=>C (Vx.int M t)) z);have L:=aa u 3 (VU (λt=>C (Vx.int M t)) y);have X:i.cell? ⟨b,7,I⟩=C (Vy M a.stat.made):=aa u 7 A;have Y:=aa u 8 (VU (λt=>C (Vx.int M t)) U)
   go_wp2
   refine show _/\_ from⟨λQ N=>by rw[o],(show CW _ _ _ _ _ _ _ _ from ?_)⟩;refine cI (g:=Vz) (by decide) A (ej ?_);exact eZ (d:=λv=>S .normal v i) A rfl rfl rfl rfl rfl rfl rfl rfl rfl rfl (λs=>w s i o)
  have a0:(c.op.kind==5)=Vz:=by simp[z]
  have R:i.cell? ⟨d,1,I⟩=C (Vy M c.op.kind):=aa x 1 A;have L:=aa u 3 (VU (λt=>C (Vx.int M t)) y)
  go_wp2
  refine show _/\_ from⟨λQ N=>by rw[o],(show CW _ _ _ _ _ _ _ _ from ?_)⟩;refine cI (g:=Vz) (by decide) A (ej ?_);exact eZ (d:=λv=>S .normal v i) A rfl rfl rfl rfl rfl rfl rfl rfl rfl rfl (λs=>w s i o)
 have L:i.cell? ⟨b,3,I⟩=C (Vy M a.err):=aa u 3 A
 go_wp2
 refine show _/\_ from⟨λQ N=>by rw[o],(show CW _ _ _ _ _ _ _ _ from ?_)⟩;refine cI (g:=Vz) (by decide) A (ej ?_);exact eZ (d:=λv=>S .normal v i) A rfl rfl rfl rfl rfl rfl rfl rfl rfl rfl (λs=>w s i o)
end
variable{l:VD VM}{b:E}{q:Out}
section
variable[Inhabited aV]
variable{p h:Vx}{f cnt:VB}{g a k:E}{e:Vx}{n:E->Vx}{d:eK}{r:Vx×Vx}
theorem RG(u:c.heap[a]?=C (VH (Cb d) 31 (0,0)))(T:6<=cnt/\cnt<=100)
 (N:d.op.kind<=6->∀i q,q.heap=c.heap->S .normal (tI f h g (cnt+1) e b a k i) q)(O:¬d.op.kind<=6->∀i q,q.heap=c.heap->S .normal (tI f h g cnt e b a k i) q):CW (goalAt TP I I D ar m) (Go.Conc.base 3) ⟨[],[(1,p)]⟩ l (xa [1,1,1,1,1,0,1,0,0,1,0,0,1,1,0] (Tryz.f3.body.getD .skip)) S (tI f h g cnt e b a k n) c:=by
 show CW _ _ _ _ (.seq _ _) _ _ _;refine aO (bn ak (by decide) (by decide) (i:=[1]) A (by rfl) λs o _ _=>?_);rw[<-o]at u;have R:s.cell? ⟨a,1,I⟩=C (Vy M d.op.kind):=aa u 1 A;by_cases v:d.op.kind<=6
 .have z:=VF (N v)
  go_wp2
  refine show _/\_ from⟨λy w=>by rw[o],(show CW _ _ _ _ _ _ _ _ from ?_)⟩;refine cI (g:=J) (by decide) A ?_;show CW _ _ _ _ (.region _ _ _) _ _ _;refine bn ak (by decide) (by decide) (i:=[1]) A (by rfl) λx t _ _=>?_
  go_wp2
  refine show _/\_ from⟨λy w=>by rw[t],?_⟩;exact eZ (cnt:=cnt+1) (d:=λr=>S .normal r x) A rfl rfl rfl rfl rfl (by simp_all) A rfl rfl rfl (λi=>z.out i x (t.trans o))
 have H:=VF (O v)
 go_wp2
 refine show _/\_ from⟨λy w=>by rw[o],(show CW _ _ _ _ _ _ _ _ from ?_)⟩;refine cI (g:=Vz) (by decide) A (ej ?_);exact eZ (d:=λr=>S .normal r s) A rfl rfl rfl rfl rfl rfl rfl rfl rfl rfl (λi=>H.out i s o)
theorem Qg(v:b<100)(t:∀d o,o.heap=c.heap->S .normal (Fa f h g cnt e (b+1) d) o):CW (goalAt TP I I D ar m) (Go.Conc.base 3) ⟨[],[(1,p)]⟩ l (xa [1,1,1,1,1,0,1,0,0,1,1] (Tryz.f3.body.getD .skip)) S (tI f h g cnt e b a k n) c:=by
 show CW _ _ _ _ (.region _ _ _) _ _ _;refine bn ak (by decide) (by decide) (i:=[1]) A (by rfl) λq i _ _=>?_;have r:=VF t
 go_wp2
 refine show _/\_ from⟨λy w=>by rw[i],?_⟩;exact Jy (d:=λs=>S .normal s q) A rfl rfl rfl rfl rfl rfl rfl (by simp_all) (λd=>r.out d q i)
end
variable{g:K}{P:E}{e:VE Vx}{c:E}{l:E}{O:VD VM}
section
variable[Inhabited aV]
def Th(a:eK):eK:={a with watch:=Vz}
theorem Mu{a:eK}(b:uj a):FI (Th a):=⟨by have:=b.al;show a.al=1\/a.al=2\/a.al=3;omega,by have:=b.kind;show a.op.kind=3\/a.op.kind=4\/a.op.kind=5\/a.op.kind=6\/a.op.kind=8\/a.op.kind=9\/a.op.kind=10;omega,b.path,A⟩
theorem Ri{a:eK}(b:uj a):oE (Th a).op:=by
 refine⟨?_,?_,?_,?_⟩
 .show a.op.path.length<_;have:∀c∈zK,c.length<2^30:=by decide
  exact this _ b.path
 .have:=b.data;show a.op.data.length<_;omega
 .have:=b.flags;show _<=a.op.flags;omega
 have:=b.flags;show a.op.flags<_;omega
theorem Mt{a:eK}(b:uj a):Kc (Th a).op.kind:=by have:=b.kind;show a.op.kind=1\/a.op.kind=3\/a.op.kind=4\/a.op.kind=5\/a.op.kind=6\/a.op.kind=8\/a.op.kind=9\/a.op.kind=10;omega
theorem vc{b:dH}{a:eK}(c:Wt.step y 0 a=(b,[z])):Wt.handle y 0 [a]=(b,[z]):=by rw[mJ,c];rfl
section
variable{q h t H:E}{k L:kH}{r w2:K}{a:eK}{d:VD eK}{f:Vx}
theorem CP.base(b:CP m q r h s t y H k w2)(c:r.heap=g.heap):CP m q g h s t y H k w2:=⟨b.at',λa d=>Di (b.keep a (by simp_all)) c.symm A,λa d=>by rw[<-c];exact b.ro a d,by rw[<-c];exact b.size,λa d=>by rw[<-c];exact b.own a d,λa d=>by rw[<-c];exact b.use a d,by rw[<-c];exact b.sx⟩
theorem CP.old(i:CP m q g h s t y H k r)(R:∀b,m b->b<r.heap.size)(w:r.heap.size<=w2.heap.size)(o:∀b,b<r.heap.size->w2.heap[b]?=r.heap[b]?):CP m q g h s t y H k w2 where
 at':=by obtain⟨z,x⟩:=i.at';exact⟨z,x.old w o⟩
 keep:=λb n=>(i.keep b n).trans (VA (o b (by have:=i.size;omega)))
 ro:=λb n=>(o b (R b n)).trans (i.ro b n)
 size:=Wu i.size w
 own:=i.own
 use:=i.use
 sx:=i.sx
theorem eL.one(l:eL d f r)(u:∀g,f.ownBlock=C g->¬aK s y.tree k g)(o:yz m q h s t y H k a r e P w2 L):eL d f w2:=by
 refine bV.stay l λg c=>?_;rcases l.2 with⟨b,_⟩|⟨i,v,x,b,n,_,_,_,_,p⟩
 .rw[b]at c;cases c
 rw[b]at c;cases c;exact mq (o.keep i (Wh.1 n).1 (u i (by rw[b];rfl))) n (gX λe w=>(p e w).2)
theorem AT{d:eK->VD Vx}(f:∀a,(d a).length=8):∀(b:VD eK)(c j:E)(a:eK),b[c]?=C a->j<8->(b.flatMap d)[c*8+j]?=(d a)[j]?
 |[],c,j,a,e,_=>by cases e
 |h::b,0,j,a,e,g=>by
  grind
 |h::b,c+1,j,a,e,g=>by rw[YW,XC (by rw[f];omega),f,show(c+1)*8+j-8=c*8+j by omega];simp_all [AT]
theorem eL.form(b:eL d f g):∃u v,f=.slice u d.length v:=by
 rcases b.2 with⟨a,c⟩|⟨_,_,_,a,_⟩
 .exact⟨I,0,by rw[a,c]⟩
 simp_all
theorem eL.at'{u:VL VT}{v:E}(f:eL d (.slice u d.length v) g)(k:d[c]?=C a):∃b,u=C ⟨b,0,I⟩/\∀j e,(Cb a)[j]?=C e->g.cell? ⟨b,c*8+j,I⟩=C e:=by
 have o:=(Xk.1 k).1;rcases f.2 with⟨_,n⟩|⟨b,l,m,h,_⟩
 .omega
 cases h;refine⟨b,A,λj e i=>?_⟩;have p:j<8:=(Wh.1 i).1;refine bV.cell f (g:=b) A (c*8+j) e ?_;simp_all [AT]
end
def Rh(l b:E)(a:VQ):E:=l-LN b a
def Kq(i:VB)(p:Vx)(h s t:E)(d:VD eK)(f:Vx)(m:E->Prop)(q:E)(g:K)(e:VQ)(b:K):Prop:=
 ∃(c:E)(cnt:VB)(y:dH)(k:kH),c<=d.length/\(∃l,e=Fa i p h cnt f c l)/\nK y cnt (4+c)/\CP m q g h s t y (7+c) k b/\eL d f b/\(∀a,f.ownBlock=C a->¬aK s y.tree k a)/\6<=cnt/\cnt<=6+c
section
variable{q:E}{N p:Vx}{u:VL VT}{v:E}{Q:E->VE Vx}
theorem Tj:∀fn,TP.funcs[(Go.Conc.base 3).fn]?=C fn->fn.norace=Vz:=λfn a=>by grind [Go.Conc.base,Tryz.f3,Tryz.func3]
theorem Gp{a:VB}{p:Vx}{h:E}{cnt b:VB}{f:Vx}{d e:E->Vx}(g:c<l):Rh l 8 (Fa a p h b f (c+1) e)<Rh l 8 (Fa a p h cnt f c d):=by show l-(((c+1:E):VB)).toNat<l-(c:VB).toNat;omega
theorem Ju{a1:VB}(i7:-2^63<=a1/\a1<2^63)(f5:rh N p u l v Q)(b1:Da m q g)(f9:(∃j2,g.cell? ⟨1,0,I⟩=C (Vy M j2))/\yB g/\4<g.heap.size)(l6:q<=g.heap.size):
 CW (goalAt TP I I D ar m) (Go.Conc.base 3) ⟨[],[(1,N)]⟩ O (Tryz.f3.body.getD .skip) (λU o m4=>U=.ret/\o.defers=[]/\o.tmps[4]?=C (.bool J)) ⟨#[Vy M a1,p,F,F,F,F,F,F,F,F,F,F,F,F,F,F,F,F,F,F,F,F,F,F,F,F,F,F,F,F,F,F,F,F,F,F,F,F,F,F,F,F,F,F,F,F,F,F,F,F,F,F,F,F,F,F,F,F,F,F,F,F,F,F,F,F,F,F,F,F,F,F,F,F,F,F,F,F,F,F,F,F,F,F,F,F,F,F,F,F,F,F,F,F,F,F,F,F,F,F,F,F,F,F,F,F,F,F,F,F,F,F,F,F,F,F,F],[]⟩ g:=by
 show CW _ _ _ _ (.seq _ _) _ _ _;have i5:∀e,m e->e<g.heap.size:=λe b5=>by have:=b1.lt e b5;omega
 refine aO (bn ak (by decide) (by decide) (i:=[1]) A (by rfl) λr d3 _ _=>?_)
 go_wp2
 refine show _/\_ from⟨λe _=>by rw[d3],(show CW _ _ _ _ _ _ _ _ from ?_)⟩;refine aO (eP (Q:=3) A (Sim.co_take ak (by decide) (by decide) (H:=[1]) A 0 1 (more:=[1,2]) (a:=[_]) A (by rfl) λw2 d4 _ _=>?_))
 go_wp2
 refine show _/\_ from⟨λe _=>by rw[d4],?_⟩;have b8:=d4.trans d3;refine mr (a:=#[Vy M a1]) (l:=1) (more:=[2]) (by decide) A rfl rfl rfl Tryz.func14 (by decide) A (by decide) (by kernel_rfl) (KL i7 (b1.eq b8) ⟨by simp_all [K.cell?],f9.2.1.stay (by rw[b8]),by simp_all⟩ (by simp_all)) λm3 m7 h5=>?_;obtain⟨h,s,t,k,rfl,l7,B⟩:=h5;replace B:=B.base b8;clear b8 d4 d3;dsimp only[Act.put];refine Sim.co_take ak (by decide) (by decide) (H:=[1]) A 2 1 (more:=[]) (a:=[_]) A (by rfl) λm8 d5 _ _=>?_
 go_wp2
 replace B:=B.eq d5;refine show _/\_ from⟨λe _=>by rw[d5],dF (show CW _ _ _ _ _ _ _ _ from ?_)⟩;clear d5;refine aO (aO (bn ak (by decide) (by decide) (i:=[1]) A (by rfl) λm9 d6 _ _=>?_))
 go_wp2
 replace B:=B.eq d6;refine show _/\_ from⟨λe _=>by rw[d6],(show CW _ _ _ _ _ _ _ _ from ?_)⟩;clear d6;refine cI (g:=Vz) (by decide) A (ej (show CW _ _ _ _ _ _ _ _ from ?_));refine aO (bn ak (by decide) (by decide) (i:=[1]) A (by rfl) λn0 d7 _ _=>?_)
 go_wp2
 replace B:=B.eq d7;refine show _/\_ from⟨λe _=>by rw[d7],(show CW _ _ _ _ _ _ _ _ from ?_)⟩;clear d7;refine aO (eP (Q:=3) A (nl ?_));refine ja Tj (by decide) (L:=0) (more:=[1,2]) (j:=16) ⟨_,A,A,A,A⟩ (P:=p) (V:=N) A (show 16<117 by decide) (λg8 l3 k6 l1 _ _=>⟨#[],λf2 g7 U=>?_,by simp⟩) f5.rel ?_
 .show(Sem.pure (Next.value (k6 (.tmp 1)))).runT TP g8 #[]=_;simp_all
 dsimp only[Act.put];have h7:=B.size;refine Lg (a3:=[(0,N)]) (v:=#[p]) (L:=1) (more:=[2]) (by decide) A rfl rfl rfl Tryz.func15 (by decide) A (by decide) (λg7 i4=>⟨16,by simp_all,by simp_all⟩) (by kernel_rfl) (BU f5 (b1.keep B.ro) (by omega)) λf n1 h6=>?_;obtain⟨d,a0,l2,b,g3,g6,i6⟩:=h6
 have x:∀i,f.ownBlock=C i->¬aK s Wt.sB.tree k i:=λi f9 b3=>by
  obtain⟨f0,u⟩:=B.at';have:=u.jE.bm b3
  grind
 replace B:=B.old (λo f8=>by grind) g6 g3;refine yQ A (λg7 i4=>by simp_all) ?_;dsimp only[Act.put];refine Sim.co_take ak (by decide) (by decide) (H:=[1]) A 2 1 (more:=[]) (a:=[_]) A (by rfl) λk3 c0 _ _=>?_
 go_wp2
 replace B:=B.eq c0;replace b:eL d f k3:=bV.stay b λi _=>by rw[c0]
 refine show _/\_ from⟨λe _=>by rw[c0],dF (show CW _ _ _ _ _ _ _ _ from ?_)⟩;clear c0 g3 g6 h7 i6;refine aO (aO (bn ak (by decide) (by decide) (i:=[1]) A (by rfl) λk4 c6 _ _=>?_))
 go_wp2
 replace B:=B.eq c6;replace b:eL d f k4:=bV.stay b λi _=>by rw[c6]
 refine show _/\_ from⟨λe _=>by rw[c6],(show CW _ _ _ _ _ _ _ _ from ?_)⟩;clear c6;obtain⟨d1,a8,rfl⟩:=b.form;refine kQ (yV (w:=Kq a1 p h s t d (.slice d1 d.length a8) m q g) (P:=λo _=>Rh d.length 8 o) ⟨0,6,Wt.sB,k,Xg _,GJ A rfl rfl rfl rfl rfl rfl rfl rfl,Ew,B,b,x,by decide,by decide⟩ ?_);clear B b x k;rintro o m5⟨c,cnt,y,k,l5,⟨j3,rfl⟩,S,B,b,x,h9,l4⟩;dsimp only[Fa];refine aO (aO (bn ak (by decide) (by decide) (i:=[1]) A (by rfl) λj9 Y _ _=>?_));rcases D_ c d.length with a7|a7
 .have c1:decide ((c:VB)<d.length)=J:=by simp;omega
  go_wp2
  replace B:=B.eq Y;replace b:eL d (.slice d1 d.length a8) j9:=bV.stay b λi _=>by rw[Y]
  refine show _/\_ from⟨λe _=>by rw[Y],(show CW _ _ _ _ _ _ _ _ from ?_)⟩;clear Y c1;refine cI (g:=J) (by decide) A (ej (show CW _ _ _ _ _ _ _ _ from ?_));obtain⟨a,g4⟩:∃a,d[c]?=C a:=⟨_,Xb a7⟩;have e8:=a0 a (WG g4);refine aO (kQ (aO (bn ak (by decide) (by decide) (i:=[1]) A (by rfl) λn W _ _=>?_)));replace B:=B.eq W;replace b:eL d (.slice d1 d.length a8) n:=bV.stay b λi _=>by rw[W]
  obtain⟨i,rfl,T⟩:=b.at' g4;have d8:n.cell? ⟨i,c*8,I⟩=C (Vy M a.al):=T 0 _ A;have d9:n.cell? ⟨i,c*8+1,I⟩=C (Vy M a.op.kind):=T 1 _ A;have e0:n.cell? ⟨i,c*8+2,I⟩=C (.string (bs a.op.path)):=T 2 _ A;have e1:n.cell? ⟨i,c*8+3,I⟩=C (.string (bs a.op.data)):=T 3 _ A;have e2:n.cell? ⟨i,c*8+4,I⟩=C (Vy M a.op.aF):=T 4 _ A;have e3:n.cell? ⟨i,c*8+5,I⟩=C (Vy M a.op.flags):=T 5 _ A;have h3:n.cell? ⟨i,c*8+6,I⟩=C (.bool a.watch):=T 6 _ A;have h4:n.cell? ⟨i,c*8+7,I⟩=C (VG I 0 0):=T 7 _ A;have b0:=VF (And.intro b (And.intro x (And.intro S a0)));clear b x S T a0
  go_wp2
  clear d8 d9 e0 e1 e2 e3 h3 h4;generalize i8:n.alloc _=d0;have j0:d0.heap.size=n.heap.size+1:=by grind [jm]
  have w:d0.heap[n.heap.size]?=C (VH (Cb a) 31 (0,0)):=by grind [heap_alloc]
  have e9:∀o,o<n.heap.size->d0.heap[o]?=n.heap[o]?:=λo f8=>by grind [Below.heap_alloc]
  clear i8;have h8:=B.size
  have a6:¬aK s y.tree k n.heap.size:=λb3=>by obtain⟨f0,a3⟩:=B.at';have:=a3.jE.bm b3;omega
  have g5:∀o,m o->o<n.heap.size:=λo f8=>by grind
  replace B:=B.old g5 (by omega) e9;obtain⟨b,x,S,a0⟩:=b0.out;replace b:eL d (VG (C ⟨i,0,I⟩) d.length a8) d0:=bV.stay b λX c8=>e9 X (b.lt X c8);refine show _/\_ from⟨λe b5=>by simp_all,(show CW _ _ _ _ _ _ _ _ from ?_)⟩;clear b0 e9 g5 h8 j0;simp only[<-W]at*
  clear W;generalize n.heap.size=R at w a6⊢
  have b0:=VF (And.intro b (And.intro x (And.intro S (And.intro a0 (And.intro w a6)))));clear b x S a0 a6;refine aO (eP (Q:=21) A (Sim.co_take ak (by decide) (by decide) (H:=[1]) A 0 18 (more:=[18,19,20]) (a:=[_,_,_,_,_,_,_,_,_,_,_,_,_,_,_,_,_,_]) A (by rfl) λa2 a4 _ _=>?_));rw[<-a4]at w;have d8:a2.cell? ⟨R,0,I⟩=C (Vy M a.al):=aa w 0 A;have d9:a2.cell? ⟨R,1,I⟩=C (Vy M a.op.kind):=aa w 1 A;have e0:a2.cell? ⟨R,2,I⟩=C (.string (bs a.op.path)):=aa w 2 A;have e1:a2.cell? ⟨R,3,I⟩=C (.string (bs a.op.data)):=aa w 3 A;have e2:a2.cell? ⟨R,4,I⟩=C (Vy M a.op.aF):=aa w 4 A;have e3:a2.cell? ⟨R,5,I⟩=C (Vy M a.op.flags):=aa w 5 A
  go_wp2
  replace B:=B.eq a4;refine show _/\_ from⟨λe b5=>by rw[a4],(show CO _ _ _ _ _ _ _ _ _ from ?_)⟩;clear d8 d9 e0 e1 e2 e3 w;obtain⟨b,x,S,a0,w,a6⟩:=b0.out;clear b0;rw[<-a4]at w;replace b:eL d (VG (C ⟨i,0,I⟩) d.length a8) a2:=bV.stay b λi _=>by rw[a4]
  clear a4;obtain⟨f0,a3⟩:=B.at';obtain⟨f1,z,b4,b2,g1,g2⟩:=Jj S (Mu e8);refine ls (a9:=[1]) A rfl rfl (l:=Th a) (j:=46) (b:=10) (by decide) (by decide) ⟨_,A,A,A,A⟩ ⟨_,A,A,A,A⟩ ⟨_,A,A,A,A⟩ (show 46<117 by decide) (show 10<117 by decide) (by decide) (by rfl) (by decide) (by kernel_rfl) a3 (b1.keep B.ro) (by omega) (by omega) (Ri e8) (Mt e8) λe d2 b6 L P=>?_;have g0:=vc b4;have b7:=B.one i5 P;have a5:=P.last;have a9:=P.SD;have f7:=b.one x P;have e4:=λX c8 b3=>(P.own X b3).elim (x X c8) λc7=>by have:=b.lt X c8;omega
  have e6:b6.heap[R]?=C (VH (Cb a) 31 (0,0)):=by rw[<-w];exact mq (P.keep R (Wh.1 w).1 a6) w (gX λe b5=>(Lo b5).2)
  rw[g0]at b7 a5 a9 e4;obtain⟨j8,rfl⟩:=gR a5;have i1:(Th a).op.kind=a.op.kind:=A;rw[i1]at b2 g1 g2;have k8:=b7.size;clear b x S w a6 a5 P a3 B b4 g0;refine dF (show CW _ _ _ _ _ _ _ _ from ?_);dsimp only[Act.put];refine eZ (h:=a1) (k:=p) (i:=h) (cnt:=cnt) (g:=VG (C ⟨i,0,I⟩) d.length a8) (a:=c) (f:=R) (e:=d2) (d:=λo=>CW (goalAt TP I I D ar m) (Go.Conc.base 3) ⟨[],[(1,N)]⟩ O _ _ o b6) A rfl rfl rfl rfl rfl rfl rfl rfl rfl rfl (λm2=>?_);refine aO (RG e6 ⟨h9,by omega⟩ (λe7 j4 k0 Z=>?_) (λe7 j4 k0 Z=>?_))
  .show CW _ _ _ _ _ _ _ _;rw[VV e7]at b2;refine aO (MO (cnt:=cnt+1) (by simp_all) (by rw[Z];exact a9.blk) g1 λj5 k1 b9=>(show CW _ _ _ _ _ _ _ _ from ?_));refine MQ (cnt:=cnt+1) (by simp_all) (by rw[b9,Z];exact a9.blk) g2 λj6 k2 h1=>?_;show CW _ _ _ _ _ _ _ _;refine Qg (by omega) λj7 f3 h2=>?_;have U:f3.heap=b6.heap:=by simp_all
   exact show Kq _ _ _ _ _ _ _ _ _ _ _ _/\_ from⟨⟨c+1,cnt+1,f1,L,a7,⟨_,A⟩,b2,b7.eq U,bV.stay f7 λX _=>by rw[U],e4,by omega,by omega⟩,Gp a7⟩
  show CW _ _ _ _ _ _ _ _;rw[VK e7]at b2;refine aO (MO (cnt:=cnt) (by rw[Z];exact e6) (by rw[Z];exact a9.blk) (λ_ c7=>absurd c7 (by omega)) λj5 k1 b9=>(show CW _ _ _ _ _ _ _ _ from ?_));refine MQ (cnt:=cnt) (by rw[b9,Z];exact e6) (by rw[b9,Z];exact a9.blk) (λ_ c7=>absurd c7 (by omega)) λj6 k2 h1=>?_;show CW _ _ _ _ _ _ _ _;refine Qg (by omega) λj7 f3 h2=>?_;have U:f3.heap=b6.heap:=by simp_all
  exact show Kq _ _ _ _ _ _ _ _ _ _ _ _/\_ from⟨⟨c+1,cnt,f1,L,a7,⟨_,A⟩,b2,b7.eq U,bV.stay f7 λX _=>by rw[U],e4,by omega,by omega⟩,Gp a7⟩
 have c1:decide ((c:VB)<d.length)=Vz:=by simp;omega
 have h0:decide (c<d.length)=Vz:=by simp;omega
 go_wp2
 replace B:=B.eq Y;refine show _/\_ from⟨λe _=>by rw[Y],(show CW _ _ _ _ _ _ _ _ from ?_)⟩;clear Y c1 h0 b x;refine cI (g:=Vz) (by decide) A (tR ?_);show CW _ _ _ _ _ _ _ _;refine aO (eP (Q:=4) A (Sim.co_take ak (by decide) (by decide) (H:=[1]) A 0 1 (more:=[1,2,3]) (a:=[_]) A (by decide+kernel) λn W _ _=>?_))
 go_wp2
 replace B:=B.eq W;refine show _/\_ from⟨λk5 i9=>by rw[W],(show CO _ _ _ _ _ _ _ _ _ from ?_)⟩;clear W;obtain⟨f0,a3⟩:=B.at';obtain⟨f1,z,b4,i0,i3⟩:=Ji S (by omega);have i2:((47::Wt.last:VD UInt8))=[47,108,97,115,116]:=A;rw[i2]at b4;refine ls (a9:=[1]) A rfl rfl (l:={al:=1,op:={kind:=3,path:=[47,108,97,115,116]}}) (j:=105) (b:=11) (by decide) (by decide) ⟨_,A,A,A,A⟩ ⟨_,A,A,A,A⟩ ⟨_,A,A,A,A⟩ (show 105<117 by decide) (show 11<117 by decide) (by decide) (by decide+kernel) (by decide) (by kernel_rfl) a3 (b1.keep B.ro) (by omega) (by omega) ⟨by decide,by decide,by decide,by decide⟩ (VC (VA A)) λe d2 b6 L P=>?_;have a5:=P.last;have e5:=P.blk;rw[vc b4]at a5;obtain⟨j8,rfl⟩:=gR a5;refine dF (show CW _ _ _ _ _ _ _ _ from ?_);refine aO (bn ak (by decide) (by decide) (i:=[1]) A (by decide+kernel) λm6 f6 _ _=>?_);rw[<-f6]at e5;have k9:=aa e5 3 (VU (λf4=>C (Vx.int M f4)) i0);have l0:=aa e5 7 (VU (λf4=>C (Vx.int M f4)) i3)
 go_wp2
 refine show _/\_ from⟨λk5 i9=>by rw[f6],(show CW _ _ _ _ _ _ _ _ from mA ?_)⟩;simp
end
end
variable{q:K}{d:VE Vx}{f:Vx}{h:VS}{e:E}
def jb:Vx->Vx
 |.int .u8 _=>.tuple #[]
 |f=>f
def Qa:Obj->Obj
 |.cells d b c=>.cells (d.map jb) b (0,d.size)
 |a=>a
def wx(b:E):Prop:=0<b/\b<=7
instance:DecidablePred wx:=λb=>inferInstanceAs (Decidable (0<b/\b<=7))
def jr(q:K):K:={q with heap:=q.heap.mapIdx λb a=>if wx b then Qa a else a}
def uB:Ren:=λb a=>b=a/\wx b
def Hg(q:K):Prop:=∀b,wx b->∃d f a,q.heap[b]?=C (VH d f a)/\0<d.size/\a.1=a.2/\∀g∈d.toList,∃c e,g=.int c e
section
theorem vh:(jr q).heap.size=q.heap.size:=by simp[jr]
theorem js(a:wx b):(jr q).heap[b]?=(q.heap[b]?).map Qa:=by simp only[jr,Zz,VV a]
theorem Ra(d:Ren){b:Vx}(c:∃a e,b=.int a e):an ar d (jb b) b:=by obtain⟨a,e,rfl⟩:=c;cases a<;>first|exact .bU trivial|exact .int _ _
theorem LO{b:Vx}(f:∃a e,b=.int a e):(∀c,jb b≠.int .u8 c)/\aR (λ_=>False) (jb b):=by
 obtain⟨a,e,rfl⟩:=f;cases a
 all_goals refine⟨(λc d=>by cases d),?_⟩
 all_goals first|exact .int _ _|exact .bU
theorem IC(h:Hg q):aU ar uB (jr q) q where
 inj:=λb n g o a i=>by rw[<-a.1,<-i.1]
 obj:=λb g a=>by
  obtain⟨rfl,a⟩:=a;obtain⟨d,m,p,c,_,k,l⟩:=h b a;refine⟨_,_,by rw[js a,c];rfl,c,.cells m ⟨by simp,λr u v e f=>?_⟩ ?_⟩
  .rw[WE,f]at e;cases e;exact Ra _ (l _ (WW.2 (WN f)))
  exact VA k
 os:=A
theorem Br(g:Hg q):ma ar wx (jr q):=λb e=>by
 obtain⟨d,p,n,f,h,o,i⟩:=g b e;refine⟨_,by rw[js e,f];rfl,?_⟩;refine⟨by simp,by simpa using h,λ⟨k,l,a⟩=>?_⟩;rw[WE]at a;cases c:d[k]? with
 |none=>rw[c]at a;cases a
 |some m=>rw[c]at a;exact(LO (i m (WW.2 (WN c)))).1 l (Xa a)
theorem Tc{a:Vx}(b:∀c,a≠.int .u8 c):jb a=a:=by
 unfold jb;split
 .exact absurd A (b _)
 rfl
theorem Bt(f:wx b){a:VJ}{e:E×E}(c:q.heap[b]?=C (VH d a e))(g:∀i∈d.toList,∀h,i≠.int .u8 h):(jr q).heap[b]?=C (VH d a (0,d.size)):=by
 rw[js f,c];show C (Obj.cells (d.map jb) a (0,d.size))=_;have:d.map jb=d:=by refine ZG (by simp) λm k l=>?_;rw[VE.getElem_map];exact Tc (g _ (by simp))
 rw[this]
theorem uz:Base Sim.TP uB:=by
 have g:Sim.TP.globals.size=7:=by decide+kernel
 refine⟨λd e f=>⟨A,?_⟩,λb c a=>by rw[a.1]⟩;unfold wx;omega
theorem OS(f:Hg q):ko ar wx (jr q):=VC λb c g i a=>by obtain⟨d,k,h,e,_⟩:=f b c;rw[js c,e]at a;cases a
theorem Ul[Inhabited aV](u:Sim.GD=wx)(h:Hg q)(i:8<=q.heap.size):Da wx q.heap.size (jr q) where
 lt:=λb a=>by unfold wx at a;omega
 cl:=λb a=>by
  obtain⟨d,k,o,l,r,D,m⟩:=h b a;refine⟨d.map jb,k,(0,d.size),by rw[js a,l];rfl,by simpa using r,by simp,λv n f=>?_,λ⟨w,x,g⟩=>?_⟩
  .rw[WE]at f;cases c:d[v]? with
   |none=>rw[c]at f;cases f
   |some y=>rw[c]at f;cases f;exact pk (LO (m y (WW.2 (WN c)))).2 (λ_ h=>h.elim)
  rw[WE]at g;cases c:d[w]? with
  |none=>rw[c]at g;cases g
  |some n=>rw[c]at g;exact(LO (m n (WW.2 (WN c)))).1 x (Xa g)
 wh:=λb a=>by obtain⟨d,k,o,l,_⟩:=h b a;rw[js a,l];show C (Obj.cells (d.map jb) k (0,(d.map jb).size))=C (Obj.cells (d.map jb) k (0,d.size));rw[XY]
 gl:=λp e s=>by
  have i:TP.globals.size=7:=by decide+kernel
  have t:p<=7:=Wu s (YF i);rcases e with e|e
  .exact⟨e,t⟩
  rw[e];exact⟨by rw[i];decide,by rw[i];decide⟩
 rb:=λb a=>by rw[u]at a;exact a
theorem Fj{a:VM}{b:VQ}{l:VD Item}{fn:Func}(i:a.kind=.normal)(hd:b.defers=[])(d:h.funcs[a.fn]?=C fn)
 (k:(results fn b.tmps).run h g=.ok f g)(c:(results fn b.tmps).events h g #[]=#[])(e:h.inits.idxOf? a.fn=I):
 stepG h J (Sim.rg {a.at b l with mode:=.returning} []) g=.ended (.done f) g #[]:=by
 simp[Sim.rg,stepG,unwind,doReturn,Frame.at,i,hd,d,k,c,e,seen,GStep.after]
theorem Vs(a:VB)(b:Vx):(#[Vy M a,b]++Array.replicate (Tryz.f3.ntmps-(#[Vx.int M a,b]).size) F)=#[Vy M a,b,F,F,F,F,F,F,F,F,F,F,F,F,F,F,F,F,F,F,F,F,F,F,F,F,F,F,F,F,F,F,F,F,F,F,F,F,F,F,F,F,F,F,F,F,F,F,F,F,F,F,F,F,F,F,F,F,F,F,F,F,F,F,F,F,F,F,F,F,F,F,F,F,F,F,F,F,F,F,F,F,F,F,F,F,F,F,F,F,F,F,F,F,F,F,F,F,F,F,F,F,F,F,F,F,F,F,F,F,F,F,F,F,F,F,F]:=by kernel_rfl
theorem EU(i:Hg q)(D:yB q)(a1:∃m,q.cell? ⟨1,0,I⟩=C (Vy M m))(b6:8<=q.heap.size){a:VB}(b5:-2^63<=a/\a<2^63){c o:Vx}{S:VL VT}{U:E}{Z:E->VE Vx}(t:@rh ⟨⟨q,wx⟩⟩ c o S e U Z):
 ∃u last r s R,runNT TP (u+1) (Go.Conc.solo (Go.Conc.G (Frame.enter TP 3 #[Vy M a,c] .normal) []) q) #[]=(.ended r s,R)/\runN TP u (Go.Conc.solo (Go.Conc.G (Frame.enter TP 3 #[Vy M a,c] .normal) []) q)=.next last/\step TP last=.ended r s/\
  Go.Conc.Good TP (λf n=>f=.bool J/\(∀k,k<q.heap.size->n.heap[k]?=q.heap[k]?)/\q.heap.size<=n.heap.size/\n.os=q.os/\n.output=q.output) last r s R:=by
 letI:Inhabited aV:=⟨⟨q,wx⟩⟩
 have d2:dq=q:=A;have b4:Sim.GD=wx:=A;have T:Sim.Inv TP ar wx uB (jr q):=⟨uz,Br i,OS i⟩
 have b1:(∃m,(jr q).cell? ⟨1,0,I⟩=C (Vy M m))/\yB (jr q)/\4<(jr q).heap.size:=by
  obtain⟨m,b2⟩:=a1;have H:wx 1:=by decide
  have L:wx 4:=by decide
  refine⟨⟨m,?_⟩,D.stay ?_,by rw[vh];omega⟩
  .obtain⟨d,Q,a0,h,_⟩:=i 1 H;have a7:d[0]?=C (Vy M m):=by simpa[K.cell?,h]using b2
   have:(jr q).heap[1]?=C (VH (d.map jb) Q (0,d.size)):=by rw[js H,h];rfl
   exact aa this 0 (by rw[WE,a7];rfl)
  obtain⟨d,Q,a0,h,_⟩:=i 4 L;rw[Bt L h λc0 l d3 W=>?_,h]
  .rfl
  have:=D;unfold yB TabIs K.var? at this;rw[py]at this;simp only[XS,h]at this;have a8:d=_:=Xa this;subst W;rw[a8]at l;simp at l
 refine EX (h:=uB) (e:=jr q) (f:=ar) (m:=wx) ?_ (KR uz (IC i) (Br i) (λb k p=>p.2) λb p=>p)
 have X:Frame.enter TP 3 #[Vy M a,c] .normal=(Go.Conc.base 3).at ⟨#[Vy M a,c]++Array.replicate (Tryz.f3.ntmps-(#[Vx.int M a,c]).size) F,[]⟩ [.code (Tryz.f3.body.getD .skip)]:=by have b0:TP.funcs[3]?=C Tryz.f3:=Tryz.func3;have a5:∃w,Tryz.f3.body=C w:=⟨_,A⟩;obtain⟨w,a6⟩:=a5;simp[Frame.enter,Frame.at,Go.Conc.base,b0,a6]
 rw[X];refine Ju b5 t (Ul b4 i b6) b1 (by rw[vh];exact Wl _) uB [] _ T ?_ λh d8 c9 v d6 c7 d1 N b8=>?_
 .have a3:ax ar uB #[Vy M a,o] #[Vy M a,c]:=by
   refine⟨A,λP c0 c6 l O=>?_⟩;rcases P with _|_|P
   .cases l;cases O;exact .int _ _
   .cases l;cases O;exact t.rel _
   simp at l
  refine⟨?_,⟨[],A,.nil⟩,λb7 b3=>?_⟩
  .show ax ar uB #[Vy M a,o,F,F,F,F,F,F,F,F,F,F,F,F,F,F,F,F,F,F,F,F,F,F,F,F,F,F,F,F,F,F,F,F,F,F,F,F,F,F,F,F,F,F,F,F,F,F,F,F,F,F,F,F,F,F,F,F,F,F,F,F,F,F,F,F,F,F,F,F,F,F,F,F,F,F,F,F,F,F,F,F,F,F,F,F,F,F,F,F,F,F,F,F,F,F,F,F,F,F,F,F,F,F,F,F,F,F,F,F,F,F,F,F,F,F,F] _;rw[<-Vs a o];exact a3.append (ax.replicate _ aY)
  obtain rfl:b7=(1,c):=by simpa using b3
  show(#[Vy M a,c]++_)[1]?=C c;rw[XV (show 1<2 by decide)];rfl
 obtain⟨rfl,hd,a2⟩:=b8;intro d5;have a9:v.defers=[]:=by obtain⟨d0,Y,x⟩:=N.defers;rw[hd]at x;cases x;simpa using Y
 have z:v.tmps[4]?=C (.bool J):=by obtain⟨c6,q1,b9⟩:=N.tmps.get a2;cases b9;exact q1
 have y:Tryz.f3.results=#[ResultVar.tmp 4]:=A;refine Ow A λn hrel jH=>⟨.bool J,Fj A a9 Tryz.func3 ?_ ?_ (by decide+kernel),A,?_⟩
 .unfold results;rw[y];simp[go_sem,z]
 .unfold results;rw[y];simp[go_sem,z]
 exact⟨λk a4=>jH.heap k a4,jH.size,jH.os,jH.out⟩
end
end Go.Sv
namespace Go.Sv
open Go.MapKept Go.Proofs Go.RowKit Go.Lib Go.WideShapes Go.Sort Go.Sim Wt
open Go.ChangeShapes Go.ChangeAt
variable{h:K}{b:E}{c:Vx}{q:K}
section
variable{e:Type}{d:VJ×Vx->e}{base:E}{g:E->VI}{f:VI}{a:DataW e×VD MemPlace}
theorem mX(e:DataW.trod d Tryz.prog h base g f b 3 [c]=C a):∃i,c=Vy M i/\(-2^63<=i/\i<2^63):=by
 cases b with
 |zero=>cases e
 |succ b=>have l:Tryz.prog.underlying 3=C (.int M):=A;unfold DataW.trod at e;rw[l]at e;cases c<;>simp at e;obtain⟨⟨rfl,k⟩,_⟩:=e;refine⟨_,A,?_⟩;simp[Lit.wf,IntKind.min,IntKind.max,IntKind.signed,IntKind.bits]at k;omega
theorem Np(e:DataW.trod d Tryz.prog h base g f b 9 [c]=C a):∃i,c=.string i/\i.size<=maxLen:=by
 cases b with
 |zero=>cases e
 |succ b=>have k:Tryz.prog.underlying 9=C .string:=A;unfold DataW.trod at e;rw[k]at e;cases c<;>simp at e;exact⟨_,A,e.1⟩
theorem Px(e:DataW.trod d Tryz.prog h base g f b 4 [c]=C a):∃i,c=.bool i:=by
 cases b with
 |zero=>cases e
 |succ b=>have k:Tryz.prog.underlying 4=C .bool:=A;unfold DataW.trod at e;rw[k]at e;cases c<;>simp at e;exact⟨_,A⟩
theorem vn{n o p:Type}{m:o->VL p}{l:n->o}:∀i:VD n,(i.map l).mapM m=i.mapM λk=>m (l k)
 |[]=>rfl
 |k::i=>by simp only[XE,W_,vn i]
theorem JE{l:VD Vx}(e:DataW.trod d Tryz.prog h base g f b 72 l=C a):∃m p k c i n X,l=(Ni m p k c i n X).toList/\fits m/\fits p/\fits k/\fits c/\fits i/\(n.size:VB)<2^63:=by
 cases b with
 |zero=>cases e
 |succ b=>
  obtain⟨o,O,H⟩:∃o,Tryz.prog.underlying 72=C (.struct o)/\o.toList.map (λi=>(i.type,i.offset))=[(3,0),(3,1),(3,2),(3,3),(3,4),(9,5),(4,6)]:=⟨_,A,by decide+kernel⟩;have y:Tryz.prog.cellsOf 72=7:=by decide+kernel
  have w:Tryz.prog.cellsOf 3=1:=by decide+kernel
  have z:Tryz.prog.cellsOf 9=1:=by decide+kernel
  have x:Tryz.prog.cellsOf 4=1:=by decide+kernel
  unfold DataW.trod at e;rw[O]at e;simp only[y]at e;split at e
  .rename_i s;obtain⟨q,c1,c2,c3,c4,c5,r,rfl⟩:∃q c1 c2 c3 c4 c5 r,l=[q,c1,c2,c3,c4,c5,r]:=by
    iterate 7
     rcases l with _|⟨_,l⟩
     simp at s
    obtain rfl:l=[]:=XK.1 (by simpa using s);exact⟨_,_,_,_,_,_,_,A⟩
   obtain⟨Z,e,_⟩:=Xf.1 e;have t:=vn (m:=λk=>DataW.trod d Tryz.prog h base g f b k.1 (List.take (Tryz.prog.cellsOf k.1) (List.drop k.2 [q,c1,c2,c3,c4,c5,r]))) (l:=λi:Field=>(i.type,i.offset)) o.toList;rw[H]at t;replace e:=t.trans e;simp only[W_,VD.mapM_nil,w,z,x,VD.drop_succ_cons,VD.drop_zero,VD.take_succ_cons,O_,VL.bind_eq_bind,Ww,VL.pure_def]at e;obtain⟨a0,Q,_,⟨a1,q1,_,⟨a2,R,_,⟨a3,S,_,⟨a4,T,_,⟨a5,U,_,⟨a6,W,_⟩,_⟩,_⟩,_⟩,_⟩,_⟩,_⟩:=e;obtain⟨m,rfl,v⟩:=mX Q;obtain⟨p,rfl,L⟩:=mX q1;obtain⟨k,rfl,N⟩:=mX R;obtain⟨c,rfl,P⟩:=mX S;obtain⟨i,rfl,D⟩:=mX T;obtain⟨n,rfl,hd⟩:=Np U;obtain⟨u,rfl⟩:=Px W;exact⟨m,p,k,c,i,n,u,A,v,L,N,P,D,by unfold maxLen at hd;omega⟩
  cases e
end
noncomputable def PY(b:E):VI:=match(((begin Tryz.prog (λ_ _=>0) default).world.heap[b]?).bind Obj.row?)with
 |some (zero,a)=>decide (0<zero.size)&&Tryz.prog.buildable a&&(match Tryz.prog.cellTypes Tryz.prog.depth a with
  |some c=>c.all λd=>match Tryz.prog.underlying d with
   |some (.int _)=>J
   |_=>Vz
  |none=>Vz)
 |none=>Vz
theorem SU:(PY 1&&PY 2&&PY 3&&PY 4&&PY 5&&PY 6)=J:=by decide+kernel
noncomputable def Vd:VI:=match(begin Tryz.prog (λ_ _=>0) default).world.heap[7]? with
 |some (Obj.cells b _ c)=>decide (0<b.size)&&decide (c.1=c.2)&&b.all λa=>match a with
  |Vx.int _ _=>J
  |_=>Vz
 |_=>Vz
theorem Uv:Vd=J:=by decide+kernel
noncomputable def SO:VI:=match(((begin Tryz.prog (λ_ _=>0) default).world.heap[1]?).bind Obj.row?)with
 |some (zero,a)=>decide (zero.size=1)&&Tryz.prog.buildable a&&decide (Tryz.prog.cellTypes Tryz.prog.depth a=C [3])
 |none=>Vz
theorem SP:SO=J:=by decide+kernel
theorem OT(w:q.ShapedOpen Tryz.prog):Hg q/\8<=q.heap.size/\∃n,q.cell? ⟨1,0,I⟩=C (Vy M n):=by
 have t:Tryz.prog.globals.size=7:=by decide+kernel
 have k:∀c,PY c=J->c<7->∃h g i,q.heap[c]?=C (VH h g i)/\0<h.size/\i.1=i.2/\∀a∈h.toList,∃R b,a=.int R b:=λc l p=>by
  unfold PY at l;split at l
  .rename_i zero g z;simp only[WH,Xs]at l;obtain⟨⟨b9,a3⟩,P⟩:=l;obtain⟨o,u,b1,y⟩:=w.1 c zero g (by rw[t];exact p) z;obtain⟨b8,r,b0,x⟩:=y a3;rw[r]at P;refine⟨o,g,_,u,by omega,A,λa d=>?_⟩;obtain⟨b4,a5⟩:=VD.getElem?_of_mem d;obtain⟨D,s,m⟩:=x b4 a (by rw[<-XR];exact a5);have Q:=Xn.1 P D (WG s);split at Q
   .rename_i R a6;unfold Cell.ok at m;rw[a6]at m;cases a<;>first|exact⟨_,_,rfl⟩|exact False.elim m
   cases Q
  cases l
 have f:=Uv;unfold Vd at f;split at f
 .rename_i h g i H;simp only[WH,Xs]at f;have a8:=(Wh.1 H).1;obtain⟨S,b6,v,L,N⟩:=w.2 7 (by rw[t];exact Wl _) a8;have a7:K.looseAt (7-Tryz.prog.globals.size)=Vz:=by rw[t];rfl
  rw[a7]at N;have T:S=b6:=by simpa using N
  rw[H]at L;have U:S=.cells h g i:=T.trans (Xa L).symm;rw[U]at v;have O:=SU;simp only[WH]at O;obtain⟨⟨⟨⟨⟨W,X⟩,Y⟩,Z⟩,a0⟩,a1⟩:=O;refine⟨λe a2=>?_,by have:=(Wh.1 v).1;omega,?_⟩
  .obtain⟨c0,c6⟩:=a2;rcases(by omega:e=1\/e=2\/e=3\/e=4\/e=5\/e=6\/e=7)with rfl|rfl|rfl|rfl|rfl|rfl|rfl
   .exact k 1 W (by decide)
   .exact k 2 X (by decide)
   .exact k 3 Y (by decide)
   .exact k 4 Z (by decide)
   .exact k 5 a0 (by decide)
   .exact k 6 a1 (by decide)
   refine⟨h,g,i,v,f.1.1,f.1.2,λa d=>?_⟩;have:=VE.all_eq_true'.1 f.2 a (WW.1 d);split at this
   .exact⟨_,_,A⟩
   cases this
  have c:=SP;unfold SO at c;split at c
  .rename_i zero b7 z;simp only[WH,Xs]at c;obtain⟨⟨c7,a4⟩,b2⟩:=c;obtain⟨o,u,b1,y⟩:=w.1 1 zero b7 (by rw[t];decide) z;obtain⟨b8,r,b0,x⟩:=y a4;rw[b2]at r;cases r;have p:0<o.size:=by omega
   obtain⟨D,s,m⟩:=x 0 o[0] (Wj p);obtain rfl:D=3:=by have:([3]:VD VJ)[0%([3]:VD VJ).length]?=C 3:=A;rw[this]at s;exact(Xa s).symm
   have b3:Tryz.prog.underlying 3=C (.int M):=A
   have b5:∀a,Cell.ok Tryz.prog q .any 0 3 a->∃n,a=Vy M n:=λa d=>by unfold Cell.ok at d;rw[b3]at d;cases a<;>first|(obtain⟨rfl,_⟩:=d;exact⟨_,A⟩)|exact False.elim d
   obtain⟨n,a9⟩:=b5 _ m;exact⟨n,aa u 0 (by rw[Wj p,a9])⟩
  cases c
 cases f
theorem Aq(a c b:E):(⟨a,c,I⟩:VT).add b=⟨a,c+b,I⟩:=by unfold Addr.add;split<;>simp_all
theorem Bx{d e:Type}{f:d->VL e}:∀{c:VD d}{b:VD e},c.mapM f=C b->b.length=c.length
 |[],b,a=>by simp at a;subst a;rfl
 |h::c,b,a=>by simp only[W_,VL.bind_eq_bind,Ww,VL.pure_def,Wz]at a;obtain⟨i,k,l,g,rfl⟩:=a;simp[Bx g]
theorem Dl{base:E}{e:VT}{d:VD Vx}(c:q.cells? base e b=C d):∀(j:E) a,d[j]?=C a->q.cell? (e.add j)=C a:=by
 unfold K.cells? at c;split at c
 .intro j a g;have k:d.length=b:=by
   have:=Bx c;simpa using this
  have i:j<b:=by rw[<-k];exact(Xk.1 g).1
  obtain⟨l,f,h⟩:=Go.Lib.mapM_at c j j (by simp[i]);rw[g]at f;cases f;exact h
 cases c
theorem IB{e:Type}{d:VJ×Vx->e}{S:DataW e}{b1:VD MemPlace}{R:E}(r:Vx.okWide Tryz.prog q .any R 22 c)(g:DataW.Trod d Tryz.prog q 0 (λ_=>J) J 22 c S b1):
 ∃b3 O b t x,@rh ⟨⟨q,wx⟩⟩ c b3 O b t x:=by
 obtain⟨c0,L⟩:=g;obtain⟨T,u⟩:∃T:Unit,Tryz.prog.underlying 22=C (.slice 72):=⟨(),A⟩;have a8:c.cells.toList=[c]:=by unfold Vx.okWide at r;rw[u]at r;unfold Cell.okWide at r;rw[u]at r;unfold Cell.ok at r;rw[u]at r;cases c<;>first|rfl|exact False.elim r
 rw[a8]at L;rcases Go.Deep.open_slice u L with⟨y,_⟩|⟨o,len,t,b0,b,b5,b6,y,c6,c7,a4,a6,_,H⟩
 .cases y;exact⟨VG I 0 0,I,0,0,λ_=>#[],@rh.mk ⟨⟨q,wx⟩⟩ _ _ _ _ _ _ A (λb4=>.aP _ _) (by decide) λf p=>absurd p (J' _)⟩
 cases y;have a3:Tryz.prog.cellsOf 72=7:=by decide+kernel
 rw[a3]at H;have c8:b0=t:=by rw[a6];rfl
 have cell:∀f,f<len->∃s,(∀j a,s[j]?=C a->q.cell? ((o.add (f*7)).add j)=C a)/\∃h l m n k i swa,s=(Ni h l m n k i swa).toList/\fits h/\fits l/\fits m/\fits n/\fits k/\(i.size:VB)<2^63:=λf p=>by obtain⟨s,q1,b2⟩:=H f (by omega);exact⟨s,Dl q1,JE b2⟩
 have spot:0<len->o.spot=I/\o.block<q.heap.size:=λa1=>by
  obtain⟨s,q1,h,l,m,n,k,i,swa,rfl,_⟩:=cell 0 a1;have g:=q1 0 _ A;rw[E.zero_mul]at g;have w:((o.add 0).add 0)=o:=by simp[Addr.add]
  rw[w]at g;unfold K.cell? at g;split at g
  .rename_i b8 c9 b9 a2;refine⟨?_,(Wh.1 a2).1⟩;split at g
   .cases g
   rename_i a7;simpa using a7
  cases g
 have row:∀f,∃w:VE Vx,f<len->∃v N h l m n k i swa,C o=C (⟨v,N,I⟩:VT)/\v<q.heap.size/\w=Ni h l m n k i swa/\fits h/\fits l/\fits m/\fits n/\fits k/\(i.size:VB)<2^63/\∀j a,(Ni h l m n k i swa)[j]?=C a->q.cell? ⟨v,N+f*7+j,I⟩=C a:=λf=>by
  by_cases p:f<len
  .obtain⟨s,q1,h,l,m,n,k,i,swa,rfl,U,W,X,Y,Z,a0⟩:=cell f p;obtain⟨z,D⟩:=spot (by omega);obtain⟨P,Q,b7⟩:=o;simp only at z D;subst z;refine⟨Ni h l m n k i swa,λ_=>⟨P,Q,h,l,m,n,k,i,swa,A,D,A,U,W,X,Y,Z,a0,λj a a9=>?_⟩⟩;have:=q1 j a (by rw[XR];exact a9);rw[Aq,Aq]at this;exact this
  exact⟨#[],λg=>absurd g p⟩
 obtain⟨x,a5⟩:=Classical.axiomOfChoice row;exact⟨.tuple #[],C o,len,t,x,@rh.mk ⟨⟨q,wx⟩⟩ _ _ _ _ _ _ A (λb4=>.bU trivial) (by unfold maxLen at a4;omega) λf p=>a5 f p⟩
end Go.Sv
namespace Go.Proofs.YtfgpkeppjomkmaaGreatDoor
open Go.ChangeShapes Go.WideShapes Go.ChangeAt Go.RowKit Go.Conc
theorem Tryz.own:ownKnob Tryz.prog.godebug=I:=by kernel_rfl
theorem Tryz.laidOut:laidOutB Tryz.prog=J:=by kernel_rfl
theorem wW(g:Os)(e1:g.Started)(O:Type)(d:VJ×Vx->O):
 ReturnsInLeavingWide Rows.risingRow.assume Tryz.checked g 3 .any (Rows.risingRow.pre d Tryz.prog Tryz.f3 (OpenSpec.ofChange Rows.risingSpec)) (Rows.risingSpec.post d Tryz.prog Tryz.f3 Rows.risingRow.apart Rows.risingRow.fresh Rows.risingRow.handsOn Rows.risingRow.again):=by
 refine returnsInLeavingWide_of_good (C:=Tryz.checked) Tryz.own e1 ?_ ?_
 .exact ChangeSpec.witness_shaped (enc:=d) (C:=Tryz.checked) (os:=g) (fn:=Tryz.f3) (s:=Rows.risingSpec) (conds:=[]) (apart:=Vz) (X:=λb _=>laidMetH Tryz.prog Rows.risingRow.laid b) Vz (K.laidAll Tryz.prog g Rows.risingRow.laid) #[Vy M 0,VG I 0 0] 8 (K.laidAll_os _ _ _)
   (K.shaped_of_ZipB (by kernel_rfl) (by kernel_rfl)) (by kernel_rfl) (by kernel_rfl) (by kernel_rfl)
   (by rw[h_ _ _ _ (by kernel_rfl)];exact laidMet_laidAll _ (by kernel_rfl) (by kernel_rfl))
 intro b tape c f8 c0 f9 b3 b7 f7;obtain⟨_,_,_,T,a8,_,_,_,_,c9⟩:=b3;obtain rfl:T=Tryz.f3:=Xa (a8.symm.trans Tryz.func3);obtain⟨⟨⟨S,f3,e6,d1,f6⟩,n⟩,g0⟩:=b7;have i:=DataW.Whole.of_heap (w':=b.forCall tape c) (by rfl) d1;have l:laidMetH Tryz.prog Rows.risingRow.laid (b.forCall tape c):=laidMetH.of_heap (by rfl) n;have y:(b.forCall tape c).ShapedOpen Tryz.prog:=c0;have e:∀(j:E) D q,Tryz.f3.params[j]?=C D->c.args[j]?=C q->Vx.okWide Tryz.prog (b.forCall tape c) .any b.heap.size D q:=c9;generalize f5:b.forCall tape c=a at i l y e⊢
 generalize c.args=R at i e⊢
 have w:=i;obtain⟨d5,g2,a0,a2,rfl,_,_⟩:=i;have v:DataW.TrodAll d Tryz.prog a 0 (λ_=>J) J Tryz.f3.params.toList R.toList S d5:=a0;rw[Tryz.params3]at v e;obtain⟨e2,H,f0,f1,g1,z,rfl,rfl,rfl,t,u⟩:=trodAll_two v;obtain⟨rfl,rfl⟩:=trodVars_none a2;obtain⟨nums,d2,b2⟩:=Go.Sv.OT y;have a1:Go.Sv.yB a:=by
  rw[h_ _ _ _ (by kernel_rfl)]at l;obtain⟨W,p,s,U,d6,a9,c7,d0,hd⟩:=Go.Lib.laidMet.reads l (n:= "internal/strconv.uint64pow10") (d:=Rows.laid_internal_strconv_uint64pow10) (.tail _ (.tail _ (.head _)));obtain rfl:W=4:=(Xa (Go.Sv.py.symm.trans a9)).symm;obtain rfl:p=386:=by
   have Z:(Tryz.prog.globals[4]?).map (·.type)=C 386:=by kernel_rfl
   exact(Xa (Z.symm.trans c7)).symm
  obtain⟨h,f,c8,a7,a3,a5⟩:∃h f,Tryz.prog.underlying 386=C (.array f h)/\Tryz.prog.underlying h=C (.int .u64)/\Tryz.prog.cellsOf h=1/\Tryz.prog.cellsOf 386=f:=⟨_,_,A,A,by kernel_rfl,A⟩;have a6:DataW.trod (λ_=>()) Tryz.prog a 0 (λ_=>J) Vz U 386 s.toList=C (Go.Lib.tabData .u64 Go.Lib.pow10Tab,d6):=hd;have a4:=Go.Lib.cells_of_tab c8 a7 a3 a5 a6;show Go.Lib.TabIs _ _ _ _ _;unfold Go.Lib.TabIs;rw[show a.var? Go.Sim.TP "internal/strconv.uint64pow10"=C s from d0,<-a4]
 obtain⟨g4,e3,f,e7,f2,P⟩:=Go.Sv.IB (e 1 _ H A rfl) u;have f4:=t;have Y:=u;obtain⟨o,rfl,rfl,rfl,L⟩:=open_int Tryz.underlying3 (e 0 _ e2 A rfl) t;have b9:-2^63<=o/\o<2^63:=by simp[Lit.wf,IntKind.min,IntKind.max,IntKind.signed,IntKind.bits]at L;omega
 obtain⟨Q,last,d4,k,p,d7,d8,d9,e0⟩:=Go.Sv.EU nums a1 b2 d2 b9 P;refine⟨Q,last,d4,k,p,d7,d8,d9,e0.mono λq m=>?_⟩;obtain⟨rfl,b4,c6,b5,b6⟩:=m;have x:Below a.heap.size a {k with tape:=a.tape}:=⟨b5,A,b6,c6,λd3 b0=>b4 d3 b0⟩;have b1:∀r∈z,r.block<a.heap.size:=λr n=>w.lt r (by simp[n])
 have m:Rows.risingSpec.post d Tryz.prog Tryz.f3 Rows.risingRow.apart Rows.risingRow.fresh Rows.risingRow.handsOn Rows.risingRow.again a #[Vy M o,H] (.bool J) {k with tape:=a.tape}:=
  ⟨_,_,_,[],[]++z,[],w,trodAll_mk1 (shut_bool Tryz.underlying4 _),trodAll_mk2 (shut_int Tryz.underlying3 L) (Below.trod Tryz.laidOut (by kernel_rfl) (m_ (by kernel_rfl)) Y x b1),A,x.frame _,λX=>by cases X⟩
 have b8:=ChangeSpec.post_blind m;exact b8
theorem zQ:Rows.RisingSaid:=
 OpenClaim.holds_of_wide_leaving 3 Tryz.f3 A rfl rfl rfl rfl rfl rfl ⟨A,A,A,A,A⟩ A rfl rfl rfl rfl qI Tryz.func3 wV BX BZ
  (λc d a b _=>wW c d a b)
theorem wX:Rows.risingRow.wfByText (OpenSpec.ofChange Rows.risingSpec)=J:=by kernel_rfl
theorem BY:Tryz.pinned.checked.prog.mainIs=C (J,"4ca961c1605857c738903d8913d06c658404b6c38c60f97ea9f6d2ec8fdb8f47".toList):=by kernel_rfl
theorem zR:J=Tryz.pinned.checked.prog.looks []:=by kernel_rfl
theorem BW:J=Rows.risingRow.goesBy Tryz.pinned.checked.prog:=by kernel_rfl
theorem zS:([3,22].all λa=>!Tryz.prog.wantsStandIn a)=J:=by kernel_rfl
theorem risingCard:Rows.RisingCardSaid:=by
 have h:∀b fn,Tryz.pinned.checked.prog.funcNamed Rows.risingRow.func=C b->Tryz.pinned.checked.prog.funcs[b]?=C fn->J=Tryz.pinned.checked.prog.looks []/\∀(j:E) a,fn.params[j]?=C a->Tryz.pinned.checked.prog.wantsStandIn a=Vz:=λb fn f g=>by
  obtain rfl:=(Xa (qI.symm.trans f)).symm;obtain rfl:=(Xa (Tryz.func3.symm.trans g)).symm
  exact⟨zR,λj a i=>by
   rw[Tryz.params3]at i
   exact(show Tryz.prog.wantsStandIn a=Vz by grind [zS])⟩
 have d:Claim7.isSixth {stood:={row:=Rows.risingRow,standIns:=[],harness:=(J,"4ca961c1605857c738903d8913d06c658404b6c38c60f97ea9f6d2ec8fdb8f47"),looks:=J},kinds:=[]}=Vz:=A;exact⟨Claim7.tied_new_at .later [.data,.data,.data,.data,.pinned] J (Claim7.new_of_sixth zQ (J,"4ca961c1605857c738903d8913d06c658404b6c38c60f97ea9f6d2ec8fdb8f47") J rfl ⟨A,A⟩ BY d h) wX,(λk e=>by cases e),rising_row_tie,(λc=>by cases c),BW⟩
end Go.Proofs.YtfgpkeppjomkmaaGreatDoor
