/- Proved here: parts of the proof of the claimed theorem, no conditions; the last text states it -/
import Derived.Test.YtfgpkeppjomkmaaGreatDoorR5
set_option linter.all false
set_option maxRecDepth 100000
set_option maxHeartbeats 16000000
open _root_ renaming rfl->A,Nat->E,List->Xg,Int->Xj,Array->Xk,Bool->Xo,Option->Xp,if_neg->Xx,ByteArray->XB,if_pos->XC
open Option renaming some->C,none->F
open Go renaming undef->I,World->M,Value->Xe,TypeId->Xq,Frame->Xr,Goroutine->Xt,Act->Xu,Addr->Xw,Program->Xy,Sem->Xz,Trace->XD,Event->XF,Code->XG,MapEntry->XH,FuncId->XI,Operand->XJ
open Bool renaming true->J,false->Xf
open Go.Lib renaming hid->Xl
open Go.MemOp renaming ofEvents->XE
open Go.Op renaming operands->XK
open Go.MemAct renaming ofEvent->XM
open Go.IntKind renaming i64->K
open Go.Value renaming int->Xd,slice->Xm,pointer->XA
open Or renaming inl->Xh,inr->Xi
open Go.Obj renaming cells->Xn
open Go.Ending renaming returned->Xs
open Go.Item renaming inRegion->Xv
namespace Go.Sv
open Go.MapKept Go.Proofs Go.RowKit Go.Lib Go.WideShapes Go.Sort Go.Sim Wt
variable{w:M}{h:E}{l:E}{w':M}{g:E}{d:E}{S:Xk XH}{v:Xe}
abbrev fI(w:M)(a:Xo)(b:XB):M:=w.alloc (.cells #[.bool a,.string b] 253)
abbrev La(B e b:E)(c:Xo)(d:XB)(a:M):Prop:=a.cell? ⟨e,0,F⟩=C (.map (C b))/\a.cell? ⟨B,0,F⟩=C (.bool c)/\a.cell? ⟨B,1,F⟩=C (.string d)
theorem LD{e b:E}{o:Xp Xw}{ak:Xj}{a:Xo}{c:XB}{O:Xj}{x:M->Prop}(U:w.cell? ⟨e,0,F⟩=C (.map (C b)))(a3:e<w.heap.size)
 (X:∀m,(Instr.lookup 196 (.map (C b)) (.agg #[.bool a,.string c]) Xf).run TP ((fI w a c).drewN m)=.ok (.slice o h l) ((fI w a c).drewN m))
 (L:∀m,Calls TP 134 #[.slice o h l,Xd K ak] ((fI w a c).drewN m) λk w'=>k=Xs (.tuple #[Xd K O,.bool Xf])/\∃Y,w'=(fI w a c).drewN Y)
 (N:∀m,Calls TP 135 #[.slice o h l,Xd K O,Xm (C ⟨w.heap.size+1,0,F⟩) 1 1] (((fI w a c).drewN m).alloc (.cells #[Xd K ak] 3)) λk w'=>∃p t q,k=Xs (.slice p t q)/\La w.heap.size e b a c w'/\∃u,(Instr.mapUpdate 196 (.map (C b)) (.agg #[.bool a,.string c]) (.slice p t q)).run TP w'=.ok () u/\La w.heap.size e b a c u/\x u):
 Calls TP 105 #[pt e 0,Xd K ak,.bool a,.string c] w λk w'=>k=Xs (.tuple #[])/\x w':=by
 have z:(fI w a c).cell? ⟨e,0,F⟩=C (.map (C b)):=by simp_all [Yx]
 have Q:=Xl L;have R:=Xl N;clear L N U;go_enter Tryz.func105,Tryz.ntmps105
 go_wp2
 go_quiet (fail)
 go_wp2_with (go_at_call 134;refine(Q.out nq).mono ?_;rintro k a5⟨rfl,i,rfl⟩)
 have r:((fI w a c).drewN (i+1)).heap[w.heap.size]?=C (Xn #[.bool a,.string c] 253 (0,0)):=Yn w _;have s:(((fI w a c).drewN (i+1)).alloc (.cells #[Xd K ak] 3)).heap[w.heap.size]?=C (Xn #[.bool a,.string c] 253 (0,0)):=by simp_all [XQ]
 have D:((fI w a c).drewN (i+1)).cell? ⟨e,0,F⟩=C (.map (C b)):=z;have H:(((fI w a c).drewN (i+1)).alloc (.cells #[Xd K ak] 3)).cell? ⟨e,0,F⟩=C (.map (C b)):=by grind [World.cell?_alloc_lt]
 have y:La w.heap.size e b a c ((fI w a c).drewN (i+1)):=⟨D,aa r 0 A,aa r 1 A⟩;have Z:La w.heap.size e b a c (((fI w a c).drewN (i+1)).alloc (.cells #[Xd K ak] 3)):=⟨H,aa s 0 A,aa s 1 A⟩;have T:La w.heap.size e b a c (((fI w a c).drewN i).drew):=y;have W:=Xl (R.out (i+1));clear z D H r s X
 go_region_held3 (λn=>n.cell? ⟨e,0,F⟩=C (.map (C b))/\n.cell? ⟨w.heap.size,0,F⟩=C (.bool a)/\n.cell? ⟨w.heap.size,1,F⟩=C (.string c))
  (first|with_reducible exact y|with_reducible exact T|omega|omega|omega)
  (first|(go_at_call 135;refine W.out.mono ?_;rintro k a6⟨p,t,q,rfl,a0,a7,a4,a1,a2⟩))
 go_end0
 simp_all
theorem LF{e b:E}{i:Xp Xw}{ak:Xj}{a:Xo}{c:XB}{n:Xj}(p:w.cell? ⟨e,0,F⟩=C (.map (C b)))(r:e<w.heap.size)
 (q:∀d,(Instr.lookup 196 (.map (C b)) (.agg #[.bool a,.string c]) Xf).run TP ((fI w a c).drewN d)=.ok (.slice i h l) ((fI w a c).drewN d))
 (m:∀d,Calls TP 134 #[.slice i h l,Xd K ak] ((fI w a c).drewN d) λf w'=>f=Xs (.tuple #[Xd K n,.bool J])/\∃o,w'=(fI w a c).drewN o):
 Calls TP 105 #[pt e 0,Xd K ak,.bool a,.string c] w λf w'=>f=Xs (.tuple #[])/\∃d,w'=(fI w a c).drewN d:=by
 have k:=Xl m;go_enter Tryz.func105,Tryz.ntmps105
 go_wp2
 go_quiet (fail)
 go_wp2_with (go_at_call 134;refine(k.out nq).mono ?_;rintro f t⟨rfl,s,rfl⟩)
 go_end0
 grind
abbrev mz:Xe:=Xm F 0 0
structure dK(cd:Xo->B->Xg Xj)(e b:E)(f:Xe->Xp Xe)(w:M):Prop where
 tb:w.heap[e]?=C (Xn #[.map (C b)] 198 (0,0))
 mp:∃S i,w.heap[b]?=C (.map S i)/\Mp yd S i f
 row:∀a c,rR w ((f (spot a c)).getD mz) (cd a c)
 inj:∀a c k m g,rowOf ((f (spot a c)).getD mz)=C g->rowOf ((f (spot k m)).getD mz)=C g->a=k/\c=m
 xU:∀a c,rK (cd a c)
 nums:∀a c,∀n∈cd a c,0<n/\n<2^28
def eF(e b:E)(f:Xe->Xp Xe)(d:E):Prop:=d=e\/d=b\/∃a c,rowOf ((f (spot a c)).getD mz)=C d
theorem rr:∀{b:Xg Xj}{c:Xj},rK b->(∀d∈b,c<d)->∀a,(∀d∈b,d<a)->c<a->(b.length:Xj)<a-c
 |[],c,_,_,a,_,e=>by simp;omega
 |h::b,c,e,i,a,f,n=>by
  obtain⟨l,m⟩:=YJ.1 e;have:=rr m l a (λd k=>f d (by simp[k])) (f h (by simp));have:=i h (by simp)
  grind
theorem sJ{c:Xg Xj}(e:rK c)(d:∀a∈c,0<a/\a<2^28):c.length<2^28:=by have:=rr e (λa b=>(d a b).1) (2^28) (λa b=>(d a b).2) (by decide);omega
section
variable{cd:Xo->B->Xg Xj}{e b:E}{f:Xe->Xp Xe}
theorem dK.ne(a:dK cd e b f w):e≠b:=λd=>by obtain⟨S,h,c,_⟩:=a.mp;rw[<-d,a.tb]at c;cases c
theorem dK.AJ(h:dK cd e b f w){l:Xo}{m:B}(c:rowOf ((f (spot l m)).getD mz)=C g):∃i,w.heap[g]?=C (Xn i 3 (0,0))/\g≠e/\g≠b:=by
 rcases h.row l m with⟨_,d,a⟩|⟨q,o,i,a,k,n,_⟩
 .rw[a]at c;cases d<;>cases c
 rw[a,iF n]at c;cases c;refine⟨i,k,λa=>?_,λa=>?_⟩
 .rw[a,h.tb]at k;cases k
 obtain⟨S,p,r,_⟩:=h.mp;simp_all
theorem dK.lt(c:dK cd e b f w)(a:eF e b f d):d<w.heap.size:=by
 rcases a with rfl|rfl|⟨h,i,a⟩
 .exact(XN.1 c.tb).1
 .obtain⟨S,k,a,_⟩:=c.mp;exact(XN.1 a).1
 exact(c.row h i).lt a
theorem dK.stay(a:dK cd e b f w)(c:∀d,eF e b f d->w'.heap[d]?=w.heap[d]?):dK cd e b f w' where
 tb:=by rw[c e (.inl A)];exact a.tb
 mp:=by rw[c b (.inr (.inl A))];exact a.mp
 row:=λi k=>(a.row i k).stay λg m=>c g (Xi (Xi ⟨i,k,m⟩))
 inj:=a.inj
 xU:=a.xU
 nums:=a.nums
theorem dK.get(n:dK cd e b f w)(o:w'.heap[b]?=w.heap[b]?)(k:Xo)(a:B):(Instr.lookup 196 (.map (C b)) (spot k a) Xf).run TP w'=.ok ((f (spot k a)).getD mz) w':=by obtain⟨S,p,c,m⟩:=n.mp;rw[<-o]at c;exact m.get sw Gz (TC w') c (Oq k a) Xf
open Classical in
noncomputable def qZ(f:Xe->Xp Xe)(b:Xo)(c:B)(v:Xp Xe):Xe->Xp Xe:=λa=>if a=spot b c then v else f a
theorem jr{a:Xo}{b:B}{v:Xp Xe}:qZ f a b v (spot a b)=v:=XC A
theorem pM{b:Xo}{c:B}{v:Xp Xe}{a:Xe}(d:a≠spot b c):qZ f b c v a=f a:=Xx d
theorem jq{c a:Xo}{d b:B}{v:Xp Xe}(h:¬(a=c/\b=d)):qZ f c d v (spot a b)=f (spot a b):=pM λe=>h (Ot e)
def eW(cd:Xo->B->Xg Xj)(c:Xo)(e:B)(d:Xg Xj):Xo->B->Xg Xj:=λa b=>if a=c/\b=e then d else cd a b
theorem dK.put(c:dK cd e b f w){k:Xo}{a:B}{v:Xp Xe}{z:Xg Xj}{D:E}
 (U:w'.heap[e]?=C (Xn #[.map (C b)] 198 (0,0)))(Q:w'.heap[b]?=C (.map S D))(L:Mp yd S D (qZ f k a v))(X:rR w' (v.getD mz) z)
 (O:∀d,d<w.heap.size->d≠b->rowOf ((f (spot k a)).getD mz)≠C d->eF e b f d->w'.heap[d]?=w.heap[d]?)
 (R:∀g,rowOf (v.getD mz)=C g->rowOf ((f (spot k a)).getD mz)=C g\/w.heap.size<=g)(T:rK z)(W:∀H∈z,0<H/\H<2^28):dK (eW cd k a z) e b (qZ f k a v) w' where
 tb:=U
 mp:=⟨S,D,Q,L⟩
 row:=λi m=>by
  unfold eW;by_cases n:i=k/\m=a
  .simp_all [jr]
  rw[Xx n,jq n];refine(c.row i m).stay λg y=>O g ((c.row i m).lt y) ?_ (λN=>n (c.inj _ _ _ _ g y N)) (Xi (Xi ⟨i,m,y⟩));exact(c.AJ y).choose_spec.2.2
 inj:=λt q1 q r g s p=>by
  have Z:∀t q1 q r,(t=k/\q1=a)->¬(q=k/\r=a)->rowOf ((qZ f k a v (spot t q1)).getD mz)=C g->rowOf ((qZ f k a v (spot q r)).getD mz)=C g->False:=λt q1 q r u x s p=>by
   rw[u.1,u.2,jr]at s;rw[jq x]at p;rcases R g s with n|n
   .exact x (c.inj _ _ _ _ g p n)
   have:=(c.row q r).lt p;omega
  by_cases u:t=k/\q1=a
  .grind
  by_cases x:q=k/\r=a
  .grind
  rw[jq u]at s;rw[jq x]at p;exact c.inj _ _ _ _ g s p
 xU:=λi m=>by
  unfold eW;split
  .exact T
  exact c.xU i m
 nums:=λi m=>by
  unfold eW;split
  .exact W
  exact c.nums i m
theorem NN{c:Xo}{i:B}{v:Xp Xe}(n:∀g,rowOf (v.getD mz)=C g->rowOf ((f (spot c i)).getD mz)=C g\/h<=g)(a:eF e b (qZ f c i v) d):eF e b f d\/h<=d:=by
 rcases a with rfl|rfl|⟨l,m,a⟩
 .exact Xh (Xh A)
 .exact Xh (Xi (Xh A))
 by_cases k:l=c/\m=i
 .rw[k.1,k.2,jr]at a;rcases n d a with a|a
  .exact Xh (Xi (Xi ⟨c,i,a⟩))
  omega
 rw[jq k]at a;exact Xh (Xi (Xi ⟨l,m,a⟩))
theorem JX(w:M)(a:Obj)(h:E):∀d,d<w.heap.size->((w.alloc a).drewN h).heap[d]?=w.heap[d]?:=λd b=>XQ w a d b
theorem Og{a:Xg Xj}(e:rR w v a)(m:rK a)(x:a.length<2^40)(b:Xj):Calls TP 134 #[v,Xd K b] w λc w'=>c=Xs (.tuple #[Xd K ((a.countP (·<b):E):Xj),.bool (a.contains b)])/\∃o,w'=w.drewN o:=by
 rcases e with⟨rfl,d,rfl⟩|⟨g,i,k,rfl,f,h,p,q,r,l,s⟩
 .refine(Tryz.slices_BinarySearch_int_empty d 0 b w).mono λc w'⟨f,h⟩=>⟨f,0,h⟩
 have t:=Tryz.slices_BinarySearch_int g 0 a.length i a b w (XS _) (by omega) (λj u=>?_) (by rw[N_];exact m.imp λe=>Xj.le_of_lt e)
 .simp_all
 have:k.toList[j]?=C (i64 (a.getD j 0)):=by
  have c:=YU (λn=>n[j]?) l
  grind
 simp_all [M.cell?]
theorem RM(k:dK cd e b f w){ak:Xj}(c7:0<ak/\ak<2^28)(a:Xo)(c:B):
 Calls TP 105 #[pt e 0,Xd K ak,.bool a,.string (bs c)] w λm w'=>m=Xs (.tuple #[])/\∃y,dK (eW cd a c (dF ak (cd a c))) e b y w'/\aH (eF e b f) (eF e b y) w w':=by
 have q:=k.row a c;have H:=k.xU a c;have a9:(cd a c).length<2^40:=E.lt_trans (sJ H (k.nums a c)) (by decide);have Z:=k.lt (Xh A);have c8:=k.lt (Xi (Xh A));have a2:w.cell? ⟨e,0,F⟩=C (.map (C b)):=aa k.tb 0 A;obtain⟨v,O⟩:∃v,v=(f (spot a c)).getD mz:=by simp
 rw[<-O]at q;obtain⟨p,h,l,rfl⟩:∃p h l,v=.slice p h l:=by
  rcases q with⟨_,d,rfl⟩|⟨g,b8,c0,rfl,_⟩
  .simp
  simp
 have D:∀i,∀d,d<w.heap.size->((fI w a (bs c)).drewN i).heap[d]?=w.heap[d]?:=by grind [JX]
 have a7:∀i,(Instr.lookup 196 (.map (C b)) (.agg #[.bool a,.string (bs c)]) Xf).run TP ((fI w a (bs c)).drewN i)=.ok (.slice p h l) ((fI w a (bs c)).drewN i):=λi=>by rw[O];exact k.get (D i b c8) a c
 have d1:=λi=>q.stay λg n=>D i g (q.lt n);have L:=λi=>Og (d1 i) H a9 ak;by_cases r:ak∈cd a c
 .have T:(cd a c).contains ak=J:=by simp_all
  rw[T]at L;refine(LF a2 Z a7 λi=>(L i).mono λm w'⟨z,a0,a5⟩=>⟨z,i+a0,by simp_all⟩).mono λm w'⟨U,i,b2⟩=>⟨U,f,?_,?_⟩
  .have W:eW cd a c (dF ak (cd a c))=cd:=by
    grind [eW,Cd]
   rw[W,b2];exact k.stay λd o=>D i d (k.lt o)
  rw[b2];exact⟨by simp,λd o _=>D i d o,λd c6=>Xh c6⟩
 have T:(cd a c).contains ak=Xf:=by simp_all
 rw[T]at L;refine(LD (x:=λw'=>∃y,dK (eW cd a c (dF ak (cd a c))) e b y w'/\aH (eF e b f) (eF e b y) w w') a2 Z a7 (λi=>(L i).mono λm w'⟨z,a0,a5⟩=>⟨z,i+a0,by simp_all⟩) λi=>?_);obtain⟨s,b3⟩:∃s,s=((fI w a (bs c)).drewN i).alloc (.cells #[Xd K ak] 3):=by simp
 have e1:((fI w a (bs c)).drewN i).heap.size=w.heap.size+1:=by simp
 have Y:∀d,d<w.heap.size->s.heap[d]?=w.heap[d]?:=by grind [Below.heap_alloc]
 have d9:s.heap[w.heap.size]?=C (Xn #[.bool a,.string (bs c)] 253 (0,0)):=by rw[b3,XQ _ _ _ (by omega)];exact Yn w _
 have d5:s.heap[w.heap.size+1]?=C (Xn #[Xd K ak] 3 (0,0)):=by have:=Yn ((fI w a (bs c)).drewN i) (.cells #[Xd K ak] 3);simp_all
 have e2:s.heap.size=w.heap.size+2:=by simp_all
 rw[<-b3]
 have d2:∀g,rowOf (.slice p h l)=C g->g<w.heap.size/\g≠e/\g≠b:=λg n=>by refine⟨q.lt n,?_⟩;rw[O]at n;exact(k.AJ n).choose_spec.2
 have W:=Uq (a:=s) (d:=.slice p h l) (e:=cd a c) (g:=ak) (q.stay λg n=>Y g (q.lt n)) H r a9 d5 (λm=>by grind);refine W.mono λm a1⟨d7,U,b4,e4,b5,e5⟩=>?_;obtain⟨t,x,u,rfl⟩:∃p h l,d7=.slice p h l:=by
  rcases b4 with⟨_,d,rfl⟩|⟨g,b8,c0,rfl,_⟩
  .simp
  simp
 have b0:a1.heap[e]?=C (Xn #[.map (C b)] 198 (0,0)):=by rw[b5 e (by omega) (λm=>(d2 _ m).2.1 A),Y e Z];exact k.tb
 have R:a1.heap[w.heap.size]?=C (Xn #[.bool a,.string (bs c)] 253 (0,0)):=by grind
 obtain⟨S,b9,e0,b6⟩:=k.mp
 have X:a1.heap[b]?=C (.map S b9):=by grind
 obtain⟨a4,a3,d4,b7⟩:=b6.put sw Gz X (Oq a c) (.slice t x u) (g:=qZ f a c (C (.slice t x u))) jr (λQ r=>pM r);have N:=λd(o:d≠b)=>(abf (o':=.map a4 a3) X).2 d o;have d3:=(abf (o':=.map a4 a3) X).1;have c9:=k.ne;have b1:=(N e c9).trans b0;have a6:=(N _ (by omega)).trans R;have d0:∀g,rowOf (.slice t x u)=C g->g≠b:=by grind
 refine⟨t,x,u,U,⟨aa b0 0 A,aa R 0 A,aa R 1 A⟩,_,d4,⟨aa b1 0 A,aa a6 0 A,aa a6 1 A⟩,qZ f a c (C (.slice t x u)),?_,?_⟩
 .refine k.put (v:=C (.slice t x u)) b1 d3 b7 (b4.stay λg n=>N g (d0 g n)) (λd o z a5 _=>?_) (λg n=>?_) (rn ak H) (λQ r=>?_)
  .grind
  .grind
  rcases(mT ak Q).1 r with rfl|r
  .exact c7
  exact k.nums a c Q r
 refine⟨?_,λd o a8=>?_,λd o=>?_⟩
 .grind
 .rw[N d (λm=>a8 (.inr (.inl m))),b5 d (by omega) (λm=>?_),Y d o];rw[O]at m;exact a8 (Xi (Xi ⟨a,c,m⟩))
 grind [NN]
end
variable{D:Xk Oper}{a:M}{b:M}{N:Exit->Xu->M->Prop}{c:Xe}
abbrev OT(b:Xe):Prop:=∃a,b=i64 a
theorem VO:∃a c,TP.underlying 61=C (.slice 3)/\(TP.info? 3=C a/\a.zero=C c/\a.size=1/\a.bytes<=1000/\c.cells.size=1/\0<1)/\∀b∈c.cells.toList,OT b:=by
 refine⟨_,_,A,⟨A,A,A,by decide,A,by decide⟩,?_⟩;intro b d;have:b∈[i64 0]:=d
 grind
theorem wpList_append_run{g:Xg Oper}{d:Oper}{e:Xu}{i k:Xe}(n:d.guard=F)(h l:XJ)(f:Xq)
 (o:d.op=.call {callee:=.builtin .append,args:=#[h,l],argTypes:=#[f,f]})(q:e.eval h=c)(r:e.eval l=i)(p:(Builtin.append_ #[f,f] d.type #[c,i]).run TP a=.ok k b)
 (next:wpList TP D N g (e.put d.dst k) b):wpList TP D N (d::g) e a:=by
 refine wpList_plain n λs m=>?_;unfold Oper.wp execOp;simp only[o,resolve,invoke,builtin,Zp,aaN,q_,Zb,YG,Zl,q,r,p];exact m _ _ next
theorem AL{g:Xe}{f e:Xg Xj}(l:cr OT a 3 1 g f.length (f.map i64))(x:rR a c e)(O:f.length+e.length<2^30)(n:Xq):
 ∃i b,(Builtin.append_ #[61,61] n #[g,c]).run TP a=.ok i b/\cr OT b 3 1 i (f.length+e.length) ((f++e).map i64)/\a.grownBy b g.ownBlock/\kU a g i:=by
 obtain⟨a0,a5,q,d,Q⟩:=VO;rcases x with⟨rfl,t,rfl⟩|⟨h,o,w,rfl,R,S,T,U,W,X,Y⟩
 .refine⟨g,a,?_,by simp_all,⟨A,A,A,XS _,λ_ _ _=>rfl⟩,λh y=>Xh y⟩;obtain⟨u,m,v,rfl⟩:=l.slice;have H:m<=v:=by
   rcases l.2 with⟨p,_⟩|⟨h,o,w,p,_,Z,_⟩
   .cases p;exact XS _
   simp_all
  have z:∀s:Xw,(loadCellsFrom s 0 0 #[]).run TP a=.ok #[] a:=λs=>rfl;cases t<;>cases u<;>simp[Builtin.append_,YL q,sizeOf,typeInfo,d.1,storeCells,Builtin.lenOf,H,Result.andThen,Builtin.mayShare,Builtin.firstCells,loadCells,z]
 have L:∀j k,(e.map i64)[j]?=C k->a.cell? ((⟨h,0,F⟩:Xw).add j)=C k:=by grind [qe,World.cell?]
 obtain⟨i,b,a1,a2,a3,a4⟩:=lW (y:=n) l q d.1 d.2.1 d.2.2.1 d.2.2.2.1 d.2.2.2.2.1 d.2.2.2.2.2 Q ⟨h,0,F⟩ e.length o (e.map i64) (by simp) L (λk r=>⟨vM k r,by obtain⟨m,_,rfl⟩:=YB.1 r;exact⟨m,A⟩⟩) O
 grind
theorem Js{t d l i o:E}{f:Xo}{g:XB}{L:Xe}{k:Xp Xw}{n m:E}{h:M}{O:M->Prop}
 (S:a.heap[t]?=C (Xn #[.string g] 9 (0,0)))(R:a.heap[d]?=C (Xn #[L] 61 (0,0)))(T:a.heap[l]?=C (Xn #[pt i 0] 95 (0,0)))(U:a.heap[i]?=C (Xn #[.map (C o)] 198 (0,0)))
 (q:(Instr.lookup 196 (.map (C o)) (.agg #[.bool f,.string g]) Xf).run TP (fI a f g).drew=.ok c (fI a f g).drew)
 (p:(Builtin.append_ #[61,61] 61 #[L,c]).run TP (fI a f g).drew=.ok (.slice k n m) h)
 (D:h.heap[d]?=C (Xn #[L] 61 (0,0)))(W:h.heap[l]?=C (Xn #[pt i 0] 95 (0,0)))(X:h.heap[i]?=C (Xn #[.map (C o)] 198 (0,0)))(H:h.heap[a.heap.size]?=C (Xn #[.bool f,.string g] 253 (0,0)))
 (b2:l≠d)(b3:i≠d)(Y:a.heap.size≠d)
 (hd:∃N,(Builtin.delete_ #[196,253] 0 #[.map (C o),.agg #[.bool f,.string g]]).run TP (h.setCell ⟨d,0,F⟩ (.slice k n m)).drew=.ok (.tuple #[]) N/\O N):
 Calls TP 180 #[.bool f,pt t 0,pt d 0,pt l 0] a λa2 b=>a2=Xs (.tuple #[])/\O b:=by
 obtain⟨N,a8,Q⟩:=hd;have b0:t<a.heap.size/\d<a.heap.size/\l<a.heap.size/\i<a.heap.size:=by grind
 obtain⟨c0,b5,b6,b7⟩:=b0;have c1:=aa S 0 A;have r:∀s,s<a.heap.size->(fI a f g).heap[s]?=a.heap[s]?:=by simp_all [XQ]
 have u:=aa ((r d b5).trans R) 0 A;have v:=aa ((r l b6).trans T) 0 A;have w:=aa ((r i b7).trans U) 0 A;have z:(fI a f g).heap[a.heap.size]?=C (Xn #[.bool f,.string g] 253 (0,0)):=Yn a _;have x:=aa z 0 A;have y:=aa z 1 A;have b9:=frozenAt D 0;have a3:(h.setCell ⟨d,0,F⟩ (.slice k n m)).cell? ⟨l,0,F⟩=C (pt i 0):=aa ((ai b2).trans W) 0 A;have a4:(h.setCell ⟨d,0,F⟩ (.slice k n m)).cell? ⟨i,0,F⟩=C (.map (C o)):=aa ((ai b3).trans X) 0 A;have a5:(h.setCell ⟨d,0,F⟩ (.slice k n m)).cell? ⟨a.heap.size,0,F⟩=C (.bool f):=aa ((ai Y).trans H) 0 A;have a6:(h.setCell ⟨d,0,F⟩ (.slice k n m)).cell? ⟨a.heap.size,1,F⟩=C (.string g):=aa ((ai Y).trans H) 1 A;have b8:=aa D 0 A;have a0:=Xl Q;clear S R T U D W X H Q r z;obtain⟨Z,b1⟩:∃Z,h.setCell ⟨d,0,F⟩ (.slice k n m)=Z:=by simp
 rw[b1]at a3 a4 a5 a6 a8;obtain⟨e,a7⟩:∃e,a.alloc (Obj.cells #[Xe.bool f,Value.string g] 253)=e:=by simp
 unfold fI at u v w x y q p;rw[a7]at u v w x y q p;go_enter Tryz.func180,Tryz.ntmps180
 go_wp2
 have a9:(Instr.lookup 196 (.map (C o)) (.agg #[.bool f,.string g]) Xf).run TP {heap:=e.heap,tape:=e.tape,drawn:=e.drawn+1,os:=e.os,output:=e.output}=.ok c {heap:=e.heap,tape:=e.tape,drawn:=e.drawn+1,os:=e.os,output:=e.output}:=q
 go_still_tail 7,(by kernel_rfl)
 change wpList _ _ _ _ _ e.drew
 refine wpList_append_run A _ _ 61 A rfl rfl p ?_;clear q a9 p u v w x y
 go_wp2
 go_still_tail 5,(by kernel_rfl)
 go_wp2
 go_end0
 exact⟨A,a0.out⟩
structure oQ(cd:Xo->B->Xg Xj)(e i:E)(g:Xe->Xp Xe)(l k m:E)(n:B)(d:Xe)(f:Xg Xj)(a:M):Prop where
 tab:dK cd e i g a
 hp:a.heap[l]?=C (Xn #[.string (bs n)] 9 (0,0))
 hl:a.heap[k]?=C (Xn #[d] 61 (0,0))
 ht:a.heap[m]?=C (Xn #[pt e 0] 95 (0,0))
 row:cr OT a 3 1 d f.length (f.map i64)
 free:∀h,d.ownBlock=C h->¬eF e i g h
def IN(cd:Xo->B->Xg Xj)(f d:E)(q:Xe->Xp Xe)(n g o:E)(e:B)(k:Xe)(m:Xg Xj)(i:Xo)(a:M)(p:Ending)(b:M):Prop:=p=Xs (.tuple #[])/\∃l h,oQ (eW cd i e []) f d h n g o e l (m++cd i e) b/\a.heap.size<=b.heap.size/\kU a k l/\(∀c,eF f d h c->eF f d q c)/\∀c,c<a.heap.size->c≠g->c≠d->k.ownBlock≠C c->b.heap[c]?=a.heap[c]?
theorem Pv{cd:Xo->B->Xg Xj}{D o:E}{p:Xe->Xp Xe}{w k t:E}{m:B}{y:Xe}{W:Xg Xj}(g:oQ cd D o p w k t m y W a)(e8:W.length<2^29)(l:Xo):
 Calls TP 180 #[.bool l,pt w 0,pt k 0,pt t 0] a (IN cd D o p w k t m y W l a):=by
 have n:=g.tab;have d9:=n.xU l m;have f0:=sJ d9 (n.nums l m);obtain⟨c,b4⟩:∃c,c=(p (spot l m)).getD mz:=by simp
 have b3:=n.lt (Xh A);have b1:=n.lt (Xi (Xh A));have d3:=(XN.1 g.hl).1;have a7:=(XN.1 g.ht).1;have d4:=(XN.1 g.hp).1;obtain⟨u,Y⟩:∃u,u=(fI a l (bs m)).drew:=by simp
 have U:∀f,f<a.heap.size->u.heap[f]?=a.heap[f]?:=λf x=>by rw[Y];exact XQ a _ f x
 have e9:u.heap.size=a.heap.size+1:=by simp_all
 have d5:u.heap[a.heap.size]?=C (Xn #[.bool l,.string (bs m)] 253 (0,0)):=by rw[Y];exact Yn a _
 have a9:=n.get (w':=u) (U o b1) l m;rw[<-b4]at a9;have a1:=n.row l m;rw[<-b4]at a1;obtain⟨f2,H,f4,c8,a4,a5⟩:=AL (a:=u) (g.row.stay λe i=>U e (g.row.lt e i)) (a1.stay λe i=>U e (a1.lt i)) (by omega) 61;obtain⟨v,z,c1,rfl⟩:=c8.slice
 have Z:∀e,y.ownBlock=C e->∃X,a.heap[e]?=C (Xn X 3 (0,0)):=λe i=>by obtain⟨X,h,_⟩:=g.row.blk e i;simp_all
 have R:∀f,f<a.heap.size->y.ownBlock≠C f->H.heap[f]?=a.heap[f]?:=λf x d8=>by rw[a4.block f (by omega) (λd=>d8 d.symm),U f x]
 have b6:y.ownBlock≠C k:=λd=>by obtain⟨a6,h⟩:=Z _ d;rw[g.hl]at h;cases h
 have b7:y.ownBlock≠C t:=λd=>by obtain⟨a6,h⟩:=Z _ d;rw[g.ht]at h;cases h
 have e1:y.ownBlock≠C w:=λd=>by obtain⟨a6,h⟩:=Z _ d;rw[g.hp]at h;cases h
 have b9:=λd=>g.free _ d (Xh A);have b8:=λd=>g.free _ d (Xi (Xh A));have q1:t≠k:=λd=>by have:=g.ht;rw[d,g.hl]at this;cases this
 have c6:D≠k:=λd=>by have:=n.tb;rw[d,g.hl]at this;cases this
 have e2:w≠k:=λd=>by have:=g.hp;rw[d,g.hl]at this;cases this
 obtain⟨d1,L,a0,c9⟩:=n.mp;have c7:o≠k:=λd=>by rw[d,g.hl]at a0;cases a0
 have e3:t≠o:=λd=>by have:=g.ht;simp_all
 have e4:w≠o:=λd=>by have:=g.hp;simp_all
 have e5:=n.ne;have b5:=(R k d3 b6).trans g.hl;have T:(H.setCell ⟨k,0,F⟩ (.slice v z c1)).drew.heap[o]?=C (.map d1 L):=(ai c7).trans ((R o b1 b8).trans a0);obtain⟨O,d6,d0⟩:=c9.del sw Gz T (Oq l m) 0 (g:=qZ p l m F) jr (λe6 a3=>pM a3)
 have b0:∀e,(Value.slice v z c1).ownBlock=C e->e≠k/\e≠o:=λe i=>by
  rcases a5 e i with h|h
  .exact⟨λd=>b6 (d▸h),λd=>b8 (d▸h)⟩
  omega
 have a8:∀f,f≠k->f≠o->(xW (H.setCell ⟨k,0,F⟩ (.slice v z c1)).drew o (.map O L)).heap[f]?=H.heap[f]?:=λf N S=>by rw[(abf (o':=.map O L) T).2 f S];exact ai N
 have d7:=(abf (o':=.map O L) T).1
 have e0:∀r s e,rowOf ((qZ p l m F (spot r s)).getD mz)=C e->rowOf ((p (spot r s)).getD mz)=C e/\¬(r=l/\s=m):=λr s e i=>by
  by_cases d:r=l/\s=m
  .rw[d.1,d.2,jr]at i;cases i
  simp_all [jq]
 have a2:∀f,eF D o (qZ p l m F) f->eF D o p f:=λf x=>by
  rcases x with h|h|⟨r,s,h⟩
  .exact Xh h
  .exact Xi (Xh h)
  exact Xi (Xi ⟨r,s,(e0 r s f h).1⟩)
 have Q:=λf N S q d2=>(a8 f S q).trans (R f N d2)
 have f1:(xW (H.setCell ⟨k,0,F⟩ (.slice v z c1)).drew o (.map O L)).heap.size=H.heap.size:=by simp
 have e7:=a4.size;refine Js g.hp g.hl g.ht n.tb (by rw[<-Y];exact a9) (by simp_all) b5 ((R t a7 b7).trans g.ht) ((R D b3 b9).trans n.tb) ?_ q1 c6 (by omega) ⟨_,d6,(.slice v z c1),qZ p l m F,⟨?_,(Q w d4 e2 e4 e1).trans g.hp,?_,(Q t a7 q1 e3 b7).trans g.ht,?_,?_⟩,?_,?_,a2,Q⟩
 .rw[a4.block _ (by omega) (λd=>by have:=g.row.lt _ d.symm;omega)];exact d5
 .refine n.put (v:=F) ((Q D b3 c6 e5 b9).trans n.tb) d7 d0 (OH _) (λf x N S q=>?_) (λe i=>by cases i) Xg.Pairwise.nil (λe6 a3=>by cases a3);refine Q f x (λd=>?_) N (λd=>g.free f d q);rcases q with q|q|⟨r,s,q⟩
  .omega
  .exact N q
  obtain⟨X,h,_⟩:=n.AJ q;simp_all
 .rw[(abf (o':=.map O L) T).2 k (YX c7)];show(H.setCell ⟨k,0,F⟩ (.slice v z c1)).heap[k]?=_;have:=aA (l:=0) (g:=.slice v z c1) b5;simp_all
 .rw[Yw];exact c8.stay λe i=>a8 e (b0 e i).1 (b0 e i).2
 .intro e i b2;rcases a5 e i with h|h
  .exact g.free e h (a2 e b2)
  have:=n.lt (a2 e b2);omega
 .omega
 intro e i;rcases a5 e i with h|h
 .exact Xh h
 omega
abbrev tf(a:M)(d:E)(y:XB):M:=((a.alloc (.cells #[pt d 0] 95)).alloc (.cells #[.string y] 9)).alloc (.cells #[Xm F 0 0] 61)
def pZ(h:E)(c:Xe->M->Prop)(a:M):Prop:=∃b e d,a.cell? ⟨h,0,F⟩=C (.slice b e d)/\Calls TP 62 #[.slice b e d] a λf l=>f=Xs (.tuple #[])/\l.cell? ⟨h,0,F⟩=C (.slice b e d)/\Calls TP 181 #[.slice b e d] l λf m=>∃g k i,f=Xs (.slice g k i)/\c (.slice g k i) m
abbrev DX(b:E)(e:Xo)(a:M)(c:M->Prop):Prop:=Calls TP 180 #[.bool e,pt (b+1) 0,pt (b+1+1) 0,pt b 0] a λd f=>d=Xs (.tuple #[])/\c f
def uh(c:Xe->M->Prop)(e:Ending)(f:M):Prop:=∃a d b,e=Xs (.slice a d b)/\c (.slice a d b) f
section
variable{d:E}{b:Xj}{y:XB}{c:Xe->M->Prop}{e f:M->Prop}
theorem Jt(w:(b !=4)=J)(x:(b==4)=Xf)(v:(b==2)=Xf)
 (h:DX a.heap.size Xf (tf a d y) e)(k:∀m,e m->pZ (a.heap.size+1+1) c m):
 Calls TP 150 #[pt d 0,Xd K b,.string y] a (uh c):=by
 have HC:=Xl h;have o:=Xl k;clear h k;go_enter Tryz.func150,Tryz.ntmps150
 go_wp2_with (first
  |(go_at_call 180;refine HC.out.mono ?_;rintro f r⟨rfl,g⟩;obtain⟨s,H,u,z,l⟩:=o.out r g;have p:=Xl l;clear l g)
  |(go_at_call 62;refine p.out.mono ?_;rintro f N⟨rfl,D,i⟩;have n:=Xl i;clear i)
  |(go_at_call 181;refine n.out.mono ?_;rintro f O⟨t,L,c3,rfl,q⟩))
 go_ret;exact⟨_,_,_,A,q⟩
theorem Ju(H:(b !=4)=J)(L:(b==4)=Xf)(D:(b==2)=J)
 (k:DX a.heap.size Xf (tf a d y) e)(l:∀h,e h->DX a.heap.size J h f)(n:∀h,f h->pZ (a.heap.size+1+1) c h):
 Calls TP 150 #[pt d 0,Xd K b,.string y] a (uh c):=by
 have HC:=Xl k;have q:=Xl l;have s:=Xl n;clear k n l;go_enter Tryz.func150,Tryz.ntmps150
 go_wp2_with (first
  |(go_at_call 180;refine(q.out _ t.out).mono ?_;rintro i p⟨rfl,g⟩;obtain⟨w,Q,z,N,o⟩:=s.out p g;have u:=Xl o;clear o g)
  |(go_at_call 180;refine HC.out.mono ?_;rintro i p⟨rfl,g⟩;have t:=Xl g;clear g)
  |(go_at_call 62;refine u.out.mono ?_;rintro i S⟨rfl,O,m⟩;have r:=Xl m;clear m)
  |(go_at_call 181;refine r.out.mono ?_;rintro i T⟨x,R,c3,rfl,v⟩))
 go_ret;exact⟨_,_,_,A,v⟩
theorem Jv(v:(b !=4)=Xf)(w:(b==4)=J)
 (h:DX a.heap.size J (tf a d y) e)(k:∀m,e m->pZ (a.heap.size+1+1) c m):
 Calls TP 150 #[pt d 0,Xd K b,.string y] a (uh c):=by
 have HC:=Xl h;have o:=Xl k;clear h k;go_enter Tryz.func150,Tryz.ntmps150
 go_wp2_with (first
  |(go_at_call 180;refine HC.out.mono ?_;rintro f r⟨rfl,g⟩;obtain⟨s,D,u,x,l⟩:=o.out r g;have p:=Xl l;clear l g)
  |(go_at_call 62;refine p.out.mono ?_;rintro f L⟨rfl,z,i⟩;have n:=Xl i;clear i)
  |(go_at_call 181;refine n.out.mono ?_;rintro f N⟨t,H,c3,rfl,q⟩))
 go_ret;exact⟨_,_,_,A,q⟩
end
theorem qk{b:Xk Xj}(hd:∀j e,j<=e->e<b.size->b[j]!<=b[e]!):∀a,a<=b.size->(∀c,c∈compactUpTo b a↔∃j,j<a/\b[j]! =c)/\rK (compactUpTo b a)
 |0,_=>⟨λc=>by simp[compactUpTo],by simp[compactUpTo,rK]⟩
 |a+1,r=>by
  obtain⟨h,f⟩:=qk hd a (by omega);rw[compactUpTo_succ];by_cases d:keeps b a=J
  .rw[XC d];refine⟨λc=>?_,Y_.2 ⟨f,by simp,λg i l p=>?_⟩⟩
   .grind
   obtain⟨j,k,rfl⟩:=(h g).1 i;have n:=hd j (a-1) (by omega) (by omega);have o:=hd (a-1) a (by omega) (by omega);unfold keeps at d
   grind
  rw[Xx d,YT];refine⟨λc=>?_,f⟩;constructor
  .grind
  rintro⟨j,k,m⟩;by_cases q:j<a
  .grind
  unfold keeps at d
  grind
theorem vn(c:Xg Xj):(∀a,a∈compact (c.mergeSort λa b=>decide (a<=b))↔a∈c)/\rK (compact (c.mergeSort λa b=>decide (a<=b))):=by
 have m:(c.mergeSort λa b=>decide (a<=b)).Pairwise (λe f=>decide (e<=f)=J):=by grind [List.pairwise_mergeSort]
 obtain⟨ms,l⟩:∃ms,ms=c.mergeSort λa b=>decide (a<=b):=by simp
 have k:∀a,a∈ms↔a∈c:=by simp_all
 rw[<-l]at m⊢
 unfold compact;have hd:∀j d,j<=d->d<ms.toArray.size->ms.toArray[j]!<=ms.toArray[d]!:=by grind [Nat.lt_or_eq_of_le,List.pairwise_iff_getElem]
 obtain⟨g,h⟩:=qk hd ms.length (by simp);refine⟨λa=>?_,h⟩;rw[g,<-k];constructor
 .grind
 intro n;obtain⟨j,i,rfl⟩:=Zg.1 n;exact⟨j,i,by grind⟩
def GP(h:E)(a:M)(f:Xe)(b:Xg Xj):Prop:=(b=[]/\∃g c,f=.slice g 0 c)\/∃d c e,f=Xm (C ⟨d,0,F⟩) b.length c/\h<=d/\a.heap[d]?=C (Xn e 3 (0,0))/\e.toList.take b.length=b.map i64
def lZ(cd:Xo->B->Xg Xj)(d:Xj)(c:B):Xo->B->Xg Xj:=λa b=>if kx d a=J/\b=c then[]else cd a b
def tR(cd:Xo->B->Xg Xj)(a:Xj)(c:B):Xg Xj:=(if kx a J then cd J c else[]).foldr dF (if kx a Xf then cd Xf c else[])
def Ba(cd:Xo->B->Xg Xj)(b d:E)(e:Xe->Xp Xe)(l:Xj)(c:B)(a:M)(m:Ending)(h:M):Prop:=∃f k i g,m=Xs (.slice f k i)/\dK (lZ cd l c) b d g h/\GP a.heap.size h (.slice f k i) (tR cd l c)/\aH (eF b d e) (eF b d g) a h/\∀f,eF b d g f->eF b d e f
section
variable{cd:Xo->B->Xg Xj}{b d:E}{e:Xe->Xp Xe}{f:M}{c:B}
theorem MH{a0 o a1:E}{H:Xe}{k n:Xg Xj}{Z:E}(i:oQ cd b d e a0 o a1 c H k a)(c8:k.length<2^30)(b2:∀g,H.ownBlock=C g->Z<=g)(a6:rK n)(O:∀m,m∈n↔m∈k):
 pZ o (λb5 r=>dK cd b d e r/\GP Z r b5 n/\a.heap.size<=r.heap.size/\∀f,f<a.heap.size->H.ownBlock≠C f->r.heap[f]?=a.heap[f]?) a:=by
 have b0:=(XN.1 i.hl).1;rcases i.row.2 with⟨rfl,b7⟩|⟨g,L,p,rfl,s,b8,b9,a3,N,c0⟩
 .have a7:n=[]:=by
   cases n with
   |nil=>rfl
   |cons m n=>have:=(O m).1 (by simp);simp_all
  refine⟨F,0,0,aa i.hl 0 A,(Tryz.slices_Sort_int_none F 0 a).mono λh r⟨y,X⟩=>⟨y,by rw[X];exact aa i.hl 0 A,(Tryz.slices_Compact_int_empty F 0 r).mono λa2 x⟨z,q⟩=>⟨F,0,0,z,?_⟩⟩⟩;rw[q,X];exact⟨i.tab,Xh ⟨a7,F,0,A⟩,XS _,λ_ _ _=>rfl⟩
 have AZ:=(XN.1 s).1;have b1:o≠g:=λh=>by rw[<-h,i.hl]at s;cases s
 rw[E.mul_one]at a3 N;have a4:=holds_of_blockI s N;obtain⟨ms,W⟩:∃ms,ms=k.mergeSort λm b6=>decide (m<=b6):=by simp
 have U:ms.length=k.length:=by simp_all
 obtain⟨c1,c2⟩:=vn k;rw[<-W]at c1 c2;have a8:=Il a6 c2 λm=>by rw[O,c1]
 refine⟨_,_,_,aa i.hl 0 A,(Tryz.slices_Sort_int g 0 L k a a4 AZ (by omega)).mono λh t⟨y,d0,d1,w⟩=>⟨y,?_,?_⟩⟩
 .have:t.heap[o]?=a.heap[o]?:=by
   rw[w];exact(aa4 _).block o b0 (λh=>b1 (YF h))
  exact aa (this.trans i.hl) 0 A
 rw[<-W]at w;have Q:t.heap[g]?=C (Xn (putCells (Xe.int K) 0 ms.toArray p) 3 (0,0)):=by rw[w];exact heap_sortedI _ s
 have b3:=take_putCellsI p ms (by omega);have a5:=holds_of_blockI Q b3;have D:a.grownBy t (C g):=by rw[w];exact aa4 _
 have R:=Tryz.slices_Compact_int g 0 L ms t a5 (by omega) (by omega);rw[U]at R;refine R.mono λa2 x⟨z,d2,q⟩=>⟨_,_,_,z,?_⟩;rw[<-U]at q;obtain⟨u,Y⟩:∃u,u=compact ms++List.replicate (ms.length-(compact ms).length) 0:=by simp
 rw[<-Y,<-grow_empty (putRow _ _ _ _ _)]at q;have c6:=compact_length_le ms;have c9:u.length=ms.length:=by rw[Y];simp;omega
 have a9:x.heap[g]?=C (Xn (putCells (Xe.int K) 0 u.toArray (putCells (Xe.int K) 0 ms.toArray p)) 3 (0,0)):=by rw[q];exact heap_sortedI _ Q
 have S:t.grownBy x (C g):=by rw[q];exact aa4 _
 have c7:(putCells (Xe.int K) 0 ms.toArray p).size=p.size:=by simp[putCells]
 have b4:=take_putCellsI (putCells (Xe.int K) 0 ms.toArray p) u (by omega)
 have T:∀f,f<a.heap.size->g≠f->x.heap[f]?=a.heap[f]?:=λf l v=>by rw[S.block f (XY l D.size) (λh=>v (YF h).symm),D.block f l (λh=>v (YF h).symm)]
 refine⟨i.tab.stay λf l=>T f (i.tab.lt l) (λh=>i.free g A (h▸l)),Xi ⟨g,_,_,by rw[a8],b2 g A,a9,?_⟩,XZ D.size S.size,λf l v=>T f l (λh=>v (by rw[h];rfl))⟩;have:=YU (List.take (compact ms).length) b4
 grind
theorem sQ{a:Xj}{b:Xj}:b∈tR cd a c↔(kx a J=J/\b∈cd J c)\/(kx a Xf=J/\b∈cd Xf c):=by simp[tR,mS]
theorem KL(f:dK cd b d e a)(g:Xj):rK (tR cd g c):=by
 refine nh ?_ _;split
 .exact f.xU _ _
 simp
theorem EZ(h:dK cd b d e a):oQ cd b d e (a.heap.size+1) (a.heap.size+1+1) a.heap.size c (Xm F 0 0) [] (tf a b (bs c)):=by
 have l:∀g,g<a.heap.size->(tf a b (bs c)).heap[g]?=a.heap[g]?:=by simp_all [qV]
 refine⟨h.stay λg i=>l g (h.lt i),?_,?_,?_,cr.nil _ _ _ _,λm k=>by cases k⟩
 .rw[XQ _ _ _ (by simp)];exact vY _ _ _
 .have:=vY (a.alloc (.cells #[pt b 0] 95)) (.cells #[.string (bs c)] 9) (.cells #[Xm F 0 0] 61);simpa using this
 grind [Below.heap_alloc,Nz]
theorem Sm(O:dK cd b d e a)(k:Xj)(c:B):Calls TP 150 #[pt b 0,Xd K k,.string (bs c)] a (Ba cd b d e k c a):=by
 have T:=EZ O (c:=c);have c7:(tf a b (bs c)).heap.size=a.heap.size+3:=by simp
 have b8:∀f,f<a.heap.size->(tf a b (bs c)).heap[f]?=a.heap[f]?:=by simp_all [qV]
 have L:=λn=>sJ (O.xU n c) (O.nums n c)
 have one:∀(x:Xo->B->Xg Xj)(t:Xe->Xp Xe)(D:Xe)(r:Xg Xj)(h:M)(n:Xo),oQ x b d t (a.heap.size+1) (a.heap.size+1+1) a.heap.size c D r h->r.length<2^29->(∀l,D.ownBlock=C l->a.heap.size<=l)->a.heap.size+3<=h.heap.size->(∀f,f<a.heap.size->f≠d->h.heap[f]?=a.heap[f]?)->(∀f,eF b d t f->eF b d e f)->
  DX a.heap.size n h λi=>∃q g,oQ (eW x n c []) b d g (a.heap.size+1) (a.heap.size+1+1) a.heap.size c q (r++x n c) i/\(∀l,q.ownBlock=C l->a.heap.size<=l)/\a.heap.size+3<=i.heap.size/\(∀f,f<a.heap.size->f≠d->i.heap[f]?=a.heap[f]?)/\(∀f,eF b d g f->eF b d e f):=λx t D r h n U X a0 b9 a6 S=>by
  refine(Pv U X n).mono λs i⟨H,q,g,o,m,p,v,w⟩=>⟨H,q,g,o,λl z=>?_,by omega,λf R a7=>?_,λf R=>S f (v f R)⟩
  .rcases p l z with u|u
   .exact a0 l u
   omega
  grind
 have last:∀(x:Xo->B->Xg Xj)(t:Xe->Xp Xe)(D:Xe)(r:Xg Xj)(h:M),oQ x b d t (a.heap.size+1) (a.heap.size+1+1) a.heap.size c D r h->r.length<2^30->(∀l,D.ownBlock=C l->a.heap.size<=l)->a.heap.size+3<=h.heap.size->(∀f,f<a.heap.size->f≠d->h.heap[f]?=a.heap[f]?)->(∀f,eF b d t f->eF b d e f)->x=lZ cd k c->(∀N,N∈tR cd k c↔N∈r)->
  pZ (a.heap.size+1+1) (λa2 i=>∃g,dK (lZ cd k c) b d g i/\GP a.heap.size i a2 (tR cd k c)/\aH (eF b d e) (eF b d g) a i/\∀f,eF b d g f->eF b d e f) h:=λx t D r h U X a0 b9 a6 S c8 a7=>by
  obtain⟨f,a1,W,b3,c0⟩:=MH U X a0 (KL O k) a7;refine⟨f,a1,W,b3,c0.mono λs a9⟨H,b4,b5⟩=>⟨H,b4,b5.mono λa5 c9⟨b0,c6,b1,b6,o,m,p,v⟩=>⟨b0,c6,b1,b6,t,by grind,m,⟨by omega,λQ Y b7=>?_,λQ Y=>Xh (S Q Y)⟩,S⟩⟩⟩;rw[v Q (by omega) (λs=>by grind)];exact a6 Q Y (λs=>b7 (Xi (Xh s)))
 have fin:∀s i,uh (λa2 i=>∃g,dK (lZ cd k c) b d g i/\GP a.heap.size i a2 (tR cd k c)/\aH (eF b d e) (eF b d g) a i/\∀f,eF b d g f->eF b d e f) s i->Ba cd b d e k c a s i:=λs i⟨f,a1,W,H,g,o,m,p⟩=>⟨f,a1,W,g,H,o,m,p⟩;have Z:∀f,f<a.heap.size->f≠d->(tf a b (bs c)).heap[f]?=a.heap[f]?:=λf R _=>b8 f R;by_cases v:k=4
 ·
  subst v;refine(Jv (by decide) (by decide) (one cd e _ [] _ J T (by decide) (λl z=>by cases z) (by omega) Z (λf u=>u)) λh⟨q,g,o,m,p,w,y⟩=>last _ g q _ h o (by have:=L J;simp;omega) m p w y ?_ (λN=>?_)).mono fin
  .funext n a8
   unfold eW lZ kx;cases n<;>simp
  simp[sQ,kx]
 have a3:(k !=4)=J:=by simp[v]
 have a4:(k==4)=Xf:=by simp[v]
 by_cases m:k=2
 .subst m;refine(Ju a3 a4 (by decide) (one cd e _ [] _ Xf T (by decide) (λl z=>by cases z) (by omega) Z (λf u=>u)) (λh⟨q,g,o,m,p,w,y⟩=>one _ g q _ h J o (by have:=L Xf;simp;omega) m p w y) λa9⟨q,g,o,m,p,w,y⟩=>last _ g q _ a9 o (by have:=L Xf;have:=L J;simp[eW];omega) m p w y ?_ (λN=>?_)).mono fin
  .funext n a8
   unfold eW lZ kx;cases n<;>simp
  simp[sQ,kx,eW,or_comm]
 have a5:(k==2)=Xf:=by simp[m]
 refine(Jt a3 a4 a5 (one cd e _ [] _ Xf T (by decide) (λl z=>by cases z) (by omega) Z (λf u=>u)) λh⟨q,g,o,b2,p,w,y⟩=>last _ g q _ h o (by have:=L Xf;simp;omega) b2 p w y ?_ (λN=>?_)).mono fin
 .funext n a8
  unfold eW lZ kx;cases n<;>simp[v,m]
 grind [sQ,kx]
end
variable{d:Tree}{c:M}{e:M}{O:E}{a:Path}
section
variable{b f:Path->E}{g:Xg Un}
theorem RU(t:bw d b f c)(m:WF d)(n:c.cell? ⟨O,0,F⟩=C (pt (b []) 0))(k:Xk Xe)(i:XB){s:Xj}(p:c.cell? ⟨1,0,F⟩=C (Xd K s))(z:i.size<2^31)(r:Wt.split i.data.toList=C a):
 eR c O k i J a.length (gU (if(Wt.find d a).isSome then C (b a)else F)):=by
 have v:=uk p;have H:=uk n;obtain⟨S,x,_⟩:=m.root;refine(nT i s (c.alloc (.cells k 28)) z (by rw[Yx _ _ _ v];exact p)).mono ?_;intro N U l;unfold cE at l;rw[r]at l;obtain⟨h,T,rfl,q⟩:=l;have D:(c.alloc (.cells k 28)).heap.size=c.heap.size+1:=by simp
 rw[D]at h;have y:=q.row;have o:=
  zP (t.old λu w=>by rw[h.block u (by omega)];exact XQ _ _ _ w).VV (by
   rw[h.cell (p:=⟨O,0,F⟩) (by show O<_;omega),Yx _ _ _ H]
   exact n) (by rw[x];rfl) m.up y (by have:=sM r;omega)
 rcases q with⟨rfl,rfl⟩|⟨L,rfl,R,_,Q⟩
 .exact⟨F,0,A,h,λ_=>o⟩
 exact⟨_,_,A,h,λ_=>o⟩
theorem Pg(b:Xk Xe)(a:XB){h:Xj}(g:c.cell? ⟨1,0,F⟩=C (Xd K h))(m:a.size<2^31)(l:Wt.split a.data.toList=F)(i:Xe):eR c O b a Xf 0 i:=by
 have k:=uk g;refine(nT a h (c.alloc (.cells b 28)) m (by rw[Yx _ _ _ k];exact g)).mono ?_;intro e o d;unfold cE at d;rw[l]at d;obtain⟨f,rfl⟩:=d;have n:(c.alloc (.cells b 28)).heap.size=c.heap.size+1:=by simp
 rw[n]at f;exact⟨F,0,A,f,λe=>by cases e⟩
theorem TW(i:bw d b f c)(k:WF d){e:Nd}(g:Wt.find d a=C e):Er c (b a) (f a) e.stat.aE e.stat.kids:=by
 have h:=i.nd a e g;obtain⟨o,n,l,m⟩:=i.kd a e g;refine⟨(XN.1 h).1,aa h 4 A,aa h 11 A,λr p=>?_⟩;have q:r.heap[f a]?=C (.map o n):=by rw[p _ (XN.1 l).1];exact l
 have:=Gh q 3;rw[sC m k,<-k.kids a e g]at this;exact this
theorem Qk(b:a≠[]):∃d c,a=d++[c]:=⟨a.dropLast,a.getLast b,(Z_ b).symm⟩
theorem LS(h:pW d b f O g c){k:E}{p:Xk Xe}(a:c.heap[k]?=C (Xn p 28 (0,0))):¬pJ d b f O k/\¬wH c O k:=by
 obtain⟨H,D,n,s,x⟩:=h.top;refine⟨?_,?_⟩
 .rintro(e|⟨o,m,e|e⟩)
  .rw[e,n]at a;cases a
  .obtain⟨t,i⟩:=XR.1 m;rw[e,h.lg.nd _ _ i]at a;cases a
  obtain⟨t,i⟩:=XR.1 m;obtain⟨w,v,r,_⟩:=h.lg.kd _ _ i;rw[e,r]at a;cases a
 rintro⟨y,z,L,l,q⟩;rw[n]at l;cases l;obtain⟨u,o,_⟩:=s.blk _ q;rw[o]at a;cases a
theorem UK(W:pW d b f O g c)(a6:WF d){n:Nd}(Q:Wt.find d a=C n)(e9:g.length<2^18){m:Wt.Op}(c8:m.kind=5)(aL:Xj):
 Calls TP 157 #[pt O 0,pt (b a) 0] c λh e=>h=Xs (.tuple #[])/\(∀L,c.heap[L]?=C (Xn (ub m) 28 (0,0))->∃e1 e2 e3,Lv e (b a) L (bs m.path) (bs m.data) e1 e2 n.stat.aE e3)/\
  ∃d8,pW (Wt.put d a (jM n m aL)) b f O (g++[d8]) (setW e (b a) (bs m.data) aL n.stat.aE)/\ye O d b f (Wt.put d a (jM n m aL)) b f c (setW e (b a) (bs m.data) aL n.stat.aE):=by
 obtain⟨U,d9,u,z,b1⟩:=W.top;have e8:=b1.len;have x:=W.lg;have q:=x.nd a n Q;have a1:(Wt.find d a).isSome=J:=by rw[Q];rfl
 have d1:=x.lt a1;refine(AU u z (by omega) q).mono ?_;rintro h a5⟨b8,e7,Y,e0,b5,s,t,X,b7⟩;have a2:∀k,U.ownBlock=C k->wH c O k:=λk l=>⟨_,_,_,u,l⟩;have b4:b a≠O:=λh=>by rw[h,u]at q;cases q
 have d7:U.ownBlock≠C (b a):=λh=>by obtain⟨r,i,_⟩:=z.blk _ h;rw[q]at i;cases i
 have o:=(Y _ d1.1 b4 d7).trans q;obtain⟨w,H⟩:∃w,w=setW a5 (b a) (bs m.data) aL n.stat.aE:=⟨_,A⟩
 have T:∀k,k≠b a->w.heap[k]?=a5.heap[k]?:=λk l=>by rw[H,setW,ai l,ai l,ai l,ai l]
 have f2:w.heap.size=a5.heap.size:=by rw[H];simp only[aS]
 have d2:w.heap[b a]?=C (Xn (cU a (jM n m aL) (b a.dropLast) (f a)) 192 (0,0)):=by rw[H];have:=aA (l:=7) (g:=Xd K (bs m.data).size) (aA (l:=4) (g:=Xd K (n.stat.aE+1)) (aA (l:=3) (g:=Xd K aL) (aA (l:=1) (g:=.string (bs m.data)) o)));rw[setW,this];simp[cU,jM,cR]
 have a9:∀i,Wt.find (Wt.put d a (jM n m aL)) i=if i=a then C (jM n m aL)else Wt.find d i:=λi=>cD a6.ord
 have c7:∀i,(Wt.find (Wt.put d a (jM n m aL)) i).isSome=(Wt.find d i).isSome:=λi=>by
  rw[a9];split
  .rename_i h;rw[h,Q];rfl
  rfl
 have d4:∀k,pJ (Wt.put d a (jM n m aL)) b f O k->pJ d b f O k:=λk p=>by
  rcases p with p|⟨i,y,p⟩
  .exact Xh p
  exact Xi ⟨i,by rw[<-c7 i];exact y,p⟩
 have N:=λk l s t X=>(T k t).trans (Y k l s X)
 have d5:∀i,(Wt.find d i).isSome=J->U.ownBlock≠C (b i)/\U.ownBlock≠C (f i)/\b i≠O/\f i≠O:=λi y=>by
  obtain⟨f4,b2⟩:=XR.1 y;obtain⟨e6,e5,Z,_⟩:=x.kd _ _ b2;have a3:=x.nd _ _ b2;refine⟨λh=>?_,λh=>?_,λh=>?_,λh=>?_⟩
  .obtain⟨r,i,_⟩:=z.blk _ h;rw[a3]at i;cases i
  .obtain⟨r,i,_⟩:=z.blk _ h;rw[Z]at i;cases i
  .rw[h,u]at a3;cases a3
  rw[h,u]at Z;cases Z
 have d0:=x.upd Q a9 d2 λk l s⟨i,y,t⟩=>by
  have S:=d5 i y;rcases t with rfl|rfl
  .exact N _ l S.2.2.1 s S.1
  exact N _ l S.2.2.2 s S.2.1
 have a8:=(T O (YX b4)).trans s;refine⟨b8,λL R=>?_,.head (b a) (Uo a n),?_,?_⟩
 .obtain⟨b9,c0⟩:=LS W R;have a0:=(Y L (XN.1 R).1 (λh=>b9 (Xh h)) (λh=>c0 (a2 _ h))).trans R;have d3:b a≠L:=λh=>by rw[h,R]at q;cases q
  refine⟨_,_,_,⟨d3,aa a0 0 ?_,aa a0 1 A,aa a0 2 A,aa o 1 A,aa o 3 A,aa o 4 A,aa o 7 A,frozenAt o 1,frozenAt o 3,frozenAt o 4,frozenAt o 7⟩⟩;show C (Xe.int K m.kind)=_;rw[c8]
 .rw[<-H];refine⟨d0,e0,d9++[b5],?_,?_,?_⟩
  .rw[dc a6.ord a1];exact a8
  .rw[Yw];refine t.stay λb3 c9=>T b3 λh=>?_;obtain⟨r,i,_⟩:=t.blk b3 c9;rw[h,o]at i;cases i
  have d6:∀(k:E)(r:Xk Xe)(v:Xq),c.heap[k]?=C (Obj.cells r v (0,0))->v=190\/v=187\/v=94->w.heap[k]?=c.heap[k]?:=λk r v l D=>by
   refine N k (XN.1 l).1 (λh=>?_) (λh=>?_) (λh=>?_)
   .rw[h,u]at l;cases l;revert D;decide
   .rw[h,q]at l;cases l;revert D;decide
   obtain⟨e4,i,_⟩:=z.blk _ h;rw[i]at l;cases l;revert D;decide
  refine(b1.stay d6).app ⟨b7.stay λk r v l D=>T k λh=>?_,trivial⟩;rw[h,o]at l;cases l;revert D;decide
 rw[<-H];refine⟨by omega,λk l a7 b6=>?_,λk l=>Xh (d4 k l),λk⟨f0,f1,f3,b0,c6⟩=>?_⟩
 .exact N k l (λh=>a7 (Xh h)) (λh=>a7 (Xi ⟨a,a1,Xh h⟩)) (λh=>b6 (a2 k h))
 rw[a8]at b0;cases b0;rcases X k c6 with p|p
 .exact Xh (a2 k p)
 exact Xi p
theorem Mf(r:pW d b f O g c)(L:WF d)(a5:TD d){h:Wt.Op}(b8:qc h){ak aL:Xj}{e3:Xj}(a7:c.cell? ⟨1,0,F⟩=C (Xd K e3))(e1:uQ c)(d0:4<c.heap.size)(b0:g.length<2^18):
 Calls TP 113 #[pt O 0,.agg (ub h),Xd K ak,Xd K aL] c (gN d b f O g c (Wt.change d h ak aL)):=by
 by_cases a1:h.kind=3
 .have:=xx r L a5 b8 (ak:=ak) (aL:=aL) a7 e1 d0 b0 a1;unfold Wt.change;rw[XC a1];exact this
 obtain⟨f3,f2,a8,d8,e8⟩:=r.top;have c7:=aa a8 0 A;have b9:(bs h.path).size<2^31:=by rw[cR];have:=b8.path;omega
 have d7:(bs h.path).data.toList=h.path:=A;have T:=fH a1;unfold Wt.change;rw[Xx a1];cases c6:Wt.split h.path with
 |none=>exact Mc T (Pg _ _ a7 b9 (by exact c6) .nilIface)
 |some a=>
  simp only;have P:=RU (O:=O) r.lg L c7 (ub h) (bs h.path) a7 b9 (by rw[d7];exact c6);by_cases Z:h.kind=4/\a=[]
  .obtain⟨d1,rfl⟩:=Z;unfold ub at P⊢
   rw[d1]at P⊢
   exact Pj P
  rw[Xx Z];by_cases a4:h.kind=5/\16<h.data.length
  .rw[XC a4];obtain⟨d2,Y⟩:=a4;unfold ub at P⊢
   rw[d2]at P⊢
   exact Pf P (by rw[cR];omega)
  rw[Xx a4]
  have a0:h.kind=4->((a.length:Xj)==0)=Xf:=λw=>fH (by
   have:=λi=>Z ⟨w,i⟩;have:=y_.2 this
   omega)
  have Y:h.kind=5->¬16<((bs h.data).size:Xj):=λw=>by rw[cR];omega
  cases z:Wt.find d a with
  |none=>
   rw[z]at P;by_cases o:h.kind=4
   .have:=a0 o;unfold ub at P⊢
    rw[o]at P⊢
    exact LY this P
   by_cases q:h.kind=5
   .have:=Y q;unfold ub at P⊢
    rw[q]at P⊢
    exact LZ this P
   exact Ma T (fH o) (fH q) P
  |some m=>
   rw[z]at P;simp only;have l:eR c O (ub h) (bs h.path) J a.length (pt (b a) 0):=P;have p:=TW r.lg L z;have d6:(Wt.find d a).isSome=J:=by rw[z];rfl
   by_cases U:h.aE≠-1/\h.aE≠m.stat.aE
   .rw[XC U];have n:=uj U.1;have u:=uj U.2;by_cases o:h.kind=4
    .have:=a0 o;unfold ub at l⊢
     rw[o]at l⊢
     exact Pk this l p.lt p.aE n u
    by_cases q:h.kind=5
    .have:=Y q;unfold ub at l⊢
     rw[q]at l⊢
     exact Pm this l p.lt p.aE n u
    exact Pn T (fH o) (fH q) l p.lt p.aE n u
   rw[Xx U]
   have a3:(h.aE !=-1)=Xf\/((h.aE !=-1)=J/\(h.aE !=m.stat.aE)=Xf):=by
    by_cases i:h.aE=-1
    .exact Xh (zy i)
    exact Xi ⟨uj i,zy (Classical.byContradiction λw=>U ⟨i,w⟩)⟩
   by_cases a2:h.kind=4/\0<m.stat.kids
   .rw[XC a2];obtain⟨o,W⟩:=a2;have:=a0 o;unfold ub at l⊢
    rw[o]at l⊢
    rcases a3 with n|⟨n,u⟩
    .exact GW this l p (Xh n) W
    exact GW this l p (Xi ⟨n,u⟩) W
   rw[Xx a2];by_cases o:h.kind=4
   ·
    have W:=λw=>a2 ⟨o,w⟩;have e2:m.stat.kids=0:=by have:=L.kids a m z;omega
    obtain⟨s,S,rfl⟩:=Qk λi=>Z ⟨o,i⟩;obtain⟨b2,a9⟩:=XR.1 (L.up (s++[S]) (by simp) d6);rw[Xg.dropLast_concat]at a9
    have N:∀k:M,(∀t,t<c.heap.size->k.heap[t]?=c.heap[t]?)->c.heap.size<k.heap.size->Calls TP 153 #[pt O 0,pt (b (s++[S])) 0] k λi e=>∃v,i=Xs (Xm (C ⟨v,0,F⟩) 2 2)/\k.heap.size<=v/\v<e.heap.size/\k.heap.size<=e.heap.size/\e.heap[c.heap.size]?=k.heap[c.heap.size]?/\uF d b f O g s S b2 k (Xs (Xm (C ⟨v,0,F⟩) 2 2)) e:=λk H R=>by
     refine(Sf (r.old H) L z a9 e2 b0 (a5 s b2 a9).1).mono ?_;intro i e x;obtain⟨v,rfl,y,a6⟩:=x.lz;refine⟨v,A,y,(XN.1 a6).1,x.op.size,?_,x⟩;refine x.op.kept _ R (λw=>?_) (λw=>?_)
     .rcases w with i|⟨e9,c0,i|i⟩
      .have:=(XN.1 a8).1;omega
      .have:=(r.lg.lt c0).1;omega
      have:=(r.lg.lt c0).2;omega
     obtain⟨f0,f1,f4,b5,d5⟩:=(Dy r H).1 w;rw[a8]at b5;cases b5;have:=d8.lt _ d5;omega
    have D:∀i e,QQ (bs h.path) (λk v e=>uF d b f O g s S b2 k (Xs (Xm (C ⟨v,0,F⟩) 2 2)) e) c i e->gN d b f O g c (.yes (Wt.drop d (s++[S])) h.path (kq (s++[S]))) i e:=λi e⟨v,k,R,H,Q,x⟩=>by obtain⟨e7,d4,y,a6⟩:=x.lz;cases d4;refine⟨b,f,_,_,Q,x.tree,by simp,(ye.same r R H).trans x.op,Xi ⟨v,A,by simp[kq],by omega,?_⟩⟩;rw[a6];simp[ib,kq]
    have:=a0 o;unfold ub at l⊢
    rw[o]at l⊢
    rcases a3 with n|⟨n,u⟩
    .exact(LX this l p (Xh n) W N).mono D
    exact(LX this l p (Xi ⟨n,u⟩) W N).mono D
   rw[Xx o];by_cases q:h.kind=5
   .have N:∀k:M,(∀t,t<c.heap.size->k.heap[t]?=c.heap[t]?)->c.heap.size<=k.heap.size->Calls TP 157 #[pt O 0,pt (b a) 0] k λi e=>i=Xs (.tuple #[])/\(c.heap.size<k.heap.size->k.heap[c.heap.size]?=C (Xn (ub h) 28 (0,0))->∃e4 e5 e6,Lv e (b a) c.heap.size (bs h.path) (bs h.data) e4 e5 m.stat.aE e6)/\∃s,pW (Wt.put d a (jM m h aL)) b f O (g++[s]) (setW e (b a) (bs h.data) aL m.stat.aE)/\ye O d b f (Wt.put d a (jM m h aL)) b f k (setW e (b a) (bs h.data) aL m.stat.aE):=λk H R=>
     (UK (r.old H) L z b0 q aL).mono λi e⟨Q,c8,c9⟩=>⟨Q,λ_ y=>c8 _ y,c9⟩
    have D:∀i e,QR (bs h.path) (bs h.data) aL m.stat.aE (b a) (λk e=>∃s,pW (Wt.put d a (jM m h aL)) b f O (g++[s]) (setW e (b a) (bs h.data) aL m.stat.aE)/\ye O d b f (Wt.put d a (jM m h aL)) b f k (setW e (b a) (bs h.data) aL m.stat.aE)) c i e->gN d b f O g c (.yes (Wt.put d a (jM m h aL)) h.path [(3,h.path)]) i e:=λi e⟨k,X,R,H,⟨s,b4,b3⟩,Q,b1⟩=>by
     have d9:(setW X (b a) (bs h.data) aL m.stat.aE).heap.size=X.heap.size:=by simp only[aS]
     have b7:∀t,t<(setW X (b a) (bs h.data) aL m.stat.aE).heap.size->e.heap[t]?=(setW X (b a) (bs h.data) aL m.stat.aE).heap[t]?:=λt d3=>by rw[b1];exact XQ _ _ _ d3
     have e0:(setW X (b a) (bs h.data) aL m.stat.aE).heap.size<=e.heap.size:=by rw[b1];simp
     refine⟨b,f,[s],_,Q,b4.old b7,by simp,((ye.same r R H).trans b3).trans (ye.same b4 e0 b7),Xi ⟨_,A,by simp,?_,?_⟩⟩
     .have:=b3.size;omega
     rw[b1,<-d9];exact YN _ _
    have b6:=(a5 a m z).2;have:=Y q;unfold ub at l N⊢
    rw[q]at l N⊢
    rcases a3 with n|⟨n,u⟩
    .exact(Mb this l p (Xh n) ⟨b6.1,by omega⟩ N).mono D
    exact(Mb this l p (Xi ⟨n,u⟩) ⟨b6.1,by omega⟩ N).mono D
   rw[Xx q]
   have D:∀i e,Le (bs h.path) c i e->gN d b f O g c (.yes d h.path []) i e:=λi e⟨Q,y⟩=>⟨b,f,[],_,Q,by rw[YT];exact r.old y.block,by simp,ye.same r y.size y.block,Xh ⟨A,A⟩⟩
   rcases a3 with n|⟨n,u⟩
   .exact(GX T (fH o) (fH q) l p (Xh n)).mono D
   exact(GX T (fH o) (fH q) l p (Xi ⟨n,u⟩)).mono D
end
variable{a:M}{u:E}
abbrev EJ(f d:Xj)(O g b:E)(now aL kR:Xj)(e c:Xe):Xk Xe:=#[i64 f,i64 d,pt O 0,pt g 0,.map (C b),i64 now,i64 aL,i64 kR,e,c]
section
variable{g b:E}{f d now aL kR id h:Xj}{e c:Xe}
theorem JK(xo:a.heap[u]?=C (Xn (EJ f d O g b now aL kR e c) 98 (0,0)))(m:(Instr.lookup 96 (.map (C b)) (Xd K id) J).run TP a=.ok (.tuple #[Xd K h,.bool J]) a)
 {i:M}(n:(Instr.mapUpdate 96 (.map (C b)) (Xd K id) (Xd K now)).run TP a.drew=.ok () i):
 Calls TP 64 #[pt u 0,Xd K id] a λk l=>k=Xs (.bool J)/\l=i:=by
 have c4:=aa xo 4 A;have c5:=aa xo 5 A;go_enter Tryz.func64,Tryz.ntmps64
 go_wp2
 go_still_tail 9,(by kernel_rfl)
 go_wp2
 go_ret;simp
theorem Nf(xo:a.heap[u]?=C (Xn (EJ f d O g b now aL kR e c) 98 (0,0)))(l:(Instr.lookup 96 (.map (C b)) (Xd K id) J).run TP a=.ok (.tuple #[Xd K h,.bool Xf]) a):
 Calls TP 64 #[pt u 0,Xd K id] a λi k=>i=Xs (.bool Xf)/\k=a:=by
 have c4:=aa xo 4 A;go_enter Tryz.func64,Tryz.ntmps64
 go_wp2
 go_ret;simp
theorem EU(a:M):Calls TP 104 #[.nilIface] a λb c=>b=Xs (Xd K 0)/\c=a:=by
 go_enter Tryz.func104,Tryz.ntmps104
 go_wp2
 go_ret;simp
theorem LL(b:Xj)(a:M):(Instr.typeAssert (.iface 32 (Xd K b)) 65 32 J).run TP a=.ok (.tuple #[Xd K b,.bool J]) a:=by rfl
theorem EV(a:M)(b:Xj):Calls TP 104 #[.iface 32 (Xd K b)] a λc d=>c=Xs (Xd K b)/\d=a:=by
 have e:=LL b a;go_enter Tryz.func104,Tryz.ntmps104
 go_wp2
 go_ret;simp
end
variable{b:Xq}{U:Xe}{R:E}{s:E}{T:E}
abbrev oV(d f g h:Xj)(x r:XB)(t:Xo)(i k l m o p q:Xj)(a b:Xe):Xk Xe:=#[i64 d,i64 f,i64 g,i64 h,.string x,.string r,.bool t,i64 i,i64 k,i64 l,i64 m,i64 o,i64 p,i64 q,a,b]
theorem UI:∃a c,TP.underlying 43=C (.slice 38)/\(TP.info? 38=C a/\a.zero=C c/\a.size=16/\a.bytes<=1000/\c.cells.size=16/\0<16)/\∀d∈c.cells.toList,NB d:=by refine⟨_,_,A,⟨A,A,A,by decide,A,by decide⟩,?_⟩;intro d e s b;subst b;have:Xe.int .u8 s∈(oV 0 0 0 0 ⟨#[]⟩ ⟨#[]⟩ Xf 0 0 0 0 0 0 0 (Xm F 0 0) (Xm F 0 0)).toList:=e;simp at this
theorem xX{O:Xe->Prop}{size:E}{S:Xg Xe}{c:Oper}{d:Xu}{p:Xu->M->Prop}{r:Prop}(a4:c.guard=F)(q l:XJ)(n:Xq)
 (L:c.op=.call {callee:=.builtin .append,args:=#[q,l],argTypes:=#[n,n]})(W:d.eval q=U)(t:cr O a b size U R S){k:TypeInfo}{o:Xe}(X:TP.underlying n=C (.slice b))(e:TP.info? b=C k/\k.zero=C o/\k.size=size/\k.bytes<=1000/\o.cells.size=size/\0<size)(a0:∀l∈o.cells.toList,O l)
 {m:Xw}(Z:d.eval l=Xm (C m) s T)(f:Xg Xe)(y:f.length=s*size)(H:∀j g,f[j]?=C g->a.cell? (m.add j)=C g)(u:∀g∈f,g.oneCell'=J/\O g)(z:R+s<2^30)
 (next:∀h i,cr O i b size h (R+s) (S++f)->a.grownBy i U.ownBlock->kU a U h->p (d.put c.dst h) i):if Region.wanted c (yielded D d.tmps)=J then Oper.wp TP c d a p N else r:=by
 have Y:Region.wanted c (yielded D d.tmps)=J:=by grind [Region.wanted]
 rw[XC Y];obtain⟨h,i,Q,v,w,x⟩:=lW (y:=c.type) t X e.1 e.2.1 e.2.2.1 e.2.2.2.1 e.2.2.2.2.1 e.2.2.2.2.2 a0 m s T f y H u z;unfold Oper.wp execOp;simp only[L,resolve,invoke,builtin,Zp,aaN,q_,Zb,YG,Zl,W,Z,Q];exact next h i v w x
theorem JV(b:M)(V:Xk Xe)(c:Xq):∀(j:E) a,V.toList[j]?=C a->(b.alloc (.cells V c)).cell? ((⟨b.heap.size,0,F⟩:Xw).add j)=C a:=λj a d=>by grind [qe,heap_alloc_new,World.cell?]
theorem Rl{d f g h:Xj}{x r:XB}{t:Xo}{i k l m o p q:Xj}{H L:Xp Xw}{y c1 z c2:E}:∀a∈(oV d f g h x r t i k l m o p q (.slice H y c1) (.slice L z c2)).toList,a.oneCell'=J/\NB a:=by intro a c;simp only[oV,XV,Yd,YS]at c;rcases c with rfl|rfl|rfl|rfl|rfl|rfl|rfl|rfl|rfl|rfl|rfl|rfl|rfl|rfl|rfl|rfl<;>exact⟨A,λs b=>by cases b⟩
def Lu(u:E)(O:Xk Xe)(Q:Xe)(R:E)(S jf:Xg Xe)(a:M)(b:Ending)(d:M):Prop:=b=Xs (.tuple #[])/\a.heap.size<=d.heap.size/\(∀c,c<a.heap.size->c≠u->Q.ownBlock≠C c->d.heap[c]?=a.heap[c]?)/\
 ∃e,d.heap[u]?=C (Xn (O.setIfInBounds 8 e) 98 (0,0))/\cr NB d 38 16 e (R+1) (S++jf)/\kU a Q e
section
variable{O:Xk Xe}{Q:Xe}{S:Xg Xe}{d f g h:Xj}{x r:XB}{t:Xo}{i k l m o p q:Xj}{H L:Xp Xw}{y c1 z c2:E}
theorem Oi(xo:a.heap[u]?=C (Xn O 98 (0,0)))(a6:O[8]?=C Q)(N:cr NB a 38 16 Q R S)(f8:R<2^20):
 Calls TP 60 #[pt u 0,.agg (oV d f g h x r t i k l m o p q (.slice H y c1) (.slice L z c2))] a (Lu u O Q R S (oV d f g h x r t i k l m o p q (.slice H y c1) (.slice L z c2)).toList a):=by
 obtain⟨f9,g3,c7,b9,c8⟩:=UI;obtain⟨V,f5⟩:∃V,V=oV d f g h x r t i k l m o p q (.slice H y c1) (.slice L z c2):=by simp
 have a9:=(XN.1 xo).1
 have b0:Q.ownBlock≠C u:=λb=>by obtain⟨T,w,_⟩:=N.blk u b;simp_all
 obtain⟨n,b8⟩:∃n,a.alloc (.cells (oV d f g h x r t i k l m o p q (.slice H y c1) (.slice L z c2)) 38)=n:=by simp
 have D:∀e,e<a.heap.size->n.heap[e]?=a.heap[e]?:=by grind [Below.heap_alloc]
 have c:n.heap[a.heap.size]?=C (Xn (oV d f g h x r t i k l m o p q (.slice H y c1) (.slice L z c2)) 38 (0,0)):=by grind [heap_alloc_new]
 have b2:n.heap.size=a.heap.size+1:=by rw[<-b8];simp
 have s:=(D u a9).trans xo;have d3:=aa s 8 a6;have d7:=aa c 0 A;have d8:=aa c 1 A;have e5:=aa c 2 A;have e6:=aa c 3 A;have e7:=aa c 4 A;have e8:=aa c 5 A;have e9:=aa c 6 A;have f0:=aa c 7 A;have f1:=aa c 8 A;have f2:=aa c 9 A;have d9:=aa c 10 A;have e0:=aa c 11 A;have e1:=aa c 12 A;have e2:=aa c 13 A;have e3:=aa c 14 A;have e4:=aa c 15 A;have c6:=λc9=>(N.stay (w':=n.drew) λU a0=>D U (N.lt U a0)).alloc c9
 have a8:∀v,(n.drew.alloc (.cells (oV d f g h x r t i k l m o p q (.slice H y c1) (.slice L z c2)) 38)).grownBy v Q.ownBlock->∀e,e<a.heap.size->Q.ownBlock≠C e->v.heap[e]?=a.heap[e]?:=λv Y e X c0=>by rw[Y.block e (by show e<(n.heap.push _).size;simp;omega) (λb=>c0 b.symm),XQ _ _ _ (by show e<n.heap.size;omega)];exact D e X
 have KP:=Xl a8;have b3:=Xl xo;have d1:=Xl D;have b4:=Xl b0;have d0:=Xl N.lt;have b6:=Xl b2;have HC:=Xl a9;have f7:u<n.heap.size:=by omega
 have d4:(n.alloc (.cells (oV d f g h x r t i k l m o p q (.slice H y c1) (.slice L z c2)) 38)).cell? ⟨u,8,F⟩=C Q:=by simp_all [Yx]
 clear xo N b0 D c s b2 a8;go_enter Tryz.func60,Tryz.ntmps60
 go_wp2
 go_region_law (first|(refine xX rfl _ _ 43 rfl rfl (c6 _) c7 b9 c8 rfl (oV d f g h x r t i k l m o p q (.slice H y c1) (.slice L z c2)).toList rfl (JV n.drew _ _) Rl (by omega) ?_;intro g1 v a1 Z b1;obtain⟨d2,g0,d6,rfl⟩:=a1.slice;have s:=(KP.out v Z u HC.out b4.out).trans b3.out;have d5:=aa s 8 a6;have f3:=frozenAt s 8;have a2:=Xl s;have a3:=Xl Z;have b5:=Xl b1;have a4:=Xl a1;clear s b1 a1 Z))
 all_goals
  go_end0
  have a7:(n.drew.alloc (.cells (oV d f g h x r t i k l m o p q (.slice H y c1) (.slice L z c2)) 38)).heap.size=a.heap.size+2:=by show(n.heap.push _).size=_;simp;exact b6.out
  have f6:a.heap.size+2<=v.heap.size:=by rw[<-a7];exact a3.out.size
  refine⟨A,by grind [aS],λe X w b7=>?_,_,aA a2.out,?_,λa5 Y=>?_⟩
  .rw[ai w];exact KP.out v a3.out e X b7
  .refine a4.out.stay λU a0=>ai λb=>?_;obtain⟨T,w,_⟩:=a4.out.blk U a0;rw[b,a2.out]at w;cases w
  rcases b5.out a5 Y with W|W
  .exact Xh W
  have f4:a.heap.size+2<=a5:=by rw[<-a7];exact W
  omega
end
end Go.Sv
namespace Go.Sim
open Go.Conc Go.Proofs Go.RowKit
open Go.ConcN (PermW PermW.app PermW.of fork_knows WgLive RelBy sumTo)
open Go.ConcR (KK wgBlock WgAt stA smA rd wr mk DC0)
variable{c:Xe}{b:M}{d:M}{D:Xk Oper}{f:Oper}{e:Xu}{N:Exit->Xu->M->Prop}
section
variable[Inhabited aM]
def dI(rq:E->RV)(b:Xg E):Xg Xe:=b.flatMap λa:E=>(aP (a:Xj) (rq a)).toList
theorem gC(rq:E->RV):∀a:Xg E,(dI rq a).length=a.length*9
 |[]=>rfl
 |b::a=>by
  have:=gC rq a;unfold dI at this⊢
  rw[Zu,Yw,this];simp[aP];omega
theorem ni(rq:E->RV)(b:Xg E)(a:E):dI rq (b++[a])=dI rq b++(aP a (rq a)).toList:=by simp[dI]
theorem wI(rq:E->RV):∀(b:Xg E)(a j:E),j<9->a<b.length->(dI rq b)[a*9+j]?=(aP (b.getD a 0) (rq (b.getD a 0)))[j]?
 |[],a,j,_,c=>by simp at c
 |d::b,0,j,e,_=>by
  unfold dI;rw[Zu,Zw (by simp[aP];omega)];simp
 |d::b,a+1,j,e,c=>by
  have f:=wI rq b a j e (by simpa using c);unfold dI at f⊢
  rw[Zu,YP (by simp[aP];omega)];have g:(a+1)*9+j-(aP (↑d) (rq d)).toList.length=a*9+j:=by simp[aP];omega
  simp_all
def nY(g:E)(rq:E->RV)(a:Xg E)(c:Xe)(b:M):Prop:=
 (c=Xm F 0 0/\a=[])\/
 ∃f d e,c=Xm (C ⟨f,0,F⟩) a.length d/\g<=f/\b.heap[f]?=C (Xn e 107 (0,0))/\0<a.length/\a.length<=d/\d<=maxLen/\e.size=d*9/\e.toList.take (a.length*9)=dI rq a/\∀h∈e.toList,Calm h
theorem nY.kept{h:E}{rq:E->RV}{f:Xg E}(e:nY h rq f c b)(o:∀a,c.ownBlock=C a->d.heap[a]?=b.heap[a]?):nY h rq f c d:=by
 rcases e with e|⟨a,i,k,g,l,m,n⟩
 .exact Xh e
 exact Xi ⟨a,i,k,g,l,by rw[o a (by rw[g];rfl)];exact m,n⟩
theorem GV(i:Xj)(d:RV):∀f∈(aP i d).toList,Calm f:=by
 intro f c;have a:∀b,aR (λ_=>False) b->(∀k,b≠.int .u8 k)->Calm b:=λb g h=>⟨Xh g,h⟩;simp only[aP,XV,Yd,YS]at c;rcases c with rfl|rfl|rfl|rfl|rfl|rfl|rfl|rfl|rfl
 .exact a _ (.int _ _) (by simp)
 .exact a _ (.int _ _) (by simp)
 .exact a _ (.int _ _) (by simp)
 .exact a _ (.string _) (by simp)
 .exact a _ (.string _) (by simp)
 .exact a _ (.int _ _) (by simp)
 .exact a _ (.int _ _) (by simp)
 .exact a _ (.bool _) (by simp)
 cases l:d.oa with
 |none=>exact a _ (.aO _ _) (by simp)
 |some e=>exact⟨Xi trivial,by simp⟩
theorem Gy:TP.underlying 103=C (.slice 107):=A
theorem PN:∃a b,TP.info? 107=C a/\a.zero=C b/\a.size=9/\a.bytes<=1000/\b.cells=#[Xd K 0,Xd K 0,Xd K 0,.string XB.empty,.string XB.empty,Xd K 0,Xd K 0,.bool Xf,Xm F 0 0]:=by refine⟨_,_,A,A,A,by decide,A⟩
theorem Jf:∀c,∀g∈(Builtin.zeroCells #[Xd K 0,Xd K 0,Xd K 0,.string XB.empty,.string XB.empty,Xd K 0,Xd K 0,.bool Xf,Xm F 0 0] c).toList,Calm g:=by
 intro c g e;have a:∀d,aR (λ_=>False) d->(∀c,d≠.int .u8 c)->Calm d:=λd h i=>⟨Xh h,i⟩;unfold Builtin.zeroCells at e;simp only[aaA,YB]at e;obtain⟨f,_,rfl⟩:=e;have k:f%9<9:=by omega
 generalize f%9=b at k;rcases(by omega:b=0\/b=1\/b=2\/b=3\/b=4\/b=5\/b=6\/b=7\/b=8)with rfl|rfl|rfl|rfl|rfl|rfl|rfl|rfl|rfl
 .exact a _ (.int _ _) (by simp)
 .exact a _ (.int _ _) (by simp)
 .exact a _ (.int _ _) (by simp)
 .exact a _ (.string _) (by simp)
 .exact a _ (.string _) (by simp)
 .exact a _ (.int _ _) (by simp)
 .exact a _ (.int _ _) (by simp)
 .exact a _ (.bool _) (by simp)
 exact a _ (.aO _ _) (by simp)
theorem sK{n:E}{rq:E->RV}{e:Xg E}{a m:E}{O:E×E}(o:Xq)(Q:nY n rq e c b)(a2:b.heap[m]?=C (Xn (aP a (rq a)) 107 O))(a8:e.length<2^30)(a0:n<=b.heap.size):
 ∃x d,(Builtin.append_ #[103,103] o #[c,Xm (C ⟨m,0,F⟩) 1 1]).run TP b=.ok x d/\nY n rq (e++[a]) x d/\b.grownBy d c.ownBlock/\∀f,x.ownBlock=C f->c.ownBlock=C f\/b.heap.size<=f:=by
 obtain⟨l,p,s,N,v,W,a3⟩:=PN;have u:∀j i,(aP a (rq a)).toList[j]?=C i->b.cell? ((⟨m,0,F⟩:Xw).add j)=C i:=by grind [Addr.add,World.cell?]
 have r:(aP a (rq a)).toList.length=1*l.size:=by rw[v];rfl
 have z:∀(old:E),old<e.length+1->∀row:Xp E,
  nY n rq (e++[a]) (Xm (C ⟨b.heap.size,0,F⟩) (e.length+1) (grownCap b (e.length+1) old 107)) (b.drew.alloc (.cells ((dI rq e).toArray++(aP a (rq a))++Builtin.zeroCells p.cells (grownCap b (e.length+1) old 107-(e.length+1))) 107))/\
  b.grownBy (b.drew.alloc (.cells ((dI rq e).toArray++(aP a (rq a))++Builtin.zeroCells p.cells (grownCap b (e.length+1) old 107-(e.length+1))) 107)) row:=by
  intro old a9 row;have a7:=aau b (e.length+1) old 107;have X:=D_ b (e.length+1) old 107 (by grind [maxLen]);have Z:(e++[a]).length=e.length+1:=by simp
  refine⟨Xi ⟨b.heap.size,_,_,by rw[Z],a0,Yn b.drew _,by omega,by omega,X,?_,?_,?_⟩,⟨A,A,A,by simp,λa t _=>aao b.drew _ t⟩⟩
  .rw[a3];simp only[p_,Yt,aba,gC];have:(aP a (rq a)).size=9:=A;simp;omega
  .have y:(dI rq e).toArray.toList++(aP a (rq a)).toList=dI rq (e++[a]):=by rw[ni]
   grind [gC]
  intro b1 a2
  grind [dI,GV,Jf]
 have b0:(aP a (rq a)).toList.toArray=aP a (rq a):=A;rcases Q with⟨rfl,rfl⟩|⟨f,h,q,rfl,R,D,a4,a5,S,H,T,a6⟩
 .have k:=run_append_nil (P:=TP) b 103 o 107 l p Gy s N ⟨m,0,F⟩ 1 1 _ r u (by omega) (by omega) (by omega);have g:=z 0 (by omega) (Xe.ownBlock (Xm F 0 0));exact⟨_,_,k,g.1,g.2,λf g=>by cases g;simp⟩
 by_cases L:e.length+1<=h
 .have Y:e.length*l.size+(aP a (rq a)).toList.length<=q.size:=by
   rw[v,H];show e.length*9+9<=h*9;omega
  have k:=run_append_room (P:=TP) b 103 o 107 l Gy s f e.length h q D ⟨m,0,F⟩ 1 1 _ r u (by
   intro i w;simp only[aP,XV,Yd,YS]at w
   rcases w with rfl|rfl|rfl|rfl|rfl|rfl|rfl|rfl|rfl<;>rfl) L Y
  rw[v]at k;refine⟨_,_,k,Xi ⟨f,h,_,by simp,R,ZY b f q _ 107 _ D,by simp,by simpa using L,S,?_,?_,?_⟩,⟨A,A,A,by simp,λa _ t=>ZD b f a _ (λy=>t (by simp[Xe.ownBlock,y]))⟩,λf g=>Xh g⟩
  .have U:(aP a (rq a)).toList.length=9:=A;simp only[Yt,Yw,Zy,aay,aae,H,U];omega
  .rw[T,<-ni];exact aab (by rw[gC])
  grind [GV]
 have a1:∀j i,(dI rq e)[j]?=C i->b.cell? ((⟨f,0,F⟩:Xw).add j)=C i:=λj i w=>by grind [Addr.add,World.cell?]
 have k:=run_append_grow (P:=TP) b 103 o 107 l p Gy s N ⟨f,0,F⟩ e.length h (dI rq e) (by grind) a1 ⟨m,0,F⟩ 1 1 _ r u (by omega) (by omega) (growslice_fits (by omega) (by
  have:(e.length+1)*l.bytes<=1073741824*1000:=aap (by omega) W
  omega))
 have g:=z h (by omega) (Xe.ownBlock (Xm (C ⟨f,0,F⟩) e.length h));exact⟨_,_,k,g.1,g.2,λf g=>by cases g;simp⟩
theorem oh{l:Xg Oper}{k:E}{rq:E->RV}{g:Xg E}{i o:E}{p:E×E}(w:f.guard=F)(m n:XJ)
 (z:f.op=.call {callee:=.builtin .append,args:=#[m,n],argTypes:=#[103,103]})(L:e.eval m=c)(O:e.eval n=Xm (C ⟨o,0,F⟩) 1 1)
 (q:nY k rq g c b)(v:b.heap[o]?=C (Xn (aP i (rq i)) 107 p))(y:g.length<2^30)(x:k<=b.heap.size)
 (next:∀a d,nY k rq (g++[i]) a d->b.grownBy d c.ownBlock->(∀h,a.ownBlock=C h->c.ownBlock=C h\/b.heap.size<=h)->wpList TP D N l (e.put f.dst a) d):wpList TP D N (f::l) e b:=by
 refine wpList_plain w λQ u=>?_;obtain⟨a,d,H,r,s,t⟩:=sK f.type q v y x;unfold Oper.wp execOp;simp only[z,resolve,invoke,builtin,Zp,aaN,q_,Zb,YG,Zl,L,O,H];exact u _ _ (next a d r s t)
variable{a:M}{h:Set}{m:Ren}{q:M}{P:Xy}{z:dB}{f:E->Prop}{d:Xt}{s:E}{u:E}{e:E}
def gd(a b:M)(c:E):Prop:=b.heap[c]?=a.heap[c]?\/∃d e f g,aT d/\a.heap[c]?=C (Obj.cells d e f)/\b.heap[c]?=C (Obj.cells d e g)
theorem gd.trans{x y:M}{o:E}(r:gd a x o)(g:gd x y o):gd a y o:=by
 rcases r with r|⟨i,n,k,p,l,t,v⟩
 .rcases g with g|⟨i,n,k,p,l,t,v⟩
  .exact Xh (g.trans r)
  exact Xi ⟨i,n,k,p,l,by simp_all,v⟩
 rcases g with g|⟨c2,O,L,D,N,w,H⟩
 .exact Xi ⟨i,n,k,p,l,t,by simp_all⟩
 rw[v]at w;cases w;exact Xi ⟨i,n,k,D,l,t,H⟩
structure gK(own i:E->Prop)(a b:M):Prop where
 size:a.heap.size<=b.heap.size
 keep:∀g,g<a.heap.size->¬own g->gd a b g
 more:∀g,i g->own g\/a.heap.size<=g
theorem gK.refl(own:E->Prop)(a:M):gK own own a a:=⟨XS _,λ_ _ _=>Xh A,λ_ b=>Xh b⟩
theorem gK.trans{own r t:E->Prop}{v w:M}(i:gK own r a v)(n:gK r t v w):gK own t a w where
 size:=XZ i.size n.size
 keep:=λg l p=>(i.keep g l p).trans (n.keep g (XY l i.size) λk=>by
  rcases i.more g k with o|o
  .exact p o
  omega)
 more:=λg l=>by
  rcases n.more g l with k|k
  .exact i.more g k
  exact Xi (XZ i.size k)
theorem gK.free{own e:E->Prop}(f:gK own e a b){c:E}(i:c<a.heap.size)(h:¬own c):¬e c:=λg=>by
 rcases f.more c g with d|d
 .exact h d
 omega
theorem aH.qQ{own d:E->Prop}(c:aH own d a b):gK own d a b:=⟨c.size,λe f g=>Xh (c.keep e f g),c.more⟩
structure OW(own use:E->Prop)(a b:M):Prop where
 size:a.heap.size<=b.heap.size
 own:∀g,own g->b.heap[g]?=a.heap[g]?
 use:∀g,use g->(b.heap[g]?).map Obj.whole=(a.heap[g]?).map Obj.whole
theorem wJ{own e:E->Prop}(g:∀c,own c\/e c->c<a.heap.size)(h:a.heap.size<=b.heap.size)(f:∀c,c<a.heap.size->b.heap[c]?=a.heap[c]?):OW own e a b:=⟨h,λc d=>f c (g c (Xh d)),λc d=>by simp_all⟩
def il(c d:E->Prop)(b:E):Prop:=∀a,d a->c a\/b<=a
theorem il.trans{n o p:E->Prop}{g l:E}(r:il n o g)(t:il o p l)(w:g<=l):il n p g:=λi v=>by
 rcases t i v with k|k
 .exact r i k
 omega
structure nB(own:E->Prop)(a b:M):Prop where
 size:b.heap.size=a.heap.size
 os:b.os=a.os
 blk:∀g,b.heap[g]?=a.heap[g]?\/own g/\∃i k r o,a.heap[g]?=C (Obj.cells i r o)/\b.heap[g]?=C (Obj.cells k r o)/\k.size=i.size/\∀(p:E) c n,i[p]?=C c->k[p]?=C n->n=c\/(n=.tuple #[]/\bO c)
theorem Aa{b:Xe}(d:an h m c b)(a:bO c):bO b:=by
 cases d with
 |bS=>exact a.elim
 |ptr=>trivial
 |slice=>trivial
 |map=>trivial
 |chan=>trivial
 |func e=>cases e with
  |func=>trivial
  |yield=>trivial
 |int=>exact a
 |_=>exact a.elim
theorem aV.forget{own:E->Prop}(f:aV h m a q)(l:nB own a b):aV h m b q where
 inj:=f.inj
 obj:=λg p x=>by
  obtain⟨T,U,i,v,w⟩:=f.obj g p x;rcases l.blk g with Q|⟨_,e,O,L,R,r,s,t,u⟩
  .simp_all
  rw[r]at i;cases i;cases w with
  |cells _ k H=>
  refine⟨_,_,s,v,.cells L ⟨t.trans k.1,λd c N z D=>?_⟩ H⟩;have n:d<e.size:=by grind
  have o:=k.2 d e[d] N (XP n) D;rcases u d e[d] c (XP n) z with rfl|⟨rfl,y⟩
  .exact o
  exact .bS (Aa o y)
 os:=l.os.trans f.os
theorem BS{i:cZ}{l:Xp dm}{own:E->Prop}(k:nB own a b)(w:∀c,f c->¬own c)(next:(goalAt P i l z h f).G m b d):(goalAt P i l z h f).G m a d:=by
 intro g o q sl u n e;refine next g o q sl u n ⟨e.ok.bg A rfl rfl,e.bF,?_,e.me,e.hears⟩
 have:=e.bg;refine⟨this.base,this.rel.forget k,λc s=>?_,this.dv,this.dV,this.low⟩;obtain⟨t,p,r⟩:=this.cO c s;rcases k.blk c with g|⟨v,_⟩
 .exact⟨t,by rw[g];exact p,r⟩
 simp_all
structure Lx(y k:E->Prop)(look:E->LR)(v u D e:E)(rq:E->RV)(a:M):Prop where
 xt:∀g,k g->(∃o H p,a.heap[g]?=C (Xn o H p)/\0<o.size/\p.2<=o.size/\¬aT o/\∀(t:E) c,o[t]?=C c->aR k c)\/∃w l,a.heap[g]?=C (.map w l)/\∀r∈w.toList,aR k r.key/\aR k r.val
 TA:k v
 hc:∃i L p,a.heap[u]?=C (Xn i L p)/\p.2<=i.size/\i[1]?=C (Xd K D)/\i[2]?=C (pt v 0)/\¬aT i/\∀(t:E) c,i[t]?=C c->IM c
 look:∀l,l<e->∀n:M,(∀g,k g\/y g->n.heap[g]?=(a.heap[g]?).map Obj.whole)->a.heap.size<=n.heap.size->Calls TP 58 #[pt v 0,.string (rq l).path] n λr b=>∃x,r=Xs (.tuple #[.agg x,(look l).ev])/\cf (look l) n.heap.size x b/\Below n.heap.size n b
structure HC{r:Type}(St:r->(E->Prop)->(E->Prop)->M->Prop)(w:r->E->Xe->(E->Prop)->(E->Prop)->M->Prop)(rd O:r->E->r)(look:r->E->LR)(R:E->Prop)(u x e:E)(rq:E->RV)(v:E->Xo)(D:E->Xe)(cnt:r->E):Prop where
 UZ:∀i g,cnt (rd i g)=cnt i+1
 RZ:∀i g,cnt (O i g)=cnt i+1
 sm:∀i own k a b,OW own k a b->St i own k a->St i own k b
 lt:∀i own k a,St i own k a->∀l,own l\/k l->l<a.heap.size
 En:∀i own k a,St i own k a->∀l,own l->∀L T S,a.heap[l]?=C (Xn L T S)->¬aT L
 pre:∀i own k a,St i own k a->∃b H U,nB own a b/\St i own k b/\(∀l,H l->own l)/\Lx R H (look i) U u x e rq b
 ev:∀i g,Plain (look i g).ev
 Ws:∀i g j,look (rd i g) j=look i j
 mh:∀i g n own k(a b:M),b.heap=a.heap->w i g n own k a->w i g n own k b
 Ro:∀i g,g<e->v g=J->cnt i=g->∀own k a N y,St i own k a->cf (look i g) N y a->nC own y->Calls TP 61 #[pt u 0,.agg (aP g (rq g)),.agg (y.push (look i g).ev)] a λt b=>∃n o p,t=Xs n/\w i g n o p b/\aH own o a b/\il k p (min N a.heap.size)
 snd:∀i g,g<e->v g=J->cnt i=g->∀n own k a,w i g n own k a->Calls TP 60 #[pt u 0,n] a λt b=>∃o p,t=Xs (.tuple #[])/\St (rd i g) o p b/\aH own o a b/\il k p a.heap.size
 one:∀i g,g<e->v g=Xf->cnt i=g->∀own k a,St i own k a->Calls TP 40 #[pt u 0,D g] a λt b=>∃o p,t=Xs (.tuple #[])/\St (O i g) o p b/\aH own o a b/\il k p a.heap.size
 yes:∀g,g<e->v g=J->D g=.iface 107 (.agg (aP g (rq g)))
 no:∀g,g<e->v g=Xf->∃Q W,D g=.iface Q W/\Q≠107
 Ib:1<=x/\x<2^16
 small:e<2^20
theorem yJ{b:Type}{rd:b->E->b}{look:b->E->LR}(d:∀a e j,look (rd a e) j=look a j)(j:E):∀(c:Xg E)(a:b),look (c.foldl rd a) j=look a j
 |[],_=>rfl
 |e::c,a=>by rw[ZW,yJ d j c,d]
theorem nA.same{own k:E->Prop}(g:nA a b)(l:∀c,own c\/k c->c<a.heap.size)(q:∀c,own c->∀d i f,a.heap[c]?=C (Obj.cells d i f)->¬aT d):OW own k a b where
 size:=g.1
 own:=λc h=>by
  rcases g.2 c (l c (Xh h))with e|⟨d,i,f,n,o,m,_⟩
  .exact e
  grind
 use:=λc h=>by
  rcases g.2 c (l c (Xi h))with e|⟨d,i,f,n,o,m,p⟩
  .rw[e]
  rw[m,p];rfl
theorem mP{a:Xg E}(b:s<a.length):a.getD s 0∈a:=by simp_all
theorem qi{c:Type}{rd:c->E->c}{cnt:c->E}(d:∀a e,cnt (rd a e)=cnt a+1):∀(b:Xg E)(a:c),cnt (b.foldl rd a)=cnt a+b.length
 |[],_=>rfl
 |e::b,a=>by rw[ZW,qi d b,d,Yl];omega
theorem DG{S:Type}{St:S->(E->Prop)->(E->Prop)->M->Prop}{b4:S->E->Xe->(E->Prop)->(E->Prop)->M->Prop}{rd f9:S->E->S}{look:S->E->LR}{b5:E->Prop}{c7:E}{rq:E->RV}{c6:E->Xo}{g7:E->Xe}{cnt:S->E}
 (p:HC St b4 rd f9 look b5 u c7 e rq c6 g7 cnt){b3:cZ}(e1:kg b3 f){own v:E->Prop}{o:S}{g:Xg E}{a5:Xe}{f7:E}(e2:St o own v a)(f0:nY f7 rq g a5 a)(e8:∀d,a5.ownBlock=C d->¬own d)
 (Y:∀c∈g,c<e/\c6 c=J)(e4:∀s,s<g.length->g.getD s 0=cnt o+s)(h5:g.length<=e)(f4:∀i,b5 i->f i)(e9:∀i,f i->¬own i)
 (KX:∀i,f i->∃r b1,a.heap[i]?=C (Xn r b1 (0,r.size))/\0<r.size/\(∀(a4:E) c,r[a4]?=C c->aR f c)/\¬aT r)(Io:∀d,(0<d\/d=TP.globals.size)->d<=TP.globals.size->f d):
 ∃b,nB own a b/\Co (goalAt TP b3 F z al f) 39 #[pt u 0,a5] b λb2 c9=>b2=.tuple #[]/\∃U W,St (g.foldl rd o) U W c9/\gK own U a c9/\il v W a.heap.size:=by
 obtain⟨b,d3,g1,Z,a2,h7,a1⟩:=p.pre o own v a e2
 have e3:∀i,¬own i->b.heap[i]?=a.heap[i]?:=λi w=>by
  rcases Z.blk i with H|⟨L,_⟩
  .exact H
  simp_all
 refine⟨b,Z,?_⟩
 obtain⟨X,a8,rfl,b8⟩:∃X a8,a5=.slice X g.length a8/\(X=F/\g.length=0\/∃a6 c8 r g2 b6,X=C ⟨a6,c8,F⟩/\b.heap[a6]?=C (Xn r g2 b6)/\0<r.size/\b6.2<=r.size/\(∀(a4:E) c,r[a4]?=C c->Calm c)/\¬own a6/\∀D,D<g.length->∀j,j<9->r[c8+D*9+j]?=(aP (g.getD D 0:E) (rq (g.getD D 0)))[j]?):=by
  rcases f0 with⟨rfl,rfl⟩|⟨d,d5,d7,rfl,N,T,b7,g9,h0,h1,h2,h3⟩
  .simp
  have e5:=e8 d A;refine⟨_,d5,A,Xi ⟨d,0,d7,107,(0,0),A,by simp_all,by omega,YA _,λa4 c h6=>?_,e5,λD a7 j e6=>?_⟩⟩
  .grind
  have H:=wI rq g D j e6 a7
  grind
 have f1:∀s,s<g.length->(g.take (s+1)).foldl rd o=rd ((g.take s).foldl rd o) (g.getD s 0):=λs t=>by simp_all [K_]
 have c0:∀s,s<g.length->cnt ((g.take s).foldl rd o)=g.getD s 0:=λs t=>by rw[qi p.UZ,e4 s t,Zy];omega
 have P:QW (λs n l=>∃k,(St ((g.take s).foldl rd o) n k l/\a.heap.size<=l.heap.size)/\il v k a.heap.size) f d3 b (λs=>look o (g.getD s 0)) (λs=>(g.getD s 0:E)) (λs=>rq (g.getD s 0)) own u g1 g.length a8 c7 X:={
  KX:=λi w=>by simp_all
  Io:=Io
  xt:=a1.xt
  TA:=a1.TA
  hc:=a1.hc
  hA:=b8
  small:=by have:=p.small;omega
  Ib:=p.Ib
  ev:=λD=>p.ev _ _
  look:=λD a7 l f3 x=>a1.look (g.getD D 0) (Y _ (mP a7)).1 l (λi w=>f3 i (w.imp id (f4 i))) x
  init:=λR b9=>⟨v,⟨p.sm o own v b R (b9.same (p.lt o own v b a2) (p.En o own v b a2)) a2,by rw[<-Z.size];exact b9.1⟩,λi L=>Xh L⟩
  Wv:=λi w=>p.lt o own v b a2 i (Xh w)
  Ww:=e9}
 have d0:Lw (λs n l=>∃k,(St ((g.take s).foldl rd o) n k l/\a.heap.size<=l.heap.size)/\il v k a.heap.size) (λs Q n l=>∃k,(b4 ((g.take s).foldl rd o) (g.getD s 0) Q n k l/\a.heap.size<=l.heap.size)/\il v k a.heap.size) u g.length b.heap.size (λs=>(g.getD s 0:E)) (λs=>rq (g.getD s 0)) (λs=>look o (g.getD s 0)):={
  Ro:=λs t n l g0⟨k,⟨O,x⟩,y⟩ N T=>by have a3:=p.Ro ((g.take s).foldl rd o) (g.getD s 0) (Y _ (mP t)).1 (Y _ (mP t)).2 (c0 s t) n k l b.heap.size g0 O;rw[yJ p.Ws]at a3;exact(a3 N T).mono λH R⟨Q,U,W,q1,a9,a0,b0⟩=>⟨Q,U,q1,⟨W,⟨a9,XZ x a0.size⟩,y.trans b0 (by rw[Z.size];omega)⟩,a0⟩
  snd:=λs t Q n l⟨k,⟨O,x⟩,y⟩=>by have a3:=p.snd ((g.take s).foldl rd o) (g.getD s 0) (Y _ (mP t)).1 (Y _ (mP t)).2 (c0 s t) Q n k l O;rw[f1 s t];exact a3.mono λH R⟨U,W,q1,a9,a0,b0⟩=>⟨U,q1,⟨W,⟨a9,XZ x a0.size⟩,y.trans b0 x⟩,a0⟩
  sg:=λs n l R O N⟨k,⟨T,x⟩,y⟩=>⟨k,⟨p.sm _ n k l R (wJ (p.lt _ n k l T) N O) T,XZ x N⟩,y⟩
  sl:=λs n l⟨k,⟨L,_⟩,_⟩ i w=>p.lt _ n k l L i (Xh w)
  mh:=λs Q n l R H⟨k,⟨L,x⟩,y⟩=>⟨k,⟨p.mh _ _ Q n k l R H L,by simp_all⟩,y⟩}
 intro m d4 r d6 d1 w next
 refine Qy P d0 e1 m d4 r d6 d1 w λg6 b2 g3 g5 d2 e0 f2⟨n,g4,O,N,⟨k,⟨T,_⟩,y⟩,b7⟩=>next g6 b2 g3 g5 d2 e0 f2 ⟨O,n,k,?_,?_,y⟩
 .grind
 have f8:gK own own a g4:=⟨by rw[<-Z.size];exact N.1,λi w e7=>by
  rcases N.2 i (by grind)with H|⟨r,b1,d8,d9,f5,h9,f6⟩
  .exact Xh (H.trans (e3 i e7))
  exact Xi ⟨r,b1,d8,d9,f5,by grind,f6⟩,λi L=>Xh L⟩
 exact f8.trans b7.qQ
end
end Go.Sim
namespace Go.Sv
open Go.MapKept Go.Proofs Go.RowKit Go.Lib Go.WideShapes Go.Sort Go.Sim Wt
variable{u:E}{y:cN}{d:M}{w':M}{e:Xe}{g:Out}{b:E}{m:E}{l:E}{j:E}{S:Xk XH}
structure fG where
 tb:E
 nb:Path->E
 mb:Path->E
 tw:E
 mw:E
 f:Xe->Xp Xe
 hb:E
 ov:Xe
 vs:Xg (Xe×Xe)
def OU(a:Xe):Prop:=∃m,a=Xd K m
def fL(b:Xg (Xj×Xj)):Xe->Xp Xe
 |Xd K m=>(b.find? λa=>decide (a.1=m)).map λa=>i64 a.2
 |_=>F
def eY(a:Xg B)(e:Xe)(d:M):Prop:=(e=Xm F 0 0/\a=[])\/∃f c b h g,e=Xm (C ⟨f,0,F⟩) a.length c/\d.heap[f]?=C (Xn b h g)/\a.length<=c/\c<=b.size/\∀(l:E) y,a[l]?=C y->b[l]?=C (.string (bs y))
def sZ(b:Xg (Xj×B))(e:Xe)(d:M):Prop:=(e=Xm F 0 0/\b=[])\/∃g c a i h,e=Xm (C ⟨g,0,F⟩) b.length c/\d.heap[g]?=C (Xn a i h)/\b.length<=c/\c*2<=a.size/\∀(l:E) f,b[l]?=C f->a[l*2]?=C (i64 f.1)/\a[l*2+1]?=C (.string (bs f.2))
def jX(g:Out)(e:Xe×Xe)(d:M):Prop:=eY g.names e.1 d/\sZ g.results e.2 d
def iC(g:Out)(e:Xe×Xe):Xk Xe:=oV g.ak g.ev g.idx g.err (bs g.path) (bs g.data) g.found g.stat.made g.stat.set g.stat.aE g.stat.ez g.stat.own g.stat.size g.stat.kids e.1 e.2
def gB(h:Xg Out)(b:Xg (Xe×Xe)):Xg Xe:=(h.zip b).flatMap λa=>(iC a.1 a.2).toList
def aI(u:E)(a:Tree)(c:fG)(b:E):Prop:=b=u\/pJ a c.nb c.mb c.tb b\/eF c.tw c.mw c.f b\/b=c.hb\/c.ov.ownBlock=C b
def dw(c:fG)(b:E):Prop:=b=1\/b=4\/∃e∈c.vs,e.1.ownBlock=C b\/e.2.ownBlock=C b
def Vl(e:Xe):Prop:=e=.tuple #[]\/∃b m a,e=.slice b m a
structure aK(u:E)(k:Xj)(y:cN)(outs:Xg Out)(c:fG)(d:M):Prop where
 tree:bw y.tree c.nb c.mb d
 top:∃i,Vl i/\d.heap[c.tb]?=C (Xn #[pt (c.nb []) 0,Xd K y.tree.length,i] 195 (0,0))
 wf:WF y.tree
 cd:dK y.cd c.tw c.mw c.f d
 jB:∃S a,d.heap[c.hb]?=C (.map S a)/\Mp OU S a (fL y.dE)
 ch:d.heap[u]?=C (Xn (EJ y.timeout k c.tb c.tw c.hb y.now y.aL y.next c.ov .nilFunc) 98 (0,0))
 row:cr NB d 38 16 c.ov outs.length (gB outs c.vs)
 outs:outs.length=c.vs.length/\∀(f:E) g e,outs[f]?=C g->c.vs[f]?=C e->jX g e d
 bF:(∃n,d.cell? ⟨1,0,F⟩=C (Xd K n))/\uQ d/\4<d.heap.size
 jc:∃jc:E->E,(∀b,pJ y.tree c.nb c.mb c.tb b->jc b=0)/\(∀b,eF c.tw c.mw c.f b->jc b=1)/\jc c.hb=2/\jc u=3/\(∀b,c.ov.ownBlock=C b->jc b=4)/\∀b,dw c b->jc b=5
theorem IC:TP.underlying 96=C (.map 3 3):=A
theorem VW:TP.underlying 3=C (.int K):=A
theorem MW:Et TP 3 OU:=MX VW
theorem US(d:M):(zeroValue 3).run TP d=.ok (Xd K 0) d:=A
section
variable{k:Xj}{h:Xg Out}{c:fG}
theorem eY.stay{n:Xg B}(f:eY n e d)(r:∀b,e.ownBlock=C b->(w'.heap[b]?).map Sim.Obj.whole=(d.heap[b]?).map Sim.Obj.whole):eY n e w':=by
 rcases f with f|⟨a,o,s,z,w,rfl,p,q⟩
 .exact Xh f
 have:=r a A;rw[p]at this;cases i:w'.heap[a]? with
 |none=>simp_all
 |some g=>
  rw[i]at this;cases g with
  |cells t x v=>obtain⟨rfl,rfl,_⟩:=this;exact Xi ⟨a,o,_,_,_,A,i,q⟩
  |_=>simp[Sim.Obj.whole]at this
theorem sZ.stay{n:Xg (Xj×B)}(f:sZ n e d)(r:∀b,e.ownBlock=C b->(w'.heap[b]?).map Sim.Obj.whole=(d.heap[b]?).map Sim.Obj.whole):sZ n e w':=by
 rcases f with f|⟨a,o,s,z,w,rfl,p,q⟩
 .exact Xh f
 have:=r a A;rw[p]at this;cases i:w'.heap[a]? with
 |none=>simp_all
 |some g=>
  rw[i]at this;cases g with
  |cells t x v=>obtain⟨rfl,rfl,_⟩:=this;exact Xi ⟨a,o,_,_,_,A,i,q⟩
  |_=>simp[Sim.Obj.whole]at this
theorem jX.lt{e:Xe×Xe}(f:jX g e d)(a:e.1.ownBlock=C b\/e.2.ownBlock=C b):b<d.heap.size:=by
 rcases a with a|a
 .rcases f.1 with⟨c,_⟩|⟨l,i,h,n,k,c,m,_⟩
  .rw[c]at a;cases a
  rw[c]at a;cases a;grind
 rcases f.2 with⟨c,_⟩|⟨l,i,h,n,k,c,m,_⟩
 .rw[c]at a;cases a
 rw[c]at a;cases a;grind
theorem aK.iY(a:aK u k y h c d)(f:dw c b):b<d.heap.size:=by
 have n:=a.bF.2.2;rcases f with rfl|rfl|⟨e,m,f⟩
 .omega
 .omega
 obtain⟨g,i⟩:=k_.1 m;have l:g<h.length:=by rw[a.outs.1];grind
 exact(a.outs.2 g _ e (Yy l) i).lt f
theorem aK.bj(f:aK u k y h c d)(a:aI u y.tree c b):b<d.heap.size:=by
 rcases a with rfl|a|a|rfl|a
 .exact(XN.1 f.ch).1
 .rcases a with rfl|⟨o,i,rfl|rfl⟩
  .obtain⟨p,_,a⟩:=f.top
   grind
  .exact(f.tree.lt i).1
  exact(f.tree.lt i).2
 .exact f.cd.lt a
 .obtain⟨S,n,a,_⟩:=f.jB
  grind
 exact f.row.lt b a
theorem aK.same(f:aK u k y h c d)(a:OW (aI u y.tree c) (dw c) d w'):aK u k y h c w' where
 tree:=f.tree.stay λp o=>⟨a.own _ (Xi (Xh (Xi ⟨p,o,Xh A⟩))),a.own _ (Xi (Xh (Xi ⟨p,o,Xi A⟩)))⟩
 top:=by obtain⟨w,n,l⟩:=f.top;exact⟨w,n,by rw[a.own _ (.inr (.inl (.inl A)))];exact l⟩
 wf:=f.wf
 cd:=f.cd.stay λb i=>a.own b (Xi (Xi (Xh i)))
 jB:=by rw[a.own _ (.inr (.inr (.inr (.inl A))))];exact f.jB
 ch:=by rw[a.own _ (.inl A)];exact f.ch
 row:=f.row.stay λb i=>a.own b (Xi (Xi (Xi (Xi i))))
 outs:=⟨f.outs.1,λs g e n l=>by
  have:=f.outs.2 s g e n l;have m:=Yj l
  exact⟨this.1.stay λb i=>a.use b (Xi (Xi ⟨e,m,Xh i⟩)),this.2.stay λb i=>a.use b (Xi (Xi ⟨e,m,Xi i⟩))⟩⟩
 bF:=by
  obtain⟨⟨t,m⟩,l,r⟩:=f.bF;refine⟨⟨t,?_⟩,l.stay (a.use 4 (Xi (Xh A))),XY r a.size⟩;have:=a.use 1 (Xh A);unfold M.cell? at m⊢
  cases n:d.heap[1]? with
  |none=>simp_all
  |some g=>
   rw[n]at m this;cases g with
   |cells x N H=>
    cases q:w'.heap[1]? with
    |none=>simp_all
    |some v=>
     rw[q]at this;cases v with
     |cells z O L=>simp_all [Sim.Obj.whole]
     |_=>simp[Sim.Obj.whole]at this
   |_=>simp at m
 jc:=f.jc
theorem aK.old(a:aK u k y h c d)(n:d.heap.size<=w'.heap.size)(f:∀b,b<d.heap.size->w'.heap[b]?=d.heap[b]?):aK u k y h c w':=
 haveI:Inhabited aM:=⟨⟨d,λ_=>True⟩⟩;a.same (wJ (λb i=>i.elim a.bj a.iY) n f)
theorem Ci{jc:E->E}{a c:E->Prop}(d:∀b,a b->jc b=l)(f:∀b,c b->a b\/m<=b):∀b,c b->(if b<m then jc b else l)=l:=λb e=>by grind
theorem fD{jc:E->E}{a:E->Prop}(f:∀b,a b->jc b=j)(n:∀b,a b->b<m):∀b,a b->(if b<m then jc b else l)=j:=λb i=>by simp_all
theorem aK.watched(f:aK u k y h c d){w:Xo->B->Xg Xj}{p:Xe->Xp Xe}(z:dK w c.tw c.mw p w')(m:aH (eF c.tw c.mw c.f) (eF c.tw c.mw p) d w'):
 aK u k {y with cd:=w} h {c with f:=p} w'/\aH (aI u y.tree c) (aI u y.tree {c with f:=p}) d w':=by
 obtain⟨jc,Q,R,T,U,W,X⟩:=f.jc;have N:∀b,jc b≠1->¬eF c.tw c.mw c.f b:=by grind
 have kp:=λb a o=>m.keep b a (N b o);have s:=λb a=>kp b (f.bj (Xi (Xh a))) (by simp_all);have r:=λb a=>kp b (f.iY a) (by simp_all);refine⟨⟨f.tree.stay λv t=>⟨s _ (Xi ⟨v,t,Xh A⟩),s _ (Xi ⟨v,t,Xi A⟩)⟩,?_,f.wf,z,?_,?_,?_,?_,?_,?_⟩,?_⟩
 .obtain⟨Z,o,n⟩:=f.top;exact⟨Z,o,by rw[s _ (.inl A)];exact n⟩
 .show∃S a0,w'.heap[c.hb]?=_/\_;rw[kp c.hb (f.bj (.inr (.inr (.inr (.inl A))))) (by omega)];exact f.jB
 .rw[kp u (f.bj (.inl A)) (by omega)];exact f.ch
 .exact f.row.stay λb a=>kp b (f.bj (Xi (Xi (Xi (Xi a))))) (by simp_all)
 .exact⟨f.outs.1,λO g e o n=>by
   have:=f.outs.2 O g e o n;have q:=Yj n
   exact⟨this.1.stay λb a=>by rw[r b (.inr (.inr ⟨e,q,.inl a⟩))],this.2.stay λb a=>by rw[r b (.inr (.inr ⟨e,q,.inr a⟩))]⟩⟩
 .obtain⟨⟨Y,q⟩,n,H⟩:=f.bF;exact⟨⟨Y,bW (r 1 (Xh A)) q⟩,n.stay (by rw[r 4 (.inr (.inl A))]),XY H m.size⟩
 .refine⟨λb=>if b<d.heap.size then jc b else 1,?_,?_,?_,?_,?_,?_⟩
  .exact fD Q λb a=>f.bj (Xi (Xh a))
  .exact Ci R m.more
  .exact fD (a:=λb=>b=c.hb) (λb l=>l▸T) (λb l=>l▸f.bj (Xi (Xi (Xi (Xh A))))) _ A
  .exact fD (a:=λb=>b=u) (λb l=>l▸U) (λb l=>l▸f.bj (Xh A)) _ A
  .exact fD W λb a=>f.bj (Xi (Xi (Xi (Xi a))))
  exact fD X λb a=>f.iY a
 refine⟨m.size,λb a L=>m.keep b a λi=>L (Xi (Xi (Xh i))),λb a=>?_⟩;rcases a with i|i|i|i|i
 .exact Xh (Xh i)
 .exact Xh (Xi (Xh i))
 .rcases m.more b i with i|i
  .exact Xh (Xi (Xi (Xh i)))
  omega
 .exact Xh (Xi (Xi (Xi (Xh i))))
 exact Xh (Xi (Xi (Xi (Xi i))))
theorem aK.UN(f:aK u k y h c d){p:Tree}{t s:Path->E}{Y:Xg Un}(v:pW p t s c.tb Y w')(z:WF p)(l:ye c.tb y.tree c.nb c.mb p t s d w')(w:∀b,¬wH d c.tb b):
 aK u k {y with tree:=p} h {c with nb:=t,mb:=s} w'/\aH (aI u y.tree c) (aI u p {c with nb:=t,mb:=s}) d w':=by
 obtain⟨jc,x,N,O,Q,R,T⟩:=f.jc;have kp:∀b,b<d.heap.size->jc b≠0->w'.heap[b]?=d.heap[b]?:=λb a o=>l.kept b a (λi=>o (x b i)) (w b);have r:=λb a=>kp b (f.iY a) (by simp_all);refine⟨⟨v.lg,?_,z,?_,?_,?_,?_,?_,?_,?_⟩,?_⟩
 .obtain⟨Z,a1,o,n,_⟩:=v.top;exact⟨Z,Xi n.slice,o⟩
 .exact f.cd.stay λb a=>kp b (f.bj (Xi (Xi (Xh a)))) (by simp_all)
 .show∃S a0,w'.heap[c.hb]?=_/\_;rw[kp c.hb (f.bj (.inr (.inr (.inr (.inl A))))) (by omega)];exact f.jB
 .rw[kp u (f.bj (.inl A)) (by omega)];exact f.ch
 .exact f.row.stay λb a=>kp b (f.bj (Xi (Xi (Xi (Xi a))))) (by simp_all)
 .exact⟨f.outs.1,λL g e o n=>by
   have:=f.outs.2 L g e o n;have q:=Yj n
   exact⟨this.1.stay λb a=>by rw[r b (.inr (.inr ⟨e,q,.inl a⟩))],this.2.stay λb a=>by rw[r b (.inr (.inr ⟨e,q,.inr a⟩))]⟩⟩
 .obtain⟨⟨U,q⟩,n,D⟩:=f.bF;exact⟨⟨U,bW (r 1 (Xh A)) q⟩,n.stay (by rw[r 4 (.inr (.inl A))]),XY D l.size⟩
 .refine⟨λb=>if b<d.heap.size then jc b else 0,?_,?_,?_,?_,?_,?_⟩
  .exact Ci x l.news
  .exact fD N λb a=>f.bj (Xi (Xi (Xh a)))
  .exact fD (a:=λb=>b=c.hb) (λb m=>m▸O) (λb m=>m▸f.bj (Xi (Xi (Xi (Xh A))))) _ A
  .exact fD (a:=λb=>b=u) (λb m=>m▸Q) (λb m=>m▸f.bj (Xh A)) _ A
  .exact fD R λb a=>f.bj (Xi (Xi (Xi (Xi a))))
  exact fD T λb a=>f.iY a
 refine⟨l.size,λb a H=>l.kept b a (λi=>H (Xi (Xh i))) (w b),λb a=>?_⟩;rcases a with i|i|i|i|i
 .exact Xh (Xh i)
 .rcases l.news b i with i|i
  .exact Xh (Xi (Xh i))
  omega
 .exact Xh (Xi (Xi (Xh i)))
 .exact Xh (Xi (Xi (Xi (Xh i))))
 exact Xh (Xi (Xi (Xi (Xi i))))
theorem aK.hears(a:aK u k y h c d){se:Xg (Xj×Xj)}{p:E}(n:w'.heap[c.hb]?=C (.map S p))(w:Mp OU S p (fL se))(t:d.heap.size<=w'.heap.size)(D:∀b,b<d.heap.size->b≠c.hb->w'.heap[b]?=d.heap[b]?):
 aK u k {y with dE:=se} h c w'/\aH (aI u y.tree c) (aI u y.tree c) d w':=by
 obtain⟨jc,N,O,Q,R,T,U⟩:=a.jc;have kp:∀b,b<d.heap.size->jc b≠2->w'.heap[b]?=d.heap[b]?:=by grind
 have r:=λb f=>kp b (a.bj (Xi (Xh f))) (by simp_all);have o:=λb f=>kp b (a.iY f) (by simp_all);refine⟨⟨a.tree.stay λv s=>⟨r _ (Xi ⟨v,s,Xh A⟩),r _ (Xi ⟨v,s,Xi A⟩)⟩,?_,a.wf,?_,⟨S,p,n,w⟩,?_,?_,?_,?_,⟨jc,N,O,Q,R,T,U⟩⟩,?_⟩
 .obtain⟨X,q,i⟩:=a.top;exact⟨X,q,by rw[r _ (.inl A)];exact i⟩
 .exact a.cd.stay λb f=>kp b (a.bj (Xi (Xi (Xh f)))) (by simp_all)
 .rw[kp u (a.bj (.inl A)) (by omega)];exact a.ch
 .exact a.row.stay λb f=>kp b (a.bj (Xi (Xi (Xi (Xi f))))) (by simp_all)
 .exact⟨a.outs.1,λL g e q i=>by
   have:=a.outs.2 L g e q i;have n:=Yj i
   exact⟨this.1.stay λb f=>by rw[o b (.inr (.inr ⟨e,n,.inl f⟩))],this.2.stay λb f=>by rw[o b (.inr (.inr ⟨e,n,.inr f⟩))]⟩⟩
 .obtain⟨⟨W,n⟩,i,z⟩:=a.bF;exact⟨⟨W,bW (o 1 (Xh A)) n⟩,i.stay (by rw[o 4 (.inr (.inl A))]),XY z t⟩
 exact⟨t,λb f H=>D b f λx=>H (Xi (Xi (Xi (Xh x)))),λb f=>Xh f⟩
theorem aK.nums(a:aK u k y h c d){now aL kR:Xj}(x:w'.heap[u]?=C (Xn (EJ y.timeout k c.tb c.tw c.hb now aL kR c.ov .nilFunc) 98 (0,0)))(s:d.heap.size<=w'.heap.size)(z:∀b,b<d.heap.size->b≠u->w'.heap[b]?=d.heap[b]?):
 aK u k {y with now:=now,aL:=aL,next:=kR} h c w'/\aH (aI u y.tree c) (aI u y.tree c) d w':=by
 obtain⟨jc,L,N,O,Q,R,T⟩:=a.jc;have kp:∀b,b<d.heap.size->jc b≠3->w'.heap[b]?=d.heap[b]?:=by grind
 have q:=λb f=>kp b (a.bj (Xi (Xh f))) (by simp_all);have o:=λb f=>kp b (a.iY f) (by simp_all);refine⟨⟨a.tree.stay λt r=>⟨q _ (Xi ⟨t,r,Xh A⟩),q _ (Xi ⟨t,r,Xi A⟩)⟩,?_,a.wf,?_,?_,x,?_,?_,?_,⟨jc,L,N,O,Q,R,T⟩⟩,?_⟩
 .obtain⟨W,p,i⟩:=a.top;exact⟨W,p,by rw[q _ (.inl A)];exact i⟩
 .exact a.cd.stay λb f=>kp b (a.bj (Xi (Xi (Xh f)))) (by simp_all)
 .show∃S X,w'.heap[c.hb]?=_/\_;rw[kp c.hb (a.bj (.inr (.inr (.inr (.inl A))))) (by omega)];exact a.jB
 .exact a.row.stay λb f=>kp b (a.bj (Xi (Xi (Xi (Xi f))))) (by simp_all)
 .exact⟨a.outs.1,λH g e p i=>by
   have:=a.outs.2 H g e p i;have n:=Yj i
   exact⟨this.1.stay λb f=>by rw[o b (.inr (.inr ⟨e,n,.inl f⟩))],this.2.stay λb f=>by rw[o b (.inr (.inr ⟨e,n,.inr f⟩))]⟩⟩
 .obtain⟨⟨U,n⟩,i,w⟩:=a.bF;exact⟨⟨U,bW (o 1 (Xh A)) n⟩,i.stay (by rw[o 4 (.inr (.inl A))]),XY w s⟩
 exact⟨s,λb f D=>z b f λv=>D (Xh v),λb f=>Xh f⟩
theorem qX{h:Xg Out}{a:Xg (Xe×Xe)}(b:h.length=a.length)(g:Out)(e:Xe×Xe):gB (h++[g]) (a++[e])=gB h a++(iC g e).toList:=by simp_all [gB,Xg.zip_append]
theorem aK.VQ(i:aK u k y h c d){e:Xe×Xe}{r:Xe}(v:jX g e d)(x:∀b,e.1.ownBlock=C b\/e.2.ownBlock=C b->¬aI u y.tree c b)
 (X:w'.heap[u]?=C (Xn (EJ y.timeout k c.tb c.tw c.hb y.now y.aL y.next r .nilFunc) 98 (0,0)))(b2:cr NB w' 38 16 r (h.length+1) (gB h c.vs++(iC g e).toList))(O:kU d c.ov r)
 (R:d.heap.size<=w'.heap.size)(H:∀b,b<d.heap.size->b≠u->c.ov.ownBlock≠C b->w'.heap[b]?=d.heap[b]?):
 aK u k y (h++[g]) {c with ov:=r,vs:=c.vs++[e]} w'/\aH (aI u y.tree c) (aI u y.tree {c with ov:=r,vs:=c.vs++[e]}) d w':=by
 obtain⟨jc,a0,a1,a2,a3,a4,a5⟩:=i.jc;have kp:∀b,b<d.heap.size->jc b≠3->jc b≠4->w'.heap[b]?=d.heap[b]?:=by grind
 have D:=λb a=>kp b (i.bj (Xi (Xh a))) (by simp_all) (by simp_all);have w:=λb a=>kp b (i.iY a) (by simp_all) (by simp_all);have b3:=λb a=>H b (v.lt a) (λp=>x b a (Xh p)) (λp=>x b a (Xi (Xi (Xi (Xi p)))));refine⟨⟨i.tree.stay λU Q=>⟨D _ (Xi ⟨U,Q,Xh A⟩),D _ (Xi ⟨U,Q,Xi A⟩)⟩,?_,i.wf,?_,?_,X,?_,?_,?_,?_⟩,?_⟩
 .obtain⟨a9,m,l⟩:=i.top;exact⟨a9,m,by rw[D _ (.inl A)];exact l⟩
 .exact i.cd.stay λb a=>kp b (i.bj (Xi (Xi (Xh a)))) (by simp_all) (by simp_all)
 .show∃S b1,w'.heap[c.hb]?=_/\_;rw[kp c.hb (i.bj (.inr (.inr (.inr (.inl A))))) (by omega) (by omega)];exact i.jB
 .grind [aK.outs,qX]
 .refine⟨by grind [aK.outs],λz a7 s m l=>?_⟩;replace l:=l;by_cases L:z<h.length
  .rw[Zw L]at m;rw[Zw (by rw[<-i.outs.1];exact L)]at l;have:=i.outs.2 z a7 s m l;have t:=Yj l;exact⟨this.1.stay λb a=>by rw[w b (.inr (.inr ⟨s,t,.inl a⟩))],this.2.stay λb a=>by rw[w b (.inr (.inr ⟨s,t,.inr a⟩))]⟩
  rw[YP (by omega)]at m;rw[YP (by rw[<-i.outs.1];omega),<-i.outs.1]at l;have Y:z-h.length=0:=by grind
  rw[Y]at m l;cases m;cases l;exact⟨v.1.stay λb a=>by simp_all,v.2.stay λb a=>by simp_all⟩
 .obtain⟨⟨a6,t⟩,l,W⟩:=i.bF;exact⟨⟨a6,bW (w 1 (Xh A)) t⟩,l.stay (by rw[w 4 (.inr (.inl A))]),XY W R⟩
 .have q:=λb m l=>x b l m;refine⟨λb=>if e.1.ownBlock=C b\/e.2.ownBlock=C b then 5 else if b<d.heap.size then jc b else 4,λb a=>?_,λb a=>?_,?_,?_,λb a=>?_,λb a=>?_⟩
  .have n:=i.bj (Xi (Xh a));simp only;rw[Xx (q b (.inr (.inl a))),XC n];exact a0 b a
  .have n:=i.bj (Xi (Xi (Xh a)));simp only;rw[Xx (q b (.inr (.inr (.inl a)))),XC n];exact a1 b a
  .have n:=i.bj (Xi (Xi (Xi (Xh A))));simp only;rw[Xx (q _ (.inr (.inr (.inr (.inl A))))),XC n];exact a2
  .have n:=i.bj (Xh A);simp only;rw[Xx (q _ (.inl A)),XC n];exact a3
  .replace a:=a;simp only;rcases O b a with f|f
   .have n:=i.bj (Xi (Xi (Xi (Xi f))));rw[Xx (q _ (.inr (.inr (.inr (.inr f))))),XC n];exact a4 b f
   rw[Xx (λp=>by have:=v.lt p;omega),Xx (by omega)]
  simp only;by_cases Z:e.1.ownBlock=C b\/e.2.ownBlock=C b
  .simp_all
  have T:dw c b:=by
   rcases a with f|f|⟨s,o,f⟩
   .exact Xh f
   .exact Xi (Xh f)
   replace o:=o;rcases YC.1 o with o|o
   .exact Xi (Xi ⟨s,o,f⟩)
   simp_all
  rw[Xx Z,XC (i.iY T)];exact a5 b T
 refine⟨R,λb a N=>H b a (λf=>N (Xh f)) (λf=>N (Xi (Xi (Xi (Xi f))))),λb a=>?_⟩;rcases a with f|f|f|f|f
 .exact Xh (Xh f)
 .exact Xh (Xi (Xh f))
 .exact Xh (Xi (Xi (Xh f)))
 .exact Xh (Xi (Xi (Xi (Xh f))))
 rcases O b f with f|f
 .exact Xh (Xi (Xi (Xi (Xi f))))
 omega
end
variable{c:M}{a:E}{d:E}{e:E}
abbrev Pu(c b of:Xj)(a:XB):Xk Xe:=oV c b of 0 a ⟨#[]⟩ Xf 0 0 0 0 0 0 0 (Xm F 0 0) (Xm F 0 0)
theorem wo{d e f g:Xj}{s p:XB}{q:Xo}{h i k l m n o:Xj}{r t:Xe}(b:c.heap[a]?=C (Xn (oV d e f g s p q h i k l m n o r t) 38 (0,0))):
 c.cell? ⟨a,0,F⟩=C (i64 d)/\c.cell? ⟨a,1,F⟩=C (i64 e)/\c.cell? ⟨a,2,F⟩=C (i64 f)/\c.cell? ⟨a,3,F⟩=C (i64 g)/\c.cell? ⟨a,4,F⟩=C (.string s)/\c.cell? ⟨a,5,F⟩=C (.string p)/\c.cell? ⟨a,6,F⟩=C (.bool q)/\c.cell? ⟨a,7,F⟩=C (i64 h)/\c.cell? ⟨a,8,F⟩=C (i64 i)/\c.cell? ⟨a,9,F⟩=C (i64 k)/\c.cell? ⟨a,10,F⟩=C (i64 l)/\c.cell? ⟨a,11,F⟩=C (i64 m)/\c.cell? ⟨a,12,F⟩=C (i64 n)/\c.cell? ⟨a,13,F⟩=C (i64 o)/\c.cell? ⟨a,14,F⟩=C (r)/\c.cell? ⟨a,15,F⟩=C (t):=
 ⟨aa b 0 A,aa b 1 A,aa b 2 A,aa b 3 A,aa b 4 A,aa b 5 A,aa b 6 A,aa b 7 A,aa b 8 A,aa b 9 A,aa b 10 A,aa b 11 A,aa b 12 A,aa b 13 A,aa b 14 A,aa b 15 A⟩
theorem Ow{p c0:E}{of:Xj}{N:Xp Xw}{k:E->Xj}{i:E->XB}{P:E->M->Prop}{r:E->E->Xp Xw->E->E->E->M->Prop}{L:E->E->Xp Xw->E->E->E->M->Prop}{tl:E->E->Xj}
 (a1:0<d->N=C ⟨e,0,F⟩)(e3:d<2^20)(O:P 0 c)
 (U:∀b g,P b g->b<d->g.cell? ⟨e,b*2,F⟩=C (i64 (k b))/\g.cell? ⟨e,b*2+1,F⟩=C (.string (i b)))
 (T:∀b g,P b g->g.cell? ⟨u,3,F⟩=C (pt p 0)/\u<g.heap.size)
 (hF:∀b g,b<d->P b g->∀d4,Calls TP 150 #[pt p 0,i64 (k b),.string (i b)] ((g.alloc (.cells #[i64 (k b),.string (i b)] 269)).drewN d4) λo q=>∃l h m,o=Xs (.slice l h m)/\h<2^20/\r b g.heap.size l h m 0 q)
 (Y:∀b n l h m j g,r b n l h m j g->g.cell? ⟨n,0,F⟩=C (i64 (k b))/\g.cell? ⟨n,1,F⟩=C (.string (i b))/\g.cell? ⟨u,3,F⟩=C (pt p 0)/\(j<h->∃a,l=C ⟨a,0,F⟩/\g.cell? ⟨a,j,F⟩=C (i64 (tl b j))))
 (a0:∀b n l h m j g,j<h->r b n l h m j g->Calls TP 60 #[pt u 0,.agg (Pu (tl b j) (k b) of (i b))] (g.alloc (.cells (Pu (tl b j) (k b) of (i b)) 38)) λo q=>o=Xs (.tuple #[])/\q.heap[g.heap.size]?=C (Xn (Pu (tl b j) (k b) of (i b)) 38 (0,0))/\L b n l h m j q)
 (S:∀b n l h m j g,L b n l h m j g->Calls TP 151 #[pt u 0,.agg (Pu (tl b j) (k b) of (i b))] g λo q=>o=Xs (.tuple #[])/\r b n l h m (j+1) q)
 (Q:∀b n l h m g,r b n l h m h g->P (b+1) g):
 Calls TP 110 #[pt u 0,Xd K of,.slice N d c0] c λo g=>o=Xs (.tuple #[])/\P d g:=by
 have a4:=Xl O;have b0:=Xl U;have a9:=Xl T;have a7:=Xl hF;have w:=Xl Y;have b4:=Xl a0;have a8:=Xl S;have a6:=Xl Q;have a5:=Xl a1;clear O U T hF Y a0 S Q a1;go_enter Tryz.func110,Tryz.ntmps110
 go_wp2
 go_loopw [13] (λb wr=>∃f:E,f<=d/\b=Xd K f/\P f wr) (λb _=>d-(Lib.intOf b).toNat)
 case atStart=>exact⟨0,YA _,A,a4.out⟩
 case round=>
  obtain⟨f,e1,rfl,W⟩:=hrel;have v:=Xl W;clear W;by_cases a3:f<d
  .have c7:=a5.out (by omega);subst c7;obtain⟨c1,c2⟩:=b0.out f wr v.out a3;obtain⟨c3,d1⟩:=a9.out f wr v.out;have b9:(wr.alloc (.cells #[i64 (k f),.string (i f)] 269)).cell? ⟨u,3,F⟩=C (pt p 0):=by simp_all [Yx]
   have d0:(wr.alloc (.cells #[i64 (k f),.string (i f)] 269)).heap[wr.heap.size]?=C (Xn #[i64 (k f),.string (i f)] 269 (0,0)):=Yn wr _;have b5:(wr.alloc (.cells #[i64 (k f),.string (i f)] 269)).drew.cell? ⟨u,3,F⟩=C (pt p 0)/\(wr.alloc (.cells #[i64 (k f),.string (i f)] 269)).drew.cell? ⟨wr.heap.size,0,F⟩=C (i64 (k f))/\(wr.alloc (.cells #[i64 (k f),.string (i f)] 269)).drew.cell? ⟨wr.heap.size,1,F⟩=C (.string (i f)):=by simp_all
   have R:Calls TP 150 #[pt p 0,i64 (k f),.string (i f)] (wr.alloc (.cells #[i64 (k f),.string (i f)] 269)).drew λo q=>∃l h m,o=Xs (.slice l h m)/\h<2^20/\r f wr.heap.size l h m 0 q:=a7.out f wr a3 v.out 1;have D:=Xl R;clear R d0
   go_upto_region 3 with fail
   clear c1 c2 c3 b9 d1
   go_region_held3 (λx=>x.cell? ⟨u,3,F⟩=C (pt p 0)/\x.cell? ⟨wr.heap.size,0,F⟩=C (i64 (k f))/\x.cell? ⟨wr.heap.size,1,F⟩=C (.string (i f)))
    (first|omega|omega)
    (first|(go_at_call 150;refine D.out.mono ?_;rintro o z⟨b7,t,c3,rfl,e2,s⟩;have b6:z.cell? ⟨u,3,F⟩=C (pt p 0)/\z.cell? ⟨wr.heap.size,0,F⟩=C (i64 (k f))/\z.cell? ⟨wr.heap.size,1,F⟩=C (.string (i f)):=⟨(w.out _ _ _ _ _ _ _ s).2.2.1,(w.out _ _ _ _ _ _ _ s).1,(w.out _ _ _ _ _ _ _ s).2.1⟩;have b1:=Xl s;clear s))
   generalize wr.heap.size=n at*
   clear b5 b6 D
   go_wp2
   go_loopw [27] (λb d6=>∃j:E,j<=t/\b=Xd K j/\r f n b7 t c3 j d6) (λb _=>t-(Lib.intOf b).toNat)
   case atStart=>exact⟨0,YA _,A,b1.out⟩
   case round=>
    obtain⟨j,e0,rfl,y⟩:=hrel;obtain⟨d7,d8,_,c6⟩:=w.out _ _ _ _ _ _ _ y;have H:=Xl y;clear y;by_cases a2:j<t
    .obtain⟨a,rfl,d9⟩:=c6 a2;have c8:=Xl (b4.out _ _ _ _ _ _ _ a2 H.out)
     go_wp2_with (first
      |(go_at_call 60;refine c8.out.mono ?_;rintro o f9⟨rfl,c9,Z⟩;obtain⟨e4,q1,f1,f2,f3,f4,f5,f6,f7,f8,e5,e6,e7,e8,e9,f0⟩:=wo c9;have b3:=Xl Z;clear Z)
      |(go_at_call 151;refine(a8.out _ _ _ _ _ _ _ b3.out).mono ?_;rintro o g0⟨rfl,X⟩;have b2:=Xl X;clear X))
     go_roundw
     case rel=>exact⟨j+1,by omega,by go_num,b2.out⟩
     case measure=>simp[Lib.intOf];omega
    have d2:j=t:=by omega
    subst d2
    go_wp2
    go_roundw
    case rel=>exact⟨f+1,by omega,by go_num,a6.out _ _ _ _ _ _ H.out⟩
    case measure=>simp[Lib.intOf];omega
  have d3:f=d:=by omega
  subst d3
  go_wp2
  go_end0
  exact⟨A,v.out⟩
variable{c:E}{a:M}{P:Xy}{Q:Xe}{R:E}
abbrev rV(b ak q:Xj)(t r:XB)(aE s:Xj)(x:Xo)(a:Xe):Xk Xe:=#[i64 b,i64 ak,i64 q,.string t,.string r,i64 aE,i64 s,.bool x,a]
abbrev gV(o:XB)(d e f h i k m:Xj)(a p:Xe):Xk Xe:=#[.string o,i64 d,i64 e,i64 f,i64 h,i64 i,i64 k,i64 m,a,p]
abbrev oZ:Xk Xe:=oV 0 0 0 0 ⟨#[]⟩ ⟨#[]⟩ Xf 0 0 0 0 0 0 0 (Xm F 0 0) (Xm F 0 0)
abbrev oS(ak b:Xj):Xk Xe:=oV ak 0 b 0 ⟨#[]⟩ ⟨#[]⟩ Xf 0 0 0 0 0 0 0 (Xm F 0 0) (Xm F 0 0)
structure qd(c U W:E)(w v V:Xk Xe)(n a:M):Prop where
 h0:a.heap[c]?=C (Xn w U (0,0))
 h1:a.heap[c+1]?=C (Xn v W (0,0))
 h2:a.heap[c+1+1]?=C (Xn oZ 38 (0,0))
 h3:a.heap[c+1+1+1]?=C (Xn V 38 (0,0))
 size:a.heap.size=n.heap.size
 keep:∀g,g≠c+1+1+1->a.heap[g]?=n.heap[g]?
theorem qd.set{h i:E}{g d V:Xk Xe}{k:M}(b:qd c h i g d V k a)(f:E)(Q:Xe):qd c h i g d (V.setIfInBounds f Q) k (a.setCell ⟨c+1+1+1,f,F⟩ Q):=
 ⟨(ai (by omega)).trans b.h0,(ai (by omega)).trans b.h1,(ai (by omega)).trans b.h2,aA b.h3,aS.trans b.size,λl e=>(ai e).trans (b.keep l e)⟩
abbrev jI(a:M)(d c:Xk Xe)(ak b:Xj):M:=(((a.alloc (.cells d 107)).alloc (.cells c 158)).alloc (.cells oZ 38)).alloc (.cells (oS ak b) 38)
theorem gZ{fn:Func}{b:Tmp}{d:Xq}(f:fn.results=#[.cell b d]){e:Xk Xe}{c:Xw}(g:e.getD b I=XA (C c))(h:(loadVar d c).run P a=.ok Q a):
 (results fn e).run P a=.ok Q a:=by
 simp_all [asAddr,results]
theorem pC{b:Xk Xe}{c:E×E}(d:a.heap[R]?=C (Xn b 38 c))(e:b.size=16):(loadVar 38 ⟨R,0,F⟩).run TP a=.ok (.agg b) a:=
 run_loadVar_row a R 38 38 b c _ d A rfl (by rw[e];rfl)
theorem mX{a b c g:Xj}{t o:XB}{l:Xo}{d e f h i k m:Xj}{r s:Xp Xw}{p c1 q c2:E}:(oV a b c g t o l d e f h i k m (.slice r p c1) (.slice s q c2)).all (·.oneCell')=J:=
 a_.2 λQ n=>(Rl Q (by simpa using n)).1
def lD(c:E)(V:Xk Xe)(KP:M->Prop)(e:Ending)(d:M):Prop:=e=Xs (.agg V)/\∃b,KP b/\d.heap.size=b.heap.size/\∀a,a≠c+1+1->a≠c+1+1+1->d.heap[a]?=b.heap[a]?
theorem rm{l m:E}{k f V:Xk Xe}{d:M}{KP:M->Prop}(n:V.size=16)(b:qd c l m k f V d a)(i:KP d):(a.setRow (c+1+1) V).heap[c+1+1]?=C (Xn V 38 (0,0))/\lD c V KP (Xs (.agg V)) (a.setRow (c+1+1) V):=
 ⟨ZY _ _ _ _ _ _ b.h2,A,d,i,by rw[abg];exact b.size,λe g h=>by rw[ZD _ _ _ _ g];exact b.keep e h⟩
section
variable{T:E}{b ak q aE s y:Xj}{t r o:XB}{x:Xo}{O:Xp Xw}{N L:E}{d e f h i k m:Xj}{z:Xp Xw}{H D:E}{p:Xe}{KP S:M->Prop}
theorem xS(R:Calls TP 64 #[pt u 0,i64 ak] (jI a (rV b ak q t r aE s x (.slice O N L)) (gV o d e f h i k m (.slice z H D) p) ak b) λQ c=>Q=Xs (.bool Xf)/\qd a.heap.size 107 158 (rV b ak q t r aE s x (.slice O N L)) (gV o d e f h i k m (.slice z H D) p) (oS ak b) c c/\KP c):
 Calls TP 61 #[pt u 0,.agg (rV b ak q t r aE s x (.slice O N L)),.agg (gV o d e f h i k m (.slice z H D) p)] a (lD a.heap.size (oV ak 0 b 3 ⟨#[]⟩ ⟨#[]⟩ Xf 0 0 0 0 0 0 0 (Xm F 0 0) (Xm F 0 0)) KP):=by
 have U:=Xl R;clear R;go_enter Tryz.func61,Tryz.ntmps61
 go_upto_region 3 with(go_at_call 64;refine U.out.mono ?_;rintro Q c⟨rfl,l,S⟩;have g:=l.h0;have T:=l.h1;have a1:=aa g 1 A;have a2:=aa g 2 A;have a3:=aa g 3 A;have a4:=aa g 7 A;have a5:=aa T 9 A;have n:=Xl l;have W:=Xl S;clear S l g T)
 have a0:=aa n.out.h3 3 A;have a6:=frozenAt n.out.h3 3;obtain⟨w,Z⟩:∃w,c.setCell ⟨a.heap.size+1+1+1,3,F⟩ (i64 3)=w:=by simp
 have X:qd a.heap.size 107 158 (rV b ak q t r aE s x (.slice O N L)) (gV o d e f h i k m (.slice z H D) p) (oV ak 0 b 3 ⟨#[]⟩ ⟨#[]⟩ Xf 0 0 0 0 0 0 0 (Xm F 0 0) (Xm F 0 0)) c w:=by rw[<-Z];exact n.out.set 3 _
 have v:=Xl X
 go_upto_region 4 with fail
 refine ZH ?_;refine Zv A 38 _ A (a.heap.size+1+1+1) A 38 (oV ak 0 b 3 ⟨#[]⟩ ⟨#[]⟩ Xf 0 0 0 0 0 0 0 (Xm F 0 0) (Xm F 0 0)) (0,0) _ v.out.h3 A rfl rfl ?_;refine Zc A 38 _ _ A (a.heap.size+1+1) (oV ak 0 b 3 ⟨#[]⟩ ⟨#[]⟩ Xf 0 0 0 0 0 0 0 (Xm F 0 0) (Xm F 0 0)) A rfl 38 oZ v.out.h2 A rfl mX ?_;have Y:=rm A v.out W.out;have y:=Xl Y
 go_wp2
 exact Zm (gZ A rfl (pC y.out.1 A)) A y.out.2
theorem yV(U:Calls TP 64 #[pt u 0,i64 ak] (jI a (rV b ak q t r aE s x (.slice O N L)) (gV o d e f h i k m (.slice z H D) p) ak b) λw c=>w=Xs (.bool J)/\qd a.heap.size 107 158 (rV b ak q t r aE s x (.slice O N L)) (gV o d e f h i k m (.slice z H D) p) (oS ak b) c c/\KP c)(T:∀a,Calls TP 104 #[p] a λa5 a6=>a5=Xs (i64 y)/\a=a6)(Q:(y==7)=Xf\/(y==7)=J/\(q==9)=Xf)(a8:(y !=0)=J):
 Calls TP 61 #[pt u 0,.agg (rV b ak q t r aE s x (.slice O N L)),.agg (gV o d e f h i k m (.slice z H D) p)] a (lD a.heap.size (oV ak 0 b y ⟨#[]⟩ ⟨#[]⟩ Xf 0 0 0 0 0 0 0 (Xm F 0 0) (Xm F 0 0)) KP):=by
 rcases Q with Q|⟨Q,a9⟩
 all_goals
  have a2:=Xl U;clear U;have a1:=Xl T;clear T;go_enter Tryz.func61,Tryz.ntmps61
  go_upto_region 8 with(first|(go_at_call 64;refine a2.out.mono ?_;rintro w c⟨rfl,l,W⟩;have g:=l.h0;have a0:=l.h1;have b1:=aa g 1 A;have b2:=aa g 2 A;have b3:=aa g 3 A;have b4:=aa g 7 A;have b5:=aa a0 9 A;have n:=Xl l;have a3:=Xl W;clear W l g a0)|(go_at_call 104;refine(a1.out _).mono ?_;rintro w b0⟨rfl,rfl⟩))
  have a4:=aa n.out.h3 3 A;have a7:=frozenAt n.out.h3 3;obtain⟨R,Z⟩:∃R,c.setCell ⟨a.heap.size+1+1+1,3,F⟩ (i64 y)=R:=⟨_,A⟩;have X:qd a.heap.size 107 158 (rV b ak q t r aE s x (.slice O N L)) (gV o d e f h i k m (.slice z H D) p) (oV ak 0 b y ⟨#[]⟩ ⟨#[]⟩ Xf 0 0 0 0 0 0 0 (Xm F 0 0) (Xm F 0 0)) c R:=by rw[<-Z];exact n.out.set 3 _
  have v:=Xl X;clear X
  go_upto_region 9 with fail
  clear a4 a7 Z;refine ZH ?_;refine Zv A 38 _ A (a.heap.size+1+1+1) A 38 (oV ak 0 b y ⟨#[]⟩ ⟨#[]⟩ Xf 0 0 0 0 0 0 0 (Xm F 0 0) (Xm F 0 0)) (0,0) _ v.out.h3 A rfl rfl ?_;refine Zc A 38 _ _ A (a.heap.size+1+1) (oV ak 0 b y ⟨#[]⟩ ⟨#[]⟩ Xf 0 0 0 0 0 0 0 (Xm F 0 0) (Xm F 0 0)) A rfl 38 oZ v.out.h2 A rfl mX ?_;have Y:=rm A v.out a3.out;have S:=Xl Y;clear Y
  go_wp2
  exact Zm (gZ A rfl (pC S.out.1 A)) A S.out.2
end
variable{m:Xe}{q:E}
theorem qf{n:Xq}(r:¬n=135)(a:M):(Instr.typeAssert (.iface n m) 101 135 J).run TP a=.ok (.tuple #[.agg #[Xd K 0,Xd K 0,Xd K 0,.string XB.empty,.string XB.empty,Xd K 0,Xd K 0,.bool Xf,Xm F 0 0,Xd K 0],.bool Xf]) a:=by unfold Instr.typeAssert;go_simp;rfl
theorem Bn{n:Xq}(r:¬n=136)(a:M):(Instr.typeAssert (.iface n m) 101 136 J).run TP a=.ok (.tuple #[.agg #[Xd K 0,Xd K 0,Xd K 0,.string XB.empty,.string XB.empty,Xd K 0,Xd K 0,.bool Xf,Xm F 0 0],.bool Xf]) a:=by unfold Instr.typeAssert;go_simp;rfl
theorem yg(m:Xe)(a:M):(Instr.typeAssert (.iface 136 m) 101 136 J).run TP a=.ok (.tuple #[m,.bool J]) a:=by rfl
theorem Bo{n:Xq}(r:¬n=137)(a:M):(Instr.typeAssert (.iface n m) 101 137 J).run TP a=.ok (.tuple #[.agg #[Xd K 0,Xd K 0,Xd K 0,.string XB.empty,.string XB.empty,Xd K 0,Xd K 0,.bool Xf,Xm F 0 0],.bool Xf]) a:=by unfold Instr.typeAssert;go_simp;rfl
theorem yh(m:Xe)(a:M):(Instr.typeAssert (.iface 140 m) 101 140 J).run TP a=.ok (.tuple #[m,.bool J]) a:=by rfl
section
variable{e:E}{b ak f aE d now aL kR:Xj}{k c:XB}{l:Xo}{i:Xp Xw}{h g:E}{KP p:M->Prop}{o:Xk Xe}
theorem CI(v:Calls TP 64 #[pt u 0,i64 ak] (a.alloc (.cells (rV b ak f k c aE d l (.slice i h g)) 140)) λr s=>r=Xs (.bool Xf)/\s.heap[a.heap.size]?=C (Xn (rV b ak f k c aE d l (.slice i h g)) 140 (0,0))/\KP s)(x:∀s,KP s->Calls TP 60 #[pt u 0,.agg (oV ak 0 b 3 ⟨#[]⟩ ⟨#[]⟩ Xf 0 0 0 0 0 0 0 (Xm F 0 0) (Xm F 0 0))] s λr z=>r=Xs (.tuple #[])/\p z):
 Calls TP 40 #[pt u 0,.iface 140 (.agg (rV b ak f k c aE d l (.slice i h g)))] a λr N=>r=Xs (.tuple #[])/\p N:=by
 have D:=Xl v;have L:=Xl x;clear v x;have O:∀t,_:=qf (n:=140) (m:=.agg (rV b ak f k c aE d l (.slice i h g))) (by decide);have Q:∀t,_:=Bn (n:=140) (m:=.agg (rV b ak f k c aE d l (.slice i h g))) (by decide);have R:∀t,_:=Bo (n:=140) (m:=.agg (rV b ak f k c aE d l (.slice i h g))) (by decide);have S:∀t,_:=yh (.agg (rV b ak f k c aE d l (.slice i h g)));go_enter Tryz.func40,Tryz.ntmps40
 go_wp2_with (first|(go_at_call 64;refine D.out.mono ?_;rintro r s⟨rfl,n,w⟩;have U:=aa n 0 A;have W:=aa n 1 A;have X:=aa n 2 A;have Y:=aa n 3 A;have Z:=aa n 4 A;have a0:=aa n 5 A;have a1:=aa n 6 A;have a2:=aa n 7 A;have a3:=aa n 8 A;have H:=Xl w;clear w n)|(go_at_call 60;refine(L.out _ H.out).mono ?_;rintro r z⟨rfl,T⟩))
 simp_all [Zm,aaP]
theorem JY(S:Calls TP 64 #[pt u 0,i64 ak] (a.alloc (.cells (rV b ak f k c aE d l (.slice i h g)) 140)) λn t=>n=Xs (.bool J)/\t.heap[a.heap.size]?=C (Xn (rV b ak f k c aE d l (.slice i h g)) 140 (0,0))/\KP t){x:Out->Xe×Xe->M->Prop}(U:∀t,KP t->Calls TP 65 #[pt u 0,.agg (rV b ak f k c aE d l (.slice i h g))] t λn v=>∃s m,n=Xs (.agg (iC s m))/\x s m v)(T:∀s m v,x s m v->Calls TP 60 #[pt u 0,.agg (iC s m)] v λn H=>n=Xs (.tuple #[])/\p H):
 Calls TP 40 #[pt u 0,.iface 140 (.agg (rV b ak f k c aE d l (.slice i h g)))] a λn W=>n=Xs (.tuple #[])/\p W:=by
 have L:=Xl S;have Q:=Xl T;have R:=Xl U;have X:∀w,_:=qf (n:=140) (m:=.agg (rV b ak f k c aE d l (.slice i h g))) (by decide);have Y:∀w,_:=Bn (n:=140) (m:=.agg (rV b ak f k c aE d l (.slice i h g))) (by decide);have Z:∀w,_:=Bo (n:=140) (m:=.agg (rV b ak f k c aE d l (.slice i h g))) (by decide);have a0:∀w,_:=yh (.agg (rV b ak f k c aE d l (.slice i h g)));go_enter Tryz.func40,Tryz.ntmps40
 go_wp2_with (first|(go_at_call 64;refine L.out.mono ?_;rintro n t⟨rfl,r,y⟩;have a2:=aa r 0 A;have a3:=aa r 1 A;have a4:=aa r 2 A;have a5:=aa r 3 A;have a6:=aa r 4 A;have a7:=aa r 5 A;have a8:=aa r 6 A;have a9:=aa r 7 A;have b0:=aa r 8 A;have N:=Xl y;clear y r)|(go_at_call 65;refine(R.out _ N.out).mono ?_;rintro n v⟨s,m,rfl,z⟩;have O:=Xl z;clear z)|(go_at_call 60;refine(Q.out _ _ _ O.out).mono ?_;rintro n H⟨rfl,a1⟩))
 go_end0
 simp_all
theorem ET(w:a.heap[u]?=C (Xn o 98 (0,0)))(x:o[4]?=C (.map (C e)))(S:e<a.heap.size)(L:∀n:M,n.heap[e]?=a.heap[e]?->(Builtin.len_ #[96] 3 #[.map (C e)]).run TP n=.ok (Xd K (q:Xj)) n)(a3:¬(q:Xj)<8)(y:∀n:M,a.heap.size<=n.heap.size->(∀s,s<a.heap.size->n.heap[s]?=a.heap[s]?)->Calls TP 60 #[pt u 0,.agg (oV 0 0 b 13 ⟨#[]⟩ ⟨#[]⟩ Xf 0 0 0 0 0 0 0 (Xm F 0 0) (Xm F 0 0))] n λt W=>t=Xs (.tuple #[])/\p W):
 Calls TP 40 #[pt u 0,.iface 136 (.agg (rV b ak f k c aE d l (.slice i h g)))] a λt U=>t=Xs (.tuple #[])/\p U:=by
 have R:=(XN.1 w).1;obtain⟨r,z⟩:∃r,r=((a.alloc (.cells (rV b ak f k c aE d l (.slice i h g)) 136)).alloc (.cells (oV 0 0 b 13 ⟨#[]⟩ ⟨#[]⟩ Xf 0 0 0 0 0 0 0 (Xm F 0 0) (Xm F 0 0)) 38)):=by simp
 have T:r.heap.size=a.heap.size+2:=by simp_all
 have v:∀s,s<a.heap.size->r.heap[s]?=a.heap[s]?:=by grind [Below.heap_alloc]
 have Q:r.heap[a.heap.size]?=C (Xn (rV b ak f k c aE d l (.slice i h g)) 136 (0,0)):=by grind [Below.heap_alloc,heap_alloc_new]
 have D:r.heap[a.heap.size+1]?=C (Xn (oV 0 0 b 13 ⟨#[]⟩ ⟨#[]⟩ Xf 0 0 0 0 0 0 0 (Xm F 0 0) (Xm F 0 0)) 38 (0,0)):=by have:=Yn (a.alloc (.cells (rV b ak f k c aE d l (.slice i h g)) 136)) (.cells (oV 0 0 b 13 ⟨#[]⟩ ⟨#[]⟩ Xf 0 0 0 0 0 0 0 (Xm F 0 0) (Xm F 0 0)) 38);simp_all
 have H:=(v u R).trans w;have Z:=aa H 4 x;have a2:=L r (v e S);have O:=Xl (y r (by omega) v);obtain⟨a4,q1,b1,b2,b3,b4,b5,b6,b7,b8,a5,a6,a7,a8,a9,b0⟩:=wo D;have N:=Xl z;clear L y w x Q D H v T z;have X:∀n,_:=qf (n:=136) (m:=.agg (rV b ak f k c aE d l (.slice i h g))) (by decide);have Y:∀n,_:=yg (.agg (rV b ak f k c aE d l (.slice i h g)));go_enter Tryz.func40,Tryz.ntmps40
 go_upto_region 7 with fail
 have a1:=N.out.symm
 go_wp2_with (go_at_call 60;refine O.out.mono ?_;rintro t c0⟨rfl,a0⟩)
 go_end0
 simp_all
theorem MA(U:a.heap[u]?=C (Xn o 98 (0,0)))(R:o[4]?=C (.map (C e)))(e5:e<a.heap.size)(b8:∀r:M,r.heap[e]?=a.heap[e]?->(Builtin.len_ #[96] 3 #[.map (C e)]).run TP r=.ok (Xd K (q:Xj)) r)(a1:o[5]?=C (i64 now))(a2:o[6]?=C (i64 aL))(e0:o[7]?=C (i64 kR))(b9:e≠u)(g5:(q:Xj)<8)(g4:0<=aL/\aL<2^62)(g6:0<=kR/\kR<2^62){a0:Obj->Prop}
 (a5:∀r:M,r.heap[e]?=a.heap[e]?->∃w,(Instr.mapUpdate 96 (.map (C e)) (i64 kR) (i64 now)).run TP r=.ok () (xW r e w)/\a0 w)
 (a4:∀r:M,a.heap.size<=r.heap.size->r.heap[u]?=C (Xn ((o.setIfInBounds 6 (i64 (aL+1))).setIfInBounds 7 (i64 (kR+1))) 98 (0,0))->(∃w,r.heap[e]?=C w/\a0 w)->(∀n,n<a.heap.size->n≠u->n≠e->r.heap[n]?=a.heap[n]?)->Calls TP 60 #[pt u 0,.agg (oV kR 0 b 0 ⟨#[]⟩ ⟨#[]⟩ Xf 0 0 0 0 0 0 0 (Xm F 0 0) (Xm F 0 0))] r λD f4=>D=Xs (.tuple #[])/\p f4):
 Calls TP 40 #[pt u 0,.iface 136 (.agg (rV b ak f k c aE d l (.slice i h g)))] a λD f3=>D=Xs (.tuple #[])/\p f3:=by
 have e4:=(XN.1 U).1;obtain⟨t,a6⟩:∃t,t=((a.alloc (.cells (rV b ak f k c aE d l (.slice i h g)) 136)).alloc (.cells (oV 0 0 b 13 ⟨#[]⟩ ⟨#[]⟩ Xf 0 0 0 0 0 0 0 (Xm F 0 0) (Xm F 0 0)) 38)):=by simp
 have e8:t.heap.size=a.heap.size+2:=by simp_all
 have W:∀n,n<a.heap.size->t.heap[n]?=a.heap[n]?:=by grind [Below.heap_alloc]
 have b0:t.heap[a.heap.size]?=C (Xn (rV b ak f k c aE d l (.slice i h g)) 136 (0,0)):=by grind [Below.heap_alloc,heap_alloc_new]
 have b2:t.heap[a.heap.size+1]?=C (Xn (oV 0 0 b 13 ⟨#[]⟩ ⟨#[]⟩ Xf 0 0 0 0 0 0 0 (Xm F 0 0) (Xm F 0 0)) 38 (0,0)):=by have:=Yn (a.alloc (.cells (rV b ak f k c aE d l (.slice i h g)) 136)) (.cells (oV 0 0 b 13 ⟨#[]⟩ ⟨#[]⟩ Xf 0 0 0 0 0 0 0 (Xm F 0 0) (Xm F 0 0)) 38);simp_all
 have O:=(W u e4).trans U;have d7:=aa O 4 R;have e6:=b8 t (W e e5);have d8:=aa O 6 a2;have d9:=frozenAt O 6;obtain⟨v,a7⟩:∃v,t.setCell ⟨u,6,F⟩ (i64 (aL+1))=v:=by simp
 have X:∀n,n≠u->v.heap[n]?=t.heap[n]?:=by grind [ai]
 have e9:v.heap.size=t.heap.size:=by grind [aS]
 have b6:v.heap[u]?=C (Xn (o.setIfInBounds 6 (i64 (aL+1))) 98 (0,0)):=by grind [aA]
 have d6:v.cell? ⟨u,7,F⟩=C (i64 kR):=by grind [aa]
 have b1:=(X a.heap.size (by omega)).trans b0;have S:=(X (a.heap.size+1) (by omega)).trans b2;have d5:=aa b1 0 A;obtain⟨s,H⟩:∃s,s=v.drew.setRow (a.heap.size+1) (oV kR 0 b 0 ⟨#[]⟩ ⟨#[]⟩ Xf 0 0 0 0 0 0 0 (Xm F 0 0) (Xm F 0 0)):=by simp
 have c0:∀n,n≠a.heap.size+1->s.heap[n]?=v.heap[n]?:=λn N=>by rw[H];exact ZD _ _ _ _ N
 have f0:s.heap.size=v.heap.size:=by simp_all
 have b3:s.heap[a.heap.size+1]?=C (Xn (oV kR 0 b 0 ⟨#[]⟩ ⟨#[]⟩ Xf 0 0 0 0 0 0 0 (Xm F 0 0) (Xm F 0 0)) 38 (0,0)):=by rw[H];exact ZY _ _ _ _ _ _ S
 have z:=(c0 u (by omega)).trans b6;have c6:s.heap[e]?=a.heap[e]?:=by grind
 have f7:=aa z 4 (by rw[YO];simpa using R);have f8:=aa z 5 (by rw[YO];simpa using a1);have f9:s.cell? ⟨u,7,F⟩=C (i64 kR):=aa z 7 (by simp_all);obtain⟨w,Q,a3⟩:=a5 s.drew c6;obtain⟨x,L⟩:∃x,xW s.drew e w=x:=by simp
 rw[L]at Q;have e7:e<s.heap.size:=by omega
 have Y:∀n,n≠e->x.heap[n]?=s.heap[n]?:=λn N=>by rw[<-L];show(s.heap.setIfInBounds e w)[n]?=_;grind
 have c7:x.heap[e]?=C w:=by grind
 have f1:x.heap.size=s.heap.size:=by rw[<-L];simp
 have T:=(Y u (YX b9)).trans z;have b4:=(Y (a.heap.size+1) (by omega)).trans b3;have g7:x.cell? ⟨u,7,F⟩=C (i64 kR):=aa T 7 (by grind);have g8:=frozenAt T 7;obtain⟨y,a9⟩:∃y,x.setCell ⟨u,7,F⟩ (i64 (kR+1))=y:=by simp
 have Z:∀n,n≠u->y.heap[n]?=x.heap[n]?:=λn N=>by grind [ai]
 have f2:y.heap.size=x.heap.size:=by grind [aS]
 have b7:y.heap[u]?=C (Xn ((o.setIfInBounds 6 (i64 (aL+1))).setIfInBounds 7 (i64 (kR+1))) 98 (0,0)):=by grind [aA]
 have b5:=(Z (a.heap.size+1) (by omega)).trans b4;have e1:=Xl (a4 y (by omega) b7 ⟨w,(Z e b9).trans c7,a3⟩ λn N g0 g1=>by grind);have c8:=Xl S;have c9:=Xl b5;have d1:=Xl a6;have d2:=Xl a7;have d3:=Xl H;have d4:=Xl a9;have d0:=Xl Q;clear a5 a4 b8 U R a1 a2 e0 b0 b2 O W e8 a6 a7 X e9 b6 b1 S H c0 f0 b3 z c6 a3 L Y c7 f1 T b4 a9 Z f2 b7 b5 e7 Q;have f5:∀r,_:=qf (n:=136) (m:=.agg (rV b ak f k c aE d l (.slice i h g))) (by decide);have f6:∀r,_:=yg (.agg (rV b ak f k c aE d l (.slice i h g)));go_enter Tryz.func40,Tryz.ntmps40
 go_upto_region 7 with fail
 have e2:=d1.out.symm;have e3:=d2.out
 go_upto_region 9 with fail
 clear e2 e3 d7 d8 d9 e6
 go_still_tail 8,(by kernel_rfl)
 change wpList _ _ _ _ _ v.drew
 refine Zc A 38 _ _ A (a.heap.size+1) (oV kR 0 b 0 ⟨#[]⟩ ⟨#[]⟩ Xf 0 0 0 0 0 0 0 (Xm F 0 0) (Xm F 0 0)) A rfl 38 (oV 0 0 b 13 ⟨#[]⟩ ⟨#[]⟩ Xf 0 0 0 0 0 0 0 (Xm F 0 0) (Xm F 0 0)) c8.out A rfl mX ?_;have a8:=d3.out.symm;rw[a8];clear d6 d5 a8
 go_upto_region 10 with fail
 have Q:=d0.out
 go_still_tail 12,(by kernel_rfl)
 have g3:=d4.out
 go_upto_region 12 with fail
 obtain⟨g9,q1,h6,h7,h8,h9,i0,i1,i2,i3,h0,h1,h2,h3,h4,h5⟩:=wo c9.out
 go_wp2_with (go_at_call 60;refine e1.out.mono ?_;rintro D i5⟨rfl,g2⟩)
 go_end0
 simp_all
end
variable{m:E}{O:E}
structure ly(m:E)(v V:Xk Xe)(t a:M):Prop where
 h0:a.heap[m]?=C (Xn v 140 (0,0))
 h2:a.heap[m+1]?=C (Xn oZ 38 (0,0))
 h3:a.heap[m+1+1]?=C (Xn V 38 (0,0))
 size:a.heap.size=t.heap.size
 keep:∀n,n≠m+1+1->a.heap[n]?=t.heap[n]?
theorem ly.set{e V:Xk Xe}{g:M}(b:ly m e V g a)(d:E)(f:Xe):ly m e (V.setIfInBounds d f) g (a.setCell ⟨m+1+1,d,F⟩ f):=
 ⟨(ai (by omega)).trans b.h0,(ai (by omega)).trans b.h2,aA b.h3,aS.trans b.size,λh c=>(ai c).trans (b.keep h c)⟩
theorem ly.base{c V:Xk Xe}{d:M}(b:ly m c V d a):ly m c V a a:=⟨b.h0,b.h2,b.h3,A,λ_ _=>rfl⟩
abbrev ug(a:M)(c:Xk Xe)(ak b:Xj):M:=((a.alloc (.cells c 140)).alloc (.cells oZ 38)).alloc (.cells (oS ak b) 38)
def zt(m:E)(V:Xk Xe)(KP:M->Prop)(d:Ending)(c:M):Prop:=d=Xs (.agg V)/\∃b,KP b/\c.heap.size=b.heap.size/\∀a,a≠m+1->a≠m+1+1->c.heap[a]?=b.heap[a]?
theorem IK{h V:Xk Xe}{c:M}{KP:M->Prop}(i:V.size=16)(b:ly m h V c a)(g:KP c):(a.setRow (m+1) V).heap[m+1]?=C (Xn V 38 (0,0))/\zt m V KP (Xs (.agg V)) (a.setRow (m+1) V):=
 ⟨ZY _ _ _ _ _ _ b.h2,A,c,g,by rw[abg];exact b.size,λd e f=>by rw[ZD _ _ _ _ e];exact b.keep d f⟩
section
variable{b ak c aE e o aL:Xj}{f d:XB}{k:Xo}{p:Xk Xe}{i:Xp Xw}{h g:E}{r q s:M->Prop}
theorem OG(e1:(c==2)=Xf)(e2:(c==7)=Xf)(a8:a.heap[u]?=C (Xn p 98 (0,0)))(c0:p[6]?=C (i64 aL))(d9:p[2]?=C (pt O 0))(e0:0<=aL/\aL<2^62)(Y:Calls TP 109 #[pt O 0] ((ug a (rV b ak c f d aE e k (.slice i h g)) ak b).setCell ⟨u,6,F⟩ (i64 (aL+1))) λy n=>y=Xs (.tuple #[])/\ly a.heap.size (rV b ak c f d aE e k (.slice i h g)) (oS ak b) n n/\(n.cell? ⟨u,2,F⟩=C (pt O 0)/\n.cell? ⟨u,6,F⟩=C (i64 (aL+1)))/\r n)(a1:∀l,r l->ly a.heap.size (rV b ak c f d aE e k (.slice i h g)) (oS ak b) l l->∀d1,Calls TP 113 #[pt O 0,.agg #[i64 c,.string f,.string d,i64 aE,i64 e],i64 ak,i64 (aL+1)] (l.drewN d1) λy z=>y=Xs (.tuple #[.string ⟨#[]⟩,Xm F 0 0,.iface 32 (i64 o)])/\ly a.heap.size (rV b ak c f d aE e k (.slice i h g)) (oS ak b) z z/\(z.cell? ⟨u,2,F⟩=C (pt O 0)/\z.cell? ⟨u,6,F⟩=C (i64 (aL+1)))/\q z)(a0:∀a,Calls TP 104 #[.iface 32 (i64 o)] a λd2 n=>d2=Xs (i64 o)/\a=n)(d8:(o !=0)=J):
 Calls TP 65 #[pt u 0,.agg (rV b ak c f d aE e k (.slice i h g))] a (zt a.heap.size (oV ak 0 b o ⟨#[]⟩ ⟨#[]⟩ Xf 0 0 0 0 0 0 0 (Xm F 0 0) (Xm F 0 0)) q):=by
 have b0:=Xl a0;clear a0;have b1:=Xl a1;have xo:=(XN.1 a8).1;obtain⟨H,T⟩:∃H,H=ug a (rV b ak c f d aE e k (.slice i h g)) ak b:=by simp
 have Q:H.heap[u]?=C (Xn p 98 (0,0)):=by grind [Below.heap_alloc]
 have b8:=aa Q 6 c0;have b9:=frozenAt Q 6;have a6:=aA (l:=6) (g:=i64 (aL+1)) Q;obtain⟨L,N⟩:∃L,L=H.setCell ⟨u,6,F⟩ (i64 (aL+1)):=by simp
 rw[<-N]at a6;have b7:L.cell? ⟨u,2,F⟩=C (pt O 0):=by grind [aa]
 have Z:Calls TP 109 #[pt O 0] L λy n=>y=Xs (.tuple #[])/\ly a.heap.size (rV b ak c f d aE e k (.slice i h g)) (oS ak b) n n/\(n.cell? ⟨u,2,F⟩=C (pt O 0)/\n.cell? ⟨u,6,F⟩=C (i64 (aL+1)))/\r n:=by rw[N,T];exact Y
 have a9:=Xl Z;have b5:=Xl T;have b6:=Xl N;clear Y Z a1 N T a8 Q a6;go_enter Tryz.func65,Tryz.ntmps65
 go_upto_region 5 with fail
 have c7:=b5.out.symm;have c8:=b6.out.symm
 go_upto_region 6 with fail
 clear b8 b9 c7
 go_upto_region 7 with(go_at_call 109;refine a9.out.mono ?_;rintro y l⟨rfl,a5,a7,a3⟩;have v:=Xl a5;have W:=Xl a7;have b3:=Xl a3;clear a5 a7 a3)
 clear b7 c8;have d3:=aa v.out.h0 2 A
 go_upto_region 12 with fail
 have a2:=b1.out l b3.out v.out 1;have b2:=Xl a2;clear a2 d3;have d5:l.drew.cell? ⟨u,2,F⟩=C (pt O 0)/\l.drew.cell? ⟨u,6,F⟩=C (i64 (aL+1))/\l.drew.cell? ⟨a.heap.size,0,F⟩=C (i64 b)/\l.drew.cell? ⟨a.heap.size,1,F⟩=C (i64 ak)/\l.drew.cell? ⟨a.heap.size,2,F⟩=C (i64 c)/\l.drew.cell? ⟨a.heap.size,3,F⟩=C (.string f)/\l.drew.cell? ⟨a.heap.size,4,F⟩=C (.string d)/\l.drew.cell? ⟨a.heap.size,5,F⟩=C (i64 aE)/\l.drew.cell? ⟨a.heap.size,6,F⟩=C (i64 e):=⟨W.out.1,W.out.2,aa (e:=l.drew) v.out.h0 0 A,aa (e:=l.drew) v.out.h0 1 A,aa (e:=l.drew) v.out.h0 2 A,aa (e:=l.drew) v.out.h0 3 A,aa (e:=l.drew) v.out.h0 4 A,aa (e:=l.drew) v.out.h0 5 A,aa (e:=l.drew) v.out.h0 6 A⟩
 go_region_held3 (λw=>w.cell? ⟨u,2,F⟩=C (pt O 0)/\w.cell? ⟨u,6,F⟩=C (i64 (aL+1))/\w.cell? ⟨a.heap.size,0,F⟩=C (i64 b)/\w.cell? ⟨a.heap.size,1,F⟩=C (i64 ak)/\w.cell? ⟨a.heap.size,2,F⟩=C (i64 c)/\w.cell? ⟨a.heap.size,3,F⟩=C (.string f)/\w.cell? ⟨a.heap.size,4,F⟩=C (.string d)/\w.cell? ⟨a.heap.size,5,F⟩=C (i64 aE)/\w.cell? ⟨a.heap.size,6,F⟩=C (i64 e))
  (first|omega|omega)
  (first|(go_at_call 113;refine b2.out.mono ?_;rintro y t⟨rfl,x,R,a4⟩;have d6:t.cell? ⟨u,2,F⟩=C (pt O 0)/\t.cell? ⟨u,6,F⟩=C (i64 (aL+1))/\t.cell? ⟨a.heap.size,0,F⟩=C (i64 b)/\t.cell? ⟨a.heap.size,1,F⟩=C (i64 ak)/\t.cell? ⟨a.heap.size,2,F⟩=C (i64 c)/\t.cell? ⟨a.heap.size,3,F⟩=C (.string f)/\t.cell? ⟨a.heap.size,4,F⟩=C (.string d)/\t.cell? ⟨a.heap.size,5,F⟩=C (i64 aE)/\t.cell? ⟨a.heap.size,6,F⟩=C (i64 e):=⟨R.1,R.2,aa x.h0 0 A,aa x.h0 1 A,aa x.h0 2 A,aa x.h0 3 A,aa x.h0 4 A,aa x.h0 5 A,aa x.h0 6 A⟩;have S:=Xl x;have d4:=Xl R;have b4:=Xl a4;clear x a4 R))
 have c3:=aa S.out.h3 3 A;have e6:=frozenAt S.out.h3 3;obtain⟨U,d0⟩:∃U,t.setCell ⟨a.heap.size+1+1,3,F⟩ (i64 o)=U:=by simp
 have c6:ly a.heap.size (rV b ak c f d aE e k (.slice i h g)) (oV ak 0 b o ⟨#[]⟩ ⟨#[]⟩ Xf 0 0 0 0 0 0 0 (Xm F 0 0) (Xm F 0 0)) t U:=by rw[<-d0];exact S.out.set 3 _
 have D:=Xl c6
 go_upto_region 14 with(go_at_call 104;refine(b0.out _).mono ?_;rintro y e5⟨rfl,rfl⟩)
 have d7:=aa D.out.h3 3 A
 go_upto_region 15 with fail
 refine ZH ?_;refine Zv A 38 _ A (a.heap.size+1+1) A 38 (oV ak 0 b o ⟨#[]⟩ ⟨#[]⟩ Xf 0 0 0 0 0 0 0 (Xm F 0 0) (Xm F 0 0)) (0,0) _ D.out.h3 A rfl rfl ?_;refine Zc A 38 _ _ A (a.heap.size+1) (oV ak 0 b o ⟨#[]⟩ ⟨#[]⟩ Xf 0 0 0 0 0 0 0 (Xm F 0 0) (Xm F 0 0)) A rfl 38 oZ D.out.h2 A rfl mX ?_;have c9:=IK A D.out b4.out;have X:=Xl c9
 go_wp2
 exact Zm (gZ A rfl (pC X.out.1 A)) A X.out.2
theorem xk{c6:Xe}{V:Xk Xe}{d5 d6:M->Prop}{q:Xp Xw->E->E->M->Prop}{x a8:XB}{T U W X Y Z a0:Xj}(l1:(c==2)=Xf)(l2:(c==7)=Xf)(g5:a.heap[u]?=C (Xn p 98 (0,0)))(j6:p[6]?=C (i64 aL))(k9:p[2]?=C (pt O 0))(l0:0<=aL/\aL<2^62)(d9:Calls TP 109 #[pt O 0] ((ug a (rV b ak c f d aE e k (.slice i h g)) ak b).setCell ⟨u,6,F⟩ (i64 (aL+1))) λn v=>n=Xs (.tuple #[])/\ly a.heap.size (rV b ak c f d aE e k (.slice i h g)) (oS ak b) v v/\(v.cell? ⟨u,2,F⟩=C (pt O 0)/\v.cell? ⟨u,6,F⟩=C (i64 (aL+1)))/\r v)(e2:∀l,r l->ly a.heap.size (rV b ak c f d aE e k (.slice i h g)) (oS ak b) l l->∀k1,Calls TP 113 #[pt O 0,.agg #[i64 c,.string f,.string d,i64 aE,i64 e],i64 ak,i64 (aL+1)] (l.drewN k1) λn t=>∃D L H,n=Xs (.tuple #[.string x,.slice D L H,.nilIface])/\ly a.heap.size (rV b ak c f d aE e k (.slice i h g)) (oS ak b) t t/\(t.cell? ⟨u,2,F⟩=C (pt O 0)/\t.cell? ⟨u,6,F⟩=C (i64 (aL+1)))/\q D L H t)(e1:∀a,Calls TP 104 #[.nilIface] a λk3 v=>k3=Xs (i64 0)/\a=v)(f8:∀D L H t,q D L H t->ly a.heap.size (rV b ak c f d aE e k (.slice i h g)) (oV ak 0 b 0 ⟨#[]⟩ ⟨#[]⟩ Xf 0 0 0 0 0 0 0 (Xm F 0 0) (Xm F 0 0)) t t->Calls TP 110 #[pt u 0,i64 b,.slice D L H] t λn w=>n=Xs (.tuple #[])/\ly a.heap.size (rV b ak c f d aE e k (.slice i h g)) (oV ak 0 b 0 ⟨#[]⟩ ⟨#[]⟩ Xf 0 0 0 0 0 0 0 (Xm F 0 0) (Xm F 0 0)) w w/\w.cell? ⟨u,2,F⟩=C (pt O 0)/\s w)(e4:∀w,s w->ly a.heap.size (rV b ak c f d aE e k (.slice i h g)) (oV ak 0 b 0 x ⟨#[]⟩ Xf 0 0 0 0 0 0 0 (Xm F 0 0) (Xm F 0 0)) w w->Calls TP 58 #[pt O 0,.string x] w λn a2=>∃a3 a5 a4,n=Xs (.tuple #[.agg #[.string a8,i64 T,i64 U,i64 W,i64 X,i64 Y,i64 Z,i64 a0,.slice a3 a5 a4],c6])/\(∀a7,ly a.heap.size (rV b ak c f d aE e k (.slice i h g)) (oV ak 0 b 0 x ⟨#[]⟩ Xf 0 0 0 0 0 0 0 (Xm F 0 0) (Xm F 0 0)) (a2.alloc a7) (a2.alloc a7))/\d5 a2)(e7:∀D L H t N,q D L H t->ly a.heap.size (rV b ak c f d aE e k (.slice i h g)) (oV ak 0 b 0 ⟨#[]⟩ ⟨#[]⟩ Xf 0 0 0 0 0 0 0 (Xm F 0 0) (Xm F 0 0)) t N->q D L H N)(e8:∀t N,s t->ly a.heap.size (rV b ak c f d aE e k (.slice i h g)) (oV ak 0 b 0 x ⟨#[]⟩ Xf 0 0 0 0 0 0 0 (Xm F 0 0) (Xm F 0 0)) t N->s N)(e9:∀a2 a7,d5 a2->d6 (a2.alloc a7))(g0:.nilIface=c6/\oV ak 0 b 0 x ⟨#[]⟩ J T U W X Y Z a0 (Xm F 0 0) (Xm F 0 0)=V\/.iface 32 (i64 o)=c6/\oV ak 0 b 0 x ⟨#[]⟩ Xf 0 0 0 0 0 0 0 (Xm F 0 0) (Xm F 0 0)=V):
 Calls TP 65 #[pt u 0,.agg (rV b ak c f d aE e k (.slice i h g))] a (zt a.heap.size V d6):=by
 have i5:=Xl g0;clear g0;have h1:=Xl e1;have i3:=Xl f8;have h4:=Xl e4;have i0:=Xl e7;have i1:=Xl e8;have i2:=Xl e9;clear e1 f8 e4 e7 e8 e9;have h2:=Xl e2;have xo:=(XN.1 g5).1;obtain⟨b1,c8⟩:∃b1,b1=ug a (rV b ak c f d aE e k (.slice i h g)) ak b:=by simp
 have b5:b1.heap[u]?=C (Xn p 98 (0,0)):=by grind [Below.heap_alloc]
 have j4:=aa b5 6 j6;have j5:=frozenAt b5 6;have g2:=aA (l:=6) (g:=i64 (aL+1)) b5;obtain⟨b2,b4⟩:∃b2,b2=b1.setCell ⟨u,6,F⟩ (i64 (aL+1)):=by simp
 rw[<-b4]at g2;have j3:b2.cell? ⟨u,2,F⟩=C (pt O 0):=by grind [aa]
 have e0:Calls TP 109 #[pt O 0] b2 λn v=>n=Xs (.tuple #[])/\ly a.heap.size (rV b ak c f d aE e k (.slice i h g)) (oS ak b) v v/\(v.cell? ⟨u,2,F⟩=C (pt O 0)/\v.cell? ⟨u,6,F⟩=C (i64 (aL+1)))/\r v:=by rw[b4,c8];exact d9
 have g9:=Xl e0;have i6:=Xl c8;have i7:=Xl b4;clear d9 e0 e2 b4 c8 g5 b5 g2;go_enter Tryz.func65,Tryz.ntmps65
 go_upto_region 5 with fail
 have j7:=i6.out.symm;have j8:=i7.out.symm
 go_upto_region 6 with fail
 clear j4 j5 j7
 go_upto_region 7 with(go_at_call 109;refine g9.out.mono ?_;rintro n l⟨rfl,f3,g4,e6⟩;have Q:=Xl f3;have d3:=Xl g4;have h6:=Xl e6;clear f3 g4 e6)
 clear j3 j8;have k4:=aa Q.out.h0 2 A
 go_upto_region 12 with fail
 have e3:=h2.out l h6.out Q.out 1;have h3:=Xl e3;clear e3 k4;have i8:l.drew.cell? ⟨u,2,F⟩=C (pt O 0)/\l.drew.cell? ⟨u,6,F⟩=C (i64 (aL+1))/\l.drew.cell? ⟨a.heap.size,0,F⟩=C (i64 b)/\l.drew.cell? ⟨a.heap.size,1,F⟩=C (i64 ak)/\l.drew.cell? ⟨a.heap.size,2,F⟩=C (i64 c)/\l.drew.cell? ⟨a.heap.size,3,F⟩=C (.string f)/\l.drew.cell? ⟨a.heap.size,4,F⟩=C (.string d)/\l.drew.cell? ⟨a.heap.size,5,F⟩=C (i64 aE)/\l.drew.cell? ⟨a.heap.size,6,F⟩=C (i64 e):=⟨d3.out.1,d3.out.2,aa (e:=l.drew) Q.out.h0 0 A,aa (e:=l.drew) Q.out.h0 1 A,aa (e:=l.drew) Q.out.h0 2 A,aa (e:=l.drew) Q.out.h0 3 A,aa (e:=l.drew) Q.out.h0 4 A,aa (e:=l.drew) Q.out.h0 5 A,aa (e:=l.drew) Q.out.h0 6 A⟩
 go_region_held3 (λR=>R.cell? ⟨u,2,F⟩=C (pt O 0)/\R.cell? ⟨u,6,F⟩=C (i64 (aL+1))/\R.cell? ⟨a.heap.size,0,F⟩=C (i64 b)/\R.cell? ⟨a.heap.size,1,F⟩=C (i64 ak)/\R.cell? ⟨a.heap.size,2,F⟩=C (i64 c)/\R.cell? ⟨a.heap.size,3,F⟩=C (.string f)/\R.cell? ⟨a.heap.size,4,F⟩=C (.string d)/\R.cell? ⟨a.heap.size,5,F⟩=C (i64 aE)/\R.cell? ⟨a.heap.size,6,F⟩=C (i64 e))
  (first|omega|omega)
  (first|(go_at_call 113;refine h3.out.mono ?_;rintro n y⟨D,L,H,rfl,S,b6,f0⟩;have i9:y.cell? ⟨u,2,F⟩=C (pt O 0)/\y.cell? ⟨u,6,F⟩=C (i64 (aL+1))/\y.cell? ⟨a.heap.size,0,F⟩=C (i64 b)/\y.cell? ⟨a.heap.size,1,F⟩=C (i64 ak)/\y.cell? ⟨a.heap.size,2,F⟩=C (i64 c)/\y.cell? ⟨a.heap.size,3,F⟩=C (.string f)/\y.cell? ⟨a.heap.size,4,F⟩=C (.string d)/\y.cell? ⟨a.heap.size,5,F⟩=C (i64 aE)/\y.cell? ⟨a.heap.size,6,F⟩=C (i64 e):=⟨b6.1,b6.2,aa S.h0 0 A,aa S.h0 1 A,aa S.h0 2 A,aa S.h0 3 A,aa S.h0 4 A,aa S.h0 5 A,aa S.h0 6 A⟩;have c0:=Xl S;have k8:=Xl b6;have h7:=Xl f0;clear S f0 b6))
 clear i8 i9;have c3:=aa c0.out.h3 3 A;have k5:=frozenAt c0.out.h3 3;obtain⟨N,g8⟩:∃N,y.setCell ⟨a.heap.size+1+1,3,F⟩ (i64 0)=N:=by simp
 have b3:ly a.heap.size (rV b ak c f d aE e k (.slice i h g)) (oV ak 0 b 0 ⟨#[]⟩ ⟨#[]⟩ Xf 0 0 0 0 0 0 0 (Xm F 0 0) (Xm F 0 0)) y N:=by rw[<-g8];exact c0.out.set 3 _
 have f9:=i3.out D L H N (i0.out _ _ _ _ _ h7.out b3) b3.base;have i4:=Xl f9;have d7:=Xl b3;clear b3 f9
 go_upto_region 14 with(go_at_call 104;refine(h1.out _).mono ?_;rintro n a2⟨rfl,rfl⟩)
 clear c3 k5 g8;have j2:=aa d7.out.h3 3 A;have j1:=aa d7.out.h0 0 A
 go_upto_region 17 with(go_at_call 110;refine i4.out.mono ?_;rintro n w⟨rfl,f5,g3,f1⟩;have b9:=Xl f5;have h0:=Xl g3;have h8:=Xl f1;clear f5 g3 f1)
 clear j2 j1;have k2:=aa b9.out.h3 4 A;have k7:=frozenAt b9.out.h3 4;obtain⟨a9,c9⟩:∃a9,w.setCell ⟨a.heap.size+1+1,4,F⟩ (.string x)=a9:=by simp
 have c7:ly a.heap.size (rV b ak c f d aE e k (.slice i h g)) (oV ak 0 b 0 x ⟨#[]⟩ Xf 0 0 0 0 0 0 0 (Xm F 0 0) (Xm F 0 0)) w a9:=by rw[<-c9];exact b9.out.set 4 _
 have j9:a9.cell? ⟨u,2,F⟩=C (pt O 0):=by rw[<-c9,QY (λn=>by omega)];exact h0.out
 have e5:=h4.out a9 (i1.out _ _ h8.out c7) c7.base;have h5:=Xl e5;clear e5 c7
 go_upto_region 19 with(go_at_call 58;refine h5.out.mono ?_;rintro n b7⟨a3,a5,a4,rfl,f6,f2⟩;have a6:=Xl (f6 (.cells #[.string a8,i64 T,i64 U,i64 W,i64 X,i64 Y,i64 Z,i64 a0,.slice a3 a5 a4] 154));have h9:=Xl (i2.out b7 (.cells #[.string a8,i64 T,i64 U,i64 W,i64 X,i64 Y,i64 Z,i64 a0,.slice a3 a5 a4] 154) f2);have g1:=Yn b7 (.cells #[.string a8,i64 T,i64 U,i64 W,i64 X,i64 Y,i64 Z,i64 a0,.slice a3 a5 a4] 154);have d2:=Xl g1;clear f6 f2 g1)
 clear k2 k7 c9 j9;generalize b7.alloc (.cells #[.string a8,i64 T,i64 U,i64 W,i64 X,i64 Y,i64 Z,i64 a0,.slice a3 a5 a4] 154)=d0 at*
 rcases i5.out with⟨rfl,rfl⟩|⟨rfl,rfl⟩
 focus
  go_upto_region 20 with fail
  have j0:=aa a6.out.h3 6 A;have k6:=frozenAt a6.out.h3 6;obtain⟨b8,g7⟩:∃b8,d0.setCell ⟨a.heap.size+1+1,6,F⟩ (.bool J)=b8:=by simp
  have f7:ly a.heap.size (rV b ak c f d aE e k (.slice i h g)) (oV ak 0 b 0 x ⟨#[]⟩ J 0 0 0 0 0 0 0 (Xm F 0 0) (Xm F 0 0)) d0 b8:=by rw[<-g7];exact a6.out.set 6 _
  have z:=Xl f7;clear f7
  go_upto_region 21 with fail
  clear j0 k6 g7;have a1:=(z.out.keep b7.heap.size (λn=>by have d8:=a6.out.h3;rw[<-n,d2.out]at d8;cases d8)).trans d2.out;have l3:=aa a1 1 A;have l4:=aa a1 2 A;have l5:=aa a1 3 A;have l6:=aa a1 4 A;have l7:=aa a1 5 A;have l8:=aa a1 6 A;have l9:=aa a1 7 A;have m0:=aa z.out.h3 7 A;have m1:=aa z.out.h3 8 A;have m2:=aa z.out.h3 9 A;have m3:=aa z.out.h3 10 A;have m4:=aa z.out.h3 11 A;have m5:=aa z.out.h3 12 A;have m6:=aa z.out.h3 13 A;have m8:=frozenAt z.out.h3;clear a1;obtain⟨d1,k0⟩:∃d1,(((((((b8.setCell ⟨a.heap.size+1+1,7,F⟩ (i64 T)).setCell ⟨a.heap.size+1+1,8,F⟩ (i64 U)).setCell ⟨a.heap.size+1+1,9,F⟩ (i64 W)).setCell ⟨a.heap.size+1+1,10,F⟩ (i64 X)).setCell ⟨a.heap.size+1+1,11,F⟩ (i64 Y)).setCell ⟨a.heap.size+1+1,12,F⟩ (i64 Z)).setCell ⟨a.heap.size+1+1,13,F⟩ (i64 a0))=d1:=by simp
  have f4:ly a.heap.size (rV b ak c f d aE e k (.slice i h g)) (oV ak 0 b 0 x ⟨#[]⟩ J T U W X Y Z a0 (Xm F 0 0) (Xm F 0 0)) d0 d1:=by rw[<-k0];exact((((((z.out.set 7 _).set 8 _).set 9 _).set 10 _).set 11 _).set 12 _).set 13 _
  have b0:=Xl f4;clear f4
  go_upto_region 22 with fail
 rotate_left
 have b0:=a6
 focus
  go_upto_region 22 with fail
 rotate_left
 all_goals
  refine ZH ?_;refine Zv A 38 _ A (a.heap.size+1+1) A 38 _ (0,0) _ b0.out.h3 A rfl rfl ?_;refine Zc A 38 _ _ A (a.heap.size+1) _ A rfl 38 oZ b0.out.h2 A rfl mX ?_;have g6:=IK A b0.out h9.out;have d4:=Xl g6;clear g6
  go_wp2
  exact Zm (gZ A rfl (pC d4.out.1 A)) A d4.out.2
end
variable{e:fG}{c:M}{b:M}{f:Xe}{k:Out}{i:E}{a:E}
section
variable[Inhabited aM]
theorem eZ(c:Xg (Xj×Xj))(id:Xj):fL c (Xd K id)=(c.find? λb=>decide (b.1=id)).map λb=>i64 b.2:=A
theorem ti{id:Xj}:(fL y.dE (Xd K id)).isSome=Wt.known y id:=by rw[eZ,Xp.isSome_map,aa0,Xg.find?_isSome];simp[Wt.known]
theorem vE(c:Xg (Xj×Xj))(id now:Xj)(d:Xj):((c.map λb=>if b.1=id then(b.1,now)else b).find? λb=>decide (b.1=d))=(c.find? λb=>decide (b.1=d)).map λb=>if b.1=id then(b.1,now)else b:=by
 induction c with
 |nil=>rfl
 |cons b c e=>grind
theorem zZ{id:Xj}(e:Wt.known y id=J):fL (Wt.heard y id).dE (Xd K id)=C (i64 y.now)/\∀b,b≠Xd K id->fL (Wt.heard y id).dE b=fL y.dE b:=by
 have d:=e;rw[<-ti,eZ,Xp.isSome_map]at d;obtain⟨c,f⟩:=XR.1 d;have hid:c.1=id:=by grind
 refine⟨?_,λb l=>?_⟩
 .show Xp.map _ (Xg.find? _ (y.dE.map _))=_;rw[vE,f];simp[hid]
 cases b with
 |int g i=>
  cases g with
  |i64=>
   rw[eZ,eZ];show Xp.map _ (Xg.find? _ (y.dE.map _))=_;rw[vE];cases k:Xg.find? (λc=>decide (c.1=i)) y.dE with
   |none=>rfl
   |some h=>grind
  |_=>rfl
 |_=>rfl
section
variable{g:Xj}{h:Xg Out}
theorem Hp(i:aK u g y h e c)(id:Xj):Calls TP 64 #[pt u 0,Xd K id] c λd b=>d=Xs (.bool (Wt.known y id))/\aK u g (if Wt.known y id then Wt.heard y id else y) h e b/\aH (aI u y.tree e) (aI u y.tree e) c b:=by
 obtain⟨z,w,r,p⟩:=i.jB;have k:=p.get MW IC (US c) r (k:=Xd K id) ⟨id,A⟩ J;have l:=ti (y:=y) (id:=id);cases o:Wt.known y id with
 |true=>
  rw[o]at l;obtain⟨f,m⟩:=XR.1 l;obtain⟨H,L⟩:=zZ o;obtain⟨q,rfl⟩:∃q,f=i64 q:=by
   rw[eZ]at m;cases W:Xg.find? (λd=>decide (d.1=id)) y.dE with
   |none=>simp_all
   |some d=>grind
  rw[m]at k;have s:c.drew.heap[e.hb]?=C (.map z w):=r;obtain⟨D,x,O,v⟩:=p.put MW IC s (k:=Xd K id) ⟨id,A⟩ (i64 y.now) (g:=fL (Wt.heard y id).dE) H L;refine(JK i.ch k O).mono λd S⟨n,t⟩=>⟨n,?_⟩;obtain⟨q1,R⟩:=abf (o':=.map D x) s;rw[t];exact i.hears (se:=(Wt.heard y id).dE) q1 v (by simp) (λa U N=>R a N)
 |false=>
  rw[o]at l;have m:fL y.dE (Xd K id)=F:=by simpa using l
  rw[m]at k;refine(Nf i.ch k).mono λd S⟨n,t⟩=>⟨n,?_⟩;simp_all [aH.refl]
theorem eY.form{e:Xg B}(d:eY e f c):∃a i b,f=.slice a i b:=by rcases d with⟨rfl,_⟩|⟨_,_,_,_,_,rfl,_⟩<;>exact⟨_,_,_,A⟩
theorem sZ.form{e:Xg (Xj×B)}(d:sZ e f c):∃a i b,f=.slice a i b:=by rcases d with⟨rfl,_⟩|⟨_,_,_,_,_,rfl,_⟩<;>exact⟨_,_,_,A⟩
theorem Gj(i:aK u g y h e c)(t:h.length<2^20){f:Xe×Xe}(l:jX k f c)(r:∀a,f.1.ownBlock=C a\/f.2.ownBlock=C a->¬aI u y.tree e a):
 Calls TP 60 #[pt u 0,.agg (iC k f)] c λm b=>m=Xs (.tuple #[])/\∃d,aK u g y (h++[k]) {e with ov:=d,vs:=e.vs++[f]} b/\aH (aI u y.tree e) (aI u y.tree {e with ov:=d,vs:=e.vs++[f]}) c b:=by
 obtain⟨Q,R⟩:=f;obtain⟨N,H,c1,n⟩:=l.1.form;obtain⟨O,L,c2,o⟩:=l.2.form;subst n o;refine(Oi i.ch A i.row t).mono λm b⟨q,x,s,d,p,w,v⟩=>⟨q,d,?_⟩;exact i.VQ l r p w v x s
theorem Uu(c:M):(binOp .eql 75 .nilFunc .nilFunc).run TP c=.ok (.bool J) c:=A
theorem Nj{v:Xk Xe}(w:c.heap[u]?=C (Xn v 98 (0,0)))(y:v[9]?=C .nilFunc)(d e f g:Xj)(r s:XB)(p:Xo)(h i k l m n o:Xj)(q t:Xe):Calls TP 151 #[pt u 0,.agg (oV d e f g r s p h i k l m n o q t)] c λx b=>x=Xs (.tuple #[])/\b=c.alloc (.cells (oV d e f g r s p h i k l m n o q t) 38):=by
 have z:=(XN.1 w).1
 have D:(c.alloc (.cells (oV d e f g r s p h i k l m n o q t) 38)).cell? ⟨u,9,F⟩=C .nilFunc:=by rw[Yx _ _ _ z];exact aa w 9 y
 have H:=Uu (c.alloc (.cells (oV d e f g r s p h i k l m n o q t) 38));go_enter Tryz.func151,Tryz.ntmps151
 go_wp2
 simp[Zm,aaP]
theorem zd(of:Xj):∀(c:Xg Wt.Ev)(y:cN)(b:Wt.Ev),Wt.tell of y (c++[b])=((lu of (Wt.tell of y c).1 b).1,(Wt.tell of y c).2++(lu of (Wt.tell of y c).1 b).2)
 |[],y,b=>by
  simp[Wt.tell]
 |d::c,y,b=>by simp[Wt.tell,zd]
theorem ze(of:Xj):∀(m:Xg Wt.Ev){y:cN},(∀d l,(y.cd d l).length<=i)->∀d l,((Wt.tell of y m).1.cd d l).length<=i
 |[],y,n=>n
 |o::m,y,n=>by
  refine ze of m (y:=(lu of y o).1) λd l=>?_;unfold lu
  grind
theorem Cc(c:Xj):∀b:Xg Xj,(dF c b).length<=b.length+1
 |[]=>by simp[dF]
 |d::b=>by
  unfold dF;split
  .simp
  split
  .simp
  have:=Cc c b;simp only[Yl];omega
theorem mO(b:Xg Xj):∀a:Xg Xj,(a.foldr dF b).length<=a.length+b.length
 |[]=>by simp
 |c::a=>by have d:=Cc c (a.foldr dF b);have e:=mO b a;simp only[aaY,Yl];omega
theorem pR(e:∀c d,(y.cd c d).length<=i)(b:Wt.Ev):(Wt.toldOf y b).length<=i+i:=by grind [Wt.toldOf,mO]
theorem EW(c:Xg Wt.Ev)(b:E)(d:Wt.Ev)(e:c[b]?=C d):(ib c)[b*2]?=C (i64 d.1)/\(ib c)[b*2+1]?=C (.string (bs d.2)):=by
 unfold ib
 induction c generalizing b with
 |nil=>simp at e
 |cons g c f=>
  cases b with
  |zero=>simp_all
  |succ b=>grind
def yq(of:Xj)(b:Wt.Ev)(c:Xj):Out:={ak:=c,ev:=b.1,idx:=of,path:=b.2}
abbrev ln:Xe×Xe:=(Xm F 0 0,Xm F 0 0)
theorem Kd(of:Xj)(b:Wt.Ev)(d:Xj)(c:M):jX (yq of b d) ln c:=⟨Xh ⟨A,A⟩,Xh ⟨A,A⟩⟩
def mD(u:E)(g:Xj)(h:cN)(i:Xg Out)(f:Tree)(e:fG)(c b:M)(d:fG):Prop:=aK u g h i d b/\h.tree=f/\aH (aI u f e) (aI u f d) c b/\(∀a,dw d a->dw e a)/\d.tb=e.tb
theorem mD.step{H o:cN}{D p:Xg Out}{l:Tree}{m d:fG}{q w₂:M}(n:mD u g H D l e c q m)(t:aK u g o p d w₂)(x:o.tree=l)(s:aH (aI u l m) (aI u l d) q w₂)(z:∀a,dw d a->dw m a)(w:d.tb=m.tb):mD u g o p l e c w₂ d:=
 ⟨t,x,n.2.2.1.trans s,λa v=>n.2.2.2.1 a (z a v),w.trans n.2.2.2.2⟩
theorem aH.out{own o:E->Prop}(l:aH own o c b)(m:a<c.heap.size)(n:¬own a):b.heap[a]?=c.heap[a]?/\¬o a/\a<b.heap.size:=
 ⟨l.keep a m n,λd=>by
   rcases l.more a d with d|d
   .exact n d
   omega,XY m l.size⟩
theorem ID{d:Xe}:∀a,dw {e with ov:=d,vs:=e.vs++[ln]} a->dw e a:=λa g=>by
 rcases g with b|b|⟨f,c,b⟩
 .exact Xh b
 .exact Xi (Xh b)
 replace c:=c;rcases YC.1 c with c|c
 .exact Xi (Xi ⟨f,c,b⟩)
 simp at c;subst c;rcases b with b|b<;>cases b
theorem Tn(e7:aK u g y h e c)(g3:∀d4 a0,(y.cd d4 a0).length<=8){m:Xg Wt.Ev}{g6:E}(f4:Ru m f g6 c)(f6:∀a,f.ownBlock=C a->¬aI u y.tree e a)(h4:m.length<2^10)(h6:h.length+16*m.length<2^20)(of:Xj):
 Calls TP 110 #[pt u 0,Xd K of,f] c λT b=>T=Xs (.tuple #[])/\∃n,mD u g (Wt.tell of y m).1 (h++(Wt.tell of y m).2) y.tree e c b n:=by
 obtain⟨p,g2,c8⟩:∃p,(∃b8,f=.slice b8 m.length m.length/\(0<m.length->b8=C ⟨p,0,F⟩))/\(0<m.length->c.heap[p]?=C (Xn (ib m) 269 (0,0))/\¬aI u y.tree e p):=by
  rcases f4 with⟨rfl,rfl⟩|⟨p,rfl,X,_,O⟩
  .exact⟨0,⟨F,A,λl=>absurd l (by simp)⟩,λl=>absurd l (by simp)⟩
  exact⟨p,⟨_,A,λ_=>rfl⟩,λ_=>⟨O,f6 p A⟩⟩
 obtain⟨b8,rfl,f3⟩:=g2;obtain⟨k,e0⟩:∃k:E->Wt.Ev,∀d,d<m.length->m[d]?=C (k d):=⟨λd=>m.getD d (0,[]),λd w=>by simp[List.getD,w]⟩
 let o:=λd=>(Wt.tell of y (m.take d)).1
 let a7:=λd=>h++(Wt.tell of y (m.take d)).2
 have b4:∀d,(o d).tree=y.tree:=λd=>sP of _ y;have d3:∀d d4 a0,((o d).cd d4 a0).length<=8:=λd=>ze of _ g3
 have g1:∀d,d<m.length->o (d+1)=(lu of (o d) (k d)).1/\a7 (d+1)=a7 d++(Wt.toldOf (o d) (k d)).map (yq of (k d)):=λd w=>by
  have L:m.take (d+1)=m.take d++[k d]:=by rw[ZX,e0 d w];rfl
  show(Wt.tell of y (m.take (d+1))).1=_/\h++(Wt.tell of y (m.take (d+1))).2=_;rw[L,zd];exact⟨A,by rw[<-ZJ];rfl⟩
 have f9:∀d,d<=m.length->(a7 d).length<=h.length+16*d:=λd=>by
  induction d with
  |zero=>intro _;show(h++(Wt.tell of y []).2).length<=_;simp[Wt.tell]
  |succ d h7=>intro w;have O:=pR (d3 d) (k d);rw[(g1 d (by omega)).2,Yw,ZU];omega
 let P:E->M->Prop:=λd b=>∃n,mD u g (o d) (a7 d) y.tree e c b n/\n.tw=e.tw/\(0<m.length->b.heap[p]?=C (Xn (ib m) 269 (0,0))/\¬aI u y.tree n p/\p<b.heap.size)
 let b5:E->E->Xp Xw->E->E->E->M->Prop:=λd D a R S j b=>d<m.length/\j<=R/\R=(Wt.toldOf (o d) (k d)).length/\∃n,mD u g (lu of (o d) (k d)).1 (a7 d++((Wt.toldOf (o d) (k d)).take j).map (yq of (k d))) y.tree e c b n/\n.tw=e.tw/\(0<m.length->b.heap[p]?=C (Xn (ib m) 269 (0,0))/\¬aI u y.tree n p/\p<b.heap.size)/\
  (b.heap[D]?=C (Xn #[i64 (k d).1,.string (bs (k d).2)] 269 (0,0))/\¬aI u y.tree n D/\D<b.heap.size)/\(0<R->∃q H,a=C ⟨q,0,F⟩/\b.heap[q]?=C (Xn H 3 (0,0))/\H.toList.take R=(Wt.toldOf (o d) (k d)).map i64/\¬aI u y.tree n q/\q<b.heap.size)
 let d6:E->E->Xp Xw->E->E->E->M->Prop:=λd D a R S j b=>b5 d D a R S (j+1) b
 have f5:∀b,P m.length b->∃n,mD u g (Wt.tell of y m).1 (h++(Wt.tell of y m).2) y.tree e c b n:=λb⟨n,l,_⟩=>by have L:m.take m.length=m:=N_;have d8:mD u g (Wt.tell of y (m.take m.length)).1 (h++(Wt.tell of y (m.take m.length)).2) y.tree e c b n:=l;rw[L]at d8;exact⟨n,d8⟩
 refine aaU (Ow (p:=e.tw) (e:=p) (k:=λd=>(k d).1) (i:=λd=>bs (k d).2) (tl:=λd j=>(Wt.toldOf (o d) (k d)).getD j 0) (P:=P) (r:=b5) (L:=d6) f3 (by omega) ?_ ?_ ?_ ?_ ?_ ?_ ?_ ?_) λT b⟨U,l⟩=>⟨U,f5 b l⟩
 ·
  refine⟨e,⟨?_,A,aH.refl _ _,λa l=>l,A⟩,A,λl=>⟨(c8 l).1,(c8 l).2,(XN.1 (c8 l).1).1⟩⟩;show aK u g (Wt.tell of y []).1 (h++(Wt.tell of y []).2) e c;simp only[Wt.tell,YT];exact e7
 ·
  intro d b⟨n,_,_,l⟩ w;obtain⟨X,_⟩:=l (by omega);obtain⟨q1,g9⟩:=EW m d (k d) (e0 d w);exact⟨aa X _ q1,aa X _ g9⟩
 ·
  intro d b⟨n,l,x,_⟩;have Z:=l.1.ch;rw[x]at Z;exact⟨aa Z 3 A,(XN.1 Z).1⟩
 ·
  intro d b w⟨n,l,x,Y⟩ a0;obtain⟨v,Q⟩:∃v,v=(b.alloc (.cells #[i64 (k d).1,.string (bs (k d).2)] 269)).drewN a0:=⟨_,A⟩;have e4:v.heap.size=b.heap.size+1:=by rw[Q];show(b.heap.push _).size=_;simp
  have t:∀a,a<b.heap.size->v.heap[a]?=b.heap[a]?:=λa s=>by rw[Q];exact XQ b _ a s
  have c9:v.heap[b.heap.size]?=C (Xn #[i64 (k d).1,.string (bs (k d).2)] 269 (0,0)):=by rw[Q];exact Yn b _
  show Calls TP 150 #[pt e.tw 0,i64 (k d).1,.string (bs (k d).2)] ((b.alloc (.cells #[i64 (k d).1,.string (bs (k d).2)] 269)).drewN a0) _;rw[<-Q];have a2:=l.1.old (by omega) t;have e1:=Sm a2.cd (k d).1 (k d).2;rw[x]at e1;refine e1.mono λT a1⟨a,i,S,e9,U,d7,b7,d5,e3⟩=>?_;rw[<-x]at e3;rw[<-x]at d7 d5;obtain⟨b6,z⟩:=a2.watched d7 d5;rw[b4]at z;have f2:tR (o d).cd (k d).1 (k d).2=Wt.toldOf (o d) (k d):=A;rw[f2]at b7
  have f8:i=(Wt.toldOf (o d) (k d)).length:=by
   rcases b7 with⟨X,e8,b9,O⟩|⟨q,b9,H,O,_⟩
   .cases O;rw[X];rfl
   cases O;rfl
  have f7:=pR (d3 d) (k d);have c7:aH (aI u y.tree n) (aI u y.tree n) b v:=⟨by omega,λa s _=>t a s,λa l=>Xh l⟩
  have d2:¬aI u y.tree n b.heap.size:=λa5=>by have:=l.1.bj (b:=b.heap.size) (by rw[b4];exact a5);omega
  refine⟨a,i,S,U,by omega,w,YA _,f8,{n with f:=e9},?_,x,λN=>?_,?_,λN=>?_⟩
  .refine l.step (w₂:=a1) ?_ (b4 d) (c7.trans z) (λa l=>l) A;rw[aa9,Zl,YT];exact b6
  .obtain⟨a8,a9,b0⟩:=Y N;have r:=aH.out z (a:=p) (by omega) a9;exact⟨r.1.trans ((t p b0).trans a8),r.2.1,r.2.2⟩
  .have r:=aH.out z (a:=b.heap.size) (by omega) d2;exact⟨r.1.trans c9,r.2.1,r.2.2⟩
  rcases b7 with⟨X,e8,b9,O⟩|⟨q,b9,H,O,h3,d9,f0⟩
  .cases O;omega
  cases O;refine⟨q,H,A,d9,f0,λa5=>?_,(XN.1 d9).1⟩;have f1:aI u y.tree n q:=by
   rcases a5 with l|l|l|l|l
   .exact Xh l
   .exact Xi (Xh l)
   .exact Xi (Xi (Xh (e3 q l)))
   .exact Xi (Xi (Xi (Xh l)))
   exact Xi (Xi (Xi (Xi l)))
  have:=a2.bj (b:=q) (by rw[b4];exact f1);omega
 ·
  intro d D a R S j b⟨w,d0,b3,n,l,x,Y,⟨L,b1,b2⟩,a6⟩;have Z:=l.1.ch;rw[x]at Z;refine⟨aa L 0 A,aa L 1 A,aa Z 3 A,λe2=>?_⟩;obtain⟨q,H,rfl,a3,a4,_⟩:=a6 (by omega);refine⟨q,A,aa a3 j ?_⟩;have:=YU (λg5=>g5[j]?) a4;simp only[ZQ,XC e2,o_]at this;rw[ZS]at this;rw[this];have d1:j<(Wt.toldOf (o d) (k d)).length:=by omega
  simp[List.getD,d1]
 ·
  intro d D a R S j b e2⟨w,d0,b3,n,l,x,Y,⟨L,b1,b2⟩,a6⟩;have d1:j<(Wt.toldOf (o d) (k d)).length:=by omega
  obtain⟨W,e6⟩:∃W,(Wt.toldOf (o d) (k d)).getD j 0=W:=⟨_,A⟩;have g4:(Wt.toldOf (o d) (k d))[j]?=C W:=by rw[<-e6];simp[List.getD,d1]
  show Calls TP 60 #[pt u 0,.agg (Pu ((Wt.toldOf (o d) (k d)).getD j 0) (k d).1 of (bs (k d).2))] (b.alloc (.cells (Pu ((Wt.toldOf (o d) (k d)).getD j 0) (k d).1 of (bs (k d).2)) 38)) λT h0=>T=Xs (.tuple #[])/\h0.heap[b.heap.size]?=C (Xn (Pu ((Wt.toldOf (o d) (k d)).getD j 0) (k d).1 of (bs (k d).2)) 38 (0,0))/\_;rw[e6];obtain⟨v,Q⟩:∃v,v=b.alloc (.cells (Pu W (k d).1 of (bs (k d).2)) 38):=⟨_,A⟩;have e4:v.heap.size=b.heap.size+1:=by rw[Q];show(b.heap.push _).size=_;simp
  have t:∀a,a<b.heap.size->v.heap[a]?=b.heap[a]?:=λa s=>by rw[Q];exact XQ b _ a s
  have c9:v.heap[b.heap.size]?=C (Xn (Pu W (k d).1 of (bs (k d).2)) 38 (0,0)):=by rw[Q];exact Yn b _
  rw[<-Q];have a2:=l.1.old (by omega) t;have h5:=f9 d (by omega);have f7:=pR (d3 d) (k d);have g0:=Gj a2 (by rw[Yw,ZU,Zy];omega) (Kd of (k d) W v) (λa s=>by rcases s with s|s<;>cases s)
  have d2:¬aI u y.tree n b.heap.size:=λa5=>by have:=l.1.bj (b:=b.heap.size) (by rw[l.2.1];exact a5);omega
  refine g0.mono λT a1⟨U,g8,b6,z⟩=>?_;rw[l.2.1]at z;have c7:aH (aI u y.tree n) (aI u y.tree n) b v:=⟨by omega,λa s _=>t a s,λa l=>Xh l⟩;have g7:=aH.out z (a:=b.heap.size) (by omega) d2;refine⟨U,g7.1.trans c9,w,by omega,b3,{n with ov:=g8,vs:=n.vs++[ln]},?_,x,λN=>?_,?_,λN=>?_⟩
  .refine l.step (w₂:=a1) ?_ l.2.1 (c7.trans z) ID A
   have:((Wt.toldOf (o d) (k d)).take (j+1)).map (yq of (k d))=((Wt.toldOf (o d) (k d)).take j).map (yq of (k d))++[yq of (k d) W]:=by rw[ZX,g4];simp
   rw[this,<-ZJ];exact b6
  .obtain⟨a8,a9,b0⟩:=Y N;have r:=aH.out z (a:=p) (by omega) a9;exact⟨r.1.trans ((t p b0).trans a8),r.2.1,r.2.2⟩
  .have r:=aH.out z (a:=D) (by omega) b1;exact⟨r.1.trans ((t D b2).trans L),r.2.1,r.2.2⟩
  obtain⟨q,H,rfl,a3,a4,c0,c6⟩:=a6 N;have r:=aH.out z (a:=q) (by omega) c0;exact⟨q,H,A,r.1.trans ((t q c6).trans a3),a4,r.2.1,r.2.2⟩
 ·
  intro d D a R S j b⟨w,d0,b3,n,l,x,Y,⟨L,b1,b2⟩,a6⟩;refine(Nj l.1.ch A _ _ _ _ _ _ _ _ _ _ _ _ _ _ _ _).mono λT a1⟨U,e5⟩=>⟨U,w,d0,b3,n,?_,x,λN=>?_,?_,λN=>?_⟩
  all_goals
   have e4:a1.heap.size=b.heap.size+1:=by rw[e5];show(b.heap.push _).size=_;simp
   have t:∀a,a<b.heap.size->a1.heap[a]?=b.heap[a]?:=λa s=>by rw[e5];exact XQ b _ a s
  .exact l.step (l.1.old (by omega) t) l.2.1 ⟨by omega,λa s _=>t a s,λa l=>Xh l⟩ (λa l=>l) A
  .obtain⟨a8,a9,b0⟩:=Y N;exact⟨(t p b0).trans a8,a9,by omega⟩
  .exact⟨(t D b2).trans L,b1,by omega⟩
  obtain⟨q,H,rfl,a3,a4,c0,c6⟩:=a6 N;exact⟨q,H,A,(t q c6).trans a3,a4,c0,by omega⟩
 grind
end
end
variable{a:M}
section
variable{y:E}{b ak d aE p z:Xj}{c o n:XB}{H:Xo}{x:Xp Xw}{v t:E}{f g h i k l m:Xj}{q:Xp Xw}{s r:E}{e:Xe}{KP D:M->Prop}
theorem Du(S:Calls TP 64 #[pt u 0,i64 ak] (jI a (rV b ak d c o aE p Xf (.slice x v t)) (gV n f g h i k l m (.slice q s r) e) ak b) λN w=>N=Xs (.bool J)/\qd a.heap.size 107 158 (rV b ak d c o aE p Xf (.slice x v t)) (gV n f g h i k l m (.slice q s r) e) (oS ak b) w w/\KP w)(R:∀a,Calls TP 104 #[e] a λa2 a3=>a2=Xs (i64 z)/\a=a3)(b3:(z==7)=J)(b4:(d==9)=J)(b2:(d==10)=Xf)(b1:(z !=0)=J):
 Calls TP 61 #[pt u 0,.agg (rV b ak d c o aE p Xf (.slice x v t)),.agg (gV n f g h i k l m (.slice q s r) e)] a (lD a.heap.size (oV ak 0 b 0 c ⟨#[]⟩ Xf 0 0 0 0 0 0 0 (Xm F 0 0) (Xm F 0 0)) KP):=by
 have X:=Xl S;clear S;have W:=Xl R;clear R;go_enter Tryz.func61,Tryz.ntmps61
 go_upto_region 12 with(first|(go_at_call 64;refine X.out.mono ?_;rintro N w⟨rfl,H,T⟩;have y:=H.h0;have U:=H.h1;have a4:=aa y 1 A;have a5:=aa y 2 A;have a6:=aa y 3 A;have a7:=aa y 7 A;have a8:=aa U 9 A;have D:=Xl H;have Y:=Xl T;clear T H y U)|(go_at_call 104;refine(W.out _).mono ?_;rintro N b5⟨rfl,rfl⟩))
 clear a4 a5 a6 a7 a8;have b0:=aa D.out.h0 3 A;have a9:=aa D.out.h3 4 A;have b6:=frozenAt D.out.h3 4;obtain⟨O,a1⟩:∃O,w.setCell ⟨a.heap.size+1+1+1,4,F⟩ (.string c)=O:=by simp
 have Z:qd a.heap.size 107 158 (rV b ak d c o aE p Xf (.slice x v t)) (gV n f g h i k l m (.slice q s r) e) (oV ak 0 b 0 c ⟨#[]⟩ Xf 0 0 0 0 0 0 0 (Xm F 0 0) (Xm F 0 0)) w O:=by rw[<-a1];exact D.out.set 4 _
 have L:=Xl Z
 go_upto_region 14 with fail
 refine ZH ?_;refine Zv A 38 _ A (a.heap.size+1+1+1) A 38 (oV ak 0 b 0 c ⟨#[]⟩ Xf 0 0 0 0 0 0 0 (Xm F 0 0) (Xm F 0 0)) (0,0) _ L.out.h3 A rfl rfl ?_;refine Zc A 38 _ _ A (a.heap.size+1+1) (oV ak 0 b 0 c ⟨#[]⟩ Xf 0 0 0 0 0 0 0 (Xm F 0 0) (Xm F 0 0)) A rfl 38 oZ L.out.h2 A rfl mX ?_;have a0:=rm A L.out Y.out;have Q:=Xl a0
 go_wp2
 exact Zm (gZ A rfl (pC Q.out.1 A)) A Q.out.2
theorem Dv(a3:Calls TP 64 #[pt u 0,i64 ak] (jI a (rV b ak d c o aE p J (.slice x v t)) (gV n f g h i k l m (.slice q s r) e) ak b) λL w=>L=Xs (.bool J)/\qd a.heap.size 107 158 (rV b ak d c o aE p J (.slice x v t)) (gV n f g h i k l m (.slice q s r) e) (oS ak b) w w/\KP w)(a2:∀a,Calls TP 104 #[e] a λc6 c7=>c6=Xs (i64 z)/\a=c7)(d7:(z==7)=J)(d8:(d==9)=J)(d6:(d==10)=Xf)(d5:(z !=0)=J)(a0:∀w,KP w->qd a.heap.size 107 158 (rV b ak d c o aE p J (.slice x v t)) (gV n f g h i k l m (.slice q s r) e) (oS ak b) w w->w.cell? ⟨u,3,F⟩=C (pt y 0)/\∀c0,Calls TP 105 #[pt y 0,i64 ak,.bool Xf,.string c] (w.drewN c0) λL H=>L=Xs (.tuple #[])/\H.cell? ⟨u,3,F⟩=C (pt y 0)/\qd a.heap.size 107 158 (rV b ak d c o aE p J (.slice x v t)) (gV n f g h i k l m (.slice q s r) e) (oS ak b) H H/\D H):
 Calls TP 61 #[pt u 0,.agg (rV b ak d c o aE p J (.slice x v t)),.agg (gV n f g h i k l m (.slice q s r) e)] a (lD a.heap.size (oV ak 0 b 0 c ⟨#[]⟩ Xf 0 0 0 0 0 0 0 (Xm F 0 0) (Xm F 0 0)) D):=by
 have b1:=Xl a3;clear a3;have b0:=Xl a2;clear a2;have a7:=Xl a0;clear a0;go_enter Tryz.func61,Tryz.ntmps61
 go_upto_region 11 with(first|(go_at_call 64;refine b1.out.mono ?_;rintro L w⟨rfl,T,a4⟩;have Q:=T.h0;have a6:=T.h1;have c8:=aa Q 1 A;have c9:=aa Q 2 A;have d0:=aa Q 3 A;have d1:=aa Q 7 A;have d2:=aa a6 9 A;have b5:=Xl T;have b2:=Xl a4;clear a4 T Q a6)|(go_at_call 104;refine(b0.out _).mono ?_;rintro L d9⟨rfl,rfl⟩))
 obtain⟨b6,a1⟩:=a7.out w b2.out b5.out;have X:Calls TP 105 #[pt y 0,i64 ak,.bool Xf,.string c] w.drew λL H=>L=Xs (.tuple #[])/\H.cell? ⟨u,3,F⟩=C (pt y 0)/\qd a.heap.size 107 158 (rV b ak d c o aE p J (.slice x v t)) (gV n f g h i k l m (.slice q s r) e) (oS ak b) H H/\D H:=a1 1;have a8:=Xl X;clear X a1;have b3:w.drew.cell? ⟨u,3,F⟩=C (pt y 0)/\w.drew.cell? ⟨a.heap.size,1,F⟩=C (i64 ak)/\w.drew.cell? ⟨a.heap.size,2,F⟩=C (i64 d)/\w.drew.cell? ⟨a.heap.size,3,F⟩=C (.string c):=by simp_all
 clear b6 c8 c9 d0 d1 d2
 go_region_held3 (λS=>S.cell? ⟨u,3,F⟩=C (pt y 0)/\S.cell? ⟨a.heap.size,1,F⟩=C (i64 ak)/\S.cell? ⟨a.heap.size,2,F⟩=C (i64 d)/\S.cell? ⟨a.heap.size,3,F⟩=C (.string c))
  (first|omega|omega)
  (first|(go_at_call 105;refine a8.out.mono ?_;rintro L N⟨rfl,Z,O,a5⟩;have b4:N.cell? ⟨u,3,F⟩=C (pt y 0)/\N.cell? ⟨a.heap.size,1,F⟩=C (i64 ak)/\N.cell? ⟨a.heap.size,2,F⟩=C (i64 d)/\N.cell? ⟨a.heap.size,3,F⟩=C (.string c):=⟨Z,aa O.h0 1 A,aa O.h0 2 A,aa O.h0 3 A⟩;have R:=Xl O;have a9:=Xl a5;clear O a5 Z))
 clear b3 b4
 go_upto_region 12 with fail
 have d4:=aa R.out.h0 3 A;have d3:=aa R.out.h3 4 A;have e0:=frozenAt R.out.h3 4;obtain⟨W,b9⟩:∃W,N.setCell ⟨a.heap.size+1+1+1,4,F⟩ (.string c)=W:=by simp
 have b7:qd a.heap.size 107 158 (rV b ak d c o aE p J (.slice x v t)) (gV n f g h i k l m (.slice q s r) e) (oV ak 0 b 0 c ⟨#[]⟩ Xf 0 0 0 0 0 0 0 (Xm F 0 0) (Xm F 0 0)) N W:=by rw[<-b9];exact R.out.set 4 _
 have U:=Xl b7
 go_upto_region 14 with fail
 refine ZH ?_;refine Zv A 38 _ A (a.heap.size+1+1+1) A 38 (oV ak 0 b 0 c ⟨#[]⟩ Xf 0 0 0 0 0 0 0 (Xm F 0 0) (Xm F 0 0)) (0,0) _ U.out.h3 A rfl rfl ?_;refine Zc A 38 _ _ A (a.heap.size+1+1) (oV ak 0 b 0 c ⟨#[]⟩ Xf 0 0 0 0 0 0 0 (Xm F 0 0) (Xm F 0 0)) A rfl 38 oZ U.out.h2 A rfl mX ?_;have b8:=rm A U.out a9.out;have Y:=Xl b8
 go_wp2
 exact Zm (gZ A rfl (pC Y.out.1 A)) A Y.out.2
end
variable{T:E}{U:E}{W:E}
section
variable{t:E}{e ak o aE z Q:Xj}{d y p dd:XB}{v R N:Xo}{L:Xp Xw}{H D:E}{f g h i k l m:Xj}{q:Xp Xw}{s r:E}{x S:Xe}{KP O:M->Prop}
theorem qd.Ol{X w V n:Xk Xe}{Y:M}(Z:qd T U W X w V Y c)(a:E)(b:Xe)(a0:V.setIfInBounds a b=n):qd T U W X w n Y (c.setCell ⟨T+1+1+1,a,F⟩ b):=a0▸Z.set a b
theorem fT(d8:Calls TP 64 #[pt u 0,i64 ak] (jI c (rV e ak o d y aE z v (.slice L H D)) (gV p f g h i k l m (.slice q s r) x) ak e) λX a=>X=Xs (.bool J)/\qd c.heap.size 107 158 (rV e ak o d y aE z v (.slice L H D)) (gV p f g h i k l m (.slice q s r) x) (oS ak e) a a/\KP a)(d7:∀c,Calls TP 104 #[x] c λg0 h5=>g0=Xs (i64 Q)/\c=h5)(i4:(Q==7)=Xf)(i2:(Q !=0)=Xf)(i5:(o==8)=R)(i3:(o==10)=N)(e1:J=R/\p=dd\/Xf=R/\⟨#[]⟩=dd)(e2:J=N/\.slice q s r=S\/Xf=N/\Xm F 0 0=S)
 (d9:v=Xf->∀a,KP a->O a)(d5:v=J->∀a,KP a->qd c.heap.size 107 158 (rV e ak o d y aE z v (.slice L H D)) (gV p f g h i k l m (.slice q s r) x) (oS ak e) a a->a.cell? ⟨u,3,F⟩=C (pt t 0)/\∀f9,Calls TP 105 #[pt t 0,i64 ak,.bool N,.string d] (a.drewN f9) λX Z=>X=Xs (.tuple #[])/\Z.cell? ⟨u,3,F⟩=C (pt t 0)/\qd c.heap.size 107 158 (rV e ak o d y aE z v (.slice L H D)) (gV p f g h i k l m (.slice q s r) x) (oS ak e) Z Z/\O Z):
 Calls TP 61 #[pt u 0,.agg (rV e ak o d y aE z v (.slice L H D)),.agg (gV p f g h i k l m (.slice q s r) x)] c (lD c.heap.size (oV ak 0 e 0 d dd J f g h i k l m S (Xm F 0 0)) O):=by
 have d2:=Xl d8;have d0:=Xl d7;have f1:=Xl d9;have e7:=Xl d5;have e9:=Xl (And.intro e1 e2);clear d8 d7 d9 d5 e1 e2;go_enter Tryz.func61,Tryz.ntmps61;cases v
 focus
  go_upto_region 12 with(first|(go_at_call 64;refine d2.out.mono ?_;rintro X a1⟨rfl,Y,a5⟩;have n:=Y.h0;have a7:=Y.h1;have b8:=aa n 1 A;have b9:=aa n 2 A;have c0:=aa n 3 A;have c6:=aa n 7 A;have c7:=aa a7 9 A;have a3:=Xl Y;have c9:=Xl (f1.out (by trivial) a1 a5);clear a5 Y n a7)|(go_at_call 104;refine(d0.out _).mono ?_;rintro X a2⟨rfl,rfl⟩))
  clear b8 b9 c0 c6 c7
 rotate_left
 focus
  go_upto_region 11 with(first|(go_at_call 64;refine d2.out.mono ?_;rintro X a⟨rfl,Y,a5⟩;have n:=Y.h0;have a7:=Y.h1;have b8:=aa n 1 A;have b9:=aa n 2 A;have c0:=aa n 3 A;have c6:=aa n 7 A;have c7:=aa a7 9 A;have f4:=Xl Y;have f0:=Xl a5;clear a5 Y n a7)|(go_at_call 104;refine(d0.out _).mono ?_;rintro X a2⟨rfl,rfl⟩))
  obtain⟨f8,d6⟩:=e7.out (by trivial) a f0.out f4.out;have c8:Calls TP 105 #[pt t 0,i64 ak,.bool N,.string d] a.drew λX Z=>X=Xs (.tuple #[])/\Z.cell? ⟨u,3,F⟩=C (pt t 0)/\qd c.heap.size 107 158 (rV e ak o d y aE z J (.slice L H D)) (gV p f g h i k l m (.slice q s r) x) (oS ak e) Z Z/\O Z:=d6 1;have e8:=Xl c8;clear c8 d6;have f2:a.drew.cell? ⟨u,3,F⟩=C (pt t 0)/\a.drew.cell? ⟨c.heap.size,1,F⟩=C (i64 ak)/\a.drew.cell? ⟨c.heap.size,2,F⟩=C (i64 o)/\a.drew.cell? ⟨c.heap.size,3,F⟩=C (.string d):=by simp_all
  clear f8 b8 b9 c0 c6 c7
  go_region_held3 (λb0=>b0.cell? ⟨u,3,F⟩=C (pt t 0)/\b0.cell? ⟨c.heap.size,1,F⟩=C (i64 ak)/\b0.cell? ⟨c.heap.size,2,F⟩=C (i64 o)/\b0.cell? ⟨c.heap.size,3,F⟩=C (.string d))
   (first|omega|omega)
   (first|(go_at_call 105;refine e8.out.mono ?_;rintro X a1⟨rfl,d4,a6,e0⟩;have f3:a1.cell? ⟨u,3,F⟩=C (pt t 0)/\a1.cell? ⟨c.heap.size,1,F⟩=C (i64 ak)/\a1.cell? ⟨c.heap.size,2,F⟩=C (i64 o)/\a1.cell? ⟨c.heap.size,3,F⟩=C (.string d):=⟨d4,aa a6.h0 1 A,aa a6.h0 2 A,aa a6.h0 3 A⟩;have a3:=Xl a6;have c9:=Xl e0;clear a6 e0 d4))
  clear f2 f3
  go_upto_region 12 with fail
 all_goals
  have f7:=aa a3.out.h0 3 A;have f5:=aa a3.out.h3 4 A;have h6:=frozenAt a3.out.h3 4;obtain⟨b6,e3⟩:∃b6,a1.setCell ⟨c.heap.size+1+1+1,4,F⟩ (.string d)=b6:=⟨_,A⟩;have b4:=a3.out.Ol (n:=(oV ak 0 e 0 d ⟨#[]⟩ Xf 0 0 0 0 0 0 0 (Xm F 0 0) (Xm F 0 0))) 4 _ A;rw[e3]at b4;have b2:=Xl b4;clear b4
  go_upto_region 15 with fail
  clear f5 h6 e3;clear f7;have f6:=aa b2.out.h3 6 A;have h7:=frozenAt b2.out.h3 6;obtain⟨b7,e4⟩:∃b7,b6.setCell ⟨c.heap.size+1+1+1,6,F⟩ (.bool J)=b7:=⟨_,A⟩;have b5:=b2.out.Ol (n:=(oV ak 0 e 0 d ⟨#[]⟩ J 0 0 0 0 0 0 0 (Xm F 0 0) (Xm F 0 0))) 6 _ A;rw[e4]at b5;have b:=Xl b5;clear b5
  go_upto_region 16 with fail
  clear f6 h7 e4;have g1:=aa b.out.h1 1 A;have g2:=aa b.out.h1 2 A;have g3:=aa b.out.h1 3 A;have g4:=aa b.out.h1 4 A;have g5:=aa b.out.h1 5 A;have g6:=aa b.out.h1 6 A;have g7:=aa b.out.h1 7 A;have g8:=aa b.out.h3 7 A;have g9:=aa b.out.h3 8 A;have h0:=aa b.out.h3 9 A;have h1:=aa b.out.h3 10 A;have h2:=aa b.out.h3 11 A;have h3:=aa b.out.h3 12 A;have h4:=aa b.out.h3 13 A;have h8:=frozenAt b.out.h3;obtain⟨a2,e5⟩:∃a2,(((((((b7.setCell ⟨c.heap.size+1+1+1,7,F⟩ (i64 f)).setCell ⟨c.heap.size+1+1+1,8,F⟩ (i64 g)).setCell ⟨c.heap.size+1+1+1,9,F⟩ (i64 h)).setCell ⟨c.heap.size+1+1+1,10,F⟩ (i64 i)).setCell ⟨c.heap.size+1+1+1,11,F⟩ (i64 k)).setCell ⟨c.heap.size+1+1+1,12,F⟩ (i64 l)).setCell ⟨c.heap.size+1+1+1,13,F⟩ (i64 m))=a2:=⟨_,A⟩;have b3:=((((((b.out.set 7 _).set 8 _).set 9 _).set 10 _).set 11 _).set 12 _).Ol (n:=(oV ak 0 e 0 d ⟨#[]⟩ J f g h i k l m (Xm F 0 0) (Xm F 0 0))) 13 _ A;rw[e5]at b3;have w:=Xl b3;clear b3
  go_upto_region 17 with fail
  clear g1 g2 g3 g4 g5 g6 g7 g8 g9 h0 h1 h2 h3 h4 h8 e5;have i0:=aa w.out.h0 2 A;rcases e9.out with⟨⟨rfl,rfl⟩|⟨rfl,rfl⟩,⟨rfl,rfl⟩|⟨rfl,rfl⟩⟩
  .simp_all
  focus
   go_upto_region 19 with fail
   have h9:=aa w.out.h1 0 A;have d3:=aa w.out.h3 5 A;have e6:=frozenAt w.out.h3 5;obtain⟨a8,b1⟩:∃a8,a2.setCell ⟨c.heap.size+1+1+1,5,F⟩ (.string p)=a8:=⟨_,A⟩;have a0:=w.out.Ol (n:=(oV ak 0 e 0 d p J f g h i k l m (Xm F 0 0) (Xm F 0 0))) 5 _ A;rw[b1]at a0;have a4:=Xl a0;clear a0
  rotate_left
  focus
   go_upto_region 21 with fail
   have i1:=aa w.out.h1 8 A;have d3:=aa w.out.h3 14 A;have e6:=frozenAt w.out.h3 14;obtain⟨a8,b1⟩:∃a8,a2.setCell ⟨c.heap.size+1+1+1,14,F⟩ (.slice q s r)=a8:=⟨_,A⟩;have a0:=w.out.Ol (n:=(oV ak 0 e 0 d ⟨#[]⟩ J f g h i k l m (.slice q s r) (Xm F 0 0))) 14 _ A;rw[b1]at a0;have a4:=Xl a0;clear a0
  rotate_left
  have a4:=w
  rotate_left
  all_goals
   go_upto_region 22 with fail
   try clear d3 e6 b1
   refine ZH ?_;refine Zv A 38 _ A (c.heap.size+1+1+1) A 38 _ (0,0) _ a4.out.h3 A rfl rfl ?_;refine Zc A 38 _ _ A (c.heap.size+1+1) _ A rfl 38 oZ a4.out.h2 A rfl mX ?_;have d1:=Xl (rm A a4.out c9.out)
   go_wp2
   exact Zm (gZ A rfl (pC d1.out.1 A)) A d1.out.2
end
variable{c:fG}{k:M}{r:E}{s:E}{q:Tree}{p:Out}
section
variable[Inhabited aM]
theorem Ik(a:M)(f g:Xk Xe)(ak b:Xj):(jI a f g ak b).heap.size=a.heap.size+4/\(∀c,c<a.heap.size->(jI a f g ak b).heap[c]?=a.heap[c]?)/\qd a.heap.size 107 158 f g (oS ak b) (jI a f g ak b) (jI a f g ak b):=by
 have k:(a.alloc (.cells f 107)).heap.size=a.heap.size+1:=by simp
 have l:((a.alloc (.cells f 107)).alloc (.cells g 158)).heap.size=a.heap.size+2:=by simp
 have m:(((a.alloc (.cells f 107)).alloc (.cells g 158)).alloc (.cells oZ 38)).heap.size=a.heap.size+3:=by simp
 have i:=Yn a (.cells f 107);have d:=Yn (a.alloc (.cells f 107)) (.cells g 158);have e:=Yn ((a.alloc (.cells f 107)).alloc (.cells g 158)) (.cells oZ 38);have h:=Yn (((a.alloc (.cells f 107)).alloc (.cells g 158)).alloc (.cells oZ 38)) (.cells (oS ak b) 38);rw[k]at d;rw[l]at e;rw[m]at h;refine⟨by simp,λc n=>?_,⟨?_,?_,?_,h,A,λ_ _=>rfl⟩⟩
 .rw[jI,XQ _ _ _ (by omega),XQ _ _ _ (by omega),XQ _ _ _ (by omega),XQ _ _ _ n]
 .rw[jI,XQ _ _ _ (by omega),XQ _ _ _ (by omega),XQ _ _ _ (by omega)];exact i
 .rw[jI,XQ _ _ _ (by omega),XQ _ _ _ (by omega)];exact d
 rw[jI,XQ _ _ _ (by omega)];exact e
section
variable{l:Xj}{h:cN}{m:Xg Out}{i:fG}{e:M}{f g:Xk Xe}{ak b:Xj}
theorem qd.qQ{own m:E->Prop}{i k:E}{V:Xk Xe}{e h:M}(a:qd r i k f g V e e)(b:aH own m e h)(d:∀c,r<=c->¬own c):qd r i k f g V h h:=
 have lt:=λ(c:E)(p:Obj)(l:e.heap[c]?=C p)=>(XN.1 l).1
 ⟨(b.keep _ (lt _ _ a.h0) (d _ (by omega))).trans a.h0,(b.keep _ (lt _ _ a.h1) (d _ (by omega))).trans a.h1,(b.keep _ (lt _ _ a.h2) (d _ (by omega))).trans a.h2,(b.keep _ (lt _ _ a.h3) (d _ (by omega))).trans a.h3,A,λ_ _=>rfl⟩
theorem Qs(q:aK u l y m c a)(r:aK u l h m i e)(L:h.tree=y.tree)(O:i.vs=c.vs)(o:aH (aI u y.tree c) (aI u y.tree i) (jI a f g ak b) e)(D:k.heap.size=e.heap.size)(t:∀d,d≠a.heap.size+1+1->d≠a.heap.size+1+1+1->k.heap[d]?=e.heap[d]?):
 aK u l h m i k/\aH (aI u y.tree c) (aI u y.tree i) a k:=by
 obtain⟨x,s,_⟩:=Ik a f g ak b;have w:∀d,a.heap.size<=d->¬aI u y.tree c d:=λd n p=>by have:=q.bj p;omega
 have z:∀d,d=a.heap.size+1+1\/d=a.heap.size+1+1+1->¬aI u y.tree i d:=λd n=>(aH.out o (a:=d) (by omega) (w d (by omega))).2.1;have N:∀d,dw i d->d<a.heap.size:=λd n=>q.iY (by simp_all [dw]);have H:=o.size;refine⟨r.same ⟨by omega,λd n=>?_,λd n=>?_⟩,⟨by omega,λd n v=>?_,λd n=>?_⟩⟩
 .grind
 .grind
 .rw[t d (by omega) (by omega),o.keep d (by omega) v,s d n]
 rcases o.more d n with p|p
 .exact Xh p
 omega
def yb(u:E)(l:Xj)(f:cN)(p:Out)(m:Xg Out)(q:Tree)(c:fG)(h:E)(a:M)(g:Ending)(k:M):Prop:=∃e d,g=Xs (.agg (iC p e))/\aK u l f m d k/\f.tree=q/\aH (aI u q c) (aI u q d) a k/\d.vs=c.vs/\jX p e k/\∀b,e.1.ownBlock=C b\/e.2.ownBlock=C b->¬aI u q d b/\h<=b
theorem zw(y:cN)(id:Xj)(a:Xo)(b:B):dz y id a b={y with cd:=eW y.cd a b (dF id (y.cd a b))}:=by unfold dz eW;simp_all
theorem Nv{d:Xg B}{sl:Xe}(h:gr (d.map bs) s sl a):eY d sl a:=by
 rcases h with⟨b,i⟩|⟨o,f,e,p,g,b,i,k,q,c,l,m⟩
 .exact Xh ⟨b,by simp_all⟩
 rw[ZU]at b c;exact Xi ⟨o,f,e,p,g,b,k,c,l,λn y r=>m n _ (by simp_all)⟩
structure RQ(d:Sim.RV)(n:ew):Prop where
 ak:d.ak=n.ak
 kind:d.kind=n.op.kind
 path:d.path=bs n.op.path
 data:d.data=bs n.op.data
 aE:d.aE=n.op.aE
 flags:d.flags=n.op.flags
 watch:d.watch=n.watch
theorem Nl{c:B}{a:Xj}(b:Wt.look q c=.no a):a=4\/a=7:=by
 unfold Wt.look at b
 grind
theorem qs(b:Xj):∀a,Calls TP 104 #[.iface 32 (i64 b)] a λe k=>e=Xs (i64 b)/\a=k:=λa=>(EV a b).mono λ_ _⟨c,d⟩=>⟨c,d.symm⟩
theorem zO:∀a,Calls TP 104 #[.nilIface] a λd k=>d=Xs (i64 0)/\a=k:=λa=>(EU a).mono λ_ _⟨b,c⟩=>⟨b,c.symm⟩
theorem yZ{g:Bb}{r:E}{s:Xk Xe}(t:cf (od g) r s a):∃c i k l m n o p d f e,s=#[.string c,i64 i,i64 k,i64 l,i64 m,i64 n,i64 o,i64 p,.slice d f e]/\gr (od g).names r (.slice d f e) a/\
 match g with
 |.no _=>True
 |.yes b=>c=bs b.data/\i=b.stat.made/\k=b.stat.set/\l=b.stat.aE/\m=b.stat.ez/\n=b.stat.own/\o=b.stat.size/\p=b.stat.kids:=by
 obtain⟨_,sl,q,h⟩:=t;obtain⟨d,f,e,rfl⟩:∃d f e,sl=.slice d f e:=by rcases h with⟨rfl,_⟩|⟨_,_,_,_,_,rfl,_⟩<;>exact⟨_,_,_,A⟩
 cases g with
 |no u=>exact⟨_,_,_,_,_,_,_,_,d,f,e,YU Xk.mk q,h,trivial⟩
 |yes b=>exact⟨_,_,_,_,_,_,_,_,d,f,e,YU Xk.mk q,h,A,A,A,A,A,A,A,A⟩
theorem tG(b:p.names=[])(c:p.results=[])(a:M):jX p ln a:=⟨Xh ⟨A,b⟩,Xh ⟨A,c⟩⟩
theorem Ku{b:Xj}{a:ew}(f:Wt.known y a.ak=J)(c:Xj):Wt.eN y b a (.no c)=if c=7/\a.op.kind=9 then(if a.watch then dz (Wt.heard y a.ak) a.ak Xf a.op.path else Wt.heard y a.ak,{ak:=a.ak,idx:=b,path:=a.op.path})else(Wt.heard y a.ak,{ak:=a.ak,idx:=b,err:=c}):=by simp_all [Wt.eN]
theorem Ge{b:Xj}{a:ew}(f:Wt.known y a.ak=J)(c:Wt.Seen):Wt.eN y b a (.yes c)=(if a.watch then dz (Wt.heard y a.ak) a.ak (decide (a.op.kind=10)) a.op.path else Wt.heard y a.ak,{ak:=a.ak,idx:=b,path:=a.op.path,found:=J,stat:=c.stat,data:=if a.op.kind=8 then c.data else[],names:=if a.op.kind=10 then c.names else[]}):=by simp_all [Wt.eN]
theorem Qt(c9:aK u l y m c a){d:ew}{rq:Sim.RV}(h2:RQ rq d)(w:d.op.kind=8\/d.op.kind=9\/d.op.kind=10)(h5:Wt.known y d.ak=J->0<d.ak/\d.ak<2^28)(b:Xj){O:Bb}(g8:O=Wt.look y.tree d.op.path){d6:Xk Xe}{a8:E}(h7:cf (od O) a8 d6 a)(g7:nC (aI u y.tree c) d6):
 Calls TP 61 #[pt u 0,.agg (aP b rq),.agg (d6.push (od O).ev)] a (yb u l (Wt.eN y b d O).1 (Wt.eN y b d O).2 m y.tree c a8 a):=by
 obtain⟨ak,j3,j5,i7,aE,j0,j7,i1,i0,h9⟩:=rq;obtain⟨Q,R,d9,e0,e1,e2,a6⟩:=h2;simp only at Q R d9 e0 e1 e2 a6;subst Q R d9 e0 e1 e2 a6;obtain⟨dd,f8,f9,g0,g1,g2,g3,g4,T,W,U,rfl,e7,h6⟩:=yZ h7;obtain⟨Z,d3⟩:∃Z,Z=(od O).ev:=by simp
 rw[<-d3];obtain⟨f,s⟩:∃f,f=rV b d.ak d.op.kind (bs d.op.path) (bs d.op.data) d.op.aE d.op.flags d.watch (.slice i1 i0 h9):=by simp
 obtain⟨g,L⟩:∃g,g=gV dd f8 f9 g0 g1 g2 g3 g4 (.slice T W U) Z:=by simp
 obtain⟨j8,i3,i4⟩:=Ik a f g d.ak b;have f4:=c9.old (by omega) i3;have e8:∀o,a.heap.size<=o->¬aI u y.tree c o:=λo n q=>by have:=c9.bj q;omega
 obtain⟨h,c0⟩:∃h,h=if Wt.known y d.ak then Wt.heard y d.ak else y:=by simp
 have z:h.tree=y.tree:=by rw[c0];split<;>rfl
 have x:Calls TP 64 #[pt u 0,i64 d.ak] (jI a f g d.ak b) λv e=>v=Xs (.bool (Wt.known y d.ak))/\qd a.heap.size 107 158 f g (oS d.ak b) e e/\aK u l h m c e/\aH (aI u y.tree c) (aI u y.tree c) (jI a f g d.ak b) e:=
  (Hp f4 d.ak).mono λv e⟨a1,j2,e3⟩=>⟨a1,i4.qQ e3 e8,by simp_all,e3⟩
 have e6:∀o,(Value.slice T W U).ownBlock=C o->¬aI u y.tree c o:=λo n=>by
  cases T with
  |none=>cases n
  |some f7=>have:=g7 f7 W U A;simp_all [Xe.ownBlock]
 have fin:∀(p:Out)(b3:Xe×Xe)(c7:cN)(KP:M->Prop),(∀e,KP e->∃i,aK u l c7 m i e/\i.vs=c.vs/\aH (aI u y.tree c) (aI u y.tree i) (jI a f g d.ak b) e)->c7.tree=y.tree->(b3=ln/\p.names=[]/\p.results=[]\/b3=(.slice T W U,Xm F 0 0)/\p.results=[]/\gr (p.names.map bs) a8 (.slice T W U) a)->
  ∀v k,lD a.heap.size (iC p b3) KP v k->yb u l c7 p m y.tree c a8 a v k:=λp b3 c7 KP g5 f0 h8 v k⟨a1,e,g9,h4,h0⟩=>by
  obtain⟨i,b5,f1,c8⟩:=g5 e g9;obtain⟨f3,a2⟩:=Qs c9 b5 f0 f1 c8 h4 h0;refine⟨b3,i,a1,f3,f0,a2,f1,?_⟩;rcases h8 with⟨rfl,Q,R⟩|⟨rfl,Q,R⟩
  .exact⟨tG Q R k,λo n=>by rcases n with n|n<;>cases n⟩
  have h1:=Nv R
  have d2:∀o,(Value.slice T W U).ownBlock=C o->o<a.heap.size/\a8<=o:=λo n=>by
   rcases R with⟨d0,_⟩|⟨j4,i6,i5,j6,j1,d0,i8,i9,_⟩
   .rw[d0]at n;cases n
   rw[d0]at n;cases n
   grind
  refine⟨⟨h1.stay λo n=>?_,Xh ⟨A,Q⟩⟩,λo n=>?_⟩
  .rw[a2.keep o (d2 o n).1 (e6 o n)]
  rcases n with n|n
  .exact⟨(aH.out a2 (d2 o n).1 (e6 o n)).2.1,(d2 o n).2⟩
  cases n
 cases a7:Wt.known y d.ak with
 |false=>
  rw[a7]at x c0
  have h3:Wt.eN y b d O=(h,{ak:=d.ak,idx:=b,err:=3}):=by simp_all [Wt.eN]
  rw[h3];rw[s,L]at x;have:=xS x;refine this.mono (fin {ak:=d.ak,idx:=b,err:=3} ln h _ (λe⟨Q,R⟩=>⟨c,Q,A,by simp_all⟩) z (Xh ⟨A,A,A⟩))
 |true=>
  rw[a7]at x c0;have e9:h=Wt.heard y d.ak:=by rw[c0];rfl
  obtain⟨q1,i2⟩:=h5 a7
  have b8:∀r:Xo,∀e,(aK u l h m c e/\aH (aI u y.tree c) (aI u y.tree c) (jI a f g d.ak b) e)->qd a.heap.size 107 158 f g (oS d.ak b) e e->e.cell? ⟨u,3,F⟩=C (pt c.tw 0)/\∀d5,Calls TP 105 #[pt c.tw 0,i64 d.ak,.bool r,.string (bs d.op.path)] (e.drewN d5) λv Y=>v=Xs (.tuple #[])/\Y.cell? ⟨u,3,F⟩=C (pt c.tw 0)/\qd a.heap.size 107 158 f g (oS d.ak b) Y Y/\
   ∃N,aK u l (dz h d.ak r d.op.path) m {c with f:=N} Y/\aH (aI u y.tree c) (aI u y.tree {c with f:=N}) (jI a f g d.ak b) Y:=λr e⟨b5,c8⟩ g6=>by
   refine⟨aa b5.ch 3 A,λd5=>?_⟩;have d8:aK u l h m c (e.drewN d5):=b5.old (XS _) (λ_ _=>rfl);refine(RM d8.cd ⟨q1,i2⟩ r d.op.path).mono λv Y⟨a1,N,f6,a2⟩=>?_;obtain⟨f5,b4⟩:=d8.watched f6 a2;rw[z]at b4;have d7:aH (aI u y.tree c) (aI u y.tree {c with f:=N}) e Y:=⟨b4.size,b4.keep,b4.more⟩;refine⟨a1,aa f5.ch 3 A,g6.qQ d7 e8,N,?_,c8.trans d7⟩;simp_all [zw]
  have kp:∀e,(aK u l h m c e/\aH (aI u y.tree c) (aI u y.tree c) (jI a f g d.ak b) e)->∃i,aK u l h m i e/\i.vs=c.vs/\aH (aI u y.tree c) (aI u y.tree i) (jI a f g d.ak b) e:=by grind
  have b6:∀(r:Xo) e,(∃N,aK u l (dz h d.ak r d.op.path) m {c with f:=N} e/\aH (aI u y.tree c) (aI u y.tree {c with f:=N}) (jI a f g d.ak b) e)->∃i,aK u l (dz h d.ak r d.op.path) m i e/\i.vs=c.vs/\aH (aI u y.tree c) (aI u y.tree i) (jI a f g d.ak b) e:=by grind
  cases O with
  |no v=>
   have a1:=Nl g8.symm;have b9:Z=.iface 32 (i64 v):=d3;have e4:(v !=0)=J:=by grind
   rw[Ku a7,<-e9];by_cases d4:v=7/\d.op.kind=9
   .rw[XC d4];obtain⟨rfl,e5⟩:=d4;have c6:(d.op.kind==9)=J:=by simp[e5]
    have r:(d.op.kind==10)=Xf:=by simp[e5]
    cases D:d.watch with
    |false=>rw[D]at s;subst s L;refine(Du x (by rw[b9];exact qs 7) A c6 r A).mono ?_;exact fin {ak:=d.ak,idx:=b,path:=d.op.path} ln h _ kp z (Xh ⟨A,A,A⟩)
    |true=>rw[D]at s;subst s L;refine(Dv x (by rw[b9];exact qs 7) A c6 r A (b8 Xf)).mono ?_;exact fin {ak:=d.ak,idx:=b,path:=d.op.path} ln (dz h d.ak Xf d.op.path) _ (b6 Xf) z (Xh ⟨A,A,A⟩)
   rw[Xx d4];subst s L;by_cases a6:v=7
   .have c6:(d.op.kind==9)=Xf:=by
     simp_all
    refine(yV x (by grind [qs]) (Xi ⟨by simp[a6],c6⟩) e4).mono ?_;exact fin {ak:=d.ak,idx:=b,err:=v} ln h _ kp z (Xh ⟨A,A,A⟩)
   refine(yV x (by simp_all [qs]) (Xh (by simp[a6])) e4).mono ?_;exact fin {ak:=d.ak,idx:=b,err:=v} ln h _ kp z (Xh ⟨A,A,A⟩)
  |yes t=>
   have b9:Z=.nilIface:=d3;obtain⟨rfl,rfl,rfl,rfl,rfl,rfl,rfl,rfl⟩:=h6;rw[Ge a7,<-e9];have a0:∀a,Calls TP 104 #[Z] a λd k=>d=Xs (i64 0)/\a=k:=by rw[b9];exact zO
   rcases w with w|w|w
   .have S:(d.op.kind==8)=J:=by simp[w]
    have r:(d.op.kind==10)=Xf:=by simp[w]
    have a3:decide (d.op.kind=10)=Xf:=by simp[w]
    have b1:(if d.op.kind=8 then t.data else[])=t.data:=XC w;have b0:(if d.op.kind=10 then t.names else[])=[]:=by simp_all
    rw[a3,b1,b0];cases D:d.watch with
    |false=>rw[D]at s;subst s L;refine(fT (t:=0) x a0 A rfl S r (Xh ⟨A,A⟩) (Xi ⟨A,A⟩) (λ_ _ q=>q) (λq=>by cases q)).mono ?_;exact fin {ak:=d.ak,idx:=b,path:=d.op.path,found:=J,stat:=t.stat,data:=t.data,names:=[]} ln h _ kp z (Xh ⟨A,A,A⟩)
    |true=>rw[D]at s;subst s L;refine(fT x a0 A rfl S r (Xh ⟨A,A⟩) (Xi ⟨A,A⟩) (λq=>by cases q) (λ_=>b8 Xf)).mono ?_;exact fin {ak:=d.ak,idx:=b,path:=d.op.path,found:=J,stat:=t.stat,data:=t.data,names:=[]} ln (dz h d.ak Xf d.op.path) _ (b6 Xf) z (Xh ⟨A,A,A⟩)
   .have S:(d.op.kind==8)=Xf:=by simp[w]
    have r:(d.op.kind==10)=Xf:=by simp[w]
    have a3:decide (d.op.kind=10)=Xf:=by simp[w]
    have b1:(if d.op.kind=8 then t.data else[])=[]:=by simp_all
    have b0:(if d.op.kind=10 then t.names else[])=[]:=by simp_all
    rw[a3,b1,b0];cases D:d.watch with
    |false=>rw[D]at s;subst s L;refine(fT (t:=0) x a0 A rfl S r (Xi ⟨A,A⟩) (Xi ⟨A,A⟩) (λ_ _ q=>q) (λq=>by cases q)).mono ?_;exact fin {ak:=d.ak,idx:=b,path:=d.op.path,found:=J,stat:=t.stat,data:=[],names:=[]} ln h _ kp z (Xh ⟨A,A,A⟩)
    |true=>rw[D]at s;subst s L;refine(fT x a0 A rfl S r (Xi ⟨A,A⟩) (Xi ⟨A,A⟩) (λq=>by cases q) (λ_=>b8 Xf)).mono ?_;exact fin {ak:=d.ak,idx:=b,path:=d.op.path,found:=J,stat:=t.stat,data:=[],names:=[]} ln (dz h d.ak Xf d.op.path) _ (b6 Xf) z (Xh ⟨A,A,A⟩)
   have S:(d.op.kind==8)=Xf:=by simp[w]
   have r:(d.op.kind==10)=J:=by simp[w]
   have a3:decide (d.op.kind=10)=J:=by simp[w]
   have b1:(if d.op.kind=8 then t.data else[])=[]:=by simp_all
   have b0:(if d.op.kind=10 then t.names else[])=t.names:=XC w;rw[a3,b1,b0];cases D:d.watch with
   |false=>rw[D]at s;subst s L;refine(fT (t:=0) x a0 A rfl S r (Xi ⟨A,A⟩) (Xh ⟨A,A⟩) (λ_ _ q=>q) (λq=>by cases q)).mono ?_;exact fin {ak:=d.ak,idx:=b,path:=d.op.path,found:=J,stat:=t.stat,data:=[],names:=t.names} (.slice T W U,Xm F 0 0) h _ kp z (Xi ⟨A,A,e7⟩)
   |true=>rw[D]at s;subst s L;refine(fT x a0 A rfl S r (Xi ⟨A,A⟩) (Xh ⟨A,A⟩) (λq=>by cases q) (λ_=>b8 J)).mono ?_;exact fin {ak:=d.ak,idx:=b,path:=d.op.path,found:=J,stat:=t.stat,data:=[],names:=t.names} (.slice T W U,Xm F 0 0) (dz h d.ak J d.op.path) _ (b6 J) z (Xi ⟨A,A,e7⟩)
end
variable{m:Tree}{k:Path}{l:M}{v:E}{x:E}
theorem LM{c i:Path->E}{t:Xe}(n:bw m c i a)(e:a.heap[O]?=C (Xn #[pt (c []) 0,Xd K m.length,t] 195 (0,0))):
 Calls TP 109 #[pt O 0] a λp l=>p=Xs (.tuple #[])/\pW m c i O [] l/\l.heap.size=a.heap.size/\(∀b,b≠O->l.heap[b]?=a.heap[b]?)/\∀b,¬wH l O b:=by
 have c2:=aa e 2 A;have x:=frozenAt e 2;have o:=Xl e;have d:=Xl n;go_enter Tryz.func109,Tryz.ntmps109
 go_wp2
 go_end0
 have r:∀b,b≠O->(a.setCell ⟨O,2,F⟩ (Xm F 0 0)).heap[b]?=a.heap[b]?:=by grind [ai]
 have g:(a.setCell ⟨O,2,F⟩ (Xm F 0 0)).heap[O]?=C (Xn #[pt (c []) 0,Xd K m.length,Xm F 0 0] 195 (0,0)):=by have:=aA (l:=2) (g:=Xm F 0 0) o.out;simp_all
 refine⟨A,⟨d.out.stay λk s=>?_,Xm F 0 0,[],g,cr.nil _ _ _ _,trivial⟩,aS,r,λb⟨L,y,N,f,q⟩=>?_⟩
 .obtain⟨v,h⟩:=XR.1 s;obtain⟨w,u,z,_⟩:=d.out.kd k v h;have D:=d.out.nd k v h
  grind
 rw[g]at f;cases f;cases q
theorem QM(a:M)(g:Xk Xe)(ak e:Xj):(ug a g ak e).heap.size=a.heap.size+3/\(∀b,b<a.heap.size->(ug a g ak e).heap[b]?=a.heap[b]?)/\ly a.heap.size g (oS ak e) (ug a g ak e) (ug a g ak e):=by
 have h:(a.alloc (.cells g 140)).heap.size=a.heap.size+1:=by simp
 have i:((a.alloc (.cells g 140)).alloc (.cells oZ 38)).heap.size=a.heap.size+2:=by simp
 have f:=Yn a (.cells g 140);have c:=Yn (a.alloc (.cells g 140)) (.cells oZ 38);have d:=Yn ((a.alloc (.cells g 140)).alloc (.cells oZ 38)) (.cells (oS ak e) 38);rw[h]at c;rw[i]at d;refine⟨by simp,λb k=>?_,⟨?_,?_,d,A,λ_ _=>rfl⟩⟩
 .rw[ug,XQ _ _ _ (by omega),XQ _ _ _ (by omega),XQ _ _ _ k]
 .rw[ug,XQ _ _ _ (by omega),XQ _ _ _ (by omega)];exact f
 rw[ug,XQ _ _ _ (by omega)];exact c
theorem Fw(i:k.length<=4)(l:∀b∈k,cz b=J):(Wt.join k).length<2^31:=by
 have:∀(a:Xg B),(∀b∈a,cz b=J)->([47].intercalate a).length<=a.length*13:=λa c=>by
  induction a with
  |nil=>simp
  |cons e d g=>
   have:=Am (c e (by simp));cases d with
   |nil=>simp[Xg.intercalate];omega
   |cons x d=>
    have h:=g (λb f=>c b (Ym _ f));simp[Xg.intercalate]at h⊢
    omega
 grind [Wt.join]
theorem zE{i:Tree}(c:WF m){b:Wt.Op}(g:qc b){ak aL:Xj}{h:B}{d:Xg Wt.Ev}(e:Wt.change m b ak aL=.yes i h d):d.length<=2/\h.length<2^31:=by
 by_cases f:b.kind=3
 .have a:=e;unfold Wt.change at a;rw[XC f]at a;have l:=nH c a;obtain⟨n,s,S,r,N,u,t,x,y,O,g,L,D,H,z,q,p,w⟩:=gR a
  have o:Wt.find i ((n::s).dropLast++[r])=C (eV b ak aL):=by rw[q];exact ou (fe c.ord)
  obtain⟨Q,R⟩:=l.names _ _ o
  grind [Fw]
 obtain⟨k,v,_,_,p,a⟩:=pj f e;have:=g.path
 grind [kq]
theorem AM{f:Xj}{k:E}{e:Xk Xe}(g:cf (od (.no f)) k e a):∃b d c,e=#[.string ⟨#[]⟩,i64 0,i64 0,i64 0,i64 0,i64 0,i64 0,i64 0,.slice b d c]:=by
 obtain⟨_,sl,h,i⟩:=g;obtain⟨b,d,c,rfl⟩:∃b d c,sl=.slice b d c:=by rcases i with⟨rfl,_⟩|⟨_,_,_,_,_,rfl,_⟩<;>exact⟨_,_,_,A⟩
 exact⟨b,d,c,YU Xk.mk h⟩
section
variable{h:Xj}{i:cN}{q:Xg Out}{Q:fG}{f:M}{g R:Xk Xe}{ak e:Xj}
theorem ly.qQ{own k:E->Prop}{V:Xk Xe}{c f:M}(a:ly v g V c c)(d:aH own k c f)(e:∀b,v<=b->b<v+3->¬own b):ly v g V f f:=
 have lt:=λ(b:E)(i:Obj)(h:c.heap[b]?=C i)=>(XN.1 h).1
 ⟨(d.keep _ (lt _ _ a.h0) (e _ (by omega) (by omega))).trans a.h0,(d.keep _ (lt _ _ a.h2) (e _ (by omega) (by omega))).trans a.h2,(d.keep _ (lt _ _ a.h3) (e _ (by omega) (by omega))).trans a.h3,A,λ_ _=>rfl⟩
theorem aK.Tt(d:aK u h y q c a){Q:Xg Un}(n:pW y.tree c.nb c.mb c.tb Q l)(o:a.heap.size<=l.heap.size)(t:∀b,b<a.heap.size->b≠c.tb->l.heap[b]?=a.heap[b]?):aK u h y q c l/\aH (aI u y.tree c) (aI u y.tree c) a l:=by
 obtain⟨jc,p,x,z,D,H,L⟩:=d.jc;have S:=p c.tb (Xh A);have kp:∀b,b<a.heap.size->jc b≠0->l.heap[b]?=a.heap[b]?:=by grind
 have i:=λb e=>kp b (d.iY e) (by simp_all);refine⟨⟨n.lg,?_,d.wf,?_,?_,?_,?_,?_,?_,⟨jc,p,x,z,D,H,L⟩⟩,?_⟩
 .obtain⟨R,T,k,f,_⟩:=n.top;exact⟨R,Xi f.slice,k⟩
 .exact d.cd.stay λb e=>kp b (d.bj (Xi (Xi (Xh e)))) (by simp_all)
 .rw[kp c.hb (d.bj (.inr (.inr (.inr (.inl A))))) (by omega)];exact d.jB
 .rw[kp u (d.bj (.inl A)) (by omega)];exact d.ch
 .exact d.row.stay λb e=>kp b (d.bj (Xi (Xi (Xi (Xi e))))) (by simp_all)
 .exact⟨d.outs.1,λw O m k f=>by
   have:=d.outs.2 w O m k f;have g:=Yj f
   exact⟨this.1.stay λb e=>by rw[i b (.inr (.inr ⟨m,g,.inl e⟩))],this.2.stay λb e=>by rw[i b (.inr (.inr ⟨m,g,.inr e⟩))]⟩⟩
 .obtain⟨⟨N,g⟩,f,s⟩:=d.bF;exact⟨⟨N,bW (i 1 (Xh A)) g⟩,f.stay (by rw[i 4 (.inr (.inl A))]),XY s o⟩
 exact⟨o,λb e v=>t b e λr=>v (Xi (Xh (Xh r))),λb e=>Xh e⟩
theorem aK.Uv(b:aK u h y q c a){n:Xk Xe}{p:E×E}(d:a.heap[x]?=C (Xn n 269 p)):¬aI u y.tree c x:=by
 rintro(rfl|e|e|rfl|e)
 .rw[b.ch]at d;cases d
 .rcases e with rfl|⟨k,g,rfl|rfl⟩
  .obtain⟨t,_,r⟩:=b.top;simp_all
  .obtain⟨v,i⟩:=XR.1 g;rw[b.tree.nd k v i]at d;cases d
  obtain⟨v,i⟩:=XR.1 g;obtain⟨m,l,f,_⟩:=b.tree.kd k v i;simp_all
 .rcases e with rfl|rfl|⟨s,k,g⟩
  .rw[b.cd.tb]at d;cases d
  .obtain⟨m,l,f,_⟩:=b.cd.mp;simp_all
  obtain⟨o,f,_⟩:=b.cd.AJ g;simp_all
 .obtain⟨m,l,f,_⟩:=b.jB;simp_all
 obtain⟨o,f,_⟩:=b.row.blk x e;simp_all
def nZ(u:E)(h:Xj)(m:Tree)(c:fG)(a:M)(s:cN)(D:Xg Out)(w₂:M):Prop:=∃o,aK u h s D o w₂/\o.tb=c.tb/\aH (aI u m c) (aI u s.tree o) a w₂/\(∀b,dw o b->dw c b)/\a.heap.size+3<=w₂.heap.size/\∀b,a.heap.size<=b->b<a.heap.size+3->¬aI u s.tree o b
variable{w₂ z:M}{s L:cN}{D N:Xg Out}{o H:fG}
theorem nZ.old(d:nZ u h m c a s D w₂)(p:w₂.heap.size<=z.heap.size)(n:∀b,b<w₂.heap.size->z.heap[b]?=w₂.heap[b]?):nZ u h m c a s D z:=by obtain⟨o,t,S,r,T,W,U⟩:=d;exact⟨o,t.old p n,S,r.trans ⟨p,λb w _=>n b w,λb d=>Xh d⟩,T,by omega,U⟩
theorem nZ.var(g:nZ u h m c a s D w₂)(hd:∀b,dw c b->b<a.heap.size)(r:z.heap.size=w₂.heap.size)(n:∀b,b<a.heap.size\/a.heap.size+3<=b->z.heap[b]?=w₂.heap[b]?):nZ u h m c a s D z:=by
 obtain⟨o,f,i,e,p,t,q⟩:=g;have k:∀b,aI u s.tree o b->z.heap[b]?=w₂.heap[b]?:=by grind
 refine⟨o,f.same ⟨by omega,k,λb d=>by grind⟩,i,⟨by omega,λb d l=>by rw[n b (.inl d),e.keep b d l],e.more⟩,p,by omega,q⟩
theorem nZ.step(t:aK u h s D o w₂/\o.tb=c.tb/\aH (aI u m c) (aI u s.tree o) a w₂/\(∀b,dw o b->dw c b)/\a.heap.size+3<=w₂.heap.size/\∀b,a.heap.size<=b->b<a.heap.size+3->¬aI u s.tree o b)(p:aK u h L N H z)(U:H.tb=o.tb)(d:aH (aI u s.tree o) (aI u L.tree H) w₂ z)(X:∀b,dw H b->dw o b):nZ u h m c a L N z:=by obtain⟨a0,W,n,Y,a1,Z⟩:=t;have:=d.size;exact⟨H,p,U.trans W,n.trans d,λb T=>Y b (X b T),by omega,λb w S=>(aH.out d (a:=b) (by omega) (Z b w S)).2.1⟩
def IV(u:E)(h:Xj)(e:cN)(told:Xg Out)(b:Out)(q:Xg Out)(m:Tree)(c:fG)(a:M)(d:Ending)(l:M):Prop:=d=Xs (.agg (iC b ln))/\b.names=[]/\b.results=[]/\nZ u h m c a e (q++told) l
theorem QN(Y:aK u h y q c a){d:ew}{rq:Sim.RV}(j7:RQ rq d)(j0:d.op.kind≠2)(j1:d.op.kind≠7)(h0:qc d.op)(m1:TD y.tree)(e1:0<=y.aL/\y.aL<2^62)(m9:∀e7 z,(y.cd e7 z).length<=8)(m6:q.length+64<2^20)(e:Xj):
 Calls TP 65 #[pt u 0,.agg (aP e rq)] a λr l=>∃h1 told N,Wt.write y e d=(h1,told++[N])/\IV u h h1 told N q y.tree c a r l:=by
 obtain⟨ak,n0,n3,l8,aE,m0,n7,l2,l1,l0⟩:=rq;obtain⟨O,W,a9,X,g2,g3,g4⟩:=j7;simp only at O W a9 X g2 g3 g4;subst O W a9 X g2 g3 g4;obtain⟨g,a5⟩:∃g,g=rV e d.ak d.op.kind (bs d.op.path) (bs d.op.data) d.op.aE d.op.flags d.watch (.slice l2 l1 l0):=by simp
 obtain⟨l6,f2,h3⟩:=QM a g d.ak e;have d5:=Y.old (by omega) f2;have j3:∀b,a.heap.size<=b->¬aI u y.tree c b:=λb s p=>by have:=Y.bj p;omega
 have b5:∀b,dw c b->b<a.heap.size:=λb s=>Y.iY s;have e3:=fH j0;have e4:=fH j1;obtain⟨i,b9⟩:∃i:cN,i={y with aL:=y.aL+1}:=by simp
 have c7:i.tree=y.tree:=by rw[b9]
 have m8:i.cd=y.cd:=by rw[b9]
 obtain⟨b3,g7⟩:∃b3,b3=ug a g d.ak e:=by simp
 rw[<-g7]at l6 f2 h3 d5
 have i7:(b3.setCell ⟨u,6,F⟩ (i64 (y.aL+1))).heap[u]?=C (Xn (EJ y.timeout h c.tb c.tw c.hb y.now (y.aL+1) y.next c.ov .nilFunc) 98 (0,0)):=by have:=aA (l:=6) (g:=i64 (y.aL+1)) d5.ch;simp_all
 obtain⟨f4,h6⟩:=d5.nums i7 (by simp) (λb _ e6=>ai e6);have d6:aK u h i q c (b3.setCell ⟨u,6,F⟩ (i64 (y.aL+1))):=by simp_all
 obtain⟨n5,_,k2⟩:=d6.top
 let d4:M->Prop:=λf=>(aK u h i q c f/\c.tb=c.tb/\aH (aI u y.tree c) (aI u i.tree c) a f/\(∀b,dw c b->dw c b)/\a.heap.size+3<=f.heap.size/\∀b,a.heap.size<=b->b<a.heap.size+3->¬aI u i.tree c b)/\pW i.tree c.nb c.mb c.tb [] f/\∀b,¬wH f c.tb b
 have b4:Calls TP 109 #[pt c.tb 0] (b3.setCell ⟨u,6,F⟩ (i64 (y.aL+1))) λr l=>r=Xs (.tuple #[])/\ly a.heap.size g (oS d.ak e) l l/\(l.cell? ⟨u,2,F⟩=C (pt c.tb 0)/\l.cell? ⟨u,6,F⟩=C (i64 (y.aL+1)))/\d4 l:=
  (LM d6.tree k2).mono λr o⟨w,a8,a1,i9,j8⟩=>by
    obtain⟨a7,a2⟩:=d6.Tt a8 (by omega) (λb _ e6=>i9 b e6);rw[c7]at a2;have d3:=h6.trans a2;have a0:=a7.ch;rw[b9]at a0;refine⟨w,h3.qQ d3 (λb O _=>j3 b O),⟨aa a0 2 A,aa a0 6 A⟩,⟨a7,A,?_,λb p=>p,?_,λb O _=>by simp_all⟩,a8,j8⟩
    .rw[c7];exact⟨by have:=d3.size;omega,λb s j2=>by rw[d3.keep b (by omega) j2,f2 b s],λb p=>Xh p⟩
    simp_all
 have c8:∀f,d4 f->∀z,Calls TP 113 #[pt c.tb 0,.agg (ub d.op),i64 d.ak,i64 (y.aL+1)] (f.drewN z) (gN i.tree c.nb c.mb c.tb [] (f.drewN z) (Wt.change i.tree d.op d.ak (y.aL+1))):=λf⟨⟨f4,_⟩,a8,_⟩ z=>by have d7:aK u h i q c (f.drewN z):=f4.old (XS _) (λ_ _=>rfl);obtain⟨⟨k9,e5⟩,k1,X⟩:=d7.bF;have i0:pW i.tree c.nb c.mb c.tb [] (f.drewN z):=a8.old λ_ _=>rfl;exact Mf i0 (by rw[c7];exact Y.wf) (by simp_all) h0 e5 k1 X (by decide)
 have k7:Wt.write y e d=(match Wt.change i.tree d.op d.ak (y.aL+1)with
  |.no r=>(i,[{ak:=d.ak,idx:=e,err:=r}])
  |.yes m k Q=>match Wt.look m k with
   |.no _=>((Wt.tell e {i with tree:=m} Q).1,(Wt.tell e {i with tree:=m} Q).2++[{ak:=d.ak,idx:=e,path:=k}])
   |.yes U=>((Wt.tell e {i with tree:=m} Q).1,(Wt.tell e {i with tree:=m} Q).2++[{ak:=d.ak,idx:=e,path:=k,found:=J,stat:=U.stat}])):=by
  grind [Wt.write]
 rw[k7];have xo:(EJ y.timeout h c.tb c.tw c.hb y.now y.aL y.next c.ov .nilFunc)[6]?=C (i64 y.aL):=A;rw[g7]at b4;rw[a5]at b4;cases a0:Wt.change i.tree d.op d.ak (y.aL+1)with
 |no r=>
  rw[a0]at c8
  have i8:(r !=0)=J:=by grind [Jg]
  refine(OG (q:=nZ u h y.tree c a i q) e3 e4 Y.ch xo A e1 b4 (λf t n z=>(c8 f t z).mono λl3 o⟨w,g8⟩=>?_) (qs r) i8).mono λl3 l⟨w,f,Z,a1,b6⟩=>⟨i,[],_,A,w,A,A,by
   rw[YT]
   exact Z.var b5 a1 λb s=>b6 b (by omega) (by omega)⟩
  have j6:nZ u h y.tree c a i q f:=⟨c,t.1.1,A,t.1.2.2.1,λb p=>p,t.1.2.2.2.2.1,t.1.2.2.2.2.2⟩;have e2:=t.1.1.ch;rw[b9]at e2;have b8:∀b,b<f.heap.size->o.heap[b]?=f.heap[b]?:=λb s=>g8.block b s;have j9:=g8.size;have lt:=λ(b:E)(N:Obj)(s:f.heap[b]?=C N)=>(XN.1 s).1;have g9:=(b8 u (lt _ _ e2)).trans e2;exact⟨w,⟨(b8 _ (lt _ _ n.h0)).trans n.h0,(b8 _ (lt _ _ n.h2)).trans n.h2,(b8 _ (lt _ _ n.h3)).trans n.h3,A,λ_ _=>rfl⟩,⟨aa g9 2 A,aa g9 6 A⟩,j6.old j9 b8⟩
 |yes b1 k Q=>
  rw[a0]at c8;simp only;obtain⟨m4,j5⟩:=zE (by rw[c7];exact Y.wf) h0 a0;have i1:=ym (by rw[c7];exact Y.wf) a0;obtain⟨R,c0⟩:∃R:cN,R={i with tree:=b1}:=by simp
  have k6:∀e7 z,(R.cd e7 z).length<=8:=by simp_all
  have k0:R.tree=b1:=by rw[c0]
  let b2:Xp Xw->E->E->M->Prop:=λD L H o=>nZ u h y.tree c a R q o/\Ru Q (.slice D L H) (a.heap.size+3) o
  let T:M->Prop:=λv=>nZ u h y.tree c a (Wt.tell e R Q).1 (q++(Wt.tell e R Q).2) v
  have g5:∀f,d4 f->ly a.heap.size g (oS d.ak e) f f->∀z,Calls TP 113 #[pt c.tb 0,.agg (ub d.op),i64 d.ak,i64 (y.aL+1)] (f.drewN z) λr o=>∃D L H,r=Xs (.tuple #[.string (bs k),.slice D L H,.nilIface])/\ly a.heap.size g (oS d.ak e) o o/\(o.cell? ⟨u,2,F⟩=C (pt c.tb 0)/\o.cell? ⟨u,6,F⟩=C (i64 (y.aL+1)))/\b2 D L H o:=λf t n z=>(c8 f t z).mono λr o⟨n2,n1,n4,h2,w,a8,m5,h7,a4⟩=>by
   have d7:aK u h i q c (f.drewN z):=t.1.1.old (XS _) (λ_ _=>rfl);obtain⟨a7,a2⟩:=d7.UN a8 i1 h7 t.2.2;rw[<-c0]at a7;have a1:=t.1.2.2.2.2.1;have k8:=t.1.2.2.2.2.2;have i6:ly a.heap.size g (oS d.ak e) (f.drewN z) (f.drewN z):=⟨n.h0,n.h2,n.h3,A,λ_ _=>rfl⟩;have e0:=a7.ch;rw[c0,b9]at e0;obtain⟨D,L,H,rfl⟩:∃D L H,h2=.slice D L H:=by rcases a4 with⟨_,rfl⟩|⟨x,rfl,_⟩<;>exact⟨_,_,_,A⟩
   refine⟨D,L,H,w,i6.qQ a2 k8,⟨aa e0 2 A,aa e0 6 A⟩,nZ.step t.1 a7 A ?_ (λb p=>p),?_⟩
   .rw[k0];exact⟨a2.size,a2.keep,a2.more⟩
   rcases a4 with p|⟨x,O,W,a9,X⟩
   .exact Xh p
   exact Xi ⟨x,O,W,XZ a1 a9,X⟩
  have g6:∀D L H o,b2 D L H o->ly a.heap.size g (oV d.ak 0 e 0 ⟨#[]⟩ ⟨#[]⟩ Xf 0 0 0 0 0 0 0 (Xm F 0 0) (Xm F 0 0)) o o->Calls TP 110 #[pt u 0,i64 e,.slice D L H] o λr v=>r=Xs (.tuple #[])/\ly a.heap.size g (oV d.ak 0 e 0 ⟨#[]⟩ ⟨#[]⟩ Xf 0 0 0 0 0 0 0 (Xm F 0 0) (Xm F 0 0)) v v/\v.cell? ⟨u,2,F⟩=C (pt c.tb 0)/\T v:=λD L H o⟨⟨l7,W⟩,a4⟩ n=>by
   have f3:=W.1;refine(Tn f3 k6 a4 (λb s=>?_) (by omega) (by omega) e).mono λr v⟨w,i2,a3,m7,h5,k5,d9⟩=>⟨w,n.qQ h5 W.2.2.2.2.2,?_,nZ.step W a3 d9 (by simp_all) k5⟩
   .rcases a4 with⟨_,p⟩|⟨x,O,_,_,X⟩
    .cases p;cases s
    rw[O]at s;cases s;exact f3.Uv X
   have:=aa a3.ch 2 A;simp_all
  have m2:∀D L H o a6,b2 D L H o->ly a.heap.size g (oV d.ak 0 e 0 ⟨#[]⟩ ⟨#[]⟩ Xf 0 0 0 0 0 0 0 (Xm F 0 0) (Xm F 0 0)) o a6->b2 D L H a6:=λD L H o a6⟨p,a4⟩ n=>⟨p.var b5 n.size λb s=>n.keep b (by omega),by
   rcases a4 with p|⟨x,O,W,a9,X⟩
   .exact Xh p
   exact Xi ⟨x,O,W,a9,(n.keep x (by omega)).trans X⟩⟩
  have m3:∀o a6,T o->ly a.heap.size g (oV d.ak 0 e 0 (bs k) ⟨#[]⟩ Xf 0 0 0 0 0 0 0 (Xm F 0 0) (Xm F 0 0)) o a6->T a6:=λo a6 p n=>p.var b5 n.size λb s=>n.keep b (by omega);have Z:∀S N,T S->T (S.alloc N):=λS N p=>p.old (by simp) λb s=>XQ _ _ _ s;have k4:(Wt.tell e R Q).1.tree=b1:=by simp_all [sP]
  have c9:∀v,T v->ly a.heap.size g (oV d.ak 0 e 0 (bs k) ⟨#[]⟩ Xf 0 0 0 0 0 0 0 (Xm F 0 0) (Xm F 0 0)) v v->Calls TP 58 #[pt c.tb 0,.string (bs k)] v λr S=>∃b0,r=Xs (.tuple #[.agg b0,(od (Wt.look b1 k)).ev])/\cf (od (Wt.look b1 k)) v.heap.size b0 S/\(∀N,ly a.heap.size g (oV d.ak 0 e 0 (bs k) ⟨#[]⟩ Xf 0 0 0 0 0 0 0 (Xm F 0 0) (Xm F 0 0)) (S.alloc N) (S.alloc N))/\T S:=λv t n=>by
   have i5:=t;obtain⟨i2,a3,d9,_⟩:=t;obtain⟨⟨k9,e5⟩,_,_⟩:=a3.bF;obtain⟨n6,_,k3⟩:=a3.top;have b7:=SI a3.tree (aa k3 0 A) a3.wf (bs k) e5 (by show k.length<2^31;exact j5);rw[k4,d9]at b7;refine b7.mono λr S⟨b0,w,c6,d0⟩=>⟨b0,w,c6,λN=>?_,nZ.old i5 d0.size d0.block⟩;have lt:=λ(b:E)(N:Obj)(s:v.heap[b]?=C N)=>(XN.1 s).1
   have kp:∀(b:E)(d2:Obj),v.heap[b]?=C d2->(S.alloc N).heap[b]?=C d2:=λb d2 p=>by have O:=lt b d2 p;rw[XQ _ _ _ (XY O d0.size),d0.block b O];exact p
   exact⟨kp _ _ n.h0,kp _ _ n.h2,kp _ _ n.h3,A,λ_ _=>rfl⟩
  cases b7:Wt.look b1 k with
  |no h4=>rw[b7]at c9;refine(xk (o:=h4) (d5:=T) (d6:=T) (T:=0) (U:=0) (W:=0) (X:=0) (Y:=0) (Z:=0) (a0:=0) (a8:=⟨#[]⟩) e3 e4 Y.ch xo A e1 b4 (by rw[<-a5];exact g5) zO (by rw[<-a5];exact g6) (λv t n=>?_) (by grind) (by grind) Z (.inr ⟨rfl,rfl⟩)).mono λr l⟨w,f,Z,a1,b6⟩=>⟨(Wt.tell e R Q).1,(Wt.tell e R Q).2,{ak:=d.ak,idx:=e,path:=k},by rw[c0],w,A,A,Z.var b5 a1 λb s=>b6 b (by omega) (by omega)⟩;rw[<-a5]at n;refine(c9 v t n).mono λr S⟨b0,w,c6,j4,d8⟩=>?_;obtain⟨e8,f0,e9,rfl⟩:=AM c6;exact⟨e8,f0,e9,w,by simp_all,d8⟩
  |yes U=>rw[b7]at c9;refine(xk (o:=0) (d5:=T) (d6:=T) (T:=U.stat.made) (U:=U.stat.set) (W:=U.stat.aE) (X:=U.stat.ez) (Y:=U.stat.own) (Z:=U.stat.size) (a0:=U.stat.kids) (a8:=bs U.data) e3 e4 Y.ch xo A e1 b4 (by rw[<-a5];exact g5) zO (by rw[<-a5];exact g6) (λv t n=>?_) (by grind) (by grind) Z (.inl ⟨rfl,rfl⟩)).mono λr l⟨w,f,Z,a1,b6⟩=>⟨(Wt.tell e R Q).1,(Wt.tell e R Q).2,{ak:=d.ak,idx:=e,path:=k,found:=true,stat:=U.stat},by rw[c0],w,A,A,Z.var b5 a1 λb s=>b6 b (by omega) (by omega)⟩;rw[<-a5]at n;refine(c9 v t n).mono λr S⟨b0,w,c6,j4,d8⟩=>?_;obtain⟨dd,f5,f6,f7,f8,f9,g0,g1,e8,f0,e9,rfl,_,rfl,rfl,rfl,rfl,rfl,rfl,rfl,rfl⟩:=yZ c6;exact⟨e8,f0,e9,w,by simp_all,d8⟩
end
variable{a:fG}{h:Tree}{f:Out}
section
variable{c:Xj}{i:cN}{e k:Xg Out}{g:E}
def Be(u:E)(c:Xj)(i:cN)(k:Xg Out)(h:Tree)(a:fG)(b e:M):Prop:=∃d,aK u c i k d e/\aH (aI u h a) (aI u i.tree d) b e/\il (dw a) (dw d) b.heap.size
def zr(u:E)(c:Xj)(i:cN)(k:Xg Out)(h:Tree)(a:fG)(b:M)(d:Ending)(e:M):Prop:=d=Xs (.tuple #[])/\Be u c i k h a b e
theorem RR(a:Wt.TB (512*g) h)(l:g<2^20):TD h:=λd c b=>by obtain⟨⟨e,f⟩,i,k⟩:=a d c b;omega
theorem rA(q:aK u c y e a b)(w:e.length<2^20)(s:f.names=[])(t:f.results=[]):Calls TP 60 #[pt u 0,.agg (iC f ln)] b λo n=>o=Xs (.tuple #[])/\∃m,aK u c y (e++[f]) m n/\aH (aI u y.tree a) (aI u y.tree m) b n/\∀l,dw m l->dw a l:=
 (Gj q w (tG s t b) λl d=>by rcases d with d|d<;>cases d).mono λo n⟨v,x,r,p⟩=>⟨v,_,r,p,ID⟩
theorem CJ(Z:aK u c y e a b)(b5:Ok y g)(c7:g<2^20)(d2:e.length+64<2^20){d:ew}{rq:Sim.RV}(a8:RQ rq d)(d1:qc d.op){h:Xj}(e4:d.op.kind=3\/d.op.kind=4\/d.op.kind=5\/d.op.kind=6)(e3:h<64):
 Calls TP 40 #[pt u 0,.iface 140 (.agg (aP h rq))] b (zr u c (Wt.step y h d).1 (e++(Wt.step y h d).2) y.tree a b):=by
 have d4:Wt.step y h d=if Wt.known y d.ak=Xf then(y,[{ak:=d.ak,idx:=h,err:=3}])else Wt.write (Wt.heard y d.ak) h d:=by
  have e6:Wt.task h d=.write:=by unfold Wt.task;rw[Xx (by omega),Xx (by omega),Xx (by omega),Xx (by omega),Xx (by omega),XC (by omega)]
  simp_all [Wt.step]
 have d3:=a8;obtain⟨ak,e8,e9,e1,aE,e2,f1,d8,d7,d6⟩:=rq;obtain⟨O,Q,b7,b8,b9,c0,c6⟩:=a8;subst O Q b7 b8 b9 c0 c6;obtain⟨o,a9⟩:∃o,o=rV h d.ak d.op.kind (bs d.op.path) (bs d.op.data) d.op.aE d.op.flags d.watch (.slice d8 d7 d6):=by simp
 have a7:∀i,i<b.heap.size->(b.alloc (.cells o 140)).heap[i]?=b.heap[i]?:=by simp_all [XQ]
 have e5:(b.alloc (.cells o 140)).heap.size=b.heap.size+1:=by simp
 have a5:=Yn b (.cells o 140);have a6:¬aI u y.tree a b.heap.size:=λN=>by have:=Z.bj N;omega
 have r:=Hp (Z.old (by omega) a7) d.ak;have a2:∀{k:M},aH (aI u y.tree a) (aI u y.tree a) (b.alloc (.cells o 140)) k->aH (aI u y.tree a) (aI u y.tree a) b k:=λY=>⟨by have:=Y.size;omega,λi t c8=>by rw[Y.keep i (by omega) c8,a7 i t],λi N=>Xh N⟩;rw[d4];cases a4:Wt.known y d.ak with
 |false=>
  rw[a4]at r;refine CI (KP:=λk=>aK u c y e a k/\aH (aI u y.tree a) (aI u y.tree a) b k) (p:=λX=>Be u c y (e++[{ak:=d.ak,idx:=h,err:=3}]) y.tree a b X) ?_ λk⟨H,D⟩=>?_
  .rw[<-a9];exact r.mono λz k⟨l,S,s⟩=>⟨l,(s.keep _ (by omega) a6).trans a5,S,a2 s⟩
  exact(rA H (by omega) (f:={ak:=d.ak,idx:=h,err:=3}) A rfl).mono λz v⟨l,L,q,x,T⟩=>⟨l,L,q,D.trans x,λi t=>Xh (T i t)⟩
 |true=>
  rw[a4]at r;have w:=b5.heard d.ak;have b1:=w.UR;have a1:=RR w.LQ c7;have a3:0<=(Wt.heard y d.ak).aL/\(Wt.heard y d.ak).aL<2^62:=by have:=w.aL;omega
  have R:=(w.write h (r:=d) (by omega) (by omega)).2;obtain⟨m,b0⟩:∃m,m=Wt.heard y d.ak:=by simp
  have e7:m.tree=y.tree:=by rw[b0];rfl
  rw[<-b0]at r b1 a1 a3 R⊢
  refine JY (KP:=λk=>aK u c m e a k/\aH (aI u y.tree a) (aI u y.tree a) b k) (p:=λX=>Be u c (Wt.write m h d).1 (e++(Wt.write m h d).2) y.tree a b X)
   (x:=λf b3 v=>b3=ln/\f.names=[]/\f.results=[]/\∃p told n,Wt.write m h d=(p,told++[f])/\aK u c p (e++told) n v/\aH (aI u y.tree a) (aI u p.tree n) b v/\∀i,dw n i->dw a i) ?_ (λk⟨H,D⟩=>?_) λf b3 v⟨d5,c9,d0,p,told,n,W,q,x,U⟩=>?_
  .rw[<-a9];exact r.mono λz k⟨l,S,s⟩=>⟨l,(s.keep _ (by omega) a6).trans a5,S,a2 s⟩
  .refine(QN H d3 (by omega) (by omega) d1 a1 a3 b1 d2 h).mono λz v⟨p,told,f,W,l,O,Q,n,q,_,x,U,_⟩=>⟨f,ln,l,A,O,Q,p,told,n,W,q,D.trans ?_,U⟩;simp_all
  rw[W]at R⊢
  rw[d5];simp only[Yw,aa7]at R;refine(rA q (by rw[Yw];omega) c9 d0).mono λz f0⟨l,L,d9,b6,T⟩=>⟨l,L,?_,x.trans b6,λi t=>Xh (U i (T i t))⟩;simp_all
theorem BY{d:Xg (Xj×Xj)}(a:Xe):a∈d.map (λc=>i64 c.1)↔(fL d a).isSome=J:=by
 constructor
 .intro b;obtain⟨c,e,rfl⟩:=YB.1 b;simp_all [eZ]
 intro b;cases a with
 |int a f=>
  cases a with
  |i64=>simp_all [eZ]
  |_=>cases b
 |_=>cases b
theorem BZ{m:Xg (Xj×Xj)}{d n:Xj}(q:∀o∈m,o.1≠d):fL (m++[(d,n)]) (i64 d)=C (i64 n)/\∀l,l≠i64 d->fL (m++[(d,n)]) l=fL m l:=by
 refine⟨?_,λl r=>?_⟩
 .grind [eZ]
 cases l with
 |int p j=>
  cases p with
  |i64=>grind [eZ]
  |_=>rfl
 |_=>rfl
theorem CH(n:aK u c y e a b)(v:Ok y g)(c0:g<2^20)(d1:e.length+64<2^20){t:ew}{rq:Sim.RV}(b2:RQ rq t){h:Xj}(c9:t.op.kind=1)(c8:h<64):
 Calls TP 40 #[pt u 0,.iface 136 (.agg (aP h rq))] b (zr u c (Wt.step y h t).1 (e++(Wt.step y h t).2) y.tree a b):=by
 have b3:Wt.step y h t=if y.dE.length<8 then({y with aL:=y.aL+1,dE:=y.dE++[(y.next,y.now)],next:=y.next+1},[{ak:=y.next,idx:=h}])else(y,[{idx:=h,err:=13}]):=by simp_all [Wt.task,Xx,Wt.step]
 obtain⟨a6,b9,U,N⟩:=n.jB;have R:=(XN.1 U).1;have w:a.hb≠u:=λm=>by have:=n.ch;simp_all
 have d2:a6.size=y.dE.length:=by
  have b2:=v.xU;have:=N.size (l:=y.dE.map λm=>i64 m.1) ?_ BY
  .rw[this,ZU]
  grind
 have T:∀i:M,i.heap[a.hb]?=b.heap[a.hb]?->(Builtin.len_ #[96] 3 #[.map (C a.hb)]).run TP i=.ok (Xd K ((y.dE.length:E):Xj)) i:=by grind [Od,IC]
 rw[b3];by_cases S:y.dE.length<8
 .rw[XC S]
  obtain⟨b4,b5⟩:=BZ (m:=y.dE) (d:=y.next) (n:=y.now) λm r q=>by have:=v.key m.1 (YB.2 ⟨m,r,A⟩);omega
  have c6:=v.aL;have d3:=v.kR
  refine MA (o:=EJ y.timeout c a.tb a.tw a.hb y.now y.aL y.next a.ov .nilFunc) (aL:=y.aL) (kR:=y.next) (now:=y.now) (q:=y.dE.length)
   (p:=λz=>Be u c {y with aL:=y.aL+1,dE:=y.dE++[(y.next,y.now)],next:=y.next+1} (e++[{ak:=y.next,idx:=h}]) y.tree a b z)
   (a0:=λY=>∃l k,Y=.map l k/\Mp OU l k (fL (y.dE++[(y.next,y.now)]))) n.ch A R T A rfl rfl w (by omega) (by omega) (by omega) (λi a7=>?_) λi W a9⟨Y,d0,l,k,c7,O⟩ L=>?_
  .obtain⟨l,k,x,O⟩:=N.put MW IC (w:=i) (a7.trans U) (k:=i64 y.next) ⟨_,A⟩ (i64 y.now) b4 b5
   grind
  have d4:(xW b a.hb (.map l k)).heap.size=b.heap.size:=by simp[xW]
  have a8:(xW b a.hb (.map l k)).heap[a.hb]?=C (.map l k):=by simp_all
  have b1:∀d,d≠a.hb->(xW b a.hb (.map l k)).heap[d]?=b.heap[d]?:=by grind
  obtain⟨a3,a1⟩:=n.hears a8 O (by omega) λd _ w=>b1 d w
  obtain⟨a4,a2⟩:=a3.nums (w':=i) (now:=y.now) (aL:=y.aL+1) (kR:=y.next+1) a9 (by omega) λd o w=>by grind
  refine(rA a4 (by omega) (f:={ak:=y.next,idx:=h}) A rfl).mono λm b7⟨r,H,D,p,x⟩=>⟨r,H,D,(a1.trans a2).trans p,λd o=>Xh (x d o)⟩
 rw[Xx S];refine ET (o:=EJ y.timeout c a.tb a.tw a.hb y.now y.aL y.next a.ov .nilFunc) (q:=y.dE.length) (p:=λz=>Be u c y (e++[{idx:=h,err:=13}]) y.tree a b z) n.ch A R T (by omega) λi W L=>?_;have a5:=n.old W L;refine(rA a5 (by omega) (f:={idx:=h,err:=13}) A rfl).mono λm b7⟨r,H,D,p,x⟩=>⟨r,H,D,?_,λd o=>Xh (x d o)⟩
 exact⟨by have:=p.size;omega,λd o b0=>by rw[p.keep d (by omega) b0,L d o],λd q=>by
  rcases p.more d q with q|q
  .exact Xh q
  omega⟩
end
variable{f:fG}{h:M}{g:E}{o:Xe}{c:E}
structure Sg where
 gI:cN
 outs:Xg Out
 cnt:E
def wm(e:E->ew)(y:Sg)(c:E):Sg:=⟨(Wt.step y.gI c (e c)).1,y.outs++(Wt.step y.gI c (e c)).2,y.cnt+1⟩
def Ga(e:E->ew)(y:Sg)(c:E):Sg:=⟨(Wt.eN y.gI c (e c) (Wt.look y.gI.tree (e c).op.path)).1,y.outs++[(Wt.eN y.gI c (e c) (Wt.look y.gI.tree (e c).op.path)).2],y.cnt+1⟩
def tq(e:E->ew)(c:E):Xo:=decide ((e c).op.kind=8\/(e c).op.kind=9\/(e c).op.kind=10)
def Nk(e:E->ew)(y:Sg)(c:E):LR:=od (Wt.look y.gI.tree (e c).op.path)
def KI(e:E->ew)(rq:E->RV)(c:E):Xe:=.iface (if tq e c then 107 else if(e c).op.kind=1 then 136 else 140) (.agg (aP c (rq c)))
def OV(p:E)(y:cN)(q:Xg Out)(a:E):Prop:=Ok y (p+a)/\q.length<=33*a
def Wi(p u:E)(m:Xj)(y:Sg)(own a:E->Prop)(h:M):Prop:=∃f,aK u m y.gI y.outs f h/\own=aI u y.gI.tree f/\a=dw f/\OV p y.gI y.outs y.cnt
def WI(p u:E)(m:Xj)(e:E->ew)(y:Sg)(c:E)(b:Xe)(own a:E->Prop)(h:M):Prop:=∃f o,b=.agg (iC (Wt.eN y.gI c (e c) (Wt.look y.gI.tree (e c).op.path)).2 o)/\aK u m (Ga e y c).gI y.outs f h/\jX (Wt.eN y.gI c (e c) (Wt.look y.gI.tree (e c).op.path)).2 o h/\(∀g,o.1.ownBlock=C g\/o.2.ownBlock=C g->¬aI u (Ga e y c).gI.tree f g)/\own=aI u (Ga e y c).gI.tree f/\(a=λg=>dw f g\/o.1.ownBlock=C g\/o.2.ownBlock=C g)/\OV p (Ga e y c).gI (Ga e y c).outs (Ga e y c).cnt
theorem fP{a:Xk Xe}(d:∀f∈a.toList,NB f):¬aT a:=λ⟨c,b,e⟩=>d (.int .u8 b) (Yz.2 (Ys e)) b A
theorem Gf(y:cN)(b:Xj)(e:ew)(a:Bb):(Wt.eN y b e a).1.tree=y.tree:=by
 unfold Wt.eN;split
 .rfl
 split
 .split
  .split<;>rfl
  rfl
 split<;>rfl
section
variable{m:Xj}{q:Xg Out}
theorem aK.En(b:aK u m y q f h)(a:aI u y.tree f g){t:Xk Xe}{T:Xq}{O:E×E}(l:h.heap[g]?=C (Xn t T O)):¬aT t:=by
 refine fP ?_
 have S:NB f.ov:=λD n=>by rcases b.row.2 with⟨a,_⟩|⟨_,_,_,a,_⟩<;>(simp_all)
 have base:∀(s:Xg Xe),(∀d∈s,d=f.ov\/(match d with|.int .u8 _=>False|_=>True))->∀d∈s,NB d:=λs R d k D n=>by
  rcases R d k with a|a
  .exact S D (a.symm.trans n)
  simp_all
 rcases a with rfl|a|a|rfl|a
 .rw[b.ch]at l;cases l;refine base _ λd k=>?_;simp only[EJ,XV,Yd,YS]at k
  grind
 .rcases a with rfl|⟨o,e,rfl|rfl⟩
  .obtain⟨W,x,z⟩:=b.top;rw[z]at l;cases l;refine base _ λd k=>Xi ?_;simp only[XV,Yd,YS]at k;rcases k with rfl|rfl|rfl
   .trivial
   .trivial
   rcases x with rfl|⟨_,_,_,rfl⟩<;>trivial
  .obtain⟨i,r⟩:=XR.1 e;rw[b.tree.nd o i r]at l;cases l;refine base _ λd k=>Xi ?_;simp only[cU,XV,Yd,YS]at k
   grind
  obtain⟨i,r⟩:=XR.1 e;obtain⟨w,v,p,_⟩:=b.tree.kd o i r;simp_all
 .rcases a with rfl|rfl|⟨c,o,e⟩
  .rw[b.cd.tb]at l;grind
  .obtain⟨w,v,p,_⟩:=b.cd.mp;simp_all
  rcases b.cd.row c o with⟨_,H,n⟩|⟨Q,L,N,n,x,z,_,_,_,_,U⟩
  .rw[n]at e;cases H<;>cases e
  rw[n]at e;have:Q=g:=by
   cases L with
   |zero=>cases e
   |succ i=>simpa[rowOf]using e
  grind
 .obtain⟨w,v,p,_⟩:=b.jB;simp_all
 obtain⟨N,p,a⟩:=b.row.blk g a;simp_all
theorem aK.forget(a:aK u m y q f h):∃l,nB (aI u y.tree f) h l/\aK u m y q f l/\∃b,(b=.tuple #[]\/∃i p,b=Xm F i p)/\l.heap[f.tb]?=C (Xn #[pt (f.nb []) 0,Xd K y.tree.length,b] 195 (0,0)):=by
 obtain⟨b,w,d⟩:=a.top;have a6:(b=.tuple #[]\/∃i p,b=Xm F i p)->_:=λY=>(⟨h,⟨A,A,λ_=>Xh A⟩,a,b,Y,d⟩:∃l,nB (aI u y.tree f) h l/\aK u m y q f l/\∃b,(b=.tuple #[]\/∃i p,b=Xm F i p)/\l.heap[f.tb]?=C (Xn #[pt (f.nb []) 0,Xd K y.tree.length,b] 195 (0,0)));rcases w with rfl|⟨g,i,p,rfl⟩
 .simp_all
 cases g with
 |none=>simp_all
 |some g=>
  have x:(h.setCell ⟨f.tb,2,F⟩ (.tuple #[])).heap[f.tb]?=C (Xn #[pt (f.nb []) 0,Xd K y.tree.length,.tuple #[]] 195 (0,0)):=by have:=aA (l:=2) (g:=.tuple #[]) d;simpa using this
  have z:∀s,s≠f.tb->(h.setCell ⟨f.tb,2,F⟩ (.tuple #[])).heap[s]?=h.heap[s]?:=by grind [ai]
  have X:aK u m y q f (h.setCell ⟨f.tb,2,F⟩ (.tuple #[])):=by
   obtain⟨jc,N,O,Q,R,S,T⟩:=a.jc;have a5:=N f.tb (Xh A);have kp:∀g,jc g≠0->(h.setCell ⟨f.tb,2,F⟩ (.tuple #[])).heap[g]?=h.heap[g]?:=by grind
   have t:=λg e=>kp g (by rw[T g e];decide);refine⟨a.tree.stay λW a0=>?_,⟨_,Xh A,x⟩,a.wf,?_,?_,?_,?_,?_,?_,⟨jc,N,O,Q,R,S,T⟩⟩
   .obtain⟨i,D⟩:=XR.1 a0;obtain⟨a4,a3,k,_⟩:=a.tree.kd W i D;have H:=a.tree.nd W i D;exact⟨z _ (λv=>by rw[v,d]at H;cases H),z _ (λv=>by rw[v,d]at k;cases k)⟩
   .exact a.cd.stay λg e=>kp g (by rw[O g e];decide)
   .rw[kp f.hb (by rw[Q];decide)];exact a.jB
   .rw[kp u (by rw[R];decide)];exact a.ch
   .exact a.row.stay λg e=>kp g (by rw[S g e];decide)
   .exact⟨a.outs.1,λc U o w d=>by
     have:=a.outs.2 c U o w d;have k:=Yj d
     exact⟨this.1.stay λg e=>by rw[t g (.inr (.inr ⟨o,k,.inl e⟩))],this.2.stay λg e=>by rw[t g (.inr (.inr ⟨o,k,.inr e⟩))]⟩⟩
   obtain⟨⟨a2,k⟩,d,Z⟩:=a.bF;exact⟨⟨a2,bW (t 1 (Xh A)) k⟩,d.stay (by rw[t 4 (.inr (.inl A))]),by rw[aS];exact Z⟩
  refine⟨_,⟨aS,A,λs=>?_⟩,X,_,Xh A,x⟩;by_cases a1:s=f.tb
  .subst a1;refine Xi ⟨Xi (Xh (Xh A)),_,_,195,(0,0),d,x,A,λL a7 a8 n r=>?_⟩;rcases L with _|_|_|L
   .simp at n r;subst n r;exact Xh A
   .simp at n r;subst n r;exact Xh A
   .simp at n r;subst n r;exact Xi ⟨A,trivial⟩
   simp at n
  simp_all
theorem xh(b:l.heap[r]?=(h.heap[r]?).map Sim.Obj.whole)(a:h.cell? ⟨r,j,F⟩=C o):l.cell? ⟨r,j,F⟩=C o:=by
 unfold M.cell? at a⊢
 rw[b];cases c:h.heap[r]? with
 |none=>simp_all
 |some d=>
  rw[c]at a;cases d with
  |cells e g f=>exact a
  |_=>simp at a
theorem aK.Tv(d:aK u m y q f h){Q:Xe}(b2:Q=.tuple #[]\/∃i w,Q=Xm F i w)(O:h.heap[f.tb]?=C (Xn #[pt (f.nb []) 0,Xd K y.tree.length,Q] 195 (0,0))){s:E->Prop}(b3:s 1){Z:E}(b6:m=Z){rq:E->RV}{e:E->ew}(a9:∀c,c<i->RQ (rq c) (e c))(a7:∀c,c<i->(e c).op.path.length<2^30):
 Lx s (pJ y.tree f.nb f.mb f.tb) (λc=>od (Wt.look y.tree (e c).op.path)) f.tb u Z i rq h:=by
 obtain⟨b9,b0,_⟩:=d.wf.root;have b1:(Wt.find y.tree []).isSome=J:=by rw[b0];rfl
 have t:∀a,(Wt.find y.tree a).isSome=J->pJ y.tree f.nb f.mb f.tb (f.nb a):=λa k=>Xi ⟨a,k,Xh A⟩;have U:∀a,(Wt.find y.tree a).isSome=J->pJ y.tree f.nb f.mb f.tb (f.mb a):=λa k=>Xi ⟨a,k,Xi A⟩;have W:∀{g w b4 a2},pJ y.tree f.nb f.mb f.tb g->h.heap[g]?=C (Xn w b4 a2)->¬aT w:=λN l=>d.En (Xi (Xh N)) l;refine⟨λg N=>?_,Xh A,⟨_,_,_,d.ch,YA _,by simp_all,A,d.En (Xh A) d.ch,λX R o=>?_⟩,λc T b5 z b8=>?_⟩
 .rcases N with rfl|⟨a,k,rfl|rfl⟩
  .refine Xh ⟨_,_,_,O,by simp,YA _,W (Xh A) O,λX R o=>?_⟩;have b:=Yz.2 (Ys o);simp only[XV,Yd,YS]at b;rcases b with rfl|rfl|rfl
   .exact .ptr (t _ b1)
   .exact .int _ _
   rcases b2 with rfl|⟨_,_,rfl⟩
   .exact .bS
   exact .aO _ _
  .obtain⟨n,b⟩:=XR.1 k;have l:=d.tree.nd a n b;refine Xh ⟨_,_,_,l,by simp[cU],YA _,W (t a k) l,λX R o=>?_⟩;have p:=Yz.2 (Ys o);simp only[cU,XV,Yd,YS]at p;rcases p with rfl|rfl|rfl|rfl|rfl|rfl|rfl|rfl|rfl|rfl|rfl|rfl
   case inr.inr.inr.inr.inr.inr.inr.inr.inr.inr.inl=>
    split
    .exact .cG
    rename_i a6;exact .ptr (t _ (d.wf.up a a6 k))
   case inr.inr.inr.inr.inr.inr.inr.inr.inr.inr.inr=>exact .map (U a k)
   all_goals first|exact .string _|exact .int _ _
  obtain⟨n,b⟩:=XR.1 k;obtain⟨L,H,l,D⟩:=d.tree.kd a n b;refine Xi ⟨L,H,l,λa1 a5=>?_⟩;obtain⟨R,r,a3,a4,x⟩:=D.key a1 a5;rw[a3,a4];refine⟨.string _,?_⟩;unfold bX at x;split at x
  .rename_i o;cases x;exact .ptr (t _ o)
  cases x
 .have p:=Yz.2 (Ys o);simp only[EJ,XV,Yd,YS]at p;rcases p with rfl|rfl|rfl|rfl|rfl|rfl|rfl|rfl|rfl|rfl
  case inr.inr.inr.inr.inr.inr.inr.inr.inl=>
   rcases d.row.2 with⟨S,_⟩|⟨_,_,_,S,_⟩<;>rw[S]
   .exact Xh (.aO _ _)
   exact Xi trivial
  all_goals first|exact Xh (.int _ _)|exact Xi trivial|exact Xh .nilFunc
 obtain⟨⟨n,b⟩,_,_⟩:=d.bF
 have a0:mg y.tree f.nb f.mb b5:=⟨λv n b=>⟨_,by rw[z _ (.inl (t v (by rw[b];rfl))),d.tree.nd v n b];rfl⟩,λv n b=>by
  obtain⟨L,H,l,D⟩:=d.tree.kd v n b
  exact⟨L,H,by rw[z _ (.inl (U v (by rw[b];rfl))),l];rfl,D⟩⟩
 have a8:=(a9 c T).path;have b7:=a7 c T;have:=Hu a0 (xh (z _ (Xh (Xh A))) (aa O 0 A)) d.wf (bs (e c).op.path) (xh (z _ (Xi b3)) b) (by show(e c).op.path.length<2^31;omega);rw[a8];exact this
end
section
variable{m p:E}{e:E->ew}{rq:E->RV}{s:E->Prop}
theorem su:tq e c=J↔(e c).op.kind=8\/(e c).op.kind=9\/(e c).op.kind=10:=by simp[tq]
theorem Ij{y:Sg}(a:tq e c=J)(b:c<64):Ga e y c=wm e y c:=by
 have d:=su.1 a
 have k:Wt.task c (e c)=.read:=by unfold Wt.task;rw[Xx (by omega),Xx (by omega),Xx (by omega),XC (by omega)]
 simp_all [Ga,wm,Wt.step]
theorem SB(R:∀c,c<i->RQ (rq c) (e c))(a0:∀c,c<i->qc (e c).op)(W:∀c,c<i->(e c).op.kind=1\/(e c).op.kind=3\/(e c).op.kind=4\/(e c).op.kind=5\/(e c).op.kind=6\/(e c).op.kind=8\/(e c).op.kind=9\/(e c).op.kind=10)(c9:p<2^16)(d3:i<=64)(b7:s 1)(b4:1<=m/\m<2^16):
 HC (Wi p u m) (WI p u m e) (Ga e) (wm e) (Nk e) s u m i rq (tq e) (KI e rq) Sg.cnt where
 UZ:=λ_ _=>rfl
 RZ:=λ_ _=>rfl
 sm:=λy own H h l b⟨f,a,d,k,x⟩=>⟨f,a.same (by simp_all),d,k,x⟩
 lt:=λy own H h⟨f,a,d,k,_⟩ g w=>by
  subst d k;rcases w with b|b
  .exact a.bj b
  exact a.iY b
 En:=λy own H h⟨f,a,d,k,_⟩ g w c6 e3 c8 Q=>by subst d k;exact a.En w Q
 pre:=λy own H h⟨f,a,d,k,x⟩=>by subst d k;obtain⟨l,b1,z,e4,v,N⟩:=a.forget;exact⟨l,_,f.tb,b1,⟨f,z,A,A,x⟩,λg w=>Xi (Xh w),z.Tv v N b7 A R λc W=>(a0 c W).path⟩
 ev:=λy c=>by
  unfold Nk;cases Wt.look y.gI.tree (e c).op.path with
  |no n=>exact .iface _ _ _
  |yes a4=>exact .nil
 Ws:=λy c j=>by simp[Nk,Ga,Gf]
 mh:=λy c b8 own H h l n⟨f,o,v,a,N,a7,a8,a9,b0⟩=>⟨f,o,v,a.old (by simp_all) (λ_ _=>by rw[n]),⟨N.1.stay λg _=>by rw[n],N.2.stay λg _=>by rw[n]⟩,a7,a8,a9,b0⟩
 Ro:=λy c t jB Q own H h d6 e2⟨f,a,d,k,x⟩ b6 b2=>by
  subst d k;have b3:=su.1 jB;have b5:=Ij (y:=y) jB (by omega);obtain⟨D,c0⟩:=x;obtain⟨Z,b9⟩:=Ok.step D c (r:=e c) (by omega) (by omega) (by omega)
  have X:OV p (Ga e y c).gI (Ga e y c).outs (Ga e y c).cnt:=by rw[b5];refine⟨Z,?_⟩;show(y.outs++_).length<=33*(y.cnt+1);rw[Yw];omega
  refine(Qt a (R c t) b3 (λt=>?_) c A b6 b2).mono λn l⟨o,L,O,z,a1,a5,d5,Y,U⟩=>⟨_,_,_,O,⟨L,o,A,z,Y,λg w=>?_,A,A,X⟩,?_,λg w=>?_⟩
  .have v:=D.key _ (gW.1 t);have N:=D.kR;omega
  .show¬aI u (Wt.eN _ _ _ _).1.tree L g;rw[a1];exact(U g w).1
  .show aH _ (aI u (Wt.eN _ _ _ _).1.tree L) h l;rw[a1];exact a5
  grind [dw]
 snd:=λy c t jB Q b8 own H h⟨f,o,v,a,Y,U,d,k,x⟩=>by
  subst d k v;have d1:=x.2
  have d2:y.outs.length+1<=33*(y.cnt+1):=by simp_all [Ga]
  refine(Gj a (by omega) Y U).mono λn l⟨O,d8,z,T⟩=>⟨_,_,O,⟨_,z,A,A,x⟩,T,λg w=>Xh ?_⟩;rcases w with b|b|⟨a4,S,b⟩
  .exact Xh (Xh b)
  .exact Xh (Xi (Xh b))
  rcases YC.1 S with S|S
  .exact Xh (Xi (Xi ⟨a4,S,b⟩))
  simp_all
 one:=λy c t jB Q own H h⟨f,a,d,k,x⟩=>by
  subst d k;have d4:¬((e c).op.kind=8\/(e c).op.kind=9\/(e c).op.kind=10):=λb=>by grind [su]
  have d0:=W c t;obtain⟨D,c0⟩:=x;obtain⟨Z,b9⟩:=Ok.step D c (r:=e c) (by omega) (by omega) (by omega)
  have X:OV p (wm e y c).gI (wm e y c).outs (wm e y c).cnt:=by
   refine⟨Z,?_⟩;show(y.outs++_).length<=33*(y.cnt+1)
   grind
  have fin:∀{n l},zr u m (Wt.step y.gI c (e c)).1 (y.outs++(Wt.step y.gI c (e c)).2) y.gI.tree f h n l->∃a2 a3,n=Xs (.tuple #[])/\Wi p u m (wm e y c) a2 a3 l/\aH (aI u y.gI.tree f) a2 h l/\il (dw f) a3 h.heap.size:=λ⟨O,L,z,T,a6⟩=>⟨_,_,O,⟨L,z,A,A,X⟩,T,a6⟩;unfold KI;rw[Xx (by simp_all)];by_cases v:(e c).op.kind=1
  .rw[XC v];exact(CH a D (by omega) (by omega) (R c t) v (by omega)).mono λn l b=>fin b
  rw[Xx v];exact(CJ a D (by omega) (by omega) (R c t) (a0 c t) (by omega) (by omega)).mono λn l b=>fin b
 yes:=λc t jB=>by simp_all [KI]
 no:=λc t jB=>⟨_,_,A,by grind⟩
 Ib:=b4
 small:=by omega
end
end
variable{c:E}
section
variable{b ak aE e:Xj}{i d:XB}{l:Xo}{h:Xp Xw}{g f:E}
theorem fN(a:M)(b c:Obj):Below a.heap.size a ((a.alloc b).alloc c):=(ck a b).trans ((ck (a.alloc b) c).mono (by simp))
theorem SQ(m:0<=b/\b<64):Calls TP 38 #[i64 b,.agg #[i64 ak,i64 1,.string i,.string d,i64 aE,i64 e,.bool l,.slice h g f]] a λc k=>c=Xs (.iface 136 (.agg (rV b ak 1 i d aE e l (.slice h g f))))/\Below a.heap.size a k:=by
 go_enter Tryz.func38,Tryz.ntmps38
 go_wp2
 go_ret;simp[fN]
theorem SR(m:0<=b/\b<64):Calls TP 38 #[i64 b,.agg #[i64 ak,i64 3,.string i,.string d,i64 aE,i64 e,.bool l,.slice h g f]] a λc k=>c=Xs (.iface 140 (.agg (rV b ak 3 i d aE e l (.slice h g f))))/\Below a.heap.size a k:=by
 go_enter Tryz.func38,Tryz.ntmps38
 go_wp2
 go_ret;simp[fN]
theorem SS(m:0<=b/\b<64):Calls TP 38 #[i64 b,.agg #[i64 ak,i64 4,.string i,.string d,i64 aE,i64 e,.bool l,.slice h g f]] a λc k=>c=Xs (.iface 140 (.agg (rV b ak 4 i d aE e l (.slice h g f))))/\Below a.heap.size a k:=by
 go_enter Tryz.func38,Tryz.ntmps38
 go_wp2
 go_ret;simp[fN]
theorem SU(m:0<=b/\b<64):Calls TP 38 #[i64 b,.agg #[i64 ak,i64 5,.string i,.string d,i64 aE,i64 e,.bool l,.slice h g f]] a λc k=>c=Xs (.iface 140 (.agg (rV b ak 5 i d aE e l (.slice h g f))))/\Below a.heap.size a k:=by
 go_enter Tryz.func38,Tryz.ntmps38
 go_wp2
 go_ret;simp[fN]
theorem SW(m:0<=b/\b<64):Calls TP 38 #[i64 b,.agg #[i64 ak,i64 6,.string i,.string d,i64 aE,i64 e,.bool l,.slice h g f]] a λc k=>c=Xs (.iface 140 (.agg (rV b ak 6 i d aE e l (.slice h g f))))/\Below a.heap.size a k:=by
 go_enter Tryz.func38,Tryz.ntmps38
 go_wp2
 go_ret;simp[fN]
theorem SX(m:0<=b/\b<64):Calls TP 38 #[i64 b,.agg #[i64 ak,i64 8,.string i,.string d,i64 aE,i64 e,.bool l,.slice h g f]] a λc k=>c=Xs (.iface 107 (.agg (rV b ak 8 i d aE e l (.slice h g f))))/\Below a.heap.size a k:=by
 go_enter Tryz.func38,Tryz.ntmps38
 go_wp2
 go_ret;simp[fN]
theorem SY(m:0<=b/\b<64):Calls TP 38 #[i64 b,.agg #[i64 ak,i64 9,.string i,.string d,i64 aE,i64 e,.bool l,.slice h g f]] a λc k=>c=Xs (.iface 107 (.agg (rV b ak 9 i d aE e l (.slice h g f))))/\Below a.heap.size a k:=by
 go_enter Tryz.func38,Tryz.ntmps38
 go_wp2
 go_ret;simp[fN]
theorem Ql(m:0<=b/\b<64):Calls TP 38 #[i64 b,.agg #[i64 ak,i64 10,.string i,.string d,i64 aE,i64 e,.bool l,.slice h g f]] a λc k=>c=Xs (.iface 107 (.agg (rV b ak 10 i d aE e l (.slice h g f))))/\Below a.heap.size a k:=by
 go_enter Tryz.func38,Tryz.ntmps38
 go_wp2
 go_ret;simp[fN]
end
theorem SZ{b:E->ew}{rq:E->RV}(q:RQ (rq c) (b c))(o:(b c).op.kind=1\/(b c).op.kind=3\/(b c).op.kind=4\/(b c).op.kind=5\/(b c).op.kind=6\/(b c).op.kind=8\/(b c).op.kind=9\/(b c).op.kind=10)(t:c<64)(a:M):
 Calls TP 38 #[Xd K c,.agg (rq c).jf] a λp s=>p=Xs (KI b rq c)/\Below a.heap.size a s:=by
 have k:(0:Xj)<=c/\(c:Xj)<64:=by omega
 have m:=q.kind;unfold KI tq;generalize (b c).op.kind=u at o m;obtain⟨n,r⟩:∃n,n=rq c:=by simp
 rw[<-r]at m⊢
 obtain⟨ak,v,i,d,aE,e,l,h,g,f⟩:=n;subst m;rcases o with rfl|rfl|rfl|rfl|rfl|rfl|rfl|rfl
 .exact SQ k
 .exact SR k
 .exact SS k
 .exact SU k
 .exact SW k
 .exact SX k
 .exact SY k
 exact Ql k
end Go.Sv
namespace Go.Sim
open Go.Conc Go.Proofs Go.RowKit
open Go.ConcN (PermW PermW.app PermW.of fork_knows WgLive RelBy sumTo)
open Go.ConcR (KK wgBlock WgAt stA smA rd wr mk DC0)
variable{P:Xy}{W:Xk Xt}{d:M}{n:M}{b:E}{c:Xt}{S:Xk XF}{h:Set}{f:E->Prop}{m:Ren}{y:bR}{o:Xg Ms}{q:M}{k:XD}{U:Loc->Own}
section
theorem Kw{sl:Xp (E×E)}{e:Outcome}(g:W[b]?=C c)(f:stepG P (b==0) c d=.ended e n S):
 runT P (crowd W d sl) b=(.ended e n,XE b c.frame.fn c.frame.place S):=by
 obtain⟨h,rfl⟩:=XN.1 g;have i:=swapAt_of_lt h {(default:Xt)with status:=.finished};show runT P {world:=d,gs:=W,rest:={timers:=#[],alone:=F,slice:=sl}} b=_;unfold runT;simp only[i,f,GStep.es]
def TI(P:Xy)(d:Xe->M->Prop):dB:=λW q sl k=>∃b n c,stepT P (crowd W q sl)=(.ended b n,c)/\Go.Conc.Good P d (crowd W q sl) b n (k++c)
variable[Inhabited aM]
section
theorem AI(s:dG (aj P F) 0 o W q k U y c)(r:y.tag=F):∀b d,0<b->W[b]?=C d->∃f,QuitsD P f (Deaf k b) d/\Told k U b:=by
 intro b d n m;obtain⟨w,_,p,t⟩:=s.ok;have g:=p.each b d n m;have e:=t b n (XN.1 m).1;generalize w b=v at g e;cases v with
 |lv f=>exact⟨f,g⟩
 |wk Q=>obtain⟨i,l,_⟩:=g;rw[r]at l;cases l
 |pr h u i x=>cases e
 |pb h u i x z O R=>cases e
 |pq h f=>cases e
theorem Fo(l:dG (aj P F) 0 o W q k U y c)(D:y.tag=F):k.HandedOver:=by
 intro b x p t⟨g,v,s,H⟩;obtain⟨f,e,m⟩:=YE.1 p;have w:f.act.touch?=C g:=by have:k.act? b=C f.act:=act?_of e;rw[this]at v;exact v
 obtain⟨N,_,d,_⟩:=l.ok;have r:=d.ops b f e;rw[m]at r;obtain⟨L,_,told⟩:=AI l D x _ (by omega) (XP r)
 obtain⟨j,O,h,n,i⟩:=told b f g e m w s (by
  by_cases u:U g.loc=.sync
  .right;rcases l.bF.OO b g (by rw[YM e];exact w) s u with d|⟨_,d⟩
   .exact H.resolve_left (λz=>z d)
   rw[p]at d;cases d;exact absurd A t
  exact Xh u)
 refine⟨j,by simp[XD.g?,h,n],?_⟩;rcases i with rfl|i
 .rw[e]at h;cases h;exact absurd (m.symm.trans n) t
 exact i
structure RE(q:M):Prop where
 heap:∀e,e<dA.heap.size->q.heap[e]?=dA.heap[e]?
 size:dA.heap.size<=q.heap.size
 os:q.os=dA.os
 out:q.output=dA.output
theorem Pz{y:Xe->M->Prop}(w:c.status=.running)(R:∀q,aV h m d q->RE q->∃r,stepG P J c q=.ended (.done r) q #[]/\y r q):sW P F F (TI P y) h f m d c:=by
 intro o
 induction (aj P F).wf.apply o with
 |intro o _ a5=>
  intro W q sl k U e;have a0:∀n∈W,Go.Conc.awake n:=by
   intro n i;obtain⟨b,p,rfl⟩:=YQ.1 i;rcases Ye b with rfl|u
   .have:W[0]=c:=by have:=e.me;simpa[XP p]using this
    rw[this];exactλk D=>by rw[w]at D;cases D
   exact(aj P F).awake e.ok b _ u (XP p)
  obtain⟨b,a6,l,H,p,a2,z⟩:=h_ (P:=P) (w:=q) (sl:=sl) a0 ⟨0,c,e.me,w⟩;have g:dG (aj P F) 0 o W (q.at l) k U ⟨h,m,d,f,F⟩ c:=⟨(aj P F).at_ l e.ok,e.bF.at l,e.bg.at l,e.me,e.hears⟩;rcases Ye b with rfl|u
  .obtain⟨r,s,t⟩:=R (q.at l) g.bg.rel ⟨g.bF.jP.heap,g.bF.jP.size,g.bF.jP.os,g.bF.jP.out⟩;refine bV.now ⟨_,_,_,z.trans (Kw e.me s),r,A,t,?_,?_,⟨λn i=>?_,A⟩,λj n i a7=>?_⟩
   .simpa[XE]using e.bF.clean
   .simpa[XE]using Fo e A
   .obtain⟨j,a3,rfl⟩:=Zg.1 i;have a4:j+1<W.size:=by simp[crowd]at a3;omega
    have a1:W[j+1]?=C (((crowd W q sl).gs.toList.drop 1)[j]):=by
     simp only[crowd,Xg.getElem_drop,Xk.getElem_toList];rw[XP a4]
     congr 2;omega
    obtain⟨x,v,_⟩:=AI e A (j+1) _ (by omega) a1;exact⟨x,v.leaves⟩
   obtain⟨x,v,_⟩:=AI e A j n (by omega) i;refine⟨x,?_⟩;have:=v.hears (crowd W q sl).world;simpa[XE,Deaf]using this
  obtain⟨O,Q,N,a8,L,s,t,S,T,X,Y,Z⟩:=(aj P F).step H g.ok g.bF g.bg e.me w u p a2;exact bV.head (z.trans s) (a5 O t Q N H _ L ⟨T,X,Y,S,Z.trans e.hears⟩)
end
section
variable{a:Xt}
open Classical in
noncomputable def ej:Loc->Own:=λb=>if Rz b then .ro else .iM 0
theorem LV(o:Base P m)(hrel:aV h m d dA)(y:my h f d)(s:∀a g,m a g->f a)(u:∀a,f a->Im a):dG (aj P F) 0 (ua (λ_=>.lv 0) 1) #[a] dA #[] ej ⟨h,m,d,f,F⟩ a:=by
 have low:∀i g,az i g->g<dA.heap.size->ej i=.ro:=λi g t o=>by unfold ej;rw[XC ⟨g,t,o⟩]
 refine⟨⟨λ_=>.lv 0,A,⟨λb c q w=>?_,λb j H N q O r=>?_,λj _=>?_,λD v=>(by cases v),λp z l=>(by simp at l)⟩,λb q r=>rfl⟩,
  {clean:= ?_,mine:= ?_,low:= ?_,OO:= ?_,norel:= ?_,PQ:= ?_,jB:= ?_,row:= ?_,jP:=⟨low,λ_ _=>rfl,XS _,A,A⟩},
  {base:=o,rel:=hrel,cO:=y,dv:=λa g n i x=>Xi ⟨low i g x (hrel.right n),s a g n⟩,dV:= ?_,low:=⟨XS _,λa g n _=>u a (s a g n)⟩},A,?_⟩
 .have:=(XN.1 w).1;simp at this;omega
 .simp at r;omega
 .rfl
 .rintro S⟨b,j,_,⟨k,T,e,_⟩,_⟩;simp[XD.act?]at e
 .intro i b _ _ p k e;simp[touchAt,XD.act?]at e
 .intro b k e;simp[touchAt,XD.act?]at e
 .intro b k e;simp[touchAt,XD.act?]at e
 .intro a p l;simp[XD.act?]at l
 .intro p z k b l;simp at l
 .intro b k e;simp[touchAt,XD.act?]at e
 .intro i _ _ b k e;simp[touchAt,XD.act?]at e
 .intro a g _ i _ _ b k e;simp[touchAt,XD.act?]at e
 rfl
theorem Gi{l:Xe->M->Prop}(v:sW P F F (TI P l) h f m d a)(w:dG (aj P F) 0 o #[a] dA #[] U ⟨h,m,d,f,F⟩ a):
 ∃e last g n i,runNT P (e+1) (solo a dA) #[]=(.ended g n,i)/\runN P e (solo a dA)=.next last/\step P last=.ended g n/\Go.Conc.Good P l last g n i:=by
 obtain⟨e,r,p,u,i,z,g,n,D,t,x⟩:=v o #[a] dA F #[] U w;have s:runNT P e (solo a dA) #[]=(.next (crowd r p u),i):=z;refine⟨e,crowd r p u,g,n,i++D,?_,?_,?_,x⟩
 .rw[runNT_add,s];simp only[runNT,t]
 .rw[<-runNT_fst P e _ #[],s]
 show(stepT P _).1=_;rw[t]
end
end
variable{y:E}{z:dB}{e:M}{T:Xr}{N:Xg Xr}{D:Xk Oper}{L:E}{U:Xg E}{c:Xu}{q:Xu}{j:E}{u:E}{O:E}{t:Xe}{d:Xg Item}{Q:Oper}{w':M}
section
variable[Inhabited aM]
theorem GS{a6:Type}{c:Xk a6}(b:c.size=42):∃d e q H Y a1 a2 a3 a4 a5 f g h i k l m n o p r s t u v w x y z D L N O Q R S T U W X Z a0,c=#[d,e,q,H,Y,a1,a2,a3,a4,a5,f,g,h,i,k,l,m,n,o,p,r,s,t,u,v,w,x,y,z,D,L,N,O,Q,R,S,T,U,W,X,Z,a0]:=by
 obtain⟨a⟩:=c;simp only[Yt]at b
 iterate 42
  rcases a with _|⟨_,a⟩
  simp at b
 rcases a with _|⟨_,a⟩
 .grind
 simp at b
def stepT{s:Type}(rd x:s->E->s)(H:E->Xo)(a:s)(d:E):s:=if H d then rd a d else x a d
theorem SJ{d:E}{g:PD}{a8:Xp dm}{l:Rt}{o:Xg Item}{i k:E}(c7:al.fr T.fn=J)(d0:T.kind≠.early)(d3:bN D L (C j) (.load 99 (.tmp i)))(c6:l.free (C j)=J)
 (b0:Inv TP al f m e)(n:ar al m l c q)(a6:c.tmps[i]?=C (pt k 0))(b9:m k g.bx)(d1:∃a9 w,e.heap[k]?=C (Xn #[I] a9 w))(c9:j<c.tmps.size)
 (next:∀b v a,Inv TP al f b a->cV f m e b a->a.heap=e.heap->ar al b ⟨l.d0,(j,.chan (C g.rc))::l.kn⟩ (c.put (C j) I) v->sW TP (C (y,g,d)) a8 z al f b a (rg (T.at v (Xv D U::o)) N)):
 sW TP (C (y,g,d)) a8 z al f m e (rg (T.at q (Xv D (L::U)::o)) N):=by
 obtain⟨⟨e0,e4,a7,e5,e1,e3⟩,b5,a2,a3,a4⟩:=d3;simp only at a2 a3 a4;subst a2 a3 a4;refine Jw A λp a5 b8=>?_;obtain⟨a9,w,c0⟩:=b8;obtain⟨e6,e2,d2⟩:=d1;obtain⟨B,b6,b7⟩:=lr n a6;obtain rfl:B=g.bx:=(a5.inj _ _ _ _ b6 b9).1 A;have b3:q.eval (.tmp i)=pt g.bx 0:=by simp[Act.eval,b7]
 have b4:c.eval (.tmp i)=pt k 0:=by simp[Act.eval,a6]
 obtain⟨b,a,new,d7,d8,d9,d5,d6,b1,b2,c8,d4⟩:=pD (main:=J) (g:=o) (l:=N) (v:=U) aC c7 d0 b5 A (show jd TP al.fn al.bi al.bZ (.load 99 (.tmp i))=J by rfl) c6 b0 n (j:=j) A (L:=I)
  (λa7=>by rw[hZ (q:={e with tape:=a7}) A b4 d2];exact⟨A,A⟩) (hZ A b3 c0) (by rw[<-n.tmps.1];exact c9) a5
 exact⟨_,b,a,p,new,d7,d8,d9,d5,d6,A,next _ _ _ b1 b2 c8 d4⟩
section
variable{s:Type}{St:s->(E->Prop)->(E->Prop)->M->Prop}{a0:s->E->Xe->(E->Prop)->(E->Prop)->M->Prop}{rd x:s->E->s}{look:s->E->LR}{Y:E->Prop}{a1:E}{rq:E->RV}{H:E->Xo}{X:E->Xe}{cnt:s->E}
variable{g:PD}{S:Ren}{r:M}{R Z:E->Prop}{W:s}
structure We(Y f:E->Prop)(u O:E)(X:E->Xe)(g:PD)(S:Ren)(r:M)(R:E->Prop):Prop where
 dn:g.n=O
 dt:g.τ=X
 only:∀d,fj g.sh (g.τ d)
 sh:∀c,g.sh c->f c
 xl:∀c,Y c->f c
 Ob:∀a,f a->a<r.heap.size/\¬R a
 KX:∀c,f c->∃b k,r.heap[c]?=C (Xn b k (0,b.size))/\0<b.size/\(∀(L:E) a,b[L]?=C a->aR f a)/\¬aT b
 Io:∀i,(0<i\/i=TP.globals.size)->i<=TP.globals.size->f i
structure Lh(cnt:s->E)(St:s->(E->Prop)->(E->Prop)->M->Prop)(rd x:s->E->s)(H:E->Xo)(rq:E->RV)(f:E->Prop)(u:E)(v:Xg (E×Xe))(S:Ren)(r:M)(R Z:E->Prop)(W:s)(d:E)(a:Xg E)(b:s)(m:Ren)(e:M)(c q:Xu):Prop where
 inv:Inv TP al f m e
 grow:cV f S r m e
 rel:ar al m ⟨[],v⟩ c q
 size:c.tmps.size=42
 defs:c.defers=[]
 VR:c.tmps[0]?=C (pt u 0)
 st:∃own n o,c.tmps[6]?=C o/\St b own n e/\(gK R own r e/\il Z n r.heap.size)/\nY r.heap.size rq a o e/\∀i,o.ownBlock=C i->¬own i/\¬n i
 Vd:a.foldl rd b=(Xg.range d).foldl (stepT rd x H) W
 mem:∀p∈a,p<d/\H p=J
 len:cnt b+a.length=d
 RZ:∀k,k<a.length->a.getD k 0=cnt b+k
def zq{s:Type}(St:s->(E->Prop)->(E->Prop)->M->Prop)(c:s)(own d:E->Prop)(e w':M):Prop:=∃a b,St c a b w'/\aH own a e w'/\il d b e.heap.size
def GJ(h:E)(rq:E->RV)(f:Xg E)(d:E)(mk:Xe->Xu)(b:M)(t:Xe)(g:Xu)(e:M):Prop:=
 ∃c,g=mk c/\nY h rq (f++[d]) c e/\b.heap.size<=e.heap.size/\(∀a,a<b.heap.size->t.ownBlock≠C a->e.heap[a]?=b.heap[a]?)/\∀a,c.ownBlock=C a->t.ownBlock=C a\/b.heap.size<=a
theorem nY.low{c:E}{rq:E->RV}{d:Xg E}(f:nY c rq d t e){a:E}(b:t.ownBlock=C a):c<=a/\a<e.heap.size:=by
 rcases f with⟨rfl,_⟩|⟨i,g,h,rfl,k,l,_⟩
 .cases b
 cases b;grind
theorem Ja{a:Xq}(i:¬a=107)(e:M):(Instr.typeAssert (.iface a t) 101 107 J).run TP e=.ok (.tuple #[.agg #[Xd K 0,Xd K 0,Xd K 0,.string XB.empty,.string XB.empty,Xd K 0,Xd K 0,.bool Xf,Xm F 0 0],.bool Xf]) e:=by have k:TP.underlying 107=C (.struct ((match TP.underlying 107 with|some (.struct b)=>b|_=>#[]))):=A;unfold Instr.typeAssert;simp only[Zp,YL k,q_,Xx i];go_simp;rfl
theorem yn{i:Goal P h J f}{o:XI}{l:Xk XJ}{a2:Xk Xq}{fn:Func}{a3:XG}(a7:T.kind≠.early)(a9:D[L]?=C Q)(b3:Region.wanted Q (yielded D c.tmps)=J)(b0:Q.op=.call {callee:=.value (.func o),args:=l,argTypes:=a2})
 (a6:P.funcs[o]?=C fn)(a8:(fn.name== "runtime.NumGoroutine")=Xf)(a4:fn.body=C a3)(b1:l.toList.all (du P h.fn)=J)(w:Inv P h f m e){n:Rt}(a5:n.free Q.dst=J)(b2:ar h m n c q)
 {p:Xe->M->Prop}{k:Xk Xe}(b6:l.map c.eval=k)(b7:Co i o k e p)
 (next:∀b v t a,Inv P h f b a->cV f m e b a->ar h b n (c.put Q.dst t) v->p t a->i.G b a (rg (T.at v (Xv D U::d)) N)):i.G m e (rg (T.at q (Xv D (L::U)::d)) N):=
 Bt a7 a9 b3 b0 a6 a8 a4 b1 w a5 b2 (by simp_all) next
theorem fold_succ(d:E)(a:s):(Xg.range (d+1)).foldl (stepT rd x H) a=stepT rd x H ((Xg.range d).foldl (stepT rd x H) a) d:=by rw[Xg.range_succ,Xg.foldl_append];rfl
theorem HC.push(i:HC St a0 rd x look Y u a1 O rq H X cnt){a:s}{own b:E->Prop}(k:St a own b e)(n:e.heap.size<=w'.heap.size)(l:∀c,c<e.heap.size->w'.heap[c]?=e.heap[c]?):St a own b w':=i.sm a own b e w' (wJ (i.lt a own b e k) n l) k
theorem gK.old{own i:E->Prop}{a w2:M}(b:gK own i e a)(n:a.heap.size<=w2.heap.size)(l:∀c,c<a.heap.size->w2.heap[c]?=a.heap[c]?):gK own i e w2:=b.trans ⟨n,λc k _=>Xh (l c k),λc b=>Xh b⟩
noncomputable abbrev KF(z:dB)(y:E)(g:PD)(f:E->Prop)(d:E):Goal TP al J f:=goalAt TP (C (y,g,d)) F z al f
theorem BX(o:HC St a0 rd x look Y u a1 O rq H X cnt)(G:We Y f u O X g S r R){i3:XG}{p4:Xg Item}(k4:(.block 0 (.loop i3):XG)=tl (hd (tl (tl (tl (tl (tl eK)))))))
 (last:∀a4 e6 m e c q,Lh cnt St rd x H rq f u [] S r R Z W O a4 e6 m e c q->(goalAt TP F F z al f).G m e (rg ((base 31).at q p4) N))
 {m:Ren}{e:M}{c q:Xu}(a:Lh cnt St rd x H rq f u [(15,.chan (C g.rc))] S r R Z W 0 [] W m e c q):(KF z y g f 0).G m e (rg ((base 31).at q (.code (.block 0 (.loop i3))::p4)) N):=by
 obtain rfl:i3=(match tl (hd (tl (tl (tl (tl (tl eK))))))with|.block _ (.loop i3)=>i3|_=>.skip):=by rw[<-k4]
 clear k4;show(KF z y g f 0).G m e (rg ((base 31).at q (.code (.block 0 (.loop (.seq _ _)))::p4)) N);refine ie ?_;refine qw (c:=KF z y g f) (λj d m e q=>d+j=O/\∃a4 e6 c,Lh cnt St rd x H rq f u [(15,.chan (C g.rc))] S r R Z W d a4 e6 m e c q) ?_ ?_ O (a:=0) ⟨by omega,_,_,_,a⟩
 .clear a m e c q;rintro j f6 d m e q⟨u1,a4,e6,c,a⟩;have f4:d<O:=by omega
  obtain⟨own,k1,v6,k2,d3,⟨a9,f9⟩,a5,d9⟩:=a.st;obtain⟨v3,o0⟩:=c;obtain⟨v4,b0,b7,b8,c9,d2,n,m1,j9,k0,b1,b2,b3,b4,b5,b6,v5,p7,m0,j4,j5,j6,j7,j8,i1,e7,e8,e9,f0,f7,f5,f1,d6,d7,d8,b9,c0,c6,c7,c8,d0,d1,rfl⟩:=GS a.size;have hd:o0=[]:=a.defs;subst hd;have l2:=a.VR;simp only[Yo,Yv,Yq,Yh]at l2 k2;subst l2 k2;obtain⟨i0,e4⟩:∃i0,X d=i0:=⟨_,A⟩;have hrel:=a.rel;have e3:=a.inv;refine bz (eA ?_);show sW TP (C (y,g,d)) F z al f m e (rg ((base 31).at q (Xv _ (0::[1])::_)) N);have e1:q.tmps[15]?=C (.chan (C g.rc)):=hrel.kn (15,_) (by simp);refine BV (l:=.nilIface) (GU (j:=16) (i:=15) (by decide) ⟨_,A,A,A,A⟩ e1 lp) (λ_ h8 g0=>?_) (λp=>absurd p (by rw[G.dn];omega));rw[za ⟨_,_,A,A,A,A⟩];rw[G.dt,e4]at g0
  have d5:ar al m ⟨[],[(15,.chan (C g.rc))]⟩ ⟨#[pt u 0,b0,b7,b8,c9,d2,n,m1,j9,k0,b1,b2,b3,b4,b5,b6,.tuple #[i0,.bool J],p7,m0,j4,j5,j6,j7,j8,i1,e7,e8,e9,f0,f7,f5,f1,d6,d7,d8,b9,c0,c6,c7,c8,d0,d1],[]⟩ (q.put (C 16) (.tuple #[h8,.bool J])):=by
   refine hrel.put (C 16) A (v:=.tuple #[i0,.bool J]) (.tuple A ?_);intro L w v7 a3 i6;rcases(by grind:L=0\/L=1)with rfl|rfl
   .simp_all
   simp at a3 i6;subst a3 i6;exact .bool _
  generalize q.put (C 16) (.tuple #[h8,.bool J])=s8 at d5⊢
  show(KF z y g f (d+1)).G m e _;refine vH aC (by decide) (by decide) (H:=C 17) (S:=.extract (.tmp 16) 1) ⟨_,A,A,A,A⟩ (W:=[15]) A (by rfl) (by decide) e3 d5 (λi f2=>i=⟨#[pt u 0,b0,b7,b8,c9,d2,n,m1,j9,k0,b1,b2,b3,b4,b5,b6,.tuple #[i0,.bool J],.bool J,m0,j4,j5,j6,j7,j8,i1,e7,e8,e9,f0,f7,f5,f1,d6,d7,d8,b9,c0,c6,c7,c8,d0,d1],[]⟩/\f2.heap=e.heap) (λw' v _ _ _ h7 y p=>?_) (λi f2 a w _=>by rw[a.2]) ?_
  .clear f6 a last a5 d3 a9 d9 hrel e3 e1 d5 f4 g0 o G e4
   go_wp2
  rintro s1 _ s9 f2 e0 f3 e5⟨rfl,e2⟩;refine bP (bz (iO (k:=J) (iP e0.base e5 (by decide) A) (sq (ie (bz ?_)))));refine bT aC (by decide) (by decide) (z:=[15]) A (by rfl) e0 e5 (λi a8=>i=⟨#[pt u 0,b0,b7,b8,c9,d2,n,i0,j9,k0,b1,b2,b3,b4,b5,b6,.tuple #[i0,.bool J],.bool J,i0,j4,j5,j6,j7,j8,i1,e7,e8,e9,f0,f7,f5,f1,d6,d7,d8,b9,c0,c6,c7,c8,d0,d1],[]⟩/\a8.heap=f2.heap) (λw' v _ _ _=>?_) (λi f2 a w _=>by rw[a.2]) ?_
  .clear f6 a last a5 d3 a9 d9 hrel e3 e1 d5 f4 g0 o G e4 e5 e0 f3 e2
   go_wp2
   exact⟨A,v⟩
  rintro z5 _ w9 a6 g1 g2 g4⟨rfl,h1⟩;have g3:a6.heap=e.heap:=h1.trans e2;refine bz (bz ?_);cases o9:H d with
  |true=>
   have s0:=o.yes d f4 o9;rw[e4]at s0;subst s0;obtain⟨⟨l3,l4,l5,l6,l7,l8,l9,l0,k9,l1⟩,k8⟩:∃v2,rq d=v2:=⟨_,A⟩;refine bT aC (by decide) (by decide) (z:=[15]) A (by rfl) g1 g4 (λi a8=>i=⟨#[pt u 0,b0,b7,b8,c9,d2,n,.iface 107 (.agg (aP d (rq d))),pt a6.heap.size 0,.bool J,b1,b2,b3,b4,b5,b6,.tuple #[.iface 107 (.agg (aP d (rq d))),.bool J],.bool J,.iface 107 (.agg (aP d (rq d))),.tuple #[.agg (aP d (rq d)),.bool J],.iface 107 (.agg (aP d (rq d))),.tuple #[.agg (aP d (rq d)),.bool J],.agg (aP d (rq d)),.bool J,i1,e7,e8,e9,f0,f7,f5,f1,d6,d7,d8,b9,c0,c6,c7,c8,d0,d1],[]⟩/\a8.heap=a6.heap.push (.cells (aP d (rq d)) 107 (0,0))) (λw' v _ _ _=>?_) ?_ ?_
   .rw[k8];unfold aP;rw[<-v];clear f6 a last a5 d3 a9 d9 hrel e3 e1 d5 f4 g0 o G e4 e5 e0 f3 e2 g4 g1 g2 h1 g3 k8 v
    go_wp2
    rename_i t8;refine t8 _ _ ?_
    go_wp2
    exact⟨A,A⟩
   .grind [yW]
   rintro v9 _ t0 q0 g8 h0 g5⟨rfl,h4⟩;obtain⟨b,j0⟩:∃t,aP d (rq d)=t:=⟨_,A⟩;rw[j0]at h4 g5;refine bz (bT aC (by decide) (by decide) (z:=[15]) A (by rfl) g8 g5 (λi a8=>i=⟨#[pt u 0,b0,b7,b8,c9,d2,n,.iface 107 (.agg b),pt a6.heap.size 0,.bool J,b1,b2,b3,b4,b5,b6,.tuple #[.iface 107 (.agg b),.bool J],.bool J,.iface 107 (.agg b),.tuple #[.agg b,.bool J],.iface 107 (.agg b),.tuple #[.agg b,.bool J],.agg b,.bool J,.bool J,e7,e8,e9,f0,f7,f5,f1,d6,d7,d8,b9,c0,c6,c7,c8,d0,d1],[]⟩/\a8.heap=q0.heap) (λw' v _ _ _=>?_) (λi f2 a w _=>by rw[a.2]) ?_)
   .clear f6 a last a5 d3 a9 d9 hrel e3 e1 d5 f4 g0 o G e4 e5 e0 f3 e2 g4 g1 g2 h1 g3 k8 g5 g8 h0 h4 j0
    go_wp2
    exact⟨A,v⟩
   rintro w0 _ t1 f8 g9 h9 h2⟨rfl,i9⟩;refine iO (k:=J) (iP g9.base h2 (by decide) A) (bz ?_);have j1:a6.heap.size=e.heap.size:=by rw[g3]
   have u7:f8.heap.size=a6.heap.size+1:=by simp_all
   have q6:f8.heap[a6.heap.size]?=C (Xn (aP d (rq d)) 107 (0,0)):=by simp_all
   have i4:∀c,c<e.heap.size->f8.heap[c]?=e.heap[c]?:=λc a7=>by grind
   have r9:∀a2,n.ownBlock=C a2->a2<e.heap.size:=λa2 d4=>by
    rcases a5 with⟨rfl,_⟩|⟨x8,x5,x6,rfl,_,x9,_⟩
    .cases d4
    cases d4;grind
   have r6:nY r.heap.size rq a4 n f8:=a5.kept λa2 d4=>i4 a2 (r9 a2 d4);have j3:r.heap.size<=e.heap.size:=a.grow.size;have u6:=o.small;have u0:=a.len;refine bT aC (by decide) (by decide) (z:=[15]) A (by rfl) g9 h2 (GJ r.heap.size rq a4 d (λg7=>⟨#[pt u 0,b0,b7,b8,c9,d2,g7,.iface 107 (.agg b),pt a6.heap.size 0,.bool J,b1,b2,b3,b4,b5,b6,.tuple #[.iface 107 (.agg b),.bool J],.bool J,.iface 107 (.agg b),.tuple #[.agg b,.bool J],.iface 107 (.agg b),.tuple #[.agg b,.bool J],.agg b,.bool J,.bool J,n,.agg b,Xm (C ⟨f8.heap.size,0,F⟩) 1 1,g7,f7,f5,f1,d6,d7,d8,b9,c0,c6,c7,c8,d0,d1],[]⟩) f8 n) (λw' v _ _ _=>?_) ?_ ?_
   .have p0:b=#[Xd K d,Xd K l3,Xd K l4,.string l5,.string l6,Xd K l7,Xd K l8,.bool l9,.slice l0 k9 l1]:=by rw[<-j0,k8];rfl
    have r5:∀Q,nY r.heap.size rq a4 n (w'.alloc Q):=λQ=>r6.kept λa2 d4=>by
     show(w'.heap.push Q)[a2]?=_
     grind
    have r1:(w'.alloc (.cells #[Xd K d,Xd K l3,Xd K l4,.string l5,.string l6,Xd K l7,Xd K l8,.bool l9,.slice l0 k9 l1] 107)).heap[w'.heap.size]?=C (Xn (aP d (rq d)) 107 (0,0)):=by rw[j0,p0];show(w'.heap.push _)[_]?=_;simp
    have q7:∀h8 m2,nY r.heap.size rq (a4++[d]) h8 m2->(w'.alloc (.cells #[Xd K d,Xd K l3,Xd K l4,.string l5,.string l6,Xd K l7,Xd K l8,.bool l9,.slice l0 k9 l1] 107)).grownBy m2 n.ownBlock->(∀a2,h8.ownBlock=C a2->n.ownBlock=C a2\/(w'.alloc (.cells #[Xd K d,Xd K l3,Xd K l4,.string l5,.string l6,Xd K l7,Xd K l8,.bool l9,.slice l0 k9 l1] 107)).heap.size<=a2)->GJ r.heap.size rq a4 d (λg7=>⟨#[pt u 0,b0,b7,b8,c9,d2,g7,.iface 107 (.agg b),pt a6.heap.size 0,.bool J,b1,b2,b3,b4,b5,b6,.tuple #[.iface 107 (.agg b),.bool J],.bool J,.iface 107 (.agg b),.tuple #[.agg b,.bool J],.iface 107 (.agg b),.tuple #[.agg b,.bool J],.agg b,.bool J,.bool J,n,.agg b,Xm (C ⟨f8.heap.size,0,F⟩) 1 1,g7,f7,f5,f1,d6,d7,d8,b9,c0,c6,c7,c8,d0,d1],[]⟩) f8 n ((λg7=>⟨#[pt u 0,b0,b7,b8,c9,d2,g7,.iface 107 (.agg b),pt a6.heap.size 0,.bool J,b1,b2,b3,b4,b5,b6,.tuple #[.iface 107 (.agg b),.bool J],.bool J,.iface 107 (.agg b),.tuple #[.agg b,.bool J],.iface 107 (.agg b),.tuple #[.agg b,.bool J],.agg b,.bool J,.bool J,n,.agg b,Xm (C ⟨w'.heap.size,0,F⟩) 1 1,g7,f7,f5,f1,d6,d7,d8,b9,c0,c6,c7,c8,d0,d1],[]⟩) h8) m2:=λh8 m2 q1 h5 h6=>⟨h8,by rw[v],q1,by
     have:=h5.size
     grind,λa2 d4 r0=>by
     have y1:a2<w'.heap.size:=by rw[v];exact d4
     rw[h5.block a2 (by show a2<(w'.heap.push _).size;simp;omega) (by intro p;exact r0 p.symm)];show(w'.heap.push _)[a2]?=_
     grind,λa2 d4=>(h6 a2 d4).imp id λa=>by
     grind⟩
    have s3:=Xl q7;have s6:=Xl r5;have s4:=Xl r1;have k4:=q6;rw[<-v,j0,p0]at k4;have cell:∀j t,#[Xe.int K d,Xd K l3,Xd K l4,.string l5,.string l6,Xd K l7,Xd K l8,.bool l9,.slice l0 k9 l1][j]?=C t->w'.cell? ⟨a6.heap.size,j,F⟩=C t:=λj t y8=>by simp_all [M.cell?]
    have x1:=cell 0 _ A;have c1:=cell 1 _ A;have c2:=cell 2 _ A;have c3:=cell 3 _ A;have c4:=cell 4 _ A;have c5:=cell 5 _ A;have x2:=cell 6 _ A;have x3:=cell 7 _ A;have x4:=cell 8 _ A;have y4:r.heap.size<=w'.heap.size+1:=by grind
    have t9:a4.length<2^30:=by omega
    clear q7 r5 r1 cell k4;subst p0;clear f6 a last a5 d3 a9 f9 d9 hrel e3 e1 d5 f4 g0 o G e4 e5 e0 f3 e2 g4 g1 g2 h1 g3 k8 g5 g8 h0 h4 j0 r6 i4 q6 u7 j1 h2 g9 h9 i9 r9 j3 u6 u0 v
    go_wp2_with (at_builtin;refine oh A _ _ A rfl rfl (s6.out _) s4.out t9 (by simp_all) ?_;intro h8 m2 q1 h5 h6)
    exact s3.out _ _ q1 h5 h6
   .rintro i a8⟨g7,_,_,y6,d4,_⟩ w a3;have t6:=(G.Ob w a3).1;refine d4 w (by omega) λp=>?_;have:=a5.low p;omega
   rintro w1 _ t2 n6 i7 i8 j2⟨g7,rfl,u5,y7,y2,y0⟩;refine sb (id:=1) A ?_;have r3:∀c,c<e.heap.size->n.ownBlock≠C c->n6.heap[c]?=e.heap[c]?:=λc a7 r0=>by grind
   have u2:=o.lt e6 own k1 e d3;refine f6 (d+1) _ _ _ ⟨by omega,a4++[d],e6,_,⟨i7,((((a.grow.trans f3).trans g2).trans h0).trans h9).trans i8,j2,A,A,A,⟨own,k1,g7,A,?_,⟨?_,f9⟩,u5,?_⟩,?_,?_,?_,?_⟩⟩
   .refine o.sm e6 own k1 e n6 ⟨by omega,λc a7=>r3 c (u2 c (Xh a7)) λp=>(d9 c p).1 a7,λc a7=>by grind⟩ d3
   .exact⟨by omega,λc a7 u3=>(a9.keep c a7 u3).trans (Xh (r3 c (by omega) λp=>by have:=(a5.low p).1;omega)),a9.more⟩
   .grind
   .rw[Xg.foldl_append,a.Vd,fold_succ];simp_all [stepT]
   .intro w a3;rcases YC.1 a3 with a3|a3
    .exact⟨by have:=(a.mem w a3).1;omega,(a.mem w a3).2⟩
    simp_all
   .simp;omega
   intro m9 m6;rw[Yw]at m6;simp only[Yl,Zd]at m6;by_cases p:m9<a4.length
   .have:=a.RZ m9 p;simp_all
   obtain rfl:m9=a4.length:=by omega
   simp_all
  |false=>
   obtain⟨l,k,r2,i5⟩:=o.no d f4 o9;rw[e4]at r2;subst r2;refine bT aC (by decide) (by decide) (z:=[15]) A (by rfl) g1 g4 (λi a8=>i=⟨#[pt u 0,b0,b7,b8,c9,d2,n,.iface l k,pt a6.heap.size 0,.bool Xf,b1,b2,b3,b4,b5,b6,.tuple #[.iface l k,.bool J],.bool J,.iface l k,.tuple #[.agg #[Xd K 0,Xd K 0,Xd K 0,.string XB.empty,.string XB.empty,Xd K 0,Xd K 0,.bool Xf,Xm F 0 0],.bool Xf],.iface l k,.tuple #[.agg #[Xd K 0,Xd K 0,Xd K 0,.string XB.empty,.string XB.empty,Xd K 0,Xd K 0,.bool Xf,Xm F 0 0],.bool Xf],.agg #[Xd K 0,Xd K 0,Xd K 0,.string XB.empty,.string XB.empty,Xd K 0,Xd K 0,.bool Xf,Xm F 0 0],.bool Xf,i1,e7,e8,e9,f0,f7,f5,f1,d6,d7,d8,b9,c0,c6,c7,c8,d0,d1],[]⟩/\a8.heap=a6.heap.push (.cells #[Xd K 0,Xd K 0,Xd K 0,.string XB.empty,.string XB.empty,Xd K 0,Xd K 0,.bool Xf,Xm F 0 0] 107 (0,0))) (λw' v _ _ _=>?_) ?_ ?_
   .rw[<-v];have y5:=Ja (t:=k) i5 w';clear f6 a last a5 d3 a9 f9 d9 hrel e3 e1 d5 f4 g0 o G e4 e5 e0 f3 e2 g4 g1 g2 h1 g3 v i5
    go_wp2
    exact⟨A,A⟩
   .grind [yW]
   rintro v9 _ t0 q0 g8 h0 g5⟨rfl,h4⟩;refine bz (bT aC (by decide) (by decide) (z:=[15]) A (by rfl) g8 g5 (λi a8=>i=⟨#[pt u 0,b0,b7,b8,c9,d2,n,.iface l k,pt a6.heap.size 0,.bool Xf,b1,b2,b3,b4,b5,b6,.tuple #[.iface l k,.bool J],.bool J,.iface l k,.tuple #[.agg #[Xd K 0,Xd K 0,Xd K 0,.string XB.empty,.string XB.empty,Xd K 0,Xd K 0,.bool Xf,Xm F 0 0],.bool Xf],.iface l k,.tuple #[.agg #[Xd K 0,Xd K 0,Xd K 0,.string XB.empty,.string XB.empty,Xd K 0,Xd K 0,.bool Xf,Xm F 0 0],.bool Xf],.agg #[Xd K 0,Xd K 0,Xd K 0,.string XB.empty,.string XB.empty,Xd K 0,Xd K 0,.bool Xf,Xm F 0 0],.bool Xf,.bool Xf,e7,e8,e9,f0,f7,f5,f1,d6,d7,d8,b9,c0,c6,c7,c8,d0,d1],[]⟩/\a8.heap=q0.heap) (λw' v _ _ _=>?_) (λi f2 a w _=>by rw[a.2]) ?_)
   .clear f6 a last a5 d3 a9 f9 d9 hrel e3 e1 d5 f4 g0 o G e4 e5 e0 f3 e2 g4 g1 g2 h1 g3 g5 g8 h0 h4 i5
    go_wp2
    exact⟨A,v⟩
   rintro w0 _ t1 f8 g9 h9 h2⟨rfl,i9⟩;refine iO (k:=Xf) (iP g9.base h2 (by decide) A) (sq (bz (eA ?_)));have j1:a6.heap.size=e.heap.size:=by rw[g3]
   have m8:f8.heap.size=e.heap.size+1:=by simp_all
   have i4:∀c,c<e.heap.size->f8.heap[c]?=e.heap[c]?:=λc a7=>by grind
   have j3:r.heap.size<=e.heap.size:=a.grow.size;refine vH aC (by decide) (by decide) (H:=C 29) (S:=.move (.tmp 0)) ⟨_,A,A,A,A⟩ (W:=[15]) A (by rfl) (by decide) g9 h2 (λi a8=>i=⟨#[pt u 0,b0,b7,b8,c9,d2,n,.iface l k,pt a6.heap.size 0,.bool Xf,b1,b2,b3,b4,b5,b6,.tuple #[.iface l k,.bool J],.bool J,.iface l k,.tuple #[.agg #[Xd K 0,Xd K 0,Xd K 0,.string XB.empty,.string XB.empty,Xd K 0,Xd K 0,.bool Xf,Xm F 0 0],.bool Xf],.iface l k,.tuple #[.agg #[Xd K 0,Xd K 0,Xd K 0,.string XB.empty,.string XB.empty,Xd K 0,Xd K 0,.bool Xf,Xm F 0 0],.bool Xf],.agg #[Xd K 0,Xd K 0,Xd K 0,.string XB.empty,.string XB.empty,Xd K 0,Xd K 0,.bool Xf,Xm F 0 0],.bool Xf,.bool Xf,e7,e8,e9,f0,pt u 0,f5,f1,d6,d7,d8,b9,c0,c6,c7,c8,d0,d1],[]⟩/\a8.heap=f8.heap) (λw' v _ _ _ h7 y p=>?_) (λi f2 a w _=>by rw[a.2]) ?_
   .clear f6 a last a5 d3 a9 f9 d9 hrel e3 e1 d5 f4 g0 o G e4 e5 e0 f3 e2 g4 g1 g2 h1 g3 g5 g8 h0 h4 i5 h2 g9 h9 i9 i4 m8 j1 j3
    go_wp2
   rintro w1 _ t2 n6 i7 i8 j2⟨rfl,m5⟩;refine vH aC (by decide) (by decide) (H:=C 30) (S:=.move (.tmp 6)) ⟨_,A,A,A,A⟩ (W:=[15]) A (by rfl) (by decide) i7 j2 (λi a8=>i=⟨#[pt u 0,b0,b7,b8,c9,d2,n,.iface l k,pt a6.heap.size 0,.bool Xf,b1,b2,b3,b4,b5,b6,.tuple #[.iface l k,.bool J],.bool J,.iface l k,.tuple #[.agg #[Xd K 0,Xd K 0,Xd K 0,.string XB.empty,.string XB.empty,Xd K 0,Xd K 0,.bool Xf,Xm F 0 0],.bool Xf],.iface l k,.tuple #[.agg #[Xd K 0,Xd K 0,Xd K 0,.string XB.empty,.string XB.empty,Xd K 0,Xd K 0,.bool Xf,Xm F 0 0],.bool Xf],.agg #[Xd K 0,Xd K 0,Xd K 0,.string XB.empty,.string XB.empty,Xd K 0,Xd K 0,.bool Xf,Xm F 0 0],.bool Xf,.bool Xf,e7,e8,e9,f0,pt u 0,n,f1,d6,d7,d8,b9,c0,c6,c7,c8,d0,d1],[]⟩/\a8.heap=n6.heap) (λw' v _ _ _ h7 y p=>?_) (λi f2 a w _=>by rw[a.2]) ?_
   .clear f6 a last a5 d3 a9 f9 d9 hrel e3 e1 d5 f4 g0 o G e4 e5 e0 f3 e2 g4 g1 g2 h1 g3 g5 g8 h0 h4 i5 h2 g9 h9 i9 i4 m8 j1 j3 j2 i7 i8 m5
    go_wp2
   rintro q2 _ x0 i2 m3 o1 p2⟨rfl,o8⟩;have q8:i2.heap=f8.heap:=o8.trans m5;have k6:∀c,c<e.heap.size->i2.heap[c]?=e.heap[c]?:=λc a7=>by simp_all
   have r7:i2.heap.size=e.heap.size+1:=by simp_all
   have o4:St e6 own k1 i2:=o.push d3 (by omega) k6;have h3:cV f S r q2 i2:=(((((a.grow.trans f3).trans g2).trans h0).trans h9).trans i8).trans o1;have o3:gK R own r i2:=a9.old (by omega) k6;have k7:∀c,f c->¬own c:=λc a7=>a9.free (G.Ob c a7).1 (G.Ob c a7).2
   obtain⟨p9,k5,o7⟩:=DG (a:=i2) o (b3:=C (y,g,d+1)) (z:=z) (f:=f) (λz0 w2 y9 p=>by cases p;exact⟨G.only,G.sh⟩) o4 (a5.kept λa2 d4=>k6 a2 (a5.low d4).2) (λa2 d4=>(d9 a2 d4).1) (λw a3=>⟨by have:=(a.mem w a3).1;omega,(a.mem w a3).2⟩) a.RZ (by have:=a.len;omega) G.xl k7
    (λc a7=>by
      obtain⟨i3,h7,v0,v1⟩:=G.KX c a7
      exact⟨i3,h7,by rw[h3.keep c a7];exact v0,v1⟩) G.Io
   have m7:∀c,f c->p9.heap[c]?=i2.heap[c]?:=λc a7=>by
    rcases k5.blk c with p|⟨p,_⟩
    .exact p
    simp_all
   refine BS k5 k7 ?_;have n7:Inv TP al f q2 p9:=m3.keep m3.base m7;refine yn (l:=#[.tmp 29,.tmp 30]) (a2:=#[76,103]) (by decide) A rfl rfl Tryz.func39 (by decide) A (by decide) n7 A p2 (by simp[Act.eval]) o7 λs2 t3 z1 n5 n8 o2 p3⟨u9,n1,n3,o5,k3,o6⟩=>?_;subst u9;have p1:ar al s2 ⟨[],[(15,.chan (C g.rc))]⟩ ⟨#[pt u 0,b0,b7,b8,c9,d2,n,.iface l k,pt a6.heap.size 0,.bool Xf,b1,b2,b3,b4,b5,b6,.tuple #[.iface l k,.bool J],.bool J,.iface l k,.tuple #[.agg #[Xd K 0,Xd K 0,Xd K 0,.string XB.empty,.string XB.empty,Xd K 0,Xd K 0,.bool Xf,Xm F 0 0],.bool Xf],.iface l k,.tuple #[.agg #[Xd K 0,Xd K 0,Xd K 0,.string XB.empty,.string XB.empty,Xd K 0,Xd K 0,.bool Xf,Xm F 0 0],.bool Xf],.agg #[Xd K 0,Xd K 0,Xd K 0,.string XB.empty,.string XB.empty,Xd K 0,Xd K 0,.bool Xf,Xm F 0 0],.bool Xf,.bool Xf,e7,e8,e9,f0,pt u 0,n,.tuple #[],d6,d7,d8,b9,c0,c6,c7,c8,d0,d1],[]⟩ t3:=p3;have q9:e.heap.size+1<=n5.heap.size:=by have:=k3.size;omega
   refine bP (bz (bT aC (by decide) (by decide) (z:=[15]) A (by rfl) n8 p1 (λi a8=>i=⟨#[pt u 0,b0,b7,b8,c9,d2,Xm F 0 0,.iface l k,pt a6.heap.size 0,.bool Xf,b1,b2,b3,b4,b5,b6,.tuple #[.iface l k,.bool J],.bool J,.iface l k,.tuple #[.agg #[Xd K 0,Xd K 0,Xd K 0,.string XB.empty,.string XB.empty,Xd K 0,Xd K 0,.bool Xf,Xm F 0 0],.bool Xf],.iface l k,.tuple #[.agg #[Xd K 0,Xd K 0,Xd K 0,.string XB.empty,.string XB.empty,Xd K 0,Xd K 0,.bool Xf,Xm F 0 0],.bool Xf],.agg #[Xd K 0,Xd K 0,Xd K 0,.string XB.empty,.string XB.empty,Xd K 0,Xd K 0,.bool Xf,Xm F 0 0],.bool Xf,.bool Xf,e7,e8,e9,f0,pt u 0,n,.tuple #[],d6,d7,d8,b9,c0,c6,c7,c8,d0,d1],[]⟩/\a8.heap=n5.heap) (λw' v _ _ _=>?_) (λi f2 a w _=>by rw[a.2]) ?_))
   .clear f6 a last a5 d3 a9 f9 d9 hrel e3 e1 d5 f4 g0 o G e4 e5 e0 f3 e2 g4 g1 g2 h1 g3 g5 g8 h0 h4 i5 h2 g9 h9 i9 i4 m8 j1 j3 j2 i7 i8 m5 p2 m3 o1 o8 q8 k6 r7 o4 h3 o3 k7 k5 o7 m7 n7 p3 n8 o2 p1 o5 k3 o6 q9
    go_wp2
    exact⟨A,v⟩
   rintro z3 _ w7 n4 q3 q4 r8⟨rfl,m4⟩;have q5:St (a4.foldl rd e6) n1 n3 n4:=o.push o5 (by simp_all) (λc _=>by rw[m4]);refine bT aC (by decide) (by decide) (z:=[15]) A (by rfl) q3 r8 (λi a8=>i=⟨#[pt u 0,b0,b7,b8,c9,d2,Xm F 0 0,.iface l k,pt a6.heap.size 0,.bool Xf,b1,b2,b3,b4,b5,b6,.tuple #[.iface l k,.bool J],.bool J,.iface l k,.tuple #[.agg #[Xd K 0,Xd K 0,Xd K 0,.string XB.empty,.string XB.empty,Xd K 0,Xd K 0,.bool Xf,Xm F 0 0],.bool Xf],.iface l k,.tuple #[.agg #[Xd K 0,Xd K 0,Xd K 0,.string XB.empty,.string XB.empty,Xd K 0,Xd K 0,.bool Xf,Xm F 0 0],.bool Xf],.agg #[Xd K 0,Xd K 0,Xd K 0,.string XB.empty,.string XB.empty,Xd K 0,Xd K 0,.bool Xf,Xm F 0 0],.bool Xf,.bool Xf,e7,e8,e9,f0,pt u 0,n,.tuple #[],pt u 0,.iface l k,.tuple #[],b9,c0,c6,c7,c8,d0,d1],[]⟩/\zq St (x (a4.foldl rd e6) d) n1 n3 n4 a8) (λw' v _ _ _=>?_) ?_ ?_
   .have r4:Calls TP 40 #[pt u 0,.iface l k] w' λp p8=>p=Xs (.tuple #[])/\zq St (x (a4.foldl rd e6) d) n1 n3 n4 p8:=by
     have:=o.one (a4.foldl rd e6) d f4 o9 (by rw[qi o.UZ];exact a.len) n1 n3 w' (o.push q5 (by simp_all) (λc _=>by rw[v]));rw[e4]at this;exact this.mono λp p8⟨n0,n2,q1,h5,h6,p6⟩=>⟨q1,n0,n2,h5,h6.heap v.symm,by simp_all⟩
    have s5:=Xl r4;clear r4;clear f6 a last a5 d3 a9 f9 d9 hrel e3 e1 d5 f4 g0 o G e4 e5 e0 f3 e2 g4 g1 g2 h1 g3 g5 g8 h0 h4 i5 h2 g9 h9 i9 i4 m8 j1 j3 j2 i7 i8 m5 p2 m3 o1 o8 q8 k6 r7 o4 h3 o3 k7 k5 o7 m7 n7 p3 n8 o2 p1 o5 k3 o6 q9 r8 q3 q4 m4 q5 v
    go_wp2_with (go_at_call 40;refine s5.out.mono ?_;rintro p p8⟨rfl,u4⟩)
    exact⟨A,u4⟩
   .rintro i a8⟨_,n0,n2,h5,h6,p6⟩ w a3;have t6:=G.Ob w a3;have t7:=h3.size;refine h6.keep w (by grind) ?_;exact k3.free (by omega) (k7 w a3)
   rintro z4 _ w8 z2 s7 t5 u8⟨rfl,n0,n2,h5,h6,p6⟩;have t7:=h3.size;have y3:n4.heap.size=n5.heap.size:=by rw[m4]
   refine BU (f6 (d+1) _ _ _ ⟨by omega,[],x (a4.foldl rd e6) d,_,⟨s7,?_,u8,A,A,A,⟨n0,n2,_,A,h5,⟨?_,?_⟩,Xh ⟨A,A⟩,(λa2 d4=>by cases d4)⟩,?_,(λw a3=>by cases a3),by rw[o.RZ,qi o.UZ,a.len];rfl,(λm9 m6=>by cases m6)⟩⟩)
   .refine cV.trans (cV.trans (β₁:=s2) (w₁:=n5) ?_ q4) t5;have t4:cV f S r q2 p9:=⟨h3.le,h3.fresh,by rw[k5.size];exact h3.size,λc a7=>by rw[m7 c a7];exact h3.keep c a7⟩;exact t4.trans o2
   .exact((o3.trans k3).old (by omega) (λc _=>by rw[m4])).trans h6.qQ
   .exact(f9.trans o6 (by omega)).trans p6 (by omega)
   rw[fold_succ,<-a.Vd]
   grind [stepT]
 clear a m e c q;rintro d m e q⟨u1,a4,e6,c,a⟩;obtain rfl:d=O:=by omega
 obtain⟨own,k1,v6,k2,d3,⟨a9,f9⟩,a5,d9⟩:=a.st;obtain⟨v3,o0⟩:=c;obtain⟨v4,b0,b7,b8,c9,d2,n,m1,j9,k0,b1,b2,b3,b4,b5,b6,v5,p7,m0,j4,j5,j6,j7,j8,i1,e7,e8,e9,f0,f7,f5,f1,d6,d7,d8,b9,c0,c6,c7,c8,d0,d1,rfl⟩:=GS a.size;have hd:o0=[]:=a.defs;subst hd;have l2:=a.VR;simp only[Yo,Yv,Yq,Yh]at l2 k2;subst l2 k2;have hrel:=a.rel;have e3:=a.inv;refine bz (eA ?_);show sW TP (C (y,g,d)) F z al f m e (rg ((base 31).at q (Xv _ (0::[1])::_)) N);have e1:q.tmps[15]?=C (.chan (C g.rc)):=hrel.kn (15,_) (by simp);refine BV (l:=.nilIface) (GU (j:=16) (i:=15) (by decide) ⟨_,A,A,A,A⟩ e1 lp) (λp=>absurd p (by rw[G.dn];omega)) (λ_=>?_);rw[za ⟨_,_,A,A,A,A⟩]
 have d5:ar al m ⟨[],[]⟩ ⟨#[pt u 0,b0,b7,b8,c9,d2,n,m1,j9,k0,b1,b2,b3,b4,b5,b6,.tuple #[.nilIface,.bool Xf],p7,m0,j4,j5,j6,j7,j8,i1,e7,e8,e9,f0,f7,f5,f1,d6,d7,d8,b9,c0,c6,c7,c8,d0,d1],[]⟩ (q.put (C 16) (.tuple #[.nilIface,.bool Xf])):=by
  refine ar.less (d1:=⟨[],[(15,.chan (C g.rc))]⟩) ?_ A (by simp);refine hrel.put (C 16) A (v:=.tuple #[.nilIface,.bool Xf]) (.tuple A ?_);intro L w v7 a3 i6;rcases(by grind:L=0\/L=1)with rfl|rfl
  .simp at a3 i6;subst a3 i6;exact .nilIface
  simp at a3 i6;subst a3 i6;exact .bool _
 generalize q.put (C 16) (.tuple #[.nilIface,.bool Xf])=s8 at d5⊢
 show(goalAt TP F F z al f).G m e _;refine vH aC (by decide) (by decide) (H:=C 17) (S:=.extract (.tmp 16) 1) ⟨_,A,A,A,A⟩ (W:=[]) A (by rfl) (by decide) e3 d5 (λi f2=>i=⟨#[pt u 0,b0,b7,b8,c9,d2,n,m1,j9,k0,b1,b2,b3,b4,b5,b6,.tuple #[.nilIface,.bool Xf],.bool Xf,m0,j4,j5,j6,j7,j8,i1,e7,e8,e9,f0,f7,f5,f1,d6,d7,d8,b9,c0,c6,c7,c8,d0,d1],[]⟩/\f2.heap=e.heap) (λw' v _ _ _ h7 y p=>?_) (λi f2 a w _=>by rw[a.2]) ?_
 .clear a last a5 d3 a9 f9 d9 hrel e3 e1 d5 o G
  go_wp2
 rintro s1 _ s9 f2 e0 f3 e5⟨rfl,e2⟩;refine bP (bz (iO (k:=Xf) (iP e0.base e5 (by decide) A) (sb (id:=0) A ?_)));refine last a4 e6 _ _ _ _ ⟨e0,a.grow.trans f3,e5,A,A,A,⟨own,k1,_,A,o.push d3 (by simp_all) (λc _=>by rw[e2]),⟨a9.old (by simp_all) (λc _=>by rw[e2]),f9⟩,a5.kept (λa2 _=>by rw[e2]),d9⟩,a.Vd,a.mem,a.len,a.RZ⟩
end
variable{d:Xe}{e:E}{a:M}{Q:Xp Xw}
theorem results31{b:Xk Xe}(c:b[4]?=C d)(a:M):(results Tryz.f31 b).run TP a=.ok d a:=by simp_all [results]
structure Ll(b:E->Prop)(own s:E->Prop)(a r:M):Prop where
 size:a.heap.size<=r.heap.size
 keep:∀n,n<a.heap.size->¬own n->¬b n->gd a r n
 list:∀n,b n->r.heap[n]?=(a.heap[n]?).map Obj.whole
 more:∀n,s n->own n\/a.heap.size<=n
section
variable{g:Type}{St:g->(E->Prop)->(E->Prop)->M->Prop}{p:g->E->Xe->(E->Prop)->(E->Prop)->M->Prop}{rd m:g->E->g}{look:g->E->LR}{b:E->Prop}{q:E}{rq:E->RV}{k:E->Xo}{o:E->Xe}{cnt:g->E}
variable{c i:E->Prop}{h:g}
theorem JD(N:HC St p rd m look b u q e rq k o cnt)(n7:cnt h=0){f9:E}{W:Xk Xe}{g1:Xq}{Y:E×E}(S:Ls b a Q e f9 rq o)(i9:a.heap[u]?=C (Xn W g1 Y))(n2:8<W.size)(n9:Y.1=Y.2)(j7:¬b u)(t2:c u)(k5:∀l,f l->b l)(k2:∀l,Im l->f l)
 (k1:∀l,c l->l<a.heap.size/\¬b l)(k8:∀f3,Eu a f3 u e f9 Q W g1 Y->St h c i (jR (uA b a.heap.size) f3))(out:∀h7 own x a,St h7 own x a->∃W g1 Y d,a.heap[u]?=C (Xn W g1 Y)/\W[8]?=C d):
 Co (goalAt TP F F z al f) 31 #[pt u 0,.slice Q e f9] a λd s=>∃own x,St ((Xg.range e).foldl (stepT rd m k) h) own x s/\s.cell? ⟨u,8,F⟩=C d/\Ll b c own a s/\il i x a.heap.size:=by
 intro q7 r7 f5 i4 d9 r next
 refine MQ S i9 n2 n9 j7 k5 k2 d9 r λf4 f3 g7 g0 g5 m3 i5 m4 X j5 g6 O j6 e5=>?_;have k0:∀l,b l->l<a.heap.size:=λl r=>by obtain⟨_,_,_,n,_⟩:=S.closed l r;grind
 obtain⟨T,e4⟩:∃T,(LB u a.heap.size e f9 Q).tmps=T:=by simp
 have o7:T.size=42:=by rw[<-e4];rfl
 have e6:T[0]?=C (pt u 0):=by rw[<-e4];rfl
 have l0:T[5]?=C (pt (a.heap.size+1) 0):=by rw[<-e4];rfl
 replace e5:ar al f4 ⟨[],[]⟩ ⟨T,[]⟩ g7:=by rw[<-e4];exact e5
 clear e4;obtain⟨p9,a2,b3,c9,e9,f2,H,d5,d6,d7,a3,a4,a5,a6,a7,a8,a9,b0,b1,b2,b4,b5,b6,b7,b8,b9,c0,c6,c7,c8,d0,d1,d2,d3,d4,l1,h8,g2,e7,e8,f0,f1,rfl⟩:=GS o7;simp only[Yo,Yv,Yq,Yh]at e6 l0;subst e6 l0;show(KF z g0 g5 (uA b a.heap.size) 0).G f4 _ (rg ((base 31).at g7 [.code (.seq _ _)]) (f5::i4));obtain⟨w,D⟩:∃w,w=jR (uA b a.heap.size) f3:=by simp
 rw[<-D]at g6 O⊢
 have Z:=k8 f3 X;rw[<-D]at Z;have t3:w.heap.size=a.heap.size+2:=by rw[D,qy,X.size]
 refine bz (bT aC (by decide) (by decide) (z:=[]) A (by rfl) g6 e5 (λv L=>v=⟨#[pt u 0,a2,b3,c9,e9,pt (a.heap.size+1) 0,Xm F 0 0,d5,d6,d7,a3,a4,a5,a6,a7,a8,a9,b0,b1,b2,b4,b5,b6,b7,b8,b9,c0,c6,c7,c8,d0,d1,d2,d3,d4,l1,h8,g2,e7,e8,f0,f1],[]⟩/\L.heap=w.heap) (λs e0 _ _ _=>?_) (λv h9 n t _=>by rw[n.2]) ?_)
 .clear e5 Z next N S i9 k8 out d9 g6 O r X j5 D j6
  go_wp2
  exact⟨A,e0⟩
 rintro u9 _ s0 L i1 g8 k6⟨rfl,h1⟩;refine bz (bz (eA ?_));refine SJ (j:=15) (i:=5) (k:=a.heap.size+1) (by decide) (by decide) ⟨_,A,A,A,A⟩ A i1 k6 A (g8.le _ _ j6) ⟨99,_,by rw[h1,D,iN (.inr (.inr A)),X.h5];rfl⟩ (by simp) λq8 s1 q4 i2 i7 j9 k7=>?_;show(KF z g0 g5 (uA b a.heap.size) 0).G q8 q4 _;refine bP ?_;have h0:=j9.trans h1
 have G:We b (uA b a.heap.size) u e o g5 f4 w c:={
  dn:=m3
  dt:=i5
  only:=λp6=>by rw[i5,m4];exact S.only p6
  sh:=λl n=>Xh (by simp_all)
  xl:=λl n=>Xh n
  Ob:=λt a0=>by
   rcases a0 with a0|rfl|rfl
   .exact⟨by have:=k0 t a0;omega,λh3=>(k1 t h3).2 a0⟩
   .exact⟨by omega,λh3=>by have:=(k1 _ h3).1;omega⟩
   grind
  KX:=λl r=>by obtain⟨m1,a1,s8,h4,h5,t6,p7⟩:=j5 l r;exact⟨m1,a1,by rw[D,iN r,h4];rfl,h5,p7⟩
  Io:=λe1 R n1=>Xh (S.bF e1 R n1)}
 refine BX (R:=c) (Z:=i) (W:=h) N G A ?_ ⟨i2,g8.trans i7,k7,A,A,A,⟨c,i,_,A,N.push Z (by simp_all) (λl _=>by rw[h0]),⟨(gK.refl _ _).old (by simp_all) (λl _=>by rw[h0]),λl n=>Xh n⟩,Xh ⟨A,A⟩,(λe1 f6=>by cases f6)⟩,A,(λt a0=>by cases a0),by rw[n7];rfl,(λt7 o2=>by cases o2)⟩;clear e5 k6 k7 i1 g8 h1 i2 i7 j9 h0 Z;intro r4 h7 u7 s l g7 n;obtain⟨own,x,u4,i8,Z,⟨j1,n6⟩,o6,h2⟩:=n.st;obtain⟨T,s6⟩:=l;obtain⟨p9,a2,b3,c9,e9,f2,H,d5,d6,d7,a3,a4,a5,a6,a7,a8,a9,b0,b1,b2,b4,b5,b6,b7,b8,b9,c0,c6,c7,c8,d0,d1,d2,d3,d4,l1,h8,g2,e7,e8,f0,f1,rfl⟩:=GS n.size;have hd:=n.defs;subst hd;have e6:=n.VR;simp only[Yo,Yv,Yq,Yh]at e6 i8;subst e6 i8;refine bz (eA ?_);refine vH aC (by decide) (by decide) (H:=C 35) (S:=.move (.tmp 0)) ⟨_,A,A,A,A⟩ (W:=[]) A (by rfl) (by decide) n.inv n.rel (λv L=>v=⟨#[pt u 0,a2,b3,c9,e9,f2,H,d5,d6,d7,a3,a4,a5,a6,a7,a8,a9,b0,b1,b2,b4,b5,b6,b7,b8,b9,c0,c6,c7,c8,d0,d1,d2,d3,d4,pt u 0,h8,g2,e7,e8,f0,f1],[]⟩/\L.heap=s.heap) (λs e0 _ _ _ a1 g0 y=>?_) (λv h9 n t _=>by rw[n.2]) ?_
 .go_wp2
 rintro v0 _ s2 q6 l6 m8 p0⟨rfl,o0⟩;refine vH aC (by decide) (by decide) (H:=C 36) (S:=.move (.tmp 6)) ⟨_,A,A,A,A⟩ (W:=[]) A (by rfl) (by decide) l6 p0 (λv L=>v=⟨#[pt u 0,a2,b3,c9,e9,f2,H,d5,d6,d7,a3,a4,a5,a6,a7,a8,a9,b0,b1,b2,b4,b5,b6,b7,b8,b9,c0,c6,c7,c8,d0,d1,d2,d3,d4,pt u 0,H,g2,e7,e8,f0,f1],[]⟩/\L.heap=q6.heap) (λs e0 _ _ _ a1 g0 y=>?_) (λv h9 n t _=>by rw[n.2]) ?_
 .go_wp2
 rintro q9 _ s3 g4 i3 m9 p1⟨rfl,o1⟩;have f7:=o1.trans o0;have n4:St h7 own x g4:=N.push Z (by simp_all) (λl _=>by rw[f7]);have e2:=(n.grow.trans m8).trans m9;have k4:=λl r=>j1.free (G.Ob l r).1 (G.Ob l r).2
 obtain⟨l2,g9,n8⟩:=DG (a:=g4) N (b3:=F) (z:=z) (f:=uA b a.heap.size) (λt9 r2 t5 y=>by cases y) n4 (o6.kept λe1 f6=>by rw[f7]) (λe1 f6=>(h2 e1 f6).1) n.mem n.RZ (by have:=n.len;omega) G.xl k4
  (λl r=>by
    obtain⟨f5,a1,h4,h5⟩:=G.KX l r
    exact⟨f5,a1,by rw[e2.keep l r];exact h4,h5⟩) G.Io
 have k3:∀l,uA b a.heap.size l->l2.heap[l]?=g4.heap[l]?:=λl r=>by
  rcases g9.blk l with y|⟨y,_⟩
  .exact y
  simp_all
 refine BS g9 k4 ?_;have l7:=i3.keep i3.base k3;refine yn (l:=#[.tmp 35,.tmp 36]) (a2:=#[76,103]) (by decide) A rfl rfl Tryz.func39 (by decide) A (by decide) l7 A p1 (by simp[Act.eval]) n8 λr0 m0 u3 q3 l8 n0 p2⟨p4,k9,q0,j4,n3,n5⟩=>?_;subst p4;have o8:ar al r0 ⟨[],[]⟩ ⟨#[pt u 0,a2,b3,c9,e9,f2,H,d5,d6,d7,a3,a4,a5,a6,a7,a8,a9,b0,b1,b2,b4,b5,b6,b7,b8,b9,c0,c6,c7,c8,d0,d1,d2,d3,d4,pt u 0,H,.tuple #[],e7,e8,f0,f1],[]⟩ m0:=p2;obtain⟨r1,u2,s9,g3,t0,t4⟩:=out _ _ _ _ j4;refine bP (bz (bT aC (by decide) (by decide) (z:=[]) A (by rfl) l8 o8 (λv L=>v=⟨#[pt u 0,a2,b3,c9,g3,f2,H,d5,d6,d7,a3,a4,a5,a6,a7,a8,a9,b0,b1,b2,b4,b5,b6,b7,b8,b9,c0,c6,c7,c8,d0,d1,d2,d3,d4,pt u 0,H,.tuple #[],pt u 0,pt u 0,pt u 8,g3],[]⟩/\L.heap=q3.heap) (λs e0 _ _ _=>?_) (λv h9 n t _=>by rw[n.2]) ?_))
 .have t1:s.cell? ⟨u,8,F⟩=C g3:=by grind [World.cell?]
  go_wp2
  exact⟨A,e0⟩
 rintro d8 _ l9 U l4 m6 o9⟨rfl,j8⟩;have j3:=N.push j4 (w':=U) (by simp_all) (λl _=>by rw[j8]);rw[n.Vd]at j3;have j0:gK c k9 w U:=((j1.old (w2:=g4) (by simp_all) (λl _=>by rw[f7])).trans n3).old (by simp_all) (λl _=>by rw[j8]);refine Goal.pure _ A rfl (g₁:=rg {(base 31).at l9 [.code .ret]with mode:=.returning} (f5::i4)) (λr6=>by rfl) ?_
 have e3:cV (uA b a.heap.size) f4 w d8 U:=by have m5:cV (uA b a.heap.size) f4 w q9 l2:=⟨e2.le,e2.fresh,by rw[g9.size];exact e2.size,λl r=>by rw[k3 l r];exact e2.keep l r⟩;exact(m5.trans n0).trans m6
 have f8:=λl r=>(e3.keep l (Xh (k5 l r))).trans (O.keep l r);refine Py (r:=d8) (k:=U) (t:=f) (λ_ _ n=>n) id (λ_ n=>n) (d9.cO.keep f8) k2 ?_;have l3:Inv TP al f d8 U:=⟨l4.base,d9.cO.keep f8,d9.iQ.keep f8⟩
 have i6:cV f q7 a d8 U:=⟨λt i0 n=>e3.le _ _ (O.le _ _ n),λt i0 p5=>by
  rcases e3.fresh t i0 p5 with R|R
  .exact O.fresh t i0 R
  omega,XZ O.size e3.size,f8⟩
 show(goalAt TP F F z al f).G d8 U _;refine qj (S:=λd s=>∃own x,St ((Xg.range e).foldl (stepT rd m k) h) own x s/\s.cell? ⟨u,8,F⟩=C d/\Ll b c own a s/\il i x a.heap.size) aC (by decide) A (fn:=Tryz.f31) Tryz.func31 l3 A o9 A (Tp.all λa1=>⟨g3,results31 A _,k9,q0,?_,?_,?_,?_⟩) λd q2 q5 l5 m7 p3 S=>next d8 d q2 q5 l5 (i6.trans m7) p3 S
 .exact N.push j3 (XS _) (λ_ _=>rfl)
 .grind [World.cell?]
 .refine⟨i6.size,λl r h2 o5=>?_,λl r=>?_,λl r=>?_⟩
  .have o3:¬uA b a.heap.size l:=by
    rintro(n|n|n)
    .exact o5 n
    .omega
    omega
   have o4:l≠u:=by grind
   have j2:w.heap[l]?=a.heap[l]?:=by rw[D,uq o3,X.old l r o4]
   exact gd.trans (Xh j2) (j0.keep l (by omega) h2)
  .have j2:w.heap[l]?=(a.heap[l]?).map Obj.whole:=by rw[D,iN (.inl r),X.old l (k0 l r) (λy=>j7 (y▸r))]
   have:=e3.keep l (Xh r);simp_all
  rcases j0.more l r with R|R
  .exact Xh R
  omega
 exactλl r=>(n6.trans n5 (by rw[f7];exact n.grow.size) l r).imp id λn=>by omega
end
variable{c:M}{d:Xr}{e:Xg Xr}{N:Exit->Xu->M->Prop}{p:Xu}{t:M}{R:E}{H:Xt}{r:Xg Item}{S:Xg E}{u:Xu}{y:Xe}{q:M}{Q:Oper}
section
variable{main:Xo}{l:Goal P h main f}
variable{s:Rt}
def tV(f:E->Prop)(c t:M):Prop:=∀a,f a->t.heap[a]?=c.heap[a]?
theorem GG(a:Xg Oper):∀r,(∀j,j<a.length->a[j]?=D[r+j]?)->wpOps P D N (Xg.range' r a.length)=wpList P D N a:=by
 induction a with
 |nil=>simp[wpOps,wpList]
 |cons Q a d=>
  intro r b;have e:D[r]?=C Q:=by simpa using(b 0 (by simp)).symm
  have f:=d (r+1) λj c=>by have:=b (j+1) (by simpa using c);simpa[abl,abn 1]using this
  simp_all [Xg.range'_succ,wpOps,wpList]
theorem kp(b:t.heap=c.heap){a:Prop}(d:a):tV f c t/\a:=⟨λe _=>by rw[b],d⟩
theorem vN(b:t.heap=c.heap){a:XG}(g:CW l d s e a N p t):tV f c t/\CW l d s e a N p t:=kp b g
theorem TF(b:t.heap=c.heap){a:Xg E}(g:CO l d s e D a N p t):tV f c t/\CO l d s e D a N p t:=kp b g
theorem WS(b:t.heap=c.heap){a:XG}(g:CW l d s e a N p t):tV f c t/\CO l d s e D [] (Exit.then (CW l d s e a N) N) p t:=kp b (dC g)
theorem Pr(k:Good P h)(o:h.fr d.fn=J)(q:d.kind≠.early){a:Xg Oper}{g:Xg E}(r:s.kn.map (·.1)=g)(u:lT P h g a.toArray=J){id:E}
 (n:∀t:M,t.heap=c.heap->t.os=c.os->t.output=c.output->wpList P a.toArray (eP λm i=>tV f c i/\N .normal m i) a p t):CW l d s e (.region id a.toArray Xf) N p c:=
 mI k o q (nf r u) (λv=>n _ A rfl rfl) (λ_ _ b=>b.1) λ_ _ b=>b.2
theorem eT{id:E}(b:D.size=R)(a:CO l d s e D (Xg.range' 0 R) N p c):CW l d s e (.region id D Xf) N p c:=
 yo (by simp_all [W_])
def OR(l:Goal P h main f)(d:Xr)(s x:Rt)(e:Xg Xr)(D:Xk Oper)(a:Xg E)(N:Exit->Xu->M->Prop)(p:Xu)(c:M):Prop:=
 ∀(m:Ren)(r:Xg Item)(u:Xu),Inv P h f m c->ar h m x p u->mB P h main f l d s e r N m c->l.G m c (rg (d.at u (Xv D a::r)) e)
theorem nG{a:Xg E}(b:OR l d s s e D a N p c):CO l d s e D a N p c:=b
theorem zH{x:Rt}{a:Xg E}(hd:x.d0=s.d0)(h:∀k∈s.kn,k∈x.kn)(f:CO l d s e D a N p c):OR l d s x e D a N p c:=
 λm r u b i g=>f m r u b (i.less hd h) g
theorem zI{x:Rt}{more:Xg E}{g:Xp Tmp}{i:Op}(o:Good P h)(a2:h.fr d.fn=J)(a3:d.kind≠.early)(a5:bN D L g i){n:Xg E}(a4:x.kn.map (·.1)=n)(a6:jd P h.fn h.bi h.bZ i=J)(a1:(n.all λr=>g !=C r)=J)
 (Z:∀t:M,t.heap=c.heap->t.os=c.os->t.output=c.output->∀b0 a9 U,(⟨g,i,b0,a9,U,F⟩:Oper).wp P p t (λb a=>tV f c a/\OR l d s x e D more N b a) (eP λ_ _=>False)):OR l d s x e D (L::more) N p c:=
 λm r u v a7 a0=>vH o a2 a3 a5 a4 a6 a1 v a7 (λb a=>tV f c a/\OR l d s x e D more N b a) (λt W b2 X Y=>Z t W X Y) (λ_ _ k=>k.1)
  λb1 b T a w O a8 k=>k.2 b1 r T w a8 (a0.grow O)
end
section
variable{O:Xt}{l:cZ}
theorem PC(b2:H.status=.running)(a1:∀q,RE q->∃i:Xk XF,stepG P J H q=.go O q i/\∀a∈i,a.write=Xf/\∃g,a.loc=.cell g/\g.block<dA.heap.size)(next:sW P l F z h f m c O):sW P l F z h f m c H:=by
 intro a a0 q sl T w b;refine kW (s:=aj P l) b2 (λa a0 q sl T w b=>?_) a a0 q sl T w b;have jP:=b.bF.jP;obtain⟨i,a2,a3⟩:=a1 q ⟨jP.heap,jP.size,jP.os,jP.out⟩;refine⟨_,_,_,iS (P:=P) b.me a2,?_⟩
 have a8:∀o∈XE 0 H.frame.fn H.frame.place i,∀g,o.act.touch?=C g->∃d,az g.loc d/\d<dA.heap.size/\g.write=Xf:=λo n g Y=>by
  obtain⟨a,k,rfl⟩:=Go.Conc.mem_ofEvents n;obtain⟨q1,a9,b4,b5⟩:=a3 a k;rcases wY Y with⟨a7,b6,_⟩|⟨a6,a7⟩
  .exact⟨a9.block,Xi ⟨a9,by rw[a7,b4],A⟩,b5,by rw[b6,q1]⟩
  simp_all
 have Z:∀a∈i,∀a6,a.loc≠.mark a6:=by grind
 have X:jU T q q w w 0 (XE 0 H.frame.fn H.frame.place i):={
  size:=XS _
  os:=A
  out:=A
  heap:=λd _=>Xi (Xi (Xh A))
  old:=λ_ _ _ _=>rfl
  new:=λb8 d _ a2 a3=>by omega
  touch:=λo n g Y b1=>by obtain⟨d,a5,W,b3⟩:=a8 o n g Y;have a4:=jP.ro g.loc d a5 W;refine⟨tF _ _ _ _ o n,d,a5,XY W jP.size,Xi ⟨XY W jP.size,Xi (Xh ⟨a4,b3,b.bF.row g.loc b1 a4⟩)⟩⟩
  norel:=dU λa k p v=>Z a k _ v
  jB:=Xi ⟨b.hears,λo n=>by
   obtain⟨a,k,rfl⟩:=Go.Conc.mem_ofEvents n
   exact⟨A,λv=>Z a k _ (fE v),λv=>Z a k _ (fE v)⟩⟩}
 have hd:Deaf (T++XE 0 H.frame.fn H.frame.place i) 0=0:=by rw[ZM,b.hears];simp_all [aaF]
 exact next _ _ _ _ _ _ ⟨Ap b X (tF _ _ _ _) A (Ren.le_refl _) (λ_ _ _ _ _ _ _ _ _=>rfl) (λb0 U=>by cases U) (λc6 a1 b0 U=>by cases U),b.bF.step X,b.bg.stay X (λ_ _ _=>rfl),by rw[XX (by simpa using(XN.1 b.me).1)],hd⟩
end
section
variable{s x:Rt}
theorem DR{main:Xo}{c:Xp Tmp}{l:Op}{k:M}{new:Xk XF}(o:d.kind≠.early)(v:bN D L c l)(t:∀fn,P.funcs[d.fn]?=C fn->fn.norace=Xf)(b:∀i h a,(execOp u.eval ⟨c,l,i,h,a,F⟩).runT P q #[]=(.ok (.value y) k,new))(s:∀a∈new,∀w,a.loc≠.mark w):
 stepG P main (rg (d.at u (Xv D (L::S)::r)) e) q=.go (rg (d.at (u.put c y) (Xv D S::r)) e) k new:=by
 obtain⟨⟨x,z,i,h,a,H⟩,m,f,g,n⟩:=v;subst f g n;have b:=b i h a;rw[s_]at b;have f:=(t_ b).1;have g:=(t_ b).2;have:=Go.Conc.stepG_value (P:=P) (main:=main) (a:=u) (b:=d) (k:=r) (cs:=e) (rest:=S) m A o f;refine abr this ?_;rw[listed,g,seen_cells t s];rfl
theorem ji(a4:∀fn,P.funcs[d.fn]?=C fn->fn.norace=Xf)(a3:d.kind≠.early){more:Xg E}{o:Op}(a5:bN D L (C j) o){v V:Xe}(a1:x.free (C j)=J)(a2:j<p.tmps.size)
 (a7:∀q,RE q->∀i:XJ->Xe,(∀a y,(a,y)∈x.kn->i (.tmp a)=y)->(∀k,i (.const k)=k)->(∀(a:E) r R,p.tmps[a]?=C (.int r R)->i (.tmp a)=.int r R)->∃new:Xk XF,(∀b0 a9 b,(execOp i ⟨C j,o,b0,a9,b,F⟩).runT P q #[]=(.ok (.value V) q,new))/\∀b∈new,b.write=Xf/\∃w,b.loc=.cell w/\w.block<dA.heap.size)
 (a8:∀m:Ren,an h m v V)(next:OR (goalAt P F F z h f) d s ⟨x.d0,(j,V)::x.kn⟩ e D more N (p.put (C j) v) c):OR (goalAt P F F z h f) d s x e D (L::more) N p c:=by
 intro m r u T g a0;have b2:j<u.tmps.size:=by rw[<-g.tmps.1];exact a2
 have a6:(u.put (C j) V).tmps[j]?=C V:=by grind [Act.put]
 refine PC (O:=rg (d.at (u.put (C j) V) (Xv D more::r)) e) A (λq Z=>?_) (next m r _ T ((g.put (C j) a1 (a8 m)).more a6) a0)
 obtain⟨new,U,W⟩:=a7 q Z u.eval (λa y n=>by have:=g.kn (a,y) n;simp[Act.eval,Yu,this]) (λk=>rfl) (λa r R n=>by
  obtain⟨b5,X,Y⟩:=g.tmps.get n;cases Y
  simp[Act.eval,Yu,X])
 exact⟨new,DR a3 a5 a4 U (λb b1 b4 b3=>by grind),W⟩
end
section
variable{l:Goal P h J f}
variable{s x:Rt}
def UT(l:Goal P h J f)(p:XI)(q:Xg (E×Xe))(o:Xk Xe)(c:M)(n:Xe->M->Prop):Prop:=
 ∀(m:Ren)(d:Xk Xe)(g:Xr)(e:Xg Xr),Inv P h f m c->aw h m o d->(∀i∈q,d[i.1]?=C i.2)->
  (∀b y k a,Inv P h f b a->cV f m c b a->an h b y k->n y a->l.G b a (rg (g.finish k) e))->l.G m c (rg (Frame.enter P p d .normal) (g::e))
theorem Mi(v:Good P h){a:XI}{r:Xg (E×Xe)}{i:Xk Xe}{fn:Func}{n:XG}(X:h.fr a=J)(W:P.funcs[a]?=C fn)(a4:fn.body=C n){f:Xe->M->Prop}
 (R:∀g e,CW l (base a) ⟨[],r⟩ (g::e) n N ⟨i++Array.replicate (fn.ntmps-i.size) I,[]⟩ c)
 (S:∀b p c,N b p c->(b=.normal\/b=.ret)/\p.defers=[]/\∀d,∃y,(results fn p.tmps).run P {c with tape:=d}=.ok y {c with tape:=d}/\f y {c with tape:=d}):UT l a r i c f:=by
 intro m k g e w o a5 next
 have L:Frame.enter P a k .normal=(base a).at ⟨k++Array.replicate (fn.ntmps-k.size) I,[]⟩ [.code n]:=by simp_all [Frame.enter,Frame.at,base]
 rw[L];refine R g e m [] _ w ⟨by rw[<-o.1];exact o.append (aw.replicate _ aY),⟨[],A,.nil⟩,λa8 a6=>?_⟩ λb u D H t x O Z a1=>?_
 .grind
 obtain⟨U,hd,Y⟩:=S b D t a1
 have fin:∀s,l.G u t (rg {(base a).at H s with mode:=.returning} (g::e)):=λs=>qj v X A W x A Z hd (S:=f) (Tp.all λd=>Y d) λy a2 a3 z Q a0 T=>next u y a2 a3 z (O.trans Q) a0 T
 rcases U with rfl|rfl
 .exact l.pure A rfl (λq=>by rfl) (fin [])
 exact fin
theorem Mj{more:Xg E}{b:XI}{Z:Xg (E×Xe)}{a:Xk XJ}{a1:Xk Xq}{fn:Func}{a2:XG}(b1:d.kind≠.early)(a8:x.free Q.dst=J)(Y:D[L]?=C Q)(b9:Region.wanted Q (yielded D p.tmps)=J)(b5:Q.op=.call {callee:=.value (.func b),args:=a,argTypes:=a1})
 (a9:P.funcs[b]?=C fn)(b3:(fn.name== "runtime.NumGoroutine")=Xf)(a5:fn.body=C a2)(d1:a.toList.all (du P h.fn)=J)(b2:∀g∈Z,∃k,a[g.1]?=C (.tmp k)/\(k,g.2)∈x.kn){W:Xe->M->Prop}{o:Xk Xe}(v:a.map p.eval=o)(a7:UT l b Z o c W)
 (next:∀y n,W y n->OR l d s x e D more N (p.put Q.dst y) n):OR l d s x e D (L::more) N p c:=by
 subst v;intro m r u U i a6;have c0:Region.wanted Q (yielded D u.tmps)=J:=by rw[<-ga i.tmps];exact b9
 have b4:(D[L]?).bind (·.dst)=Q.dst:=by rw[Y];rfl
 have b7:∀q,stepG P J (rg (d.at u (Xv D (L::more)::r)) e) q=.go (rg (Frame.enter P b (a.map u.eval) .normal) (d.at u (Xv D (L::more)::r)::e)) q:=by
  intro q
  have:=goes_call (P:=P) (main:=J) (w:=q) (cs:=e) (k:=r) (rest:=more) (K:=λH c X=>H=rg (Frame.enter P b (a.map u.eval) .normal) (d.at u (Xv D (L::more)::r)::e)/\c=q/\X=#[]) Y c0 b1 b5 a9 b3 a5 ⟨by simp_all [G,rg,Frame.enter,Frame.at,base],A,A⟩
  obtain⟨H,c,X,a3,rfl,rfl,rfl⟩:=aaG this;exact a3
 have v:aw h m (a.map p.eval) (a.map u.eval):=by
  refine⟨by simp,λj d3 d4 w T=>?_⟩;rw[Yk]at w T;cases b0:a[j]? with
  |none=>simp_all
  |some c7=>
   rw[b0]at w T;cases w;cases T;refine lF U.base i.tmps p.defers u.defers c7 ?_
   grind
 refine l.pure A rfl b7 (a7 m _ _ _ U v (λg b6=>?_) λc8 y d2 n a0 O b8 a4=>?_)
 .obtain⟨k,q1,c6⟩:=b2 g b6;have:=i.kn (k,g.2) c6;simp_all [Act.eval]
 rw[YK,b4];exact next y n a4 c8 r _ a0 ((i.mono O.le).put Q.dst a8 b8) (a6.grow O)
end
end
end Go.Sim
namespace Go.Sv
open Go.MapKept Go.Proofs Go.RowKit Go.Lib Go.WideShapes Go.Sort Go.Sim Wt
theorem Jb(a:M)(c:Obj):Below a.heap.size a (a.alloc c):=⟨A,A,A,by simp,λd b=>XQ _ _ _ b⟩
noncomputable abbrev KP:Xy:=Go.Proofs.Tryz.prog
theorem kM{a b:Xj}(m:-2^63<=a/\a<2^63)(d:0<b/\b<2^31)(f:M):Calls KP 21 #[Xd K a,Xd K b] f λg i=>∃e:E,(e:Xj)<b/\g=Xs (Xd K e)/\i=f:=by
 go_enter Tryz.func21,Tryz.ntmps21
 go_wp2
 all_goals go_ret
 .have c:=Xj.lt_tmod_of_pos (a+1) d.1
  have h:(a+1).tmod b<=0:=by
   have:(a+1).tmod b=-((-(a+1)).tmod b):=by simp
   have l:=Xj.tmod_nonneg b (a:=-(a+1)) (by omega);omega
  exact⟨(-((a+1).tmod b)).toNat,by omega,by rw[Xj.toNat_of_nonneg (by omega)];rfl,A⟩
 have c:=Xj.emod_nonneg a (by omega:b≠0);have h:=Xj.emod_lt_of_pos a d.1;exact⟨(a%b).toNat,by omega,by rw[Xj.toNat_of_nonneg c];rfl,A⟩
def AE:Xg (Xg UInt8):=[[47,97],[47,98],[47,97,47,120],[47,97,47,121],[47,98,47,120],[47,97,47,120,47,122],[47,99]]
theorem Qj{c:Xj}(e:-2^63<=c/\c<2^63)(b:M):Calls KP 35 #[Xd K c] b λd g=>(∃f∈AE,d=Xs (.string ⟨f.toArray⟩))/\Below b.heap.size b g:=by
 go_enter Tryz.func35,Tryz.ntmps35
 go_wp2_with (go_at_call 21;refine(kM e (by decide) _).mono ?_;rintro _ _⟨a,h,rfl,rfl⟩;obtain rfl|rfl|rfl|rfl|rfl|rfl|rfl:a=0\/a=1\/a=2\/a=3\/a=4\/a=5\/a=6:=(by omega))
 all_goals go_ret
 all_goals refine⟨?_,Jb b _⟩
 .exact⟨[47,97],by decide,A⟩
 .exact⟨[47,98],by decide,A⟩
 .exact⟨[47,97,47,120],by decide,A⟩
 .exact⟨[47,97,47,121],by decide,A⟩
 .exact⟨[47,98,47,120],by decide,A⟩
 .exact⟨[47,97,47,120,47,122],by decide,A⟩
 exact⟨[47,99],by decide,A⟩
end Go.Sv
