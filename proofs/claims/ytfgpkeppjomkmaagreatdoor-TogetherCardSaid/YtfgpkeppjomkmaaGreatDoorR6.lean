/- Proved here: parts of the proof of the claimed theorem, no conditions; the last text states it -/
import Derived.Test.YtfgpkeppjomkmaaGreatDoorR5
set_option linter.all false
set_option maxRecDepth 100000
set_option maxHeartbeats 16000000
open _root_ renaming rfl->A,Nat->E,List->Xq,Int->Xt,Array->Xu,Bool->Xy,Option->Xz,if_neg->XH,ByteArray->XM,if_pos->XN
open Option renaming some->C,none->F
open Go renaming undef->I,World->K,Value->Xn,TypeId->XA,Frame->XC,Goroutine->XD,Act->XF,Addr->XG,Program->XI,Sem->XJ,Trace->XO,Event->XQ,Code->XR,MapEntry->XS,FuncId->XU,Operand->XV
open Bool renaming true->J,false->Xp
open Go.Lib renaming hid->Xv
open Go.MemOp renaming ofEvents->XP
open Go.Op renaming operands->XX
open Go.MemAct renaming ofEvent->XY
open Go.IntKind renaming i64->M
open Go.Value renaming int->Xo,slice->Xw,pointer->XK
open Or renaming inl->Xr,inr->Xs
open Go.Obj renaming cells->Xx
open Go.Ending renaming returned->XB
open Go.Item renaming inRegion->XE
namespace Go.Sv
open Go.MapKept Go.Proofs Go.RowKit Go.Lib Go.WideShapes Go.Sort Go.Sim Wt
variable{w:K}{h:E}{l:E}{ak:Xt}{w':K}{g:E}{d:E}{R:Xu XS}{v:Xn}
abbrev fM(w:K)(a:Xy)(b:XM):K:=w.alloc (.cells #[.bool a,.string b] 253)
abbrev Ln(B e b:E)(c:Xy)(d:XM)(a:K):Prop:=a.cell? ⟨e,0,F⟩=C (.map (C b))/\a.cell? ⟨B,0,F⟩=C (.bool c)/\a.cell? ⟨B,1,F⟩=C (.string d)
theorem LQ{e b:E}{o:Xz XG}{a:Xy}{c:XM}{O:Xt}{x:K->Prop}(U:w.cell? ⟨e,0,F⟩=C (.map (C b)))(a3:e<w.heap.size)
 (X:∀m,(Instr.lookup 196 (.map (C b)) (.agg #[.bool a,.string c]) Xp).run TP ((fM w a c).drewN m)=.ok (.slice o h l) ((fM w a c).drewN m))
 (L:∀m,Calls TP 134 #[.slice o h l,Xo M ak] ((fM w a c).drewN m) λk w'=>k=XB (.tuple #[Xo M O,.bool Xp])/\∃Y,w'=(fM w a c).drewN Y)
 (N:∀m,Calls TP 135 #[.slice o h l,Xo M O,Xw (C ⟨w.heap.size+1,0,F⟩) 1 1] (((fM w a c).drewN m).alloc (.cells #[Xo M ak] 3)) λk w'=>∃p t q,k=XB (.slice p t q)/\Ln w.heap.size e b a c w'/\∃u,(Instr.mapUpdate 196 (.map (C b)) (.agg #[.bool a,.string c]) (.slice p t q)).run TP w'=.ok () u/\Ln w.heap.size e b a c u/\x u):
 Calls TP 105 #[pt e 0,Xo M ak,.bool a,.string c] w λk w'=>k=XB (.tuple #[])/\x w':=by
 have z:(fM w a c).cell? ⟨e,0,F⟩=C (.map (C b)):=by simp_all [YJ]
 have Q:=Xv L;have S:=Xv N;clear L N U;go_enter Tryz.func105,Tryz.ntmps105
 go_wp2
 go_quiet (fail)
 go_wp2_with (go_at_call 134;refine(Q.out nq).mono ?_;rintro k a5⟨rfl,i,rfl⟩)
 have r:((fM w a c).drewN (i+1)).heap[w.heap.size]?=C (Xx #[.bool a,.string c] 253 (0,0)):=Yx w _;have s:(((fM w a c).drewN (i+1)).alloc (.cells #[Xo M ak] 3)).heap[w.heap.size]?=C (Xx #[.bool a,.string c] 253 (0,0)):=by simp_all [Yc]
 have D:((fM w a c).drewN (i+1)).cell? ⟨e,0,F⟩=C (.map (C b)):=z;have H:(((fM w a c).drewN (i+1)).alloc (.cells #[Xo M ak] 3)).cell? ⟨e,0,F⟩=C (.map (C b)):=by grind [World.cell?_alloc_lt]
 have y:Ln w.heap.size e b a c ((fM w a c).drewN (i+1)):=⟨D,aa r 0 A,aa r 1 A⟩;have Z:Ln w.heap.size e b a c (((fM w a c).drewN (i+1)).alloc (.cells #[Xo M ak] 3)):=⟨H,aa s 0 A,aa s 1 A⟩;have T:Ln w.heap.size e b a c (((fM w a c).drewN i).drew):=y;have W:=Xv (S.out (i+1));clear z D H r s X
 go_region_held3 (λn=>n.cell? ⟨e,0,F⟩=C (.map (C b))/\n.cell? ⟨w.heap.size,0,F⟩=C (.bool a)/\n.cell? ⟨w.heap.size,1,F⟩=C (.string c))
  (first|with_reducible exact y|with_reducible exact T|omega|omega|omega)
  (first|(go_at_call 135;refine W.out.mono ?_;rintro k a6⟨p,t,q,rfl,a0,a7,a4,a1,a2⟩))
 go_end0
 simp_all
theorem LS{e b:E}{i:Xz XG}{a:Xy}{c:XM}{n:Xt}(p:w.cell? ⟨e,0,F⟩=C (.map (C b)))(r:e<w.heap.size)
 (q:∀d,(Instr.lookup 196 (.map (C b)) (.agg #[.bool a,.string c]) Xp).run TP ((fM w a c).drewN d)=.ok (.slice i h l) ((fM w a c).drewN d))
 (m:∀d,Calls TP 134 #[.slice i h l,Xo M ak] ((fM w a c).drewN d) λf w'=>f=XB (.tuple #[Xo M n,.bool J])/\∃o,w'=(fM w a c).drewN o):
 Calls TP 105 #[pt e 0,Xo M ak,.bool a,.string c] w λf w'=>f=XB (.tuple #[])/\∃d,w'=(fM w a c).drewN d:=by
 have k:=Xv m;go_enter Tryz.func105,Tryz.ntmps105
 go_wp2
 go_quiet (fail)
 go_wp2_with (go_at_call 134;refine(k.out nq).mono ?_;rintro f t⟨rfl,s,rfl⟩)
 go_end0
 grind
abbrev mG:Xn:=Xw F 0 0
structure dN(ck:Xy->B->Xq Xt)(e b:E)(f:Xn->Xz Xn)(w:K):Prop where
 tb:w.heap[e]?=C (Xx #[.map (C b)] 198 (0,0))
 mp:∃R i,w.heap[b]?=C (.map R i)/\Mp yn R i f
 row:∀a c,su w ((f (spot a c)).getD mG) (ck a c)
 inj:∀a c k m g,rowOf ((f (spot a c)).getD mG)=C g->rowOf ((f (spot k m)).getD mG)=C g->a=k/\c=m
 xZ:∀a c,rT (ck a c)
 nums:∀a c,∀n∈ck a c,0<n/\n<2^28
def eJ(e b:E)(f:Xn->Xz Xn)(d:E):Prop:=d=e\/d=b\/∃a c,rowOf ((f (spot a c)).getD mG)=C d
theorem rE:∀{b:Xq Xt}{c:Xt},rT b->(∀d∈b,c<d)->∀a,(∀d∈b,d<a)->c<a->(b.length:Xt)<a-c
 |[],c,_,_,a,_,e=>by simp;omega
 |h::b,c,e,i,a,f,n=>by
  obtain⟨l,m⟩:=YU.1 e;have:=rE m l a (λd k=>f d (by simp[k])) (f h (by simp));have:=i h (by simp)
  grind
theorem sS{c:Xq Xt}(e:rT c)(d:∀a∈c,0<a/\a<2^28):c.length<2^28:=by have:=rE e (λa b=>(d a b).1) (2^28) (λa b=>(d a b).2) (by decide);omega
section
variable{ck:Xy->B->Xq Xt}{e b:E}{f:Xn->Xz Xn}
theorem dN.ne(a:dN ck e b f w):e≠b:=λd=>by obtain⟨R,h,c,_⟩:=a.mp;rw[<-d,a.tb]at c;cases c
theorem dN.AR(h:dN ck e b f w){l:Xy}{m:B}(c:rowOf ((f (spot l m)).getD mG)=C g):∃i,w.heap[g]?=C (Xx i 3 (0,0))/\g≠e/\g≠b:=by
 rcases h.row l m with⟨_,d,a⟩|⟨q,o,i,a,k,n,_⟩
 .rw[a]at c;cases d<;>cases c
 rw[a,iJ n]at c;cases c;refine⟨i,k,λa=>?_,λa=>?_⟩
 .rw[a,h.tb]at k;cases k
 obtain⟨R,p,r,_⟩:=h.mp;simp_all
theorem dN.lt(c:dN ck e b f w)(a:eJ e b f d):d<w.heap.size:=by
 rcases a with rfl|rfl|⟨h,i,a⟩
 .exact(XZ.1 c.tb).1
 .obtain⟨R,k,a,_⟩:=c.mp;exact(XZ.1 a).1
 exact(c.row h i).lt a
theorem dN.stay(a:dN ck e b f w)(c:∀d,eJ e b f d->w'.heap[d]?=w.heap[d]?):dN ck e b f w' where
 tb:=by rw[c e (.inl A)];exact a.tb
 mp:=by rw[c b (.inr (.inl A))];exact a.mp
 row:=λi k=>(a.row i k).stay λg m=>c g (Xs (Xs ⟨i,k,m⟩))
 inj:=a.inj
 xZ:=a.xZ
 nums:=a.nums
theorem dN.get(n:dN ck e b f w)(o:w'.heap[b]?=w.heap[b]?)(k:Xy)(a:B):(Instr.lookup 196 (.map (C b)) (spot k a) Xp).run TP w'=.ok ((f (spot k a)).getD mG) w':=by obtain⟨R,p,c,m⟩:=n.mp;rw[<-o]at c;exact m.get sK GR (TJ w') c (OA k a) Xp
open Classical in
noncomputable def ru(f:Xn->Xz Xn)(b:Xy)(c:B)(v:Xz Xn):Xn->Xz Xn:=λa=>if a=spot b c then v else f a
theorem jy{a:Xy}{b:B}{v:Xz Xn}:ru f a b v (spot a b)=v:=XN A
theorem pS{b:Xy}{c:B}{v:Xz Xn}{a:Xn}(d:a≠spot b c):ru f b c v a=f a:=XH d
theorem jx{c a:Xy}{d b:B}{v:Xz Xn}(h:¬(a=c/\b=d)):ru f c d v (spot a b)=f (spot a b):=pS λe=>h (OB e)
def eY(ck:Xy->B->Xq Xt)(c:Xy)(e:B)(d:Xq Xt):Xy->B->Xq Xt:=λa b=>if a=c/\b=e then d else ck a b
theorem dN.put(c:dN ck e b f w){k:Xy}{a:B}{v:Xz Xn}{z:Xq Xt}{D:E}
 (U:w'.heap[e]?=C (Xx #[.map (C b)] 198 (0,0)))(Q:w'.heap[b]?=C (.map R D))(L:Mp yn R D (ru f k a v))(X:su w' (v.getD mG) z)
 (O:∀d,d<w.heap.size->d≠b->rowOf ((f (spot k a)).getD mG)≠C d->eJ e b f d->w'.heap[d]?=w.heap[d]?)
 (S:∀g,rowOf (v.getD mG)=C g->rowOf ((f (spot k a)).getD mG)=C g\/w.heap.size<=g)(T:rT z)(W:∀H∈z,0<H/\H<2^28):dN (eY ck k a z) e b (ru f k a v) w' where
 tb:=U
 mp:=⟨R,D,Q,L⟩
 row:=λi m=>by
  unfold eY;by_cases n:i=k/\m=a
  .simp_all [jy]
  rw[XH n,jx n];refine(c.row i m).stay λg y=>O g ((c.row i m).lt y) ?_ (λN=>n (c.inj _ _ _ _ g y N)) (Xs (Xs ⟨i,m,y⟩));exact(c.AR y).choose_spec.2.2
 inj:=λt q1 q r g s p=>by
  have Z:∀t q1 q r,(t=k/\q1=a)->¬(q=k/\r=a)->rowOf ((ru f k a v (spot t q1)).getD mG)=C g->rowOf ((ru f k a v (spot q r)).getD mG)=C g->False:=λt q1 q r u x s p=>by
   rw[u.1,u.2,jy]at s;rw[jx x]at p;rcases S g s with n|n
   .exact x (c.inj _ _ _ _ g p n)
   have:=(c.row q r).lt p;omega
  by_cases u:t=k/\q1=a
  .grind
  by_cases x:q=k/\r=a
  .grind
  rw[jx u]at s;rw[jx x]at p;exact c.inj _ _ _ _ g s p
 xZ:=λi m=>by
  unfold eY;split
  .exact T
  exact c.xZ i m
 nums:=λi m=>by
  unfold eY;split
  .exact W
  exact c.nums i m
theorem NY{c:Xy}{i:B}{v:Xz Xn}(n:∀g,rowOf (v.getD mG)=C g->rowOf ((f (spot c i)).getD mG)=C g\/h<=g)(a:eJ e b (ru f c i v) d):eJ e b f d\/h<=d:=by
 rcases a with rfl|rfl|⟨l,m,a⟩
 .exact Xr (Xr A)
 .exact Xr (Xs (Xr A))
 by_cases k:l=c/\m=i
 .rw[k.1,k.2,jy]at a;rcases n d a with a|a
  .exact Xr (Xs (Xs ⟨c,i,a⟩))
  omega
 rw[jx k]at a;exact Xr (Xs (Xs ⟨l,m,a⟩))
theorem Kl(w:K)(a:Obj)(h:E):∀d,d<w.heap.size->((w.alloc a).drewN h).heap[d]?=w.heap[d]?:=λd b=>Yc w a d b
theorem Ot{a:Xq Xt}(e:su w v a)(m:rT a)(x:a.length<2^40)(b:Xt):Calls TP 134 #[v,Xo M b] w λc w'=>c=XB (.tuple #[Xo M ((a.countP (·<b):E):Xt),.bool (a.contains b)])/\∃o,w'=w.drewN o:=by
 rcases e with⟨rfl,d,rfl⟩|⟨g,i,k,rfl,f,h,p,q,r,l,s⟩
 .refine(Tryz.slices_BinarySearch_int_empty d 0 b w).mono λc w'⟨f,h⟩=>⟨f,0,h⟩
 have t:=Tryz.slices_BinarySearch_int g 0 a.length i a b w (Ye _) (by omega) (λj u=>?_) (by rw[F_];exact m.imp λe=>Xt.le_of_lt e)
 .simp_all
 have:k.toList[j]?=C (i64 (a.getD j 0)):=by
  have c:=Zc (λn=>n[j]?) l
  grind
 simp_all [K.cell?]
theorem RX(k:dN ck e b f w)(c7:0<ak/\ak<2^28)(a:Xy)(c:B):
 Calls TP 105 #[pt e 0,Xo M ak,.bool a,.string (bs c)] w λm w'=>m=XB (.tuple #[])/\∃y,dN (eY ck a c (dI ak (ck a c))) e b y w'/\aI (eJ e b f) (eJ e b y) w w':=by
 have q:=k.row a c;have H:=k.xZ a c;have a9:(ck a c).length<2^40:=E.lt_trans (sS H (k.nums a c)) (by decide);have Z:=k.lt (Xr A);have c8:=k.lt (Xs (Xr A));have a2:w.cell? ⟨e,0,F⟩=C (.map (C b)):=aa k.tb 0 A;obtain⟨v,O⟩:∃v,v=(f (spot a c)).getD mG:=by simp
 rw[<-O]at q;obtain⟨p,h,l,rfl⟩:∃p h l,v=.slice p h l:=by
  rcases q with⟨_,d,rfl⟩|⟨g,b8,c0,rfl,_⟩
  .simp
  simp
 have D:∀i,∀d,d<w.heap.size->((fM w a (bs c)).drewN i).heap[d]?=w.heap[d]?:=by grind [Kl]
 have a7:∀i,(Instr.lookup 196 (.map (C b)) (.agg #[.bool a,.string (bs c)]) Xp).run TP ((fM w a (bs c)).drewN i)=.ok (.slice p h l) ((fM w a (bs c)).drewN i):=λi=>by rw[O];exact k.get (D i b c8) a c
 have d1:=λi=>q.stay λg n=>D i g (q.lt n);have L:=λi=>Ot (d1 i) H a9 ak;by_cases r:ak∈ck a c
 .have T:(ck a c).contains ak=J:=by simp_all
  rw[T]at L;refine(LS a2 Z a7 λi=>(L i).mono λm w'⟨z,a0,a5⟩=>⟨z,i+a0,by simp_all⟩).mono λm w'⟨U,i,b2⟩=>⟨U,f,?_,?_⟩
  .have W:eY ck a c (dI ak (ck a c))=ck:=by
    grind [eY,CY]
   rw[W,b2];exact k.stay λd o=>D i d (k.lt o)
  rw[b2];exact⟨by simp,λd o _=>D i d o,λd c6=>Xr c6⟩
 have T:(ck a c).contains ak=Xp:=by simp_all
 rw[T]at L;refine(LQ (x:=λw'=>∃y,dN (eY ck a c (dI ak (ck a c))) e b y w'/\aI (eJ e b f) (eJ e b y) w w') a2 Z a7 (λi=>(L i).mono λm w'⟨z,a0,a5⟩=>⟨z,i+a0,by simp_all⟩) λi=>?_);obtain⟨s,b3⟩:∃s,s=((fM w a (bs c)).drewN i).alloc (.cells #[Xo M ak] 3):=by simp
 have e1:((fM w a (bs c)).drewN i).heap.size=w.heap.size+1:=by simp
 have Y:∀d,d<w.heap.size->s.heap[d]?=w.heap[d]?:=by grind [Below.heap_alloc]
 have d9:s.heap[w.heap.size]?=C (Xx #[.bool a,.string (bs c)] 253 (0,0)):=by rw[b3,Yc _ _ _ (by omega)];exact Yx w _
 have d5:s.heap[w.heap.size+1]?=C (Xx #[Xo M ak] 3 (0,0)):=by have:=Yx ((fM w a (bs c)).drewN i) (.cells #[Xo M ak] 3);simp_all
 have e2:s.heap.size=w.heap.size+2:=by simp_all
 rw[<-b3]
 have d2:∀g,rowOf (.slice p h l)=C g->g<w.heap.size/\g≠e/\g≠b:=λg n=>by refine⟨q.lt n,?_⟩;rw[O]at n;exact(k.AR n).choose_spec.2
 have W:=Uv (a:=s) (d:=.slice p h l) (e:=ck a c) (g:=ak) (q.stay λg n=>Y g (q.lt n)) H r a9 d5 (λm=>by grind);refine W.mono λm a1⟨d7,U,b4,e4,b5,e5⟩=>?_;obtain⟨t,x,u,rfl⟩:∃p h l,d7=.slice p h l:=by
  rcases b4 with⟨_,d,rfl⟩|⟨g,b8,c0,rfl,_⟩
  .simp
  simp
 have b0:a1.heap[e]?=C (Xx #[.map (C b)] 198 (0,0)):=by rw[b5 e (by omega) (λm=>(d2 _ m).2.1 A),Y e Z];exact k.tb
 have S:a1.heap[w.heap.size]?=C (Xx #[.bool a,.string (bs c)] 253 (0,0)):=by grind
 obtain⟨R,b9,e0,b6⟩:=k.mp
 have X:a1.heap[b]?=C (.map R b9):=by grind
 obtain⟨a4,a3,d4,b7⟩:=b6.put sK GR X (OA a c) (.slice t x u) (g:=ru f a c (C (.slice t x u))) jy (λQ r=>pS r);have N:=λd(o:d≠b)=>(abp (o':=.map a4 a3) X).2 d o;have d3:=(abp (o':=.map a4 a3) X).1;have c9:=k.ne;have b1:=(N e c9).trans b0;have a6:=(N _ (by omega)).trans S;have d0:∀g,rowOf (.slice t x u)=C g->g≠b:=by grind
 refine⟨t,x,u,U,⟨aa b0 0 A,aa S 0 A,aa S 1 A⟩,_,d4,⟨aa b1 0 A,aa a6 0 A,aa a6 1 A⟩,ru f a c (C (.slice t x u)),?_,?_⟩
 .refine k.put (v:=C (.slice t x u)) b1 d3 b7 (b4.stay λg n=>N g (d0 g n)) (λd o z a5 _=>?_) (λg n=>?_) (rD ak H) (λQ r=>?_)
  .grind
  .grind
  rcases(nf ak Q).1 r with rfl|r
  .exact c7
  exact k.nums a c Q r
 refine⟨?_,λd o a8=>?_,λd o=>?_⟩
 .grind
 .rw[N d (λm=>a8 (.inr (.inl m))),b5 d (by omega) (λm=>?_),Y d o];rw[O]at m;exact a8 (Xs (Xs ⟨a,c,m⟩))
 grind [NY]
end
variable{D:Xu Oper}{a:K}{b:K}{Q:Exit->XF->K->Prop}{c:Xn}
abbrev Pc(b:Xn):Prop:=∃a,b=i64 a
theorem VS:∃a c,TP.underlying 61=C (.slice 3)/\(TP.info? 3=C a/\a.zero=C c/\a.size=1/\a.bytes<=1000/\c.cells.size=1/\0<1)/\∀b∈c.cells.toList,Pc b:=by
 refine⟨_,_,A,⟨A,A,A,by decide,A,by decide⟩,?_⟩;intro b d;have:b∈[i64 0]:=d
 grind
theorem wpList_append_run{g:Xq Oper}{d:Oper}{e:XF}{i k:Xn}(n:d.guard=F)(h l:XV)(f:XA)
 (o:d.op=.call {callee:=.builtin .append,args:=#[h,l],argTypes:=#[f,f]})(q:e.eval h=c)(r:e.eval l=i)(p:(Builtin.append_ #[f,f] d.type #[c,i]).run TP a=.ok k b)
 (next:wpList TP D Q g (e.put d.dst k) b):wpList TP D Q (d::g) e a:=by
 refine wpList_plain n λs m=>?_;unfold Oper.wp execOp;simp only[o,resolve,invoke,builtin,ZB,aaX,B_,Zl,Zj,Zs,q,r,p];exact m _ _ next
theorem AT{g:Xn}{f e:Xq Xt}(l:bV Pc a 3 1 g f.length (f.map i64))(x:su a c e)(N:f.length+e.length<2^30)(n:XA):
 ∃i b,(Builtin.append_ #[61,61] n #[g,c]).run TP a=.ok i b/\bV Pc b 3 1 i (f.length+e.length) ((f++e).map i64)/\a.grownBy b g.ownBlock/\jC a g i:=by
 obtain⟨a0,a5,q,d,O⟩:=VS;rcases x with⟨rfl,t,rfl⟩|⟨h,o,w,rfl,R,S,T,U,W,X,Y⟩
 .refine⟨g,a,?_,by simp_all,⟨A,A,A,Ye _,λ_ _ _=>rfl⟩,λh y=>Xr y⟩;obtain⟨u,m,v,rfl⟩:=l.slice;have H:m<=v:=by
   rcases l.2 with⟨p,_⟩|⟨h,o,w,p,_,Z,_⟩
   .cases p;exact Ye _
   simp_all
  have z:∀s:XG,(loadCellsFrom s 0 0 #[]).run TP a=.ok #[] a:=λs=>rfl;cases t<;>cases u<;>simp[Builtin.append_,YW q,sizeOf,typeInfo,d.1,storeCells,Builtin.lenOf,H,Result.andThen,Builtin.mayShare,Builtin.firstCells,loadCells,z]
 have L:∀j k,(e.map i64)[j]?=C k->a.cell? ((⟨h,0,F⟩:XG).add j)=C k:=by grind [nL,World.cell?]
 obtain⟨i,b,a1,a2,a3,a4⟩:=mg (y:=n) l q d.1 d.2.1 d.2.2.1 d.2.2.2.1 d.2.2.2.2.1 d.2.2.2.2.2 O ⟨h,0,F⟩ e.length o (e.map i64) (by simp) L (λk r=>⟨vT k r,by obtain⟨m,_,rfl⟩:=YL.1 r;exact⟨m,A⟩⟩) N
 grind
theorem JG{t d l i o:E}{f:Xy}{g:XM}{L:Xn}{k:Xz XG}{n m:E}{h:K}{O:K->Prop}
 (S:a.heap[t]?=C (Xx #[.string g] 9 (0,0)))(R:a.heap[d]?=C (Xx #[L] 61 (0,0)))(T:a.heap[l]?=C (Xx #[pt i 0] 95 (0,0)))(U:a.heap[i]?=C (Xx #[.map (C o)] 198 (0,0)))
 (q:(Instr.lookup 196 (.map (C o)) (.agg #[.bool f,.string g]) Xp).run TP (fM a f g).drew=.ok c (fM a f g).drew)
 (p:(Builtin.append_ #[61,61] 61 #[L,c]).run TP (fM a f g).drew=.ok (.slice k n m) h)
 (D:h.heap[d]?=C (Xx #[L] 61 (0,0)))(W:h.heap[l]?=C (Xx #[pt i 0] 95 (0,0)))(X:h.heap[i]?=C (Xx #[.map (C o)] 198 (0,0)))(H:h.heap[a.heap.size]?=C (Xx #[.bool f,.string g] 253 (0,0)))
 (b2:l≠d)(b3:i≠d)(Y:a.heap.size≠d)
 (hd:∃N,(Builtin.delete_ #[196,253] 0 #[.map (C o),.agg #[.bool f,.string g]]).run TP (h.setCell ⟨d,0,F⟩ (.slice k n m)).drew=.ok (.tuple #[]) N/\O N):
 Calls TP 180 #[.bool f,pt t 0,pt d 0,pt l 0] a λa2 b=>a2=XB (.tuple #[])/\O b:=by
 obtain⟨N,a8,Q⟩:=hd;have b0:t<a.heap.size/\d<a.heap.size/\l<a.heap.size/\i<a.heap.size:=by grind
 obtain⟨c0,b5,b6,b7⟩:=b0;have c1:=aa S 0 A;have r:∀s,s<a.heap.size->(fM a f g).heap[s]?=a.heap[s]?:=by simp_all [Yc]
 have u:=aa ((r d b5).trans R) 0 A;have v:=aa ((r l b6).trans T) 0 A;have w:=aa ((r i b7).trans U) 0 A;have z:(fM a f g).heap[a.heap.size]?=C (Xx #[.bool f,.string g] 253 (0,0)):=Yx a _;have x:=aa z 0 A;have y:=aa z 1 A;have b9:=frozenAt D 0;have a3:(h.setCell ⟨d,0,F⟩ (.slice k n m)).cell? ⟨l,0,F⟩=C (pt i 0):=aa ((ai b2).trans W) 0 A;have a4:(h.setCell ⟨d,0,F⟩ (.slice k n m)).cell? ⟨i,0,F⟩=C (.map (C o)):=aa ((ai b3).trans X) 0 A;have a5:(h.setCell ⟨d,0,F⟩ (.slice k n m)).cell? ⟨a.heap.size,0,F⟩=C (.bool f):=aa ((ai Y).trans H) 0 A;have a6:(h.setCell ⟨d,0,F⟩ (.slice k n m)).cell? ⟨a.heap.size,1,F⟩=C (.string g):=aa ((ai Y).trans H) 1 A;have b8:=aa D 0 A;have a0:=Xv Q;clear S R T U D W X H Q r z;obtain⟨Z,b1⟩:∃Z,h.setCell ⟨d,0,F⟩ (.slice k n m)=Z:=by simp
 rw[b1]at a3 a4 a5 a6 a8;obtain⟨e,a7⟩:∃e,a.alloc (Obj.cells #[Xn.bool f,Value.string g] 253)=e:=by simp
 unfold fM at u v w x y q p;rw[a7]at u v w x y q p;go_enter Tryz.func180,Tryz.ntmps180
 go_wp2
 have a9:(Instr.lookup 196 (.map (C o)) (.agg #[.bool f,.string g]) Xp).run TP {heap:=e.heap,tape:=e.tape,drawn:=e.drawn+1,os:=e.os,output:=e.output}=.ok c {heap:=e.heap,tape:=e.tape,drawn:=e.drawn+1,os:=e.os,output:=e.output}:=q
 go_still_tail 7,(by kernel_rfl)
 change wpList _ _ _ _ _ e.drew
 refine wpList_append_run A _ _ 61 A rfl rfl p ?_;clear q a9 p u v w x y
 go_wp2
 go_still_tail 5,(by kernel_rfl)
 go_wp2
 go_end0
 exact⟨A,a0.out⟩
structure pf(ck:Xy->B->Xq Xt)(e i:E)(g:Xn->Xz Xn)(l k m:E)(n:B)(d:Xn)(f:Xq Xt)(a:K):Prop where
 tab:dN ck e i g a
 hp:a.heap[l]?=C (Xx #[.string (bs n)] 9 (0,0))
 hl:a.heap[k]?=C (Xx #[d] 61 (0,0))
 ht:a.heap[m]?=C (Xx #[pt e 0] 95 (0,0))
 row:bV Pc a 3 1 d f.length (f.map i64)
 free:∀h,d.ownBlock=C h->¬eJ e i g h
def Jb(ck:Xy->B->Xq Xt)(f d:E)(q:Xn->Xz Xn)(n g o:E)(e:B)(k:Xn)(m:Xq Xt)(i:Xy)(a:K)(p:Ending)(b:K):Prop:=p=XB (.tuple #[])/\∃l h,pf (eY ck i e []) f d h n g o e l (m++ck i e) b/\a.heap.size<=b.heap.size/\jC a k l/\(∀c,eJ f d h c->eJ f d q c)/\∀c,c<a.heap.size->c≠g->c≠d->k.ownBlock≠C c->b.heap[c]?=a.heap[c]?
theorem PG{ck:Xy->B->Xq Xt}{D o:E}{p:Xn->Xz Xn}{w k t:E}{m:B}{y:Xn}{W:Xq Xt}(g:pf ck D o p w k t m y W a)(e8:W.length<2^29)(l:Xy):
 Calls TP 180 #[.bool l,pt w 0,pt k 0,pt t 0] a (Jb ck D o p w k t m y W l a):=by
 have n:=g.tab;have d9:=n.xZ l m;have f0:=sS d9 (n.nums l m);obtain⟨c,b4⟩:∃c,c=(p (spot l m)).getD mG:=by simp
 have b3:=n.lt (Xr A);have b1:=n.lt (Xs (Xr A));have d3:=(XZ.1 g.hl).1;have a7:=(XZ.1 g.ht).1;have d4:=(XZ.1 g.hp).1;obtain⟨u,Y⟩:∃u,u=(fM a l (bs m)).drew:=by simp
 have U:∀f,f<a.heap.size->u.heap[f]?=a.heap[f]?:=λf x=>by rw[Y];exact Yc a _ f x
 have e9:u.heap.size=a.heap.size+1:=by simp_all
 have d5:u.heap[a.heap.size]?=C (Xx #[.bool l,.string (bs m)] 253 (0,0)):=by rw[Y];exact Yx a _
 have a9:=n.get (w':=u) (U o b1) l m;rw[<-b4]at a9;have a1:=n.row l m;rw[<-b4]at a1;obtain⟨f2,H,f4,c8,a4,a5⟩:=AT (a:=u) (g.row.stay λe i=>U e (g.row.lt e i)) (a1.stay λe i=>U e (a1.lt i)) (by omega) 61;obtain⟨v,z,c1,rfl⟩:=c8.slice
 have Z:∀e,y.ownBlock=C e->∃X,a.heap[e]?=C (Xx X 3 (0,0)):=λe i=>by obtain⟨X,h,_⟩:=g.row.blk e i;simp_all
 have R:∀f,f<a.heap.size->y.ownBlock≠C f->H.heap[f]?=a.heap[f]?:=λf x d8=>by rw[a4.block f (by omega) (λd=>d8 d.symm),U f x]
 have b6:y.ownBlock≠C k:=λd=>by obtain⟨a6,h⟩:=Z _ d;rw[g.hl]at h;cases h
 have b7:y.ownBlock≠C t:=λd=>by obtain⟨a6,h⟩:=Z _ d;rw[g.ht]at h;cases h
 have e1:y.ownBlock≠C w:=λd=>by obtain⟨a6,h⟩:=Z _ d;rw[g.hp]at h;cases h
 have b9:=λd=>g.free _ d (Xr A);have b8:=λd=>g.free _ d (Xs (Xr A));have q1:t≠k:=λd=>by have:=g.ht;rw[d,g.hl]at this;cases this
 have c6:D≠k:=λd=>by have:=n.tb;rw[d,g.hl]at this;cases this
 have e2:w≠k:=λd=>by have:=g.hp;rw[d,g.hl]at this;cases this
 obtain⟨d1,L,a0,c9⟩:=n.mp;have c7:o≠k:=λd=>by rw[d,g.hl]at a0;cases a0
 have e3:t≠o:=λd=>by have:=g.ht;simp_all
 have e4:w≠o:=λd=>by have:=g.hp;simp_all
 have e5:=n.ne;have b5:=(R k d3 b6).trans g.hl;have T:(H.setCell ⟨k,0,F⟩ (.slice v z c1)).drew.heap[o]?=C (.map d1 L):=(ai c7).trans ((R o b1 b8).trans a0);obtain⟨O,d6,d0⟩:=c9.del sK GR T (OA l m) 0 (g:=ru p l m F) jy (λe6 a3=>pS a3)
 have b0:∀e,(Value.slice v z c1).ownBlock=C e->e≠k/\e≠o:=λe i=>by
  rcases a5 e i with h|h
  .exact⟨λd=>b6 (d▸h),λd=>b8 (d▸h)⟩
  omega
 have a8:∀f,f≠k->f≠o->(yb (H.setCell ⟨k,0,F⟩ (.slice v z c1)).drew o (.map O L)).heap[f]?=H.heap[f]?:=λf N S=>by rw[(abp (o':=.map O L) T).2 f S];exact ai N
 have d7:=(abp (o':=.map O L) T).1
 have e0:∀r s e,rowOf ((ru p l m F (spot r s)).getD mG)=C e->rowOf ((p (spot r s)).getD mG)=C e/\¬(r=l/\s=m):=λr s e i=>by
  by_cases d:r=l/\s=m
  .rw[d.1,d.2,jy]at i;cases i
  simp_all [jx]
 have a2:∀f,eJ D o (ru p l m F) f->eJ D o p f:=λf x=>by
  rcases x with h|h|⟨r,s,h⟩
  .exact Xr h
  .exact Xs (Xr h)
  exact Xs (Xs ⟨r,s,(e0 r s f h).1⟩)
 have Q:=λf N S q d2=>(a8 f S q).trans (R f N d2)
 have f1:(yb (H.setCell ⟨k,0,F⟩ (.slice v z c1)).drew o (.map O L)).heap.size=H.heap.size:=by simp
 have e7:=a4.size;refine JG g.hp g.hl g.ht n.tb (by rw[<-Y];exact a9) (by simp_all) b5 ((R t a7 b7).trans g.ht) ((R D b3 b9).trans n.tb) ?_ q1 c6 (by omega) ⟨_,d6,(.slice v z c1),ru p l m F,⟨?_,(Q w d4 e2 e4 e1).trans g.hp,?_,(Q t a7 q1 e3 b7).trans g.ht,?_,?_⟩,?_,?_,a2,Q⟩
 .rw[a4.block _ (by omega) (λd=>by have:=g.row.lt _ d.symm;omega)];exact d5
 .refine n.put (v:=F) ((Q D b3 c6 e5 b9).trans n.tb) d7 d0 (OQ _) (λf x N S q=>?_) (λe i=>by cases i) Xq.Pairwise.nil (λe6 a3=>by cases a3);refine Q f x (λd=>?_) N (λd=>g.free f d q);rcases q with q|q|⟨r,s,q⟩
  .omega
  .exact N q
  obtain⟨X,h,_⟩:=n.AR q;simp_all
 .rw[(abp (o':=.map O L) T).2 k (Zh c7)];show(H.setCell ⟨k,0,F⟩ (.slice v z c1)).heap[k]?=_;have:=aA (l:=0) (g:=.slice v z c1) b5;simp_all
 .rw[YA];exact c8.stay λe i=>a8 e (b0 e i).1 (b0 e i).2
 .intro e i b2;rcases a5 e i with h|h
  .exact g.free e h (a2 e b2)
  have:=n.lt (a2 e b2);omega
 .omega
 intro e i;rcases a5 e i with h|h
 .exact Xr h
 omega
abbrev tv(a:K)(d:E)(y:XM):K:=((a.alloc (.cells #[pt d 0] 95)).alloc (.cells #[.string y] 9)).alloc (.cells #[Xw F 0 0] 61)
def qf(h:E)(c:Xn->K->Prop)(a:K):Prop:=∃b e d,a.cell? ⟨h,0,F⟩=C (.slice b e d)/\Calls TP 62 #[.slice b e d] a λf l=>f=XB (.tuple #[])/\l.cell? ⟨h,0,F⟩=C (.slice b e d)/\Calls TP 181 #[.slice b e d] l λf m=>∃g k i,f=XB (.slice g k i)/\c (.slice g k i) m
abbrev Ek(b:E)(e:Xy)(a:K)(c:K->Prop):Prop:=Calls TP 180 #[.bool e,pt (b+1) 0,pt (b+1+1) 0,pt b 0] a λd f=>d=XB (.tuple #[])/\c f
def uw(c:Xn->K->Prop)(e:Ending)(f:K):Prop:=∃a d b,e=XB (.slice a d b)/\c (.slice a d b) f
section
variable{d:E}{b:Xt}{y:XM}{c:Xn->K->Prop}{e f:K->Prop}
theorem JH(w:(b !=4)=J)(x:(b==4)=Xp)(v:(b==2)=Xp)
 (h:Ek a.heap.size Xp (tv a d y) e)(k:∀m,e m->qf (a.heap.size+1+1) c m):
 Calls TP 150 #[pt d 0,Xo M b,.string y] a (uw c):=by
 have HC:=Xv h;have o:=Xv k;clear h k;go_enter Tryz.func150,Tryz.ntmps150
 go_wp2_with (first
  |(go_at_call 180;refine HC.out.mono ?_;rintro f r⟨rfl,g⟩;obtain⟨s,H,u,z,l⟩:=o.out r g;have p:=Xv l;clear l g)
  |(go_at_call 62;refine p.out.mono ?_;rintro f N⟨rfl,D,i⟩;have n:=Xv i;clear i)
  |(go_at_call 181;refine n.out.mono ?_;rintro f O⟨t,L,c3,rfl,q⟩))
 go_ret;exact⟨_,_,_,A,q⟩
theorem JI(H:(b !=4)=J)(L:(b==4)=Xp)(D:(b==2)=J)
 (k:Ek a.heap.size Xp (tv a d y) e)(l:∀h,e h->Ek a.heap.size J h f)(n:∀h,f h->qf (a.heap.size+1+1) c h):
 Calls TP 150 #[pt d 0,Xo M b,.string y] a (uw c):=by
 have HC:=Xv k;have q:=Xv l;have s:=Xv n;clear k n l;go_enter Tryz.func150,Tryz.ntmps150
 go_wp2_with (first
  |(go_at_call 180;refine(q.out _ t.out).mono ?_;rintro i p⟨rfl,g⟩;obtain⟨w,Q,z,N,o⟩:=s.out p g;have u:=Xv o;clear o g)
  |(go_at_call 180;refine HC.out.mono ?_;rintro i p⟨rfl,g⟩;have t:=Xv g;clear g)
  |(go_at_call 62;refine u.out.mono ?_;rintro i S⟨rfl,O,m⟩;have r:=Xv m;clear m)
  |(go_at_call 181;refine r.out.mono ?_;rintro i T⟨x,R,c3,rfl,v⟩))
 go_ret;exact⟨_,_,_,A,v⟩
theorem JJ(v:(b !=4)=Xp)(w:(b==4)=J)
 (h:Ek a.heap.size J (tv a d y) e)(k:∀m,e m->qf (a.heap.size+1+1) c m):
 Calls TP 150 #[pt d 0,Xo M b,.string y] a (uw c):=by
 have HC:=Xv h;have o:=Xv k;clear h k;go_enter Tryz.func150,Tryz.ntmps150
 go_wp2_with (first
  |(go_at_call 180;refine HC.out.mono ?_;rintro f r⟨rfl,g⟩;obtain⟨s,D,u,x,l⟩:=o.out r g;have p:=Xv l;clear l g)
  |(go_at_call 62;refine p.out.mono ?_;rintro f L⟨rfl,z,i⟩;have n:=Xv i;clear i)
  |(go_at_call 181;refine n.out.mono ?_;rintro f N⟨t,H,c3,rfl,q⟩))
 go_ret;exact⟨_,_,_,A,q⟩
end
theorem qw{b:Xu Xt}(hd:∀j e,j<=e->e<b.size->b[j]!<=b[e]!):∀a,a<=b.size->(∀c,c∈compactUpTo b a↔∃j,j<a/\b[j]! =c)/\rT (compactUpTo b a)
 |0,_=>⟨λc=>by simp[compactUpTo],by simp[compactUpTo,rT]⟩
 |a+1,r=>by
  obtain⟨h,f⟩:=qw hd a (by omega);rw[compactUpTo_succ];by_cases d:keeps b a=J
  .rw[XN d];refine⟨λc=>?_,aak.2 ⟨f,by simp,λg i l p=>?_⟩⟩
   .grind
   obtain⟨j,k,rfl⟩:=(h g).1 i;have n:=hd j (a-1) (by omega) (by omega);have o:=hd (a-1) a (by omega) (by omega);unfold keeps at d
   grind
  rw[XH d,Zf];refine⟨λc=>?_,f⟩;constructor
  .grind
  rintro⟨j,k,m⟩;by_cases q:j<a
  .grind
  unfold keeps at d
  grind
theorem vw(c:Xq Xt):(∀a,a∈compact (c.mergeSort λa b=>decide (a<=b))↔a∈c)/\rT (compact (c.mergeSort λa b=>decide (a<=b))):=by
 have m:(c.mergeSort λa b=>decide (a<=b)).Pairwise (λe f=>decide (e<=f)=J):=by grind [List.pairwise_mergeSort]
 obtain⟨ms,l⟩:∃ms,ms=c.mergeSort λa b=>decide (a<=b):=by simp
 have k:∀a,a∈ms↔a∈c:=by simp_all
 rw[<-l]at m⊢
 unfold compact;have hd:∀j d,j<=d->d<ms.toArray.size->ms.toArray[j]!<=ms.toArray[d]!:=by grind [Nat.lt_or_eq_of_le,List.pairwise_iff_getElem]
 obtain⟨g,h⟩:=qw hd ms.length (by simp);refine⟨λa=>?_,h⟩;rw[g,<-k];constructor
 .grind
 intro n;obtain⟨j,i,rfl⟩:=Zt.1 n;exact⟨j,i,by grind⟩
def Hf(h:E)(a:K)(f:Xn)(b:Xq Xt):Prop:=(b=[]/\∃g c,f=.slice g 0 c)\/∃d c e,f=Xw (C ⟨d,0,F⟩) b.length c/\h<=d/\a.heap[d]?=C (Xx e 3 (0,0))/\e.toList.take b.length=b.map i64
def mo(ck:Xy->B->Xq Xt)(d:Xt)(c:B):Xy->B->Xq Xt:=λa b=>if kD d a=J/\b=c then[]else ck a b
def tZ(ck:Xy->B->Xq Xt)(a:Xt)(c:B):Xq Xt:=(if kD a J then ck J c else[]).foldr dI (if kD a Xp then ck Xp c else[])
def BN(ck:Xy->B->Xq Xt)(b d:E)(e:Xn->Xz Xn)(l:Xt)(c:B)(a:K)(m:Ending)(h:K):Prop:=∃f k i g,m=XB (.slice f k i)/\dN (mo ck l c) b d g h/\Hf a.heap.size h (.slice f k i) (tZ ck l c)/\aI (eJ b d e) (eJ b d g) a h/\∀f,eJ b d g f->eJ b d e f
section
variable{ck:Xy->B->Xq Xt}{b d:E}{e:Xn->Xz Xn}{f:K}{c:B}
theorem MU{a0 o a1:E}{H:Xn}{k n:Xq Xt}{Z:E}(i:pf ck b d e a0 o a1 c H k a)(c8:k.length<2^30)(b2:∀g,H.ownBlock=C g->Z<=g)(a6:rT n)(O:∀m,m∈n↔m∈k):
 qf o (λb5 r=>dN ck b d e r/\Hf Z r b5 n/\a.heap.size<=r.heap.size/\∀f,f<a.heap.size->H.ownBlock≠C f->r.heap[f]?=a.heap[f]?) a:=by
 have b0:=(XZ.1 i.hl).1;rcases i.row.2 with⟨rfl,b7⟩|⟨g,L,p,rfl,s,b8,b9,a3,N,c0⟩
 .have a7:n=[]:=by
   cases n with
   |nil=>rfl
   |cons m n=>have:=(O m).1 (by simp);simp_all
  refine⟨F,0,0,aa i.hl 0 A,(Tryz.slices_Sort_int_none F 0 a).mono λh r⟨y,X⟩=>⟨y,by rw[X];exact aa i.hl 0 A,(Tryz.slices_Compact_int_empty F 0 r).mono λa2 x⟨z,q⟩=>⟨F,0,0,z,?_⟩⟩⟩;rw[q,X];exact⟨i.tab,Xr ⟨a7,F,0,A⟩,Ye _,λ_ _ _=>rfl⟩
 have BK:=(XZ.1 s).1;have b1:o≠g:=λh=>by rw[<-h,i.hl]at s;cases s
 rw[E.mul_one]at a3 N;have a4:=holds_of_blockI s N;obtain⟨ms,W⟩:∃ms,ms=k.mergeSort λm b6=>decide (m<=b6):=by simp
 have U:ms.length=k.length:=by simp_all
 obtain⟨c1,c2⟩:=vw k;rw[<-W]at c1 c2;have a8:=Iz a6 c2 λm=>by rw[O,c1]
 refine⟨_,_,_,aa i.hl 0 A,(Tryz.slices_Sort_int g 0 L k a a4 BK (by omega)).mono λh t⟨y,d0,d1,w⟩=>⟨y,?_,?_⟩⟩
 .have:t.heap[o]?=a.heap[o]?:=by
   rw[w];exact(abd _).block o b0 (λh=>b1 (YR h))
  exact aa (this.trans i.hl) 0 A
 rw[<-W]at w;have Q:t.heap[g]?=C (Xx (putCells (Xn.int M) 0 ms.toArray p) 3 (0,0)):=by rw[w];exact heap_sortedI _ s
 have b3:=take_putCellsI p ms (by omega);have a5:=holds_of_blockI Q b3;have D:a.grownBy t (C g):=by rw[w];exact abd _
 have R:=Tryz.slices_Compact_int g 0 L ms t a5 (by omega) (by omega);rw[U]at R;refine R.mono λa2 x⟨z,d2,q⟩=>⟨_,_,_,z,?_⟩;rw[<-U]at q;obtain⟨u,Y⟩:∃u,u=compact ms++List.replicate (ms.length-(compact ms).length) 0:=by simp
 rw[<-Y,<-grow_empty (putRow _ _ _ _ _)]at q;have c6:=compact_length_le ms;have c9:u.length=ms.length:=by rw[Y];simp;omega
 have a9:x.heap[g]?=C (Xx (putCells (Xn.int M) 0 u.toArray (putCells (Xn.int M) 0 ms.toArray p)) 3 (0,0)):=by rw[q];exact heap_sortedI _ Q
 have S:t.grownBy x (C g):=by rw[q];exact abd _
 have c7:(putCells (Xn.int M) 0 ms.toArray p).size=p.size:=by simp[putCells]
 have b4:=take_putCellsI (putCells (Xn.int M) 0 ms.toArray p) u (by omega)
 have T:∀f,f<a.heap.size->g≠f->x.heap[f]?=a.heap[f]?:=λf l v=>by rw[S.block f (Yk l D.size) (λh=>v (YR h).symm),D.block f l (λh=>v (YR h).symm)]
 refine⟨i.tab.stay λf l=>T f (i.tab.lt l) (λh=>i.free g A (h▸l)),Xs ⟨g,_,_,by rw[a8],b2 g A,a9,?_⟩,Yi D.size S.size,λf l v=>T f l (λh=>v (by rw[h];rfl))⟩;have:=Zc (List.take (compact ms).length) b4
 grind
theorem tc{a:Xt}{b:Xt}:b∈tZ ck a c↔(kD a J=J/\b∈ck J c)\/(kD a Xp=J/\b∈ck Xp c):=by simp[tZ,mZ]
theorem La(f:dN ck b d e a)(g:Xt):rT (tZ ck g c):=by
 refine nt ?_ _;split
 .exact f.xZ _ _
 simp
theorem FG(h:dN ck b d e a):pf ck b d e (a.heap.size+1) (a.heap.size+1+1) a.heap.size c (Xw F 0 0) [] (tv a b (bs c)):=by
 have l:∀g,g<a.heap.size->(tv a b (bs c)).heap[g]?=a.heap[g]?:=by simp_all [rh]
 refine⟨h.stay λg i=>l g (h.lt i),?_,?_,?_,bV.nil _ _ _ _,λm k=>by cases k⟩
 .rw[Yc _ _ _ (by simp)];exact wo _ _ _
 .have:=wo (a.alloc (.cells #[pt b 0] 95)) (.cells #[.string (bs c)] 9) (.cells #[Xw F 0 0] 61);simpa using this
 grind [Below.heap_alloc,NK]
theorem Sx(O:dN ck b d e a)(k:Xt)(c:B):Calls TP 150 #[pt b 0,Xo M k,.string (bs c)] a (BN ck b d e k c a):=by
 have T:=FG O (c:=c);have c7:(tv a b (bs c)).heap.size=a.heap.size+3:=by simp
 have b8:∀f,f<a.heap.size->(tv a b (bs c)).heap[f]?=a.heap[f]?:=by simp_all [rh]
 have L:=λn=>sS (O.xZ n c) (O.nums n c)
 have one:∀(x:Xy->B->Xq Xt)(t:Xn->Xz Xn)(D:Xn)(r:Xq Xt)(h:K)(n:Xy),pf x b d t (a.heap.size+1) (a.heap.size+1+1) a.heap.size c D r h->r.length<2^29->(∀l,D.ownBlock=C l->a.heap.size<=l)->a.heap.size+3<=h.heap.size->(∀f,f<a.heap.size->f≠d->h.heap[f]?=a.heap[f]?)->(∀f,eJ b d t f->eJ b d e f)->
  Ek a.heap.size n h λi=>∃q g,pf (eY x n c []) b d g (a.heap.size+1) (a.heap.size+1+1) a.heap.size c q (r++x n c) i/\(∀l,q.ownBlock=C l->a.heap.size<=l)/\a.heap.size+3<=i.heap.size/\(∀f,f<a.heap.size->f≠d->i.heap[f]?=a.heap[f]?)/\(∀f,eJ b d g f->eJ b d e f):=λx t D r h n U X a0 b9 a6 S=>by
  refine(PG U X n).mono λs i⟨H,q,g,o,m,p,v,w⟩=>⟨H,q,g,o,λl z=>?_,by omega,λf R a7=>?_,λf R=>S f (v f R)⟩
  .rcases p l z with u|u
   .exact a0 l u
   omega
  grind
 have last:∀(x:Xy->B->Xq Xt)(t:Xn->Xz Xn)(D:Xn)(r:Xq Xt)(h:K),pf x b d t (a.heap.size+1) (a.heap.size+1+1) a.heap.size c D r h->r.length<2^30->(∀l,D.ownBlock=C l->a.heap.size<=l)->a.heap.size+3<=h.heap.size->(∀f,f<a.heap.size->f≠d->h.heap[f]?=a.heap[f]?)->(∀f,eJ b d t f->eJ b d e f)->x=mo ck k c->(∀N,N∈tZ ck k c↔N∈r)->
  qf (a.heap.size+1+1) (λa2 i=>∃g,dN (mo ck k c) b d g i/\Hf a.heap.size i a2 (tZ ck k c)/\aI (eJ b d e) (eJ b d g) a i/\∀f,eJ b d g f->eJ b d e f) h:=λx t D r h U X a0 b9 a6 S c8 a7=>by
  obtain⟨f,a1,W,b3,c0⟩:=MU U X a0 (La O k) a7;refine⟨f,a1,W,b3,c0.mono λs a9⟨H,b4,b5⟩=>⟨H,b4,b5.mono λa5 c9⟨b0,c6,b1,b6,o,m,p,v⟩=>⟨b0,c6,b1,b6,t,by grind,m,⟨by omega,λQ Y b7=>?_,λQ Y=>Xr (S Q Y)⟩,S⟩⟩⟩;rw[v Q (by omega) (λs=>by grind)];exact a6 Q Y (λs=>b7 (Xs (Xr s)))
 have fin:∀s i,uw (λa2 i=>∃g,dN (mo ck k c) b d g i/\Hf a.heap.size i a2 (tZ ck k c)/\aI (eJ b d e) (eJ b d g) a i/\∀f,eJ b d g f->eJ b d e f) s i->BN ck b d e k c a s i:=λs i⟨f,a1,W,H,g,o,m,p⟩=>⟨f,a1,W,g,H,o,m,p⟩;have Z:∀f,f<a.heap.size->f≠d->(tv a b (bs c)).heap[f]?=a.heap[f]?:=λf R _=>b8 f R;by_cases v:k=4
 ·
  subst v;refine(JJ (by decide) (by decide) (one ck e _ [] _ J T (by decide) (λl z=>by cases z) (by omega) Z (λf u=>u)) λh⟨q,g,o,m,p,w,y⟩=>last _ g q _ h o (by have:=L J;simp;omega) m p w y ?_ (λN=>?_)).mono fin
  .funext n a8
   unfold eY mo kD;cases n<;>simp
  simp[tc,kD]
 have a3:(k !=4)=J:=by simp[v]
 have a4:(k==4)=Xp:=by simp[v]
 by_cases m:k=2
 .subst m;refine(JI a3 a4 (by decide) (one ck e _ [] _ Xp T (by decide) (λl z=>by cases z) (by omega) Z (λf u=>u)) (λh⟨q,g,o,m,p,w,y⟩=>one _ g q _ h J o (by have:=L Xp;simp;omega) m p w y) λa9⟨q,g,o,m,p,w,y⟩=>last _ g q _ a9 o (by have:=L Xp;have:=L J;simp[eY];omega) m p w y ?_ (λN=>?_)).mono fin
  .funext n a8
   unfold eY mo kD;cases n<;>simp
  simp[tc,kD,eY,or_comm]
 have a5:(k==2)=Xp:=by simp[m]
 refine(JH a3 a4 a5 (one ck e _ [] _ Xp T (by decide) (λl z=>by cases z) (by omega) Z (λf u=>u)) λh⟨q,g,o,b2,p,w,y⟩=>last _ g q _ h o (by have:=L Xp;simp;omega) b2 p w y ?_ (λN=>?_)).mono fin
 .funext n a8
  unfold eY mo kD;cases n<;>simp[v,m]
 grind [tc,kD]
end
variable{d:Tree}{c:K}{e:K}{N:E}{a:Path}
section
variable{b f:Path->E}{g:Xq Un}
theorem Sd(t:bn d b f c)(m:WF d)(n:c.cell? ⟨N,0,F⟩=C (pt (b []) 0))(k:Xu Xn)(i:XM){s:Xt}(p:c.cell? ⟨1,0,F⟩=C (Xo M s))(z:i.size<2^31)(r:Wt.split i.data.toList=C a):
 eT c N k i J a.length (gW (if(Wt.find d a).isSome then C (b a)else F)):=by
 have v:=uA p;have H:=uA n;obtain⟨S,x,_⟩:=m.root;refine(oe i s (c.alloc (.cells k 28)) z (by rw[YJ _ _ _ v];exact p)).mono ?_;intro O U l;unfold cH at l;rw[r]at l;obtain⟨h,T,rfl,q⟩:=l;have D:(c.alloc (.cells k 28)).heap.size=c.heap.size+1:=by simp
 rw[D]at h;have y:=q.row;have o:=
  zZ (t.old λu w=>by rw[h.block u (by omega)];exact Yc _ _ _ w).VZ (by
   rw[h.cell (p:=⟨N,0,F⟩) (by show N<_;omega),YJ _ _ _ H]
   exact n) (by rw[x];rfl) m.up y (by have:=sW r;omega)
 rcases q with⟨rfl,rfl⟩|⟨L,rfl,R,_,Q⟩
 .exact⟨F,0,A,h,λ_=>o⟩
 exact⟨_,_,A,h,λ_=>o⟩
theorem Pr(b:Xu Xn)(a:XM){h:Xt}(g:c.cell? ⟨1,0,F⟩=C (Xo M h))(m:a.size<2^31)(l:Wt.split a.data.toList=F)(i:Xn):eT c N b a Xp 0 i:=by
 have k:=uA g;refine(oe a h (c.alloc (.cells b 28)) m (by rw[YJ _ _ _ k];exact g)).mono ?_;intro e o d;unfold cH at d;rw[l]at d;obtain⟨f,rfl⟩:=d;have n:(c.alloc (.cells b 28)).heap.size=c.heap.size+1:=by simp
 rw[n]at f;exact⟨F,0,A,f,λe=>by cases e⟩
theorem Ud(i:bn d b f c)(k:WF d){e:Nd}(g:Wt.find d a=C e):ER c (b a) (f a) e.stat.aE e.stat.kids:=by
 have h:=i.nd a e g;obtain⟨o,n,l,m⟩:=i.kd a e g;refine⟨(XZ.1 h).1,aa h 4 A,aa h 11 A,λr p=>?_⟩;have q:r.heap[f a]?=C (.map o n):=by rw[p _ (XZ.1 l).1];exact l
 have:=Gy q 3;rw[sL m k,<-k.kids a e g]at this;exact this
theorem Qq(b:a≠[]):∃d c,a=d++[c]:=⟨a.dropLast,a.getLast b,(aal b).symm⟩
theorem Mg(h:qd d b f N g c){k:E}{p:Xu Xn}(a:c.heap[k]?=C (Xx p 28 (0,0))):¬pP d b f N k/\¬wI c N k:=by
 obtain⟨H,D,n,s,x⟩:=h.top;refine⟨?_,?_⟩
 .rintro(e|⟨o,m,e|e⟩)
  .rw[e,n]at a;cases a
  .obtain⟨t,i⟩:=Yd.1 m;rw[e,h.lq.nd _ _ i]at a;cases a
  obtain⟨t,i⟩:=Yd.1 m;obtain⟨w,v,r,_⟩:=h.lq.kd _ _ i;rw[e,r]at a;cases a
 rintro⟨y,z,L,l,q⟩;rw[n]at l;cases l;obtain⟨u,o,_⟩:=s.blk _ q;rw[o]at a;cases a
theorem UL(W:qd d b f N g c)(a6:WF d){n:Nd}(Q:Wt.find d a=C n)(e9:g.length<2^18){m:Wt.Op}(c8:m.kind=5)(aL:Xt):
 Calls TP 157 #[pt N 0,pt (b a) 0] c λh e=>h=XB (.tuple #[])/\(∀L,c.heap[L]?=C (Xx (uh m) 28 (0,0))->∃e1 e2 e3,LJ e (b a) L (bs m.path) (bs m.data) e1 e2 n.stat.aE e3)/\
  ∃d8,qd (Wt.put d a (jS n m aL)) b f N (g++[d8]) (setW e (b a) (bs m.data) aL n.stat.aE)/\yo N d b f (Wt.put d a (jS n m aL)) b f c (setW e (b a) (bs m.data) aL n.stat.aE):=by
 obtain⟨U,d9,u,z,b1⟩:=W.top;have e8:=b1.len;have x:=W.lq;have q:=x.nd a n Q;have a1:(Wt.find d a).isSome=J:=by rw[Q];rfl
 have d1:=x.lt a1;refine(BE u z (by omega) q).mono ?_;rintro h a5⟨b8,e7,Y,e0,b5,s,t,X,b7⟩;have a2:∀k,U.ownBlock=C k->wI c N k:=λk l=>⟨_,_,_,u,l⟩;have b4:b a≠N:=λh=>by rw[h,u]at q;cases q
 have d7:U.ownBlock≠C (b a):=λh=>by obtain⟨r,i,_⟩:=z.blk _ h;rw[q]at i;cases i
 have o:=(Y _ d1.1 b4 d7).trans q;obtain⟨w,H⟩:∃w,w=setW a5 (b a) (bs m.data) aL n.stat.aE:=⟨_,A⟩
 have T:∀k,k≠b a->w.heap[k]?=a5.heap[k]?:=λk l=>by rw[H,setW,ai l,ai l,ai l,ai l]
 have f2:w.heap.size=a5.heap.size:=by rw[H];simp only[aR]
 have d2:w.heap[b a]?=C (Xx (cW a (jS n m aL) (b a.dropLast) (f a)) 192 (0,0)):=by rw[H];have:=aA (l:=7) (g:=Xo M (bs m.data).size) (aA (l:=4) (g:=Xo M (n.stat.aE+1)) (aA (l:=3) (g:=Xo M aL) (aA (l:=1) (g:=.string (bs m.data)) o)));rw[setW,this];simp[cW,jS,cT]
 have a9:∀i,Wt.find (Wt.put d a (jS n m aL)) i=if i=a then C (jS n m aL)else Wt.find d i:=λi=>cG a6.ord
 have c7:∀i,(Wt.find (Wt.put d a (jS n m aL)) i).isSome=(Wt.find d i).isSome:=λi=>by
  rw[a9];split
  .rename_i h;rw[h,Q];rfl
  rfl
 have d4:∀k,pP (Wt.put d a (jS n m aL)) b f N k->pP d b f N k:=λk p=>by
  rcases p with p|⟨i,y,p⟩
  .exact Xr p
  exact Xs ⟨i,by rw[<-c7 i];exact y,p⟩
 have O:=λk l s t X=>(T k t).trans (Y k l s X)
 have d5:∀i,(Wt.find d i).isSome=J->U.ownBlock≠C (b i)/\U.ownBlock≠C (f i)/\b i≠N/\f i≠N:=λi y=>by
  obtain⟨f4,b2⟩:=Yd.1 y;obtain⟨e6,e5,Z,_⟩:=x.kd _ _ b2;have a3:=x.nd _ _ b2;refine⟨λh=>?_,λh=>?_,λh=>?_,λh=>?_⟩
  .obtain⟨r,i,_⟩:=z.blk _ h;rw[a3]at i;cases i
  .obtain⟨r,i,_⟩:=z.blk _ h;rw[Z]at i;cases i
  .rw[h,u]at a3;cases a3
  rw[h,u]at Z;cases Z
 have d0:=x.upd Q a9 d2 λk l s⟨i,y,t⟩=>by
  have S:=d5 i y;rcases t with rfl|rfl
  .exact O _ l S.2.2.1 s S.1
  exact O _ l S.2.2.2 s S.2.1
 have a8:=(T N (Zh b4)).trans s;refine⟨b8,λL R=>?_,.head (b a) (Ut a n),?_,?_⟩
 .obtain⟨b9,c0⟩:=Mg W R;have a0:=(Y L (XZ.1 R).1 (λh=>b9 (Xr h)) (λh=>c0 (a2 _ h))).trans R;have d3:b a≠L:=λh=>by rw[h,R]at q;cases q
  refine⟨_,_,_,⟨d3,aa a0 0 ?_,aa a0 1 A,aa a0 2 A,aa o 1 A,aa o 3 A,aa o 4 A,aa o 7 A,frozenAt o 1,frozenAt o 3,frozenAt o 4,frozenAt o 7⟩⟩;show C (Xn.int M m.kind)=_;rw[c8]
 .rw[<-H];refine⟨d0,e0,d9++[b5],?_,?_,?_⟩
  .rw[dh a6.ord a1];exact a8
  .rw[YA];refine t.stay λb3 c9=>T b3 λh=>?_;obtain⟨r,i,_⟩:=t.blk b3 c9;rw[h,o]at i;cases i
  have d6:∀(k:E)(r:Xu Xn)(v:XA),c.heap[k]?=C (Obj.cells r v (0,0))->v=190\/v=187\/v=94->w.heap[k]?=c.heap[k]?:=λk r v l D=>by
   refine O k (XZ.1 l).1 (λh=>?_) (λh=>?_) (λh=>?_)
   .rw[h,u]at l;cases l;revert D;decide
   .rw[h,q]at l;cases l;revert D;decide
   obtain⟨e4,i,_⟩:=z.blk _ h;rw[i]at l;cases l;revert D;decide
  refine(b1.stay d6).app ⟨b7.stay λk r v l D=>T k λh=>?_,trivial⟩;rw[h,o]at l;cases l;revert D;decide
 rw[<-H];refine⟨by omega,λk l a7 b6=>?_,λk l=>Xr (d4 k l),λk⟨f0,f1,f3,b0,c6⟩=>?_⟩
 .exact O k l (λh=>a7 (Xr h)) (λh=>a7 (Xs ⟨a,a1,Xr h⟩)) (λh=>b6 (a2 k h))
 rw[a8]at b0;cases b0;rcases X k c6 with p|p
 .exact Xr (a2 k p)
 exact Xs p
theorem Mt(r:qd d b f N g c)(L:WF d)(a5:TK d){h:Wt.Op}(b8:qj h){aL:Xt}{e3:Xt}(a7:c.cell? ⟨1,0,F⟩=C (Xo M e3))(e1:ux c)(d0:4<c.heap.size)(b0:g.length<2^18):
 Calls TP 113 #[pt N 0,.agg (uh h),Xo M ak,Xo M aL] c (gO d b f N g c (Wt.change d h ak aL)):=by
 by_cases a1:h.kind=3
 .have:=xD r L a5 b8 (ak:=ak) (aL:=aL) a7 e1 d0 b0 a1;unfold Wt.change;rw[XN a1];exact this
 obtain⟨f3,f2,a8,d8,e8⟩:=r.top;have c7:=aa a8 0 A;have b9:(bs h.path).size<2^31:=by rw[cT];have:=b8.path;omega
 have d7:(bs h.path).data.toList=h.path:=A;have T:=fL a1;unfold Wt.change;rw[XH a1];cases c6:Wt.split h.path with
 |none=>exact Mq T (Pr _ _ a7 b9 (by exact c6) .nilIface)
 |some a=>
  simp only;have P:=Sd (N:=N) r.lq L c7 (uh h) (bs h.path) a7 b9 (by rw[d7];exact c6);by_cases Z:h.kind=4/\a=[]
  .obtain⟨d1,rfl⟩:=Z;unfold uh at P⊢
   rw[d1]at P⊢
   exact Ps P
  rw[XH Z];by_cases a4:h.kind=5/\16<h.data.length
  .rw[XN a4];obtain⟨d2,Y⟩:=a4;unfold uh at P⊢
   rw[d2]at P⊢
   exact Pq P (by rw[cT];omega)
  rw[XH a4]
  have a0:h.kind=4->((a.length:Xt)==0)=Xp:=λw=>fL (by
   have:=λi=>Z ⟨w,i⟩;have:=I_.2 this
   omega)
  have Y:h.kind=5->¬16<((bs h.data).size:Xt):=λw=>by rw[cT];omega
  cases z:Wt.find d a with
  |none=>
   rw[z]at P;by_cases o:h.kind=4
   .have:=a0 o;unfold uh at P⊢
    rw[o]at P⊢
    exact Ml this P
   by_cases q:h.kind=5
   .have:=Y q;unfold uh at P⊢
    rw[q]at P⊢
    exact Mm this P
   exact Mn T (fL o) (fL q) P
  |some m=>
   rw[z]at P;simp only;have l:eT c N (uh h) (bs h.path) J a.length (pt (b a) 0):=P;have p:=Ud r.lq L z;have d6:(Wt.find d a).isSome=J:=by rw[z];rfl
   by_cases U:h.aE≠-1/\h.aE≠m.stat.aE
   .rw[XN U];have n:=uz U.1;have u:=uz U.2;by_cases o:h.kind=4
    .have:=a0 o;unfold uh at l⊢
     rw[o]at l⊢
     exact Pt this l p.lt p.aE n u
    by_cases q:h.kind=5
    .have:=Y q;unfold uh at l⊢
     rw[q]at l⊢
     exact Pu this l p.lt p.aE n u
    exact Pv T (fL o) (fL q) l p.lt p.aE n u
   rw[XH U]
   have a3:(h.aE !=-1)=Xp\/((h.aE !=-1)=J/\(h.aE !=m.stat.aE)=Xp):=by
    by_cases i:h.aE=-1
    .exact Xr (zJ i)
    exact Xs ⟨uz i,zJ (Classical.byContradiction λw=>U ⟨i,w⟩)⟩
   by_cases a2:h.kind=4/\0<m.stat.kids
   .rw[XN a2];obtain⟨o,W⟩:=a2;have:=a0 o;unfold uh at l⊢
    rw[o]at l⊢
    rcases a3 with n|⟨n,u⟩
    .exact Hl this l p (Xr n) W
    exact Hl this l p (Xs ⟨n,u⟩) W
   rw[XH a2];by_cases o:h.kind=4
   ·
    have W:=λw=>a2 ⟨o,w⟩;have e2:m.stat.kids=0:=by have:=L.kids a m z;omega
    obtain⟨s,S,rfl⟩:=Qq λi=>Z ⟨o,i⟩;obtain⟨b2,a9⟩:=Yd.1 (L.up (s++[S]) (by simp) d6);rw[Xq.dropLast_concat]at a9
    have O:∀k:K,(∀t,t<c.heap.size->k.heap[t]?=c.heap[t]?)->c.heap.size<k.heap.size->Calls TP 153 #[pt N 0,pt (b (s++[S])) 0] k λi e=>∃v,i=XB (Xw (C ⟨v,0,F⟩) 2 2)/\k.heap.size<=v/\v<e.heap.size/\k.heap.size<=e.heap.size/\e.heap[c.heap.size]?=k.heap[c.heap.size]?/\uO d b f N g s S b2 k (XB (Xw (C ⟨v,0,F⟩) 2 2)) e:=λk H R=>by
     refine(Sm (r.old H) L z a9 e2 b0 (a5 s b2 a9).1).mono ?_;intro i e x;obtain⟨v,rfl,y,a6⟩:=x.lE;refine⟨v,A,y,(XZ.1 a6).1,x.op.size,?_,x⟩;refine x.op.kept _ R (λw=>?_) (λw=>?_)
     .rcases w with i|⟨e9,c0,i|i⟩
      .have:=(XZ.1 a8).1;omega
      .have:=(r.lq.lt c0).1;omega
      have:=(r.lq.lt c0).2;omega
     obtain⟨f0,f1,f4,b5,d5⟩:=(DO r H).1 w;rw[a8]at b5;cases b5;have:=d8.lt _ d5;omega
    have D:∀i e,QV (bs h.path) (λk v e=>uO d b f N g s S b2 k (XB (Xw (C ⟨v,0,F⟩) 2 2)) e) c i e->gO d b f N g c (.yes (Wt.drop d (s++[S])) h.path (kC (s++[S]))) i e:=λi e⟨v,k,R,H,Q,x⟩=>by obtain⟨e7,d4,y,a6⟩:=x.lE;cases d4;refine⟨b,f,_,_,Q,x.tree,by simp,(yo.same r R H).trans x.op,Xs ⟨v,A,by simp[kC],by omega,?_⟩⟩;rw[a6];simp[ij,kC]
    have:=a0 o;unfold uh at l⊢
    rw[o]at l⊢
    rcases a3 with n|⟨n,u⟩
    .exact(Mk this l p (Xr n) W O).mono D
    exact(Mk this l p (Xs ⟨n,u⟩) W O).mono D
   rw[XH o];by_cases q:h.kind=5
   .have O:∀k:K,(∀t,t<c.heap.size->k.heap[t]?=c.heap[t]?)->c.heap.size<=k.heap.size->Calls TP 157 #[pt N 0,pt (b a) 0] k λi e=>i=XB (.tuple #[])/\(c.heap.size<k.heap.size->k.heap[c.heap.size]?=C (Xx (uh h) 28 (0,0))->∃e4 e5 e6,LJ e (b a) c.heap.size (bs h.path) (bs h.data) e4 e5 m.stat.aE e6)/\∃s,qd (Wt.put d a (jS m h aL)) b f N (g++[s]) (setW e (b a) (bs h.data) aL m.stat.aE)/\yo N d b f (Wt.put d a (jS m h aL)) b f k (setW e (b a) (bs h.data) aL m.stat.aE):=λk H R=>
     (UL (r.old H) L z b0 q aL).mono λi e⟨Q,c8,c9⟩=>⟨Q,λ_ y=>c8 _ y,c9⟩
    have D:∀i e,QW (bs h.path) (bs h.data) aL m.stat.aE (b a) (λk e=>∃s,qd (Wt.put d a (jS m h aL)) b f N (g++[s]) (setW e (b a) (bs h.data) aL m.stat.aE)/\yo N d b f (Wt.put d a (jS m h aL)) b f k (setW e (b a) (bs h.data) aL m.stat.aE)) c i e->gO d b f N g c (.yes (Wt.put d a (jS m h aL)) h.path [(3,h.path)]) i e:=λi e⟨k,X,R,H,⟨s,b4,b3⟩,Q,b1⟩=>by
     have d9:(setW X (b a) (bs h.data) aL m.stat.aE).heap.size=X.heap.size:=by simp only[aR]
     have b7:∀t,t<(setW X (b a) (bs h.data) aL m.stat.aE).heap.size->e.heap[t]?=(setW X (b a) (bs h.data) aL m.stat.aE).heap[t]?:=λt d3=>by rw[b1];exact Yc _ _ _ d3
     have e0:(setW X (b a) (bs h.data) aL m.stat.aE).heap.size<=e.heap.size:=by rw[b1];simp
     refine⟨b,f,[s],_,Q,b4.old b7,by simp,((yo.same r R H).trans b3).trans (yo.same b4 e0 b7),Xs ⟨_,A,by simp,?_,?_⟩⟩
     .have:=b3.size;omega
     rw[b1,<-d9];exact YZ _ _
    have b6:=(a5 a m z).2;have:=Y q;unfold uh at l O⊢
    rw[q]at l O⊢
    rcases a3 with n|⟨n,u⟩
    .exact(Mo this l p (Xr n) ⟨b6.1,by omega⟩ O).mono D
    exact(Mo this l p (Xs ⟨n,u⟩) ⟨b6.1,by omega⟩ O).mono D
   rw[XH q]
   have D:∀i e,Lq (bs h.path) c i e->gO d b f N g c (.yes d h.path []) i e:=λi e⟨Q,y⟩=>⟨b,f,[],_,Q,by rw[Zf];exact r.old y.block,by simp,yo.same r y.size y.block,Xr ⟨A,A⟩⟩
   rcases a3 with n|⟨n,u⟩
   .exact(Hm T (fL o) (fL q) l p (Xr n)).mono D
   exact(Hm T (fL o) (fL q) l p (Xs ⟨n,u⟩)).mono D
end
variable{a:K}{u:E}
abbrev Fp(f d:Xt)(N g b:E)(now aL kW:Xt)(e c:Xn):Xu Xn:=#[i64 f,i64 d,pt N 0,pt g 0,.map (C b),i64 now,i64 aL,i64 kW,e,c]
section
variable{g b:E}{f d now aL kW id h:Xt}{e c:Xn}
theorem JY(xx:a.heap[u]?=C (Xx (Fp f d N g b now aL kW e c) 98 (0,0)))(m:(Instr.lookup 96 (.map (C b)) (Xo M id) J).run TP a=.ok (.tuple #[Xo M h,.bool J]) a)
 {i:K}(n:(Instr.mapUpdate 96 (.map (C b)) (Xo M id) (Xo M now)).run TP a.drew=.ok () i):
 Calls TP 64 #[pt u 0,Xo M id] a λk l=>k=XB (.bool J)/\l=i:=by
 have c4:=aa xx 4 A;have c5:=aa xx 5 A;go_enter Tryz.func64,Tryz.ntmps64
 go_wp2
 go_still_tail 9,(by kernel_rfl)
 go_wp2
 go_ret;simp
theorem Np(xx:a.heap[u]?=C (Xx (Fp f d N g b now aL kW e c) 98 (0,0)))(l:(Instr.lookup 96 (.map (C b)) (Xo M id) J).run TP a=.ok (.tuple #[Xo M h,.bool Xp]) a):
 Calls TP 64 #[pt u 0,Xo M id] a λi k=>i=XB (.bool Xp)/\k=a:=by
 have c4:=aa xx 4 A;go_enter Tryz.func64,Tryz.ntmps64
 go_wp2
 go_ret;simp
theorem FB(a:K):Calls TP 104 #[.nilIface] a λb c=>b=XB (Xo M 0)/\c=a:=by
 go_enter Tryz.func104,Tryz.ntmps104
 go_wp2
 go_ret;simp
theorem Ma(b:Xt)(a:K):(Instr.typeAssert (.iface 32 (Xo M b)) 65 32 J).run TP a=.ok (.tuple #[Xo M b,.bool J]) a:=by rfl
theorem FC(a:K)(b:Xt):Calls TP 104 #[.iface 32 (Xo M b)] a λc d=>c=XB (Xo M b)/\d=a:=by
 have e:=Ma b a;go_enter Tryz.func104,Tryz.ntmps104
 go_wp2
 go_ret;simp
end
variable{b:XA}{W:Xn}{S:E}{s:E}{U:E}{y:XM}
abbrev oV(f g h i:Xt)(x y:XM)(t:Xy)(k l m o p q r:Xt)(a b:Xn):Xu Xn:=#[i64 f,i64 g,i64 h,i64 i,.string x,.string y,.bool t,i64 k,i64 l,i64 m,i64 o,i64 p,i64 q,i64 r,a,b]
theorem Ry:∃a c,TP.underlying 43=C (.slice 38)/\(TP.info? 38=C a/\a.zero=C c/\a.size=16/\a.bytes<=1000/\c.cells.size=16/\0<16)/\∀d∈c.cells.toList,NB d:=by refine⟨_,_,A,⟨A,A,A,by decide,A,by decide⟩,?_⟩;intro d e s b;subst b;have:Xn.int .u8 s∈(oV 0 0 0 0 ⟨#[]⟩ ⟨#[]⟩ Xp 0 0 0 0 0 0 0 (Xw F 0 0) (Xw F 0 0)).toList:=e;simp at this
theorem yc{O:Xn->Prop}{size:E}{T:Xq Xn}{c:Oper}{d:XF}{p:XF->K->Prop}{r:Prop}(a4:c.guard=F)(q l:XV)(n:XA)
 (L:c.op=.call {callee:=.builtin .append,args:=#[q,l],argTypes:=#[n,n]})(R:d.eval q=W)(t:bV O a b size W S T){k:TypeInfo}{o:Xn}(X:TP.underlying n=C (.slice b))(e:TP.info? b=C k/\k.zero=C o/\k.size=size/\k.bytes<=1000/\o.cells.size=size/\0<size)(a0:∀l∈o.cells.toList,O l)
 {m:XG}(Z:d.eval l=Xw (C m) s U)(f:Xq Xn)(y:f.length=s*size)(H:∀j g,f[j]?=C g->a.cell? (m.add j)=C g)(u:∀g∈f,g.oneCell'=J/\O g)(z:S+s<2^30)
 (next:∀h i,bV O i b size h (S+s) (T++f)->a.grownBy i W.ownBlock->jC a W h->p (d.put c.dst h) i):if Region.wanted c (yielded D d.tmps)=J then Oper.wp TP c d a p Q else r:=by
 have Y:Region.wanted c (yielded D d.tmps)=J:=by grind [Region.wanted]
 rw[XN Y];obtain⟨h,i,N,v,w,x⟩:=mg (y:=c.type) t X e.1 e.2.1 e.2.2.1 e.2.2.2.1 e.2.2.2.2.1 e.2.2.2.2.2 a0 m s U f y H u z;unfold Oper.wp execOp;simp only[L,resolve,invoke,builtin,ZB,aaX,B_,Zl,Zj,Zs,R,Z,N];exact next h i v w x
theorem Kj(b:K)(V:Xu Xn)(c:XA):∀(j:E) a,V.toList[j]?=C a->(b.alloc (.cells V c)).cell? ((⟨b.heap.size,0,F⟩:XG).add j)=C a:=λj a d=>by grind [nL,heap_alloc_new,World.cell?]
theorem Rs{f g h i:Xt}{x:XM}{t:Xy}{k l m o p q r:Xt}{L N:Xz XG}{z c1 H c2:E}:∀a∈(oV f g h i x y t k l m o p q r (.slice L z c1) (.slice N H c2)).toList,a.oneCell'=J/\NB a:=by intro a c;simp only[oV,Yg,Yo,Ze]at c;rcases c with rfl|rfl|rfl|rfl|rfl|rfl|rfl|rfl|rfl|rfl|rfl|rfl|rfl|rfl|rfl|rfl<;>exact⟨A,λs b=>by cases b⟩
def LI(u:E)(O:Xu Xn)(R:Xn)(S:E)(T jm:Xq Xn)(a:K)(b:Ending)(d:K):Prop:=b=XB (.tuple #[])/\a.heap.size<=d.heap.size/\(∀c,c<a.heap.size->c≠u->R.ownBlock≠C c->d.heap[c]?=a.heap[c]?)/\
 ∃e,d.heap[u]?=C (Xx (O.setIfInBounds 8 e) 98 (0,0))/\bV NB d 38 16 e (S+1) (T++jm)/\jC a R e
section
variable{O:Xu Xn}{R:Xn}{T:Xq Xn}{f g h i:Xt}{x:XM}{t:Xy}{k l m o p q r:Xt}{L N:Xz XG}{z c1 H c2:E}
theorem Ov(xx:a.heap[u]?=C (Xx O 98 (0,0)))(a6:O[8]?=C R)(D:bV NB a 38 16 R S T)(f8:S<2^20):
 Calls TP 60 #[pt u 0,.agg (oV f g h i x y t k l m o p q r (.slice L z c1) (.slice N H c2))] a (LI u O R S T (oV f g h i x y t k l m o p q r (.slice L z c1) (.slice N H c2)).toList a):=by
 obtain⟨f9,g3,c7,b9,c8⟩:=Ry;obtain⟨V,f5⟩:∃V,V=oV f g h i x y t k l m o p q r (.slice L z c1) (.slice N H c2):=by simp
 have a9:=(XZ.1 xx).1
 have b0:R.ownBlock≠C u:=λb=>by obtain⟨U,v,_⟩:=D.blk u b;simp_all
 obtain⟨e,b8⟩:∃e,a.alloc (.cells (oV f g h i x y t k l m o p q r (.slice L z c1) (.slice N H c2)) 38)=e:=by simp
 have w:∀d,d<a.heap.size->e.heap[d]?=a.heap[d]?:=by grind [Below.heap_alloc]
 have c:e.heap[a.heap.size]?=C (Xx (oV f g h i x y t k l m o p q r (.slice L z c1) (.slice N H c2)) 38 (0,0)):=by grind [heap_alloc_new]
 have b2:e.heap.size=a.heap.size+1:=by rw[<-b8];simp
 have n:=(w u a9).trans xx;have d3:=aa n 8 a6;have d7:=aa c 0 A;have d8:=aa c 1 A;have e5:=aa c 2 A;have e6:=aa c 3 A;have e7:=aa c 4 A;have e8:=aa c 5 A;have e9:=aa c 6 A;have f0:=aa c 7 A;have f1:=aa c 8 A;have f2:=aa c 9 A;have d9:=aa c 10 A;have e0:=aa c 11 A;have e1:=aa c 12 A;have e2:=aa c 13 A;have e3:=aa c 14 A;have e4:=aa c 15 A;have c6:=λc9=>(D.stay (w':=e.drew) λQ a0=>w Q (D.lt Q a0)).alloc c9
 have a8:∀s,(e.drew.alloc (.cells (oV f g h i x y t k l m o p q r (.slice L z c1) (.slice N H c2)) 38)).grownBy s R.ownBlock->∀d,d<a.heap.size->R.ownBlock≠C d->s.heap[d]?=a.heap[d]?:=λs Y d X c0=>by rw[Y.block d (by show d<(e.heap.push _).size;simp;omega) (λb=>c0 b.symm),Yc _ _ _ (by show d<e.heap.size;omega)];exact w d X
 have KP:=Xv a8;have b3:=Xv xx;have d1:=Xv w;have b4:=Xv b0;have d0:=Xv D.lt;have b6:=Xv b2;have HC:=Xv a9;have f7:u<e.heap.size:=by omega
 have d4:(e.alloc (.cells (oV f g h i x y t k l m o p q r (.slice L z c1) (.slice N H c2)) 38)).cell? ⟨u,8,F⟩=C R:=by simp_all [YJ]
 clear xx D b0 w c n b2 a8;go_enter Tryz.func60,Tryz.ntmps60
 go_wp2
 go_region_law (first|(refine yc rfl _ _ 43 rfl rfl (c6 _) c7 b9 c8 rfl (oV f g h i x y t k l m o p q r (.slice L z c1) (.slice N H c2)).toList rfl (Kj e.drew _ _) Rs (by omega) ?_;intro g1 s a1 Z b1;obtain⟨d2,g0,d6,rfl⟩:=a1.slice;have n:=(KP.out s Z u HC.out b4.out).trans b3.out;have d5:=aa n 8 a6;have f3:=frozenAt n 8;have a2:=Xv n;have a3:=Xv Z;have b5:=Xv b1;have a4:=Xv a1;clear n b1 a1 Z))
 all_goals
  go_end0
  have a7:(e.drew.alloc (.cells (oV f g h i x y t k l m o p q r (.slice L z c1) (.slice N H c2)) 38)).heap.size=a.heap.size+2:=by show(e.heap.push _).size=_;simp;exact b6.out
  have f6:a.heap.size+2<=s.heap.size:=by rw[<-a7];exact a3.out.size
  refine⟨A,by grind [aR],λd X v b7=>?_,_,aA a2.out,?_,λa5 Y=>?_⟩
  .rw[ai v];exact KP.out s a3.out d X b7
  .refine a4.out.stay λQ a0=>ai λb=>?_;obtain⟨U,v,_⟩:=a4.out.blk Q a0;rw[b,a2.out]at v;cases v
  rcases b5.out a5 Y with W|W
  .exact Xr W
  have f4:a.heap.size+2<=a5:=by rw[<-a7];exact W
  omega
end
end Go.Sv
namespace Go.Sim
open Go.Conc Go.Proofs Go.RowKit
open Go.ConcN (PermW PermW.app PermW.of fork_knows WgLive RelBy sumTo)
open Go.ConcR (KK wgBlock WgAt stA smA rd wr mk DC0)
variable{v:Xn}{b:K}{c:K}{D:Xu Oper}{o:Oper}{d:XF}{Q:Exit->XF->K->Prop}
section
variable[Inhabited aN]
def dL(rq:E->RV)(b:Xq E):Xq Xn:=b.flatMap λa:E=>(aP (a:Xt) (rq a)).toList
theorem gD(rq:E->RV):∀a:Xq E,(dL rq a).length=a.length*9
 |[]=>rfl
 |b::a=>by
  have:=gD rq a;unfold dL at this⊢
  rw[ZF,YA,this];simp[aP];omega
theorem nz(rq:E->RV)(b:Xq E)(a:E):dL rq (b++[a])=dL rq b++(aP a (rq a)).toList:=by simp[dL]
theorem wJ(rq:E->RV):∀(b:Xq E)(a j:E),j<9->a<b.length->(dL rq b)[a*9+j]?=(aP (b.getD a 0) (rq (b.getD a 0)))[j]?
 |[],a,j,_,c=>by simp at c
 |d::b,0,j,e,_=>by
  unfold dL;rw[ZF,Zo (by simp[aP];omega)];simp
 |d::b,a+1,j,e,c=>by
  have f:=wJ rq b a j e (by simpa using c);unfold dL at f⊢
  rw[ZF,YQ (by simp[aP];omega)];have g:(a+1)*9+j-(aP (↑d) (rq d)).toList.length=a*9+j:=by simp[aP];omega
  simp_all
def om(f:E)(rq:E->RV)(a:Xq E)(v:Xn)(b:K):Prop:=
 (v=Xw F 0 0/\a=[])\/
 ∃e c d,v=Xw (C ⟨e,0,F⟩) a.length c/\f<=e/\b.heap[e]?=C (Xx d 107 (0,0))/\0<a.length/\a.length<=c/\c<=maxLen/\d.size=c*9/\d.toList.take (a.length*9)=dL rq a/\∀g∈d.toList,Calm g
theorem om.kept{h:E}{rq:E->RV}{f:Xq E}(e:om h rq f v b)(p:∀a,v.ownBlock=C a->c.heap[a]?=b.heap[a]?):om h rq f v c:=by
 rcases e with e|⟨a,i,k,g,l,m,n⟩
 .exact Xr e
 exact Xs ⟨a,i,k,g,l,by rw[p a (by rw[g];rfl)];exact m,n⟩
theorem Hk(i:Xt)(e:RV):∀f∈(aP i e).toList,Calm f:=by
 intro f c;have a:∀b,aQ (λ_=>False) b->(∀k,b≠.int .u8 k)->Calm b:=λb g h=>⟨Xr g,h⟩;simp only[aP,Yg,Yo,Ze]at c;rcases c with rfl|rfl|rfl|rfl|rfl|rfl|rfl|rfl|rfl
 .exact a _ (.int _ _) (by simp)
 .exact a _ (.int _ _) (by simp)
 .exact a _ (.int _ _) (by simp)
 .exact a _ (.string _) (by simp)
 .exact a _ (.string _) (by simp)
 .exact a _ (.int _ _) (by simp)
 .exact a _ (.int _ _) (by simp)
 .exact a _ (.bool _) (by simp)
 cases l:e.oa with
 |none=>exact a _ (.aO _ _) (by simp)
 |some d=>exact⟨Xs trivial,by simp⟩
theorem GQ:TP.underlying 103=C (.slice 107):=A
theorem PV:∃a b,TP.info? 107=C a/\a.zero=C b/\a.size=9/\a.bytes<=1000/\b.cells=#[Xo M 0,Xo M 0,Xo M 0,.string XM.empty,.string XM.empty,Xo M 0,Xo M 0,.bool Xp,Xw F 0 0]:=by refine⟨_,_,A,A,A,by decide,A⟩
theorem Jt:∀c,∀g∈(Builtin.zeroCells #[Xo M 0,Xo M 0,Xo M 0,.string XM.empty,.string XM.empty,Xo M 0,Xo M 0,.bool Xp,Xw F 0 0] c).toList,Calm g:=by
 intro c g e;have a:∀d,aQ (λ_=>False) d->(∀c,d≠.int .u8 c)->Calm d:=λd h i=>⟨Xr h,i⟩;unfold Builtin.zeroCells at e;simp only[aaL,YL]at e;obtain⟨f,_,rfl⟩:=e;have k:f%9<9:=by omega
 generalize f%9=b at k;rcases(by omega:b=0\/b=1\/b=2\/b=3\/b=4\/b=5\/b=6\/b=7\/b=8)with rfl|rfl|rfl|rfl|rfl|rfl|rfl|rfl|rfl
 .exact a _ (.int _ _) (by simp)
 .exact a _ (.int _ _) (by simp)
 .exact a _ (.int _ _) (by simp)
 .exact a _ (.string _) (by simp)
 .exact a _ (.string _) (by simp)
 .exact a _ (.int _ _) (by simp)
 .exact a _ (.int _ _) (by simp)
 .exact a _ (.bool _) (by simp)
 exact a _ (.aO _ _) (by simp)
theorem sU{m:E}{rq:E->RV}{d:Xq E}{a l:E}{Q:E×E}(n:XA)(R:om m rq d v b)(a3:b.heap[l]?=C (Xx (aP a (rq a)) 107 Q))(a9:d.length<2^30)(a1:m<=b.heap.size):
 ∃y c,(Builtin.append_ #[103,103] n #[v,Xw (C ⟨l,0,F⟩) 1 1]).run TP b=.ok y c/\om m rq (d++[a]) y c/\b.grownBy c v.ownBlock/\∀e,y.ownBlock=C e->v.ownBlock=C e\/b.heap.size<=e:=by
 obtain⟨k,p,s,O,w,X,a4⟩:=PV;have u:∀j h,(aP a (rq a)).toList[j]?=C h->b.cell? ((⟨l,0,F⟩:XG).add j)=C h:=by grind [Addr.add,World.cell?]
 have r:(aP a (rq a)).toList.length=1*k.size:=by rw[w];rfl
 have D:∀(old:E),old<d.length+1->∀row:Xz E,
  om m rq (d++[a]) (Xw (C ⟨b.heap.size,0,F⟩) (d.length+1) (grownCap b (d.length+1) old 107)) (b.drew.alloc (.cells ((dL rq d).toArray++(aP a (rq a))++Builtin.zeroCells p.cells (grownCap b (d.length+1) old 107-(d.length+1))) 107))/\
  b.grownBy (b.drew.alloc (.cells ((dL rq d).toArray++(aP a (rq a))++Builtin.zeroCells p.cells (grownCap b (d.length+1) old 107-(d.length+1))) 107)) row:=by
  intro old b0 row;have a8:=aaD b (d.length+1) old 107;have Y:=K_ b (d.length+1) old 107 (by grind [maxLen]);have a0:(d++[a]).length=d.length+1:=by simp
  refine⟨Xs ⟨b.heap.size,_,_,by rw[a0],a1,Yx b.drew _,by omega,by omega,Y,?_,?_,?_⟩,⟨A,A,A,by simp,λa t _=>aaw b.drew _ t⟩⟩
  .rw[a4];simp only[A_,YF,abj,gD];have:(aP a (rq a)).size=9:=A;simp;omega
  .have z:(dL rq d).toArray.toList++(aP a (rq a)).toList=dL rq (d++[a]):=by rw[nz]
   grind [gD]
  intro b2 a3
  grind [dL,Hk,Jt]
 have b1:(aP a (rq a)).toList.toArray=aP a (rq a):=A;rcases R with⟨rfl,rfl⟩|⟨e,g,q,rfl,S,H,a5,a6,T,L,U,a7⟩
 .have i:=run_append_nil (P:=TP) b 103 n 107 k p GQ s O ⟨l,0,F⟩ 1 1 _ r u (by omega) (by omega) (by omega);have f:=D 0 (by omega) (Xn.ownBlock (Xw F 0 0));exact⟨_,_,i,f.1,f.2,λe f=>by cases f;simp⟩
 by_cases N:d.length+1<=g
 .have Z:d.length*k.size+(aP a (rq a)).toList.length<=q.size:=by
   rw[w,L];show d.length*9+9<=g*9;omega
  have i:=run_append_room (P:=TP) b 103 n 107 k GQ s e d.length g q H ⟨l,0,F⟩ 1 1 _ r u (by
   intro h x;simp only[aP,Yg,Yo,Ze]at x
   rcases x with rfl|rfl|rfl|rfl|rfl|rfl|rfl|rfl|rfl<;>rfl) N Z
  rw[w]at i;refine⟨_,_,i,Xs ⟨e,g,_,by simp,S,k_ b e q _ 107 _ H,by simp,by simpa using N,T,?_,?_,?_⟩,⟨A,A,A,by simp,λa _ t=>ZO b e a _ (λz=>t (by simp[Xn.ownBlock,z]))⟩,λe f=>Xr f⟩
  .have W:(aP a (rq a)).toList.length=9:=A;simp only[YF,YA,ZJ,aaJ,aap,L,W];omega
  .rw[U,<-nz];exact aam (by rw[gD])
  grind [Hk]
 have a2:∀j h,(dL rq d)[j]?=C h->b.cell? ((⟨e,0,F⟩:XG).add j)=C h:=λj h x=>by grind [Addr.add,World.cell?]
 have i:=run_append_grow (P:=TP) b 103 n 107 k p GQ s O ⟨e,0,F⟩ d.length g (dL rq d) (by grind) a2 ⟨l,0,F⟩ 1 1 _ r u (by omega) (by omega) (growslice_fits (by omega) (by
  have:(d.length+1)*k.bytes<=1073741824*1000:=abk (by omega) X
  omega))
 have f:=D g (by omega) (Xn.ownBlock (Xw (C ⟨e,0,F⟩) d.length g));exact⟨_,_,i,f.1,f.2,λe f=>by cases f;simp⟩
theorem oy{i:Xq Oper}{h:E}{rq:E->RV}{e:Xq E}{g m:E}{n:E×E}(w:o.guard=F)(k l:XV)
 (z:o.op=.call {callee:=.builtin .append,args:=#[k,l],argTypes:=#[103,103]})(L:d.eval k=v)(N:d.eval l=Xw (C ⟨m,0,F⟩) 1 1)
 (p:om h rq e v b)(u:b.heap[m]?=C (Xx (aP g (rq g)) 107 n))(y:e.length<2^30)(x:h<=b.heap.size)
 (next:∀a c,om h rq (e++[g]) a c->b.grownBy c v.ownBlock->(∀f,a.ownBlock=C f->v.ownBlock=C f\/b.heap.size<=f)->wpList TP D Q i (d.put o.dst a) c):wpList TP D Q (o::i) d b:=by
 refine wpList_plain w λO t=>?_;obtain⟨a,c,H,q,r,s⟩:=sU o.type p u y x;unfold Oper.wp execOp;simp only[z,resolve,invoke,builtin,ZB,aaX,B_,Zl,Zj,Zs,L,N,H];exact t _ _ (next a c q r s)
variable{a:K}{f:Set}{m:Ren}{c:Xn}{q:K}{P:XI}{z:eA}{h:E->Prop}{d:XD}{s:E}{u:E}{e:E}
def gw(a b:K)(c:E):Prop:=b.heap[c]?=a.heap[c]?\/∃d e f g,aS d/\a.heap[c]?=C (Obj.cells d e f)/\b.heap[c]?=C (Obj.cells d e g)
theorem gw.trans{x y:K}{o:E}(r:gw a x o)(g:gw x y o):gw a y o:=by
 rcases r with r|⟨i,n,k,p,l,t,v⟩
 .rcases g with g|⟨i,n,k,p,l,t,v⟩
  .exact Xr (g.trans r)
  exact Xs ⟨i,n,k,p,l,by simp_all,v⟩
 rcases g with g|⟨c2,O,L,D,N,w,H⟩
 .exact Xs ⟨i,n,k,p,l,t,by simp_all⟩
 rw[v]at w;cases w;exact Xs ⟨i,n,k,D,l,t,H⟩
structure gK(own i:E->Prop)(a b:K):Prop where
 size:a.heap.size<=b.heap.size
 keep:∀g,g<a.heap.size->¬own g->gw a b g
 more:∀g,i g->own g\/a.heap.size<=g
theorem gK.refl(own:E->Prop)(a:K):gK own own a a:=⟨Ye _,λ_ _ _=>Xr A,λ_ b=>Xr b⟩
theorem gK.trans{own r t:E->Prop}{v w:K}(i:gK own r a v)(n:gK r t v w):gK own t a w where
 size:=Yi i.size n.size
 keep:=λg l p=>(i.keep g l p).trans (n.keep g (Yk l i.size) λk=>by
  rcases i.more g k with o|o
  .exact p o
  omega)
 more:=λg l=>by
  rcases n.more g l with k|k
  .exact i.more g k
  exact Xs (Yi i.size k)
theorem gK.free{own e:E->Prop}(f:gK own e a b){c:E}(i:c<a.heap.size)(h:¬own c):¬e c:=λg=>by
 rcases f.more c g with d|d
 .exact h d
 omega
theorem aI.qX{own d:E->Prop}(c:aI own d a b):gK own d a b:=⟨c.size,λe f g=>Xr (c.keep e f g),c.more⟩
structure Pf(own use:E->Prop)(a b:K):Prop where
 size:a.heap.size<=b.heap.size
 own:∀g,own g->b.heap[g]?=a.heap[g]?
 use:∀g,use g->(b.heap[g]?).map Obj.whole=(a.heap[g]?).map Obj.whole
theorem wM{own e:E->Prop}(g:∀c,own c\/e c->c<a.heap.size)(h:a.heap.size<=b.heap.size)(f:∀c,c<a.heap.size->b.heap[c]?=a.heap[c]?):Pf own e a b:=⟨h,λc d=>f c (g c (Xr d)),λc d=>by simp_all⟩
def iw(c d:E->Prop)(b:E):Prop:=∀a,d a->c a\/b<=a
theorem iw.trans{n o p:E->Prop}{g l:E}(r:iw n o g)(t:iw o p l)(w:g<=l):iw n p g:=λi v=>by
 rcases t i v with k|k
 .exact r i k
 omega
structure nI(own:E->Prop)(a b:K):Prop where
 size:b.heap.size=a.heap.size
 os:b.os=a.os
 blk:∀g,b.heap[g]?=a.heap[g]?\/own g/\∃i k r o,a.heap[g]?=C (Obj.cells i r o)/\b.heap[g]?=C (Obj.cells k r o)/\k.size=i.size/\∀(p:E) c n,i[p]?=C c->k[p]?=C n->n=c\/(n=.tuple #[]/\bN c)
theorem Am{b:Xn}(d:an f m c b)(a:bN c):bN b:=by
 cases d with
 |bS=>exact a.elim
 |ptr=>trivial
 |slice=>trivial
 |map=>trivial
 |chan=>trivial
 |func e=>cases e with
  |func=>trivial
  |yield=>trivial
 |int=>exact a
 |_=>exact a.elim
theorem aU.forget{own:E->Prop}(g:aU f m a q)(l:nI own a b):aU f m b q where
 inj:=g.inj
 obj:=λh p x=>by
  obtain⟨T,U,i,v,w⟩:=g.obj h p x;rcases l.blk h with Q|⟨_,e,O,L,R,r,s,t,u⟩
  .simp_all
  rw[r]at i;cases i;cases w with
  |cells _ k H=>
  refine⟨_,_,s,v,.cells L ⟨t.trans k.1,λd c N z D=>?_⟩ H⟩;have n:d<e.size:=by grind
  have o:=k.2 d e[d] N (Yb n) D;rcases u d e[d] c (Yb n) z with rfl|⟨rfl,y⟩
  .exact o
  exact .bS (Am o y)
 os:=l.os.trans g.os
theorem CI{i:dc}{l:Xz dv}{own:E->Prop}(k:nI own a b)(w:∀c,h c->¬own c)(next:(goalAt P i l z f h).G m b d):(goalAt P i l z f h).G m a d:=by
 intro g o q sl u n e;refine next g o q sl u n ⟨e.ok.bf A rfl rfl,e.bC,?_,e.me,e.hears⟩
 have:=e.bf;refine⟨this.base,this.rel.forget k,λc s=>?_,this.dz,this.dY,this.low⟩;obtain⟨t,p,r⟩:=this.cQ c s;rcases k.blk c with g|⟨v,_⟩
 .exact⟨t,by rw[g];exact p,r⟩
 simp_all
structure LL(y k:E->Prop)(look:E->LR)(v u D e:E)(rq:E->RV)(a:K):Prop where
 xt:∀g,k g->(∃o H p,a.heap[g]?=C (Xx o H p)/\0<o.size/\p.2<=o.size/\¬aS o/\∀(t:E) c,o[t]?=C c->aQ k c)\/∃w l,a.heap[g]?=C (.map w l)/\∀r∈w.toList,aQ k r.key/\aQ k r.val
 TI:k v
 hc:∃i L p,a.heap[u]?=C (Xx i L p)/\p.2<=i.size/\i[1]?=C (Xo M D)/\i[2]?=C (pt v 0)/\¬aS i/\∀(t:E) c,i[t]?=C c->Ja c
 look:∀l,l<e->∀n:K,(∀g,k g\/y g->n.heap[g]?=(a.heap[g]?).map Obj.whole)->a.heap.size<=n.heap.size->Calls TP 58 #[pt v 0,.string (rq l).path] n λr b=>∃x,r=XB (.tuple #[.agg x,(look l).ev])/\cm (look l) n.heap.size x b/\Below n.heap.size n b
structure HC{r:Type}(St:r->(E->Prop)->(E->Prop)->K->Prop)(w:r->E->Xn->(E->Prop)->(E->Prop)->K->Prop)(rd O:r->E->r)(look:r->E->LR)(R:E->Prop)(u x e:E)(rq:E->RV)(v:E->Xy)(D:E->Xn)(cnt:r->E):Prop where
 Vl:∀i g,cnt (rd i g)=cnt i+1
 Sh:∀i g,cnt (O i g)=cnt i+1
 sm:∀i own k a b,Pf own k a b->St i own k a->St i own k b
 lt:∀i own k a,St i own k a->∀l,own l\/k l->l<a.heap.size
 EO:∀i own k a,St i own k a->∀l,own l->∀L T S,a.heap[l]?=C (Xx L T S)->¬aS L
 pre:∀i own k a,St i own k a->∃b H U,nI own a b/\St i own k b/\(∀l,H l->own l)/\LL R H (look i) U u x e rq b
 ev:∀i g,Plain (look i g).ev
 WC:∀i g j,look (rd i g) j=look i j
 mh:∀i g n own k(a b:K),b.heap=a.heap->w i g n own k a->w i g n own k b
 Rx:∀i g,g<e->v g=J->cnt i=g->∀own k a N y,St i own k a->cm (look i g) N y a->nJ own y->Calls TP 61 #[pt u 0,.agg (aP g (rq g)),.agg (y.push (look i g).ev)] a λt b=>∃n o p,t=XB n/\w i g n o p b/\aI own o a b/\iw k p (min N a.heap.size)
 snd:∀i g,g<e->v g=J->cnt i=g->∀n own k a,w i g n own k a->Calls TP 60 #[pt u 0,n] a λt b=>∃o p,t=XB (.tuple #[])/\St (rd i g) o p b/\aI own o a b/\iw k p a.heap.size
 one:∀i g,g<e->v g=Xp->cnt i=g->∀own k a,St i own k a->Calls TP 40 #[pt u 0,D g] a λt b=>∃o p,t=XB (.tuple #[])/\St (O i g) o p b/\aI own o a b/\iw k p a.heap.size
 yes:∀g,g<e->v g=J->D g=.iface 107 (.agg (aP g (rq g)))
 no:∀g,g<e->v g=Xp->∃Q W,D g=.iface Q W/\Q≠107
 Ip:1<=x/\x<2^16
 small:e<2^20
theorem yT{b:Type}{rd:b->E->b}{look:b->E->LR}(d:∀a e j,look (rd a e) j=look a j)(j:E):∀(c:Xq E)(a:b),look (c.foldl rd a) j=look a j
 |[],_=>rfl
 |e::c,a=>by rw[i_,yT d j c,d]
theorem nH.same{own k:E->Prop}(g:nH a b)(l:∀c,own c\/k c->c<a.heap.size)(q:∀c,own c->∀d i f,a.heap[c]?=C (Obj.cells d i f)->¬aS d):Pf own k a b where
 size:=g.1
 own:=λc h=>by
  rcases g.2 c (l c (Xr h))with e|⟨d,i,f,n,o,m,_⟩
  .exact e
  grind
 use:=λc h=>by
  rcases g.2 c (l c (Xs h))with e|⟨d,i,f,n,o,m,p⟩
  .rw[e]
  rw[m,p];rfl
theorem mW{a:Xq E}(b:s<a.length):a.getD s 0∈a:=by simp_all
theorem qp{c:Type}{rd:c->E->c}{cnt:c->E}(d:∀a e,cnt (rd a e)=cnt a+1):∀(b:Xq E)(a:c),cnt (b.foldl rd a)=cnt a+b.length
 |[],_=>rfl
 |e::b,a=>by rw[i_,qp d b,d,Yv];omega
theorem DV{S:Type}{St:S->(E->Prop)->(E->Prop)->K->Prop}{b4:S->E->Xn->(E->Prop)->(E->Prop)->K->Prop}{rd f9:S->E->S}{look:S->E->LR}{b5:E->Prop}{c7:E}{rq:E->RV}{c6:E->Xy}{g7:E->Xn}{cnt:S->E}
 (p:HC St b4 rd f9 look b5 u c7 e rq c6 g7 cnt){b3:dc}(e1:kq b3 h){own v:E->Prop}{o:S}{g:Xq E}{a5:Xn}{f7:E}(e2:St o own v a)(f0:om f7 rq g a5 a)(e8:∀d,a5.ownBlock=C d->¬own d)
 (Y:∀c∈g,c<e/\c6 c=J)(e4:∀s,s<g.length->g.getD s 0=cnt o+s)(h5:g.length<=e)(f4:∀i,b5 i->h i)(e9:∀i,h i->¬own i)
 (Ll:∀i,h i->∃r b1,a.heap[i]?=C (Xx r b1 (0,r.size))/\0<r.size/\(∀(a4:E) c,r[a4]?=C c->aQ h c)/\¬aS r)(IB:∀d,(0<d\/d=TP.globals.size)->d<=TP.globals.size->h d):
 ∃b,nI own a b/\Co (goalAt TP b3 F z al h) 39 #[pt u 0,a5] b λb2 c9=>b2=.tuple #[]/\∃U W,St (g.foldl rd o) U W c9/\gK own U a c9/\iw v W a.heap.size:=by
 obtain⟨b,d3,g1,Z,a2,h7,a1⟩:=p.pre o own v a e2
 have e3:∀i,¬own i->b.heap[i]?=a.heap[i]?:=λi w=>by
  rcases Z.blk i with H|⟨L,_⟩
  .exact H
  simp_all
 refine⟨b,Z,?_⟩
 obtain⟨X,a8,rfl,b8⟩:∃X a8,a5=.slice X g.length a8/\(X=F/\g.length=0\/∃a6 c8 r g2 b6,X=C ⟨a6,c8,F⟩/\b.heap[a6]?=C (Xx r g2 b6)/\0<r.size/\b6.2<=r.size/\(∀(a4:E) c,r[a4]?=C c->Calm c)/\¬own a6/\∀D,D<g.length->∀j,j<9->r[c8+D*9+j]?=(aP (g.getD D 0:E) (rq (g.getD D 0)))[j]?):=by
  rcases f0 with⟨rfl,rfl⟩|⟨d,d5,d7,rfl,N,T,b7,g9,h0,h1,h2,h3⟩
  .simp
  have e5:=e8 d A;refine⟨_,d5,A,Xs ⟨d,0,d7,107,(0,0),A,by simp_all,by omega,YH _,λa4 c h6=>?_,e5,λD a7 j e6=>?_⟩⟩
  .grind
  have H:=wJ rq g D j e6 a7
  grind
 have f1:∀s,s<g.length->(g.take (s+1)).foldl rd o=rd ((g.take s).foldl rd o) (g.getD s 0):=λs t=>by simp_all [T_]
 have c0:∀s,s<g.length->cnt ((g.take s).foldl rd o)=g.getD s 0:=λs t=>by rw[qp p.Vl,e4 s t,ZJ];omega
 have P:Rb (λs n l=>∃k,(St ((g.take s).foldl rd o) n k l/\a.heap.size<=l.heap.size)/\iw v k a.heap.size) h d3 b (λs=>look o (g.getD s 0)) (λs=>(g.getD s 0:E)) (λs=>rq (g.getD s 0)) own u g1 g.length a8 c7 X:={
  Ll:=λi w=>by simp_all
  IB:=IB
  xt:=a1.xt
  TI:=a1.TI
  hc:=a1.hc
  hA:=b8
  small:=by have:=p.small;omega
  Ip:=p.Ip
  ev:=λD=>p.ev _ _
  look:=λD a7 l f3 x=>a1.look (g.getD D 0) (Y _ (mW a7)).1 l (λi w=>f3 i (w.imp id (f4 i))) x
  init:=λR b9=>⟨v,⟨p.sm o own v b R (b9.same (p.lt o own v b a2) (p.EO o own v b a2)) a2,by rw[<-Z.size];exact b9.1⟩,λi L=>Xr L⟩
  WG:=λi w=>p.lt o own v b a2 i (Xr w)
  WH:=e9}
 have d0:LK (λs n l=>∃k,(St ((g.take s).foldl rd o) n k l/\a.heap.size<=l.heap.size)/\iw v k a.heap.size) (λs Q n l=>∃k,(b4 ((g.take s).foldl rd o) (g.getD s 0) Q n k l/\a.heap.size<=l.heap.size)/\iw v k a.heap.size) u g.length b.heap.size (λs=>(g.getD s 0:E)) (λs=>rq (g.getD s 0)) (λs=>look o (g.getD s 0)):={
  Rx:=λs t n l g0⟨k,⟨O,x⟩,y⟩ N T=>by have a3:=p.Rx ((g.take s).foldl rd o) (g.getD s 0) (Y _ (mW t)).1 (Y _ (mW t)).2 (c0 s t) n k l b.heap.size g0 O;rw[yT p.WC]at a3;exact(a3 N T).mono λH R⟨Q,U,W,q1,a9,a0,b0⟩=>⟨Q,U,q1,⟨W,⟨a9,Yi x a0.size⟩,y.trans b0 (by rw[Z.size];omega)⟩,a0⟩
  snd:=λs t Q n l⟨k,⟨O,x⟩,y⟩=>by have a3:=p.snd ((g.take s).foldl rd o) (g.getD s 0) (Y _ (mW t)).1 (Y _ (mW t)).2 (c0 s t) Q n k l O;rw[f1 s t];exact a3.mono λH R⟨U,W,q1,a9,a0,b0⟩=>⟨U,q1,⟨W,⟨a9,Yi x a0.size⟩,y.trans b0 x⟩,a0⟩
  sg:=λs n l R O N⟨k,⟨T,x⟩,y⟩=>⟨k,⟨p.sm _ n k l R (wM (p.lt _ n k l T) N O) T,Yi x N⟩,y⟩
  sl:=λs n l⟨k,⟨L,_⟩,_⟩ i w=>p.lt _ n k l L i (Xr w)
  mh:=λs Q n l R H⟨k,⟨L,x⟩,y⟩=>⟨k,⟨p.mh _ _ Q n k l R H L,by simp_all⟩,y⟩}
 intro m d4 r d6 d1 w next
 refine QE P d0 e1 m d4 r d6 d1 w λg6 b2 g3 g5 d2 e0 f2⟨n,g4,O,N,⟨k,⟨T,_⟩,y⟩,b7⟩=>next g6 b2 g3 g5 d2 e0 f2 ⟨O,n,k,?_,?_,y⟩
 .grind
 have f8:gK own own a g4:=⟨by rw[<-Z.size];exact N.1,λi w e7=>by
  rcases N.2 i (by grind)with H|⟨r,b1,d8,d9,f5,h9,f6⟩
  .exact Xr (H.trans (e3 i e7))
  exact Xs ⟨r,b1,d8,d9,f5,by grind,f6⟩,λi L=>Xr L⟩
 exact f8.trans b7.qX
end
end Go.Sim
namespace Go.Sv
open Go.MapKept Go.Proofs Go.RowKit Go.Lib Go.WideShapes Go.Sort Go.Sim Wt
variable{u:E}{y:cz}{d:K}{w':K}{e:Xn}{g:Out}{b:E}{m:E}{l:E}{j:E}{R:Xu XS}
structure fB where
 tb:E
 nb:Path->E
 mb:Path->E
 tw:E
 mw:E
 f:Xn->Xz Xn
 hb:E
 ov:Xn
 vs:Xq (Xn×Xn)
def Pd(a:Xn):Prop:=∃m,a=Xo M m
def fP(b:Xq (Xt×Xt)):Xn->Xz Xn
 |Xo M m=>(b.find? λa=>decide (a.1=m)).map λa=>i64 a.2
 |_=>F
def dK(a:Xq B)(e:Xn)(d:K):Prop:=(e=Xw F 0 0/\a=[])\/∃f c b h g,e=Xw (C ⟨f,0,F⟩) a.length c/\d.heap[f]?=C (Xx b h g)/\a.length<=c/\c<=b.size/\∀(l:E) y,a[l]?=C y->b[l]?=C (.string (bs y))
def tn(b:Xq (Xt×B))(e:Xn)(d:K):Prop:=(e=Xw F 0 0/\b=[])\/∃g c a i h,e=Xw (C ⟨g,0,F⟩) b.length c/\d.heap[g]?=C (Xx a i h)/\b.length<=c/\c*2<=a.size/\∀(l:E) f,b[l]?=C f->a[l*2]?=C (i64 f.1)/\a[l*2+1]?=C (.string (bs f.2))
def eU(g:Out)(e:Xn×Xn)(d:K):Prop:=dK g.names e.1 d/\tn g.results e.2 d
def gZ(g:Out)(e:Xn×Xn):Xu Xn:=oV g.ak g.ev g.idx g.err (bs g.path) (bs g.data) g.found g.stat.made g.stat.set g.stat.aE g.stat.eD g.stat.own g.stat.size g.stat.kids e.1 e.2
def bT(h:Xq Out)(b:Xq (Xn×Xn)):Xq Xn:=(h.zip b).flatMap λa=>(gZ a.1 a.2).toList
def aH(u:E)(a:Tree)(c:fB)(b:E):Prop:=b=u\/pP a c.nb c.mb c.tb b\/eJ c.tw c.mw c.f b\/b=c.hb\/c.ov.ownBlock=C b
def dm(c:fB)(b:E):Prop:=b=1\/b=4\/∃e∈c.vs,e.1.ownBlock=C b\/e.2.ownBlock=C b
def Vx(e:Xn):Prop:=e=.tuple #[]\/∃b m a,e=.slice b m a
structure aK(u:E)(k:Xt)(y:cz)(outs:Xq Out)(c:fB)(d:K):Prop where
 tree:bn y.tree c.nb c.mb d
 top:∃i,Vx i/\d.heap[c.tb]?=C (Xx #[pt (c.nb []) 0,Xo M y.tree.length,i] 195 (0,0))
 wf:WF y.tree
 ck:dN y.ck c.tw c.mw c.f d
 kF:∃R a,d.heap[c.hb]?=C (.map R a)/\Mp Pd R a (fP y.dG)
 ch:d.heap[u]?=C (Xx (Fp y.timeout k c.tb c.tw c.hb y.now y.aL y.next c.ov .nilFunc) 98 (0,0))
 row:bV NB d 38 16 c.ov outs.length (bT outs c.vs)
 outs:outs.length=c.vs.length/\∀(f:E) g e,outs[f]?=C g->c.vs[f]?=C e->eU g e d
 bC:(∃n,d.cell? ⟨1,0,F⟩=C (Xo M n))/\ux d/\4<d.heap.size
 iV:∃iV:E->E,(∀b,pP y.tree c.nb c.mb c.tb b->iV b=0)/\(∀b,eJ c.tw c.mw c.f b->iV b=1)/\iV c.hb=2/\iV u=3/\(∀b,c.ov.ownBlock=C b->iV b=4)/\∀b,dm c b->iV b=5
theorem IQ:TP.underlying 96=C (.map 3 3):=A
theorem Wf:TP.underlying 3=C (.int M):=A
theorem Ni:ET TP 3 Pd:=Nj Wf
theorem Ve(d:K):(zeroValue 3).run TP d=.ok (Xo M 0) d:=A
section
variable{k:Xt}{h:Xq Out}{c:fB}
theorem dK.stay{n:Xq B}(f:dK n e d)(r:∀b,e.ownBlock=C b->(w'.heap[b]?).map Sim.Obj.whole=(d.heap[b]?).map Sim.Obj.whole):dK n e w':=by
 rcases f with f|⟨a,o,s,z,w,rfl,p,q⟩
 .exact Xr f
 have:=r a A;rw[p]at this;cases i:w'.heap[a]? with
 |none=>simp_all
 |some g=>
  rw[i]at this;cases g with
  |cells t x v=>obtain⟨rfl,rfl,_⟩:=this;exact Xs ⟨a,o,_,_,_,A,i,q⟩
  |_=>simp[Sim.Obj.whole]at this
theorem tn.stay{n:Xq (Xt×B)}(f:tn n e d)(r:∀b,e.ownBlock=C b->(w'.heap[b]?).map Sim.Obj.whole=(d.heap[b]?).map Sim.Obj.whole):tn n e w':=by
 rcases f with f|⟨a,o,s,z,w,rfl,p,q⟩
 .exact Xr f
 have:=r a A;rw[p]at this;cases i:w'.heap[a]? with
 |none=>simp_all
 |some g=>
  rw[i]at this;cases g with
  |cells t x v=>obtain⟨rfl,rfl,_⟩:=this;exact Xs ⟨a,o,_,_,_,A,i,q⟩
  |_=>simp[Sim.Obj.whole]at this
theorem eU.lt{e:Xn×Xn}(f:eU g e d)(a:e.1.ownBlock=C b\/e.2.ownBlock=C b):b<d.heap.size:=by
 rcases a with a|a
 .rcases f.1 with⟨c,_⟩|⟨l,i,h,n,k,c,m,_⟩
  .rw[c]at a;cases a
  rw[c]at a;cases a;grind
 rcases f.2 with⟨c,_⟩|⟨l,i,h,n,k,c,m,_⟩
 .rw[c]at a;cases a
 rw[c]at a;cases a;grind
theorem aK.jh(a:aK u k y h c d)(f:dm c b):b<d.heap.size:=by
 have n:=a.bC.2.2;rcases f with rfl|rfl|⟨e,m,f⟩
 .omega
 .omega
 obtain⟨g,i⟩:=ZH.1 m;have l:g<h.length:=by rw[a.outs.1];grind
 exact(a.outs.2 g _ e (YN l) i).lt f
theorem aK.bg(f:aK u k y h c d)(a:aH u y.tree c b):b<d.heap.size:=by
 rcases a with rfl|a|a|rfl|a
 .exact(XZ.1 f.ch).1
 .rcases a with rfl|⟨o,i,rfl|rfl⟩
  .obtain⟨p,_,a⟩:=f.top
   grind
  .exact(f.tree.lt i).1
  exact(f.tree.lt i).2
 .exact f.ck.lt a
 .obtain⟨R,n,a,_⟩:=f.kF
  grind
 exact f.row.lt b a
theorem aK.same(f:aK u k y h c d)(a:Pf (aH u y.tree c) (dm c) d w'):aK u k y h c w' where
 tree:=f.tree.stay λp o=>⟨a.own _ (Xs (Xr (Xs ⟨p,o,Xr A⟩))),a.own _ (Xs (Xr (Xs ⟨p,o,Xs A⟩)))⟩
 top:=by obtain⟨w,n,l⟩:=f.top;exact⟨w,n,by rw[a.own _ (.inr (.inl (.inl A)))];exact l⟩
 wf:=f.wf
 ck:=f.ck.stay λb i=>a.own b (Xs (Xs (Xr i)))
 kF:=by rw[a.own _ (.inr (.inr (.inr (.inl A))))];exact f.kF
 ch:=by rw[a.own _ (.inl A)];exact f.ch
 row:=f.row.stay λb i=>a.own b (Xs (Xs (Xs (Xs i))))
 outs:=⟨f.outs.1,λs g e n l=>by
  have:=f.outs.2 s g e n l;have m:=Yn l
  exact⟨this.1.stay λb i=>a.use b (Xs (Xs ⟨e,m,Xr i⟩)),this.2.stay λb i=>a.use b (Xs (Xs ⟨e,m,Xs i⟩))⟩⟩
 bC:=by
  obtain⟨⟨t,m⟩,l,r⟩:=f.bC;refine⟨⟨t,?_⟩,l.stay (a.use 4 (Xs (Xr A))),Yk r a.size⟩;have:=a.use 1 (Xr A);unfold K.cell? at m⊢
  cases n:d.heap[1]? with
  |none=>simp_all
  |some g=>
   rw[n]at m this;cases g with
   |cells x N H=>
    cases q:w'.heap[1]? with
    |none=>simp_all
    |some v=>
     rw[q]at this;cases v with
     |cells z O L=>simp_all [Sim.Obj.whole]
     |_=>simp[Sim.Obj.whole]at this
   |_=>simp at m
 iV:=f.iV
theorem aK.old(a:aK u k y h c d)(n:d.heap.size<=w'.heap.size)(f:∀b,b<d.heap.size->w'.heap[b]?=d.heap[b]?):aK u k y h c w':=
 haveI:Inhabited aN:=⟨⟨d,λ_=>True⟩⟩;a.same (wM (λb i=>i.elim a.bg a.jh) n f)
theorem Dc{iV:E->E}{a c:E->Prop}(d:∀b,a b->iV b=l)(f:∀b,c b->a b\/m<=b):∀b,c b->(if b<m then iV b else l)=l:=λb e=>by grind
theorem fH{iV:E->E}{a:E->Prop}(f:∀b,a b->iV b=j)(n:∀b,a b->b<m):∀b,a b->(if b<m then iV b else l)=j:=λb i=>by simp_all
theorem aK.watched(f:aK u k y h c d){w:Xy->B->Xq Xt}{p:Xn->Xz Xn}(z:dN w c.tw c.mw p w')(m:aI (eJ c.tw c.mw c.f) (eJ c.tw c.mw p) d w'):
 aK u k {y with ck:=w} h {c with f:=p} w'/\aI (aH u y.tree c) (aH u y.tree {c with f:=p}) d w':=by
 obtain⟨iV,Q,S,T,U,W,X⟩:=f.iV;have N:∀b,iV b≠1->¬eJ c.tw c.mw c.f b:=by grind
 have kp:=λb a o=>m.keep b a (N b o);have s:=λb a=>kp b (f.bg (Xs (Xr a))) (by simp_all);have r:=λb a=>kp b (f.jh a) (by simp_all);refine⟨⟨f.tree.stay λv t=>⟨s _ (Xs ⟨v,t,Xr A⟩),s _ (Xs ⟨v,t,Xs A⟩)⟩,?_,f.wf,z,?_,?_,?_,?_,?_,?_⟩,?_⟩
 .obtain⟨Z,o,n⟩:=f.top;exact⟨Z,o,by rw[s _ (.inl A)];exact n⟩
 .show∃R a0,w'.heap[c.hb]?=_/\_;rw[kp c.hb (f.bg (.inr (.inr (.inr (.inl A))))) (by omega)];exact f.kF
 .rw[kp u (f.bg (.inl A)) (by omega)];exact f.ch
 .exact f.row.stay λb a=>kp b (f.bg (Xs (Xs (Xs (Xs a))))) (by simp_all)
 .exact⟨f.outs.1,λO g e o n=>by
   have:=f.outs.2 O g e o n;have q:=Yn n
   exact⟨this.1.stay λb a=>by rw[r b (.inr (.inr ⟨e,q,.inl a⟩))],this.2.stay λb a=>by rw[r b (.inr (.inr ⟨e,q,.inr a⟩))]⟩⟩
 .obtain⟨⟨Y,q⟩,n,H⟩:=f.bC;exact⟨⟨Y,bZ (r 1 (Xr A)) q⟩,n.stay (by rw[r 4 (.inr (.inl A))]),Yk H m.size⟩
 .refine⟨λb=>if b<d.heap.size then iV b else 1,?_,?_,?_,?_,?_,?_⟩
  .exact fH Q λb a=>f.bg (Xs (Xr a))
  .exact Dc S m.more
  .exact fH (a:=λb=>b=c.hb) (λb l=>l▸T) (λb l=>l▸f.bg (Xs (Xs (Xs (Xr A))))) _ A
  .exact fH (a:=λb=>b=u) (λb l=>l▸U) (λb l=>l▸f.bg (Xr A)) _ A
  .exact fH W λb a=>f.bg (Xs (Xs (Xs (Xs a))))
  exact fH X λb a=>f.jh a
 refine⟨m.size,λb a L=>m.keep b a λi=>L (Xs (Xs (Xr i))),λb a=>?_⟩;rcases a with i|i|i|i|i
 .exact Xr (Xr i)
 .exact Xr (Xs (Xr i))
 .rcases m.more b i with i|i
  .exact Xr (Xs (Xs (Xr i)))
  omega
 .exact Xr (Xs (Xs (Xs (Xr i))))
 exact Xr (Xs (Xs (Xs (Xs i))))
theorem aK.UX(f:aK u k y h c d){p:Tree}{t s:Path->E}{Y:Xq Un}(v:qd p t s c.tb Y w')(z:WF p)(l:yo c.tb y.tree c.nb c.mb p t s d w')(w:∀b,¬wI d c.tb b):
 aK u k {y with tree:=p} h {c with nb:=t,mb:=s} w'/\aI (aH u y.tree c) (aH u p {c with nb:=t,mb:=s}) d w':=by
 obtain⟨iV,x,N,O,Q,S,T⟩:=f.iV;have kp:∀b,b<d.heap.size->iV b≠0->w'.heap[b]?=d.heap[b]?:=λb a o=>l.kept b a (λi=>o (x b i)) (w b);have r:=λb a=>kp b (f.jh a) (by simp_all);refine⟨⟨v.lq,?_,z,?_,?_,?_,?_,?_,?_,?_⟩,?_⟩
 .obtain⟨Z,a1,o,n,_⟩:=v.top;exact⟨Z,Xs n.slice,o⟩
 .exact f.ck.stay λb a=>kp b (f.bg (Xs (Xs (Xr a)))) (by simp_all)
 .show∃R a0,w'.heap[c.hb]?=_/\_;rw[kp c.hb (f.bg (.inr (.inr (.inr (.inl A))))) (by omega)];exact f.kF
 .rw[kp u (f.bg (.inl A)) (by omega)];exact f.ch
 .exact f.row.stay λb a=>kp b (f.bg (Xs (Xs (Xs (Xs a))))) (by simp_all)
 .exact⟨f.outs.1,λL g e o n=>by
   have:=f.outs.2 L g e o n;have q:=Yn n
   exact⟨this.1.stay λb a=>by rw[r b (.inr (.inr ⟨e,q,.inl a⟩))],this.2.stay λb a=>by rw[r b (.inr (.inr ⟨e,q,.inr a⟩))]⟩⟩
 .obtain⟨⟨U,q⟩,n,D⟩:=f.bC;exact⟨⟨U,bZ (r 1 (Xr A)) q⟩,n.stay (by rw[r 4 (.inr (.inl A))]),Yk D l.size⟩
 .refine⟨λb=>if b<d.heap.size then iV b else 0,?_,?_,?_,?_,?_,?_⟩
  .exact Dc x l.news
  .exact fH N λb a=>f.bg (Xs (Xs (Xr a)))
  .exact fH (a:=λb=>b=c.hb) (λb m=>m▸O) (λb m=>m▸f.bg (Xs (Xs (Xs (Xr A))))) _ A
  .exact fH (a:=λb=>b=u) (λb m=>m▸Q) (λb m=>m▸f.bg (Xr A)) _ A
  .exact fH S λb a=>f.bg (Xs (Xs (Xs (Xs a))))
  exact fH T λb a=>f.jh a
 refine⟨l.size,λb a H=>l.kept b a (λi=>H (Xs (Xr i))) (w b),λb a=>?_⟩;rcases a with i|i|i|i|i
 .exact Xr (Xr i)
 .rcases l.news b i with i|i
  .exact Xr (Xs (Xr i))
  omega
 .exact Xr (Xs (Xs (Xr i)))
 .exact Xr (Xs (Xs (Xs (Xr i))))
 exact Xr (Xs (Xs (Xs (Xs i))))
theorem aK.hears(a:aK u k y h c d){se:Xq (Xt×Xt)}{p:E}(n:w'.heap[c.hb]?=C (.map R p))(w:Mp Pd R p (fP se))(t:d.heap.size<=w'.heap.size)(D:∀b,b<d.heap.size->b≠c.hb->w'.heap[b]?=d.heap[b]?):
 aK u k {y with dG:=se} h c w'/\aI (aH u y.tree c) (aH u y.tree c) d w':=by
 obtain⟨iV,N,O,Q,S,T,U⟩:=a.iV;have kp:∀b,b<d.heap.size->iV b≠2->w'.heap[b]?=d.heap[b]?:=by grind
 have r:=λb f=>kp b (a.bg (Xs (Xr f))) (by simp_all);have o:=λb f=>kp b (a.jh f) (by simp_all);refine⟨⟨a.tree.stay λv s=>⟨r _ (Xs ⟨v,s,Xr A⟩),r _ (Xs ⟨v,s,Xs A⟩)⟩,?_,a.wf,?_,⟨R,p,n,w⟩,?_,?_,?_,?_,⟨iV,N,O,Q,S,T,U⟩⟩,?_⟩
 .obtain⟨X,q,i⟩:=a.top;exact⟨X,q,by rw[r _ (.inl A)];exact i⟩
 .exact a.ck.stay λb f=>kp b (a.bg (Xs (Xs (Xr f)))) (by simp_all)
 .rw[kp u (a.bg (.inl A)) (by omega)];exact a.ch
 .exact a.row.stay λb f=>kp b (a.bg (Xs (Xs (Xs (Xs f))))) (by simp_all)
 .exact⟨a.outs.1,λL g e q i=>by
   have:=a.outs.2 L g e q i;have n:=Yn i
   exact⟨this.1.stay λb f=>by rw[o b (.inr (.inr ⟨e,n,.inl f⟩))],this.2.stay λb f=>by rw[o b (.inr (.inr ⟨e,n,.inr f⟩))]⟩⟩
 .obtain⟨⟨W,n⟩,i,z⟩:=a.bC;exact⟨⟨W,bZ (o 1 (Xr A)) n⟩,i.stay (by rw[o 4 (.inr (.inl A))]),Yk z t⟩
 exact⟨t,λb f H=>D b f λx=>H (Xs (Xs (Xs (Xr x)))),λb f=>Xr f⟩
theorem aK.nums(a:aK u k y h c d){now aL kW:Xt}(x:w'.heap[u]?=C (Xx (Fp y.timeout k c.tb c.tw c.hb now aL kW c.ov .nilFunc) 98 (0,0)))(s:d.heap.size<=w'.heap.size)(z:∀b,b<d.heap.size->b≠u->w'.heap[b]?=d.heap[b]?):
 aK u k {y with now:=now,aL:=aL,next:=kW} h c w'/\aI (aH u y.tree c) (aH u y.tree c) d w':=by
 obtain⟨iV,L,N,O,Q,S,T⟩:=a.iV;have kp:∀b,b<d.heap.size->iV b≠3->w'.heap[b]?=d.heap[b]?:=by grind
 have q:=λb f=>kp b (a.bg (Xs (Xr f))) (by simp_all);have o:=λb f=>kp b (a.jh f) (by simp_all);refine⟨⟨a.tree.stay λt r=>⟨q _ (Xs ⟨t,r,Xr A⟩),q _ (Xs ⟨t,r,Xs A⟩)⟩,?_,a.wf,?_,?_,x,?_,?_,?_,⟨iV,L,N,O,Q,S,T⟩⟩,?_⟩
 .obtain⟨W,p,i⟩:=a.top;exact⟨W,p,by rw[q _ (.inl A)];exact i⟩
 .exact a.ck.stay λb f=>kp b (a.bg (Xs (Xs (Xr f)))) (by simp_all)
 .show∃R X,w'.heap[c.hb]?=_/\_;rw[kp c.hb (a.bg (.inr (.inr (.inr (.inl A))))) (by omega)];exact a.kF
 .exact a.row.stay λb f=>kp b (a.bg (Xs (Xs (Xs (Xs f))))) (by simp_all)
 .exact⟨a.outs.1,λH g e p i=>by
   have:=a.outs.2 H g e p i;have n:=Yn i
   exact⟨this.1.stay λb f=>by rw[o b (.inr (.inr ⟨e,n,.inl f⟩))],this.2.stay λb f=>by rw[o b (.inr (.inr ⟨e,n,.inr f⟩))]⟩⟩
 .obtain⟨⟨U,n⟩,i,w⟩:=a.bC;exact⟨⟨U,bZ (o 1 (Xr A)) n⟩,i.stay (by rw[o 4 (.inr (.inl A))]),Yk w s⟩
 exact⟨s,λb f D=>z b f λv=>D (Xr v),λb f=>Xr f⟩
theorem rr{h:Xq Out}{a:Xq (Xn×Xn)}(b:h.length=a.length)(g:Out)(e:Xn×Xn):bT (h++[g]) (a++[e])=bT h a++(gZ g e).toList:=by simp_all [bT,Xq.zip_append]
theorem aK.VU(i:aK u k y h c d){e:Xn×Xn}{r:Xn}(v:eU g e d)(x:∀b,e.1.ownBlock=C b\/e.2.ownBlock=C b->¬aH u y.tree c b)
 (X:w'.heap[u]?=C (Xx (Fp y.timeout k c.tb c.tw c.hb y.now y.aL y.next r .nilFunc) 98 (0,0)))(b2:bV NB w' 38 16 r (h.length+1) (bT h c.vs++(gZ g e).toList))(O:jC d c.ov r)
 (S:d.heap.size<=w'.heap.size)(H:∀b,b<d.heap.size->b≠u->c.ov.ownBlock≠C b->w'.heap[b]?=d.heap[b]?):
 aK u k y (h++[g]) {c with ov:=r,vs:=c.vs++[e]} w'/\aI (aH u y.tree c) (aH u y.tree {c with ov:=r,vs:=c.vs++[e]}) d w':=by
 obtain⟨iV,a0,a1,a2,a3,a4,a5⟩:=i.iV;have kp:∀b,b<d.heap.size->iV b≠3->iV b≠4->w'.heap[b]?=d.heap[b]?:=by grind
 have D:=λb a=>kp b (i.bg (Xs (Xr a))) (by simp_all) (by simp_all);have w:=λb a=>kp b (i.jh a) (by simp_all) (by simp_all);have b3:=λb a=>H b (v.lt a) (λp=>x b a (Xr p)) (λp=>x b a (Xs (Xs (Xs (Xs p)))));refine⟨⟨i.tree.stay λU Q=>⟨D _ (Xs ⟨U,Q,Xr A⟩),D _ (Xs ⟨U,Q,Xs A⟩)⟩,?_,i.wf,?_,?_,X,?_,?_,?_,?_⟩,?_⟩
 .obtain⟨a9,m,l⟩:=i.top;exact⟨a9,m,by rw[D _ (.inl A)];exact l⟩
 .exact i.ck.stay λb a=>kp b (i.bg (Xs (Xs (Xr a)))) (by simp_all) (by simp_all)
 .show∃R b1,w'.heap[c.hb]?=_/\_;rw[kp c.hb (i.bg (.inr (.inr (.inr (.inl A))))) (by omega) (by omega)];exact i.kF
 .grind [aK.outs,rr]
 .refine⟨by grind [aK.outs],λz a7 s m l=>?_⟩;replace l:=l;by_cases L:z<h.length
  .rw[Zo L]at m;rw[Zo (by rw[<-i.outs.1];exact L)]at l;have:=i.outs.2 z a7 s m l;have t:=Yn l;exact⟨this.1.stay λb a=>by rw[w b (.inr (.inr ⟨s,t,.inl a⟩))],this.2.stay λb a=>by rw[w b (.inr (.inr ⟨s,t,.inr a⟩))]⟩
  rw[YQ (by omega)]at m;rw[YQ (by rw[<-i.outs.1];omega),<-i.outs.1]at l;have Y:z-h.length=0:=by grind
  rw[Y]at m l;cases m;cases l;exact⟨v.1.stay λb a=>by simp_all,v.2.stay λb a=>by simp_all⟩
 .obtain⟨⟨a6,t⟩,l,W⟩:=i.bC;exact⟨⟨a6,bZ (w 1 (Xr A)) t⟩,l.stay (by rw[w 4 (.inr (.inl A))]),Yk W S⟩
 .have q:=λb m l=>x b l m;refine⟨λb=>if e.1.ownBlock=C b\/e.2.ownBlock=C b then 5 else if b<d.heap.size then iV b else 4,λb a=>?_,λb a=>?_,?_,?_,λb a=>?_,λb a=>?_⟩
  .have n:=i.bg (Xs (Xr a));simp only;rw[XH (q b (.inr (.inl a))),XN n];exact a0 b a
  .have n:=i.bg (Xs (Xs (Xr a)));simp only;rw[XH (q b (.inr (.inr (.inl a)))),XN n];exact a1 b a
  .have n:=i.bg (Xs (Xs (Xs (Xr A))));simp only;rw[XH (q _ (.inr (.inr (.inr (.inl A))))),XN n];exact a2
  .have n:=i.bg (Xr A);simp only;rw[XH (q _ (.inl A)),XN n];exact a3
  .replace a:=a;simp only;rcases O b a with f|f
   .have n:=i.bg (Xs (Xs (Xs (Xs f))));rw[XH (q _ (.inr (.inr (.inr (.inr f))))),XN n];exact a4 b f
   rw[XH (λp=>by have:=v.lt p;omega),XH (by omega)]
  simp only;by_cases Z:e.1.ownBlock=C b\/e.2.ownBlock=C b
  .simp_all
  have T:dm c b:=by
   rcases a with f|f|⟨s,o,f⟩
   .exact Xr f
   .exact Xs (Xr f)
   replace o:=o;rcases YC.1 o with o|o
   .exact Xs (Xs ⟨s,o,f⟩)
   simp_all
  rw[XH Z,XN (i.jh T)];exact a5 b T
 refine⟨S,λb a N=>H b a (λf=>N (Xr f)) (λf=>N (Xs (Xs (Xs (Xs f))))),λb a=>?_⟩;rcases a with f|f|f|f|f
 .exact Xr (Xr f)
 .exact Xr (Xs (Xr f))
 .exact Xr (Xs (Xs (Xr f)))
 .exact Xr (Xs (Xs (Xs (Xr f))))
 rcases O b f with f|f
 .exact Xr (Xs (Xs (Xs (Xs f))))
 omega
end
variable{c:K}{a:E}{h:XM}{e:E}{f:E}
abbrev PF(c b of:Xt)(a:XM):Xu Xn:=oV c b of 0 a ⟨#[]⟩ Xp 0 0 0 0 0 0 0 (Xw F 0 0) (Xw F 0 0)
theorem wz{d e f g:Xt}{s:XM}{q:Xy}{i k l m n o p:Xt}{r t:Xn}(b:c.heap[a]?=C (Xx (oV d e f g s h q i k l m n o p r t) 38 (0,0))):
 c.cell? ⟨a,0,F⟩=C (i64 d)/\c.cell? ⟨a,1,F⟩=C (i64 e)/\c.cell? ⟨a,2,F⟩=C (i64 f)/\c.cell? ⟨a,3,F⟩=C (i64 g)/\c.cell? ⟨a,4,F⟩=C (.string s)/\c.cell? ⟨a,5,F⟩=C (.string h)/\c.cell? ⟨a,6,F⟩=C (.bool q)/\c.cell? ⟨a,7,F⟩=C (i64 i)/\c.cell? ⟨a,8,F⟩=C (i64 k)/\c.cell? ⟨a,9,F⟩=C (i64 l)/\c.cell? ⟨a,10,F⟩=C (i64 m)/\c.cell? ⟨a,11,F⟩=C (i64 n)/\c.cell? ⟨a,12,F⟩=C (i64 o)/\c.cell? ⟨a,13,F⟩=C (i64 p)/\c.cell? ⟨a,14,F⟩=C (r)/\c.cell? ⟨a,15,F⟩=C (t):=
 ⟨aa b 0 A,aa b 1 A,aa b 2 A,aa b 3 A,aa b 4 A,aa b 5 A,aa b 6 A,aa b 7 A,aa b 8 A,aa b 9 A,aa b 10 A,aa b 11 A,aa b 12 A,aa b 13 A,aa b 14 A,aa b 15 A⟩
theorem OF{q c6:E}{of:Xt}{O:Xz XG}{l:E->Xt}{k:E->XM}{P:E->K->Prop}{s:E->E->Xz XG->E->E->E->K->Prop}{N:E->E->Xz XG->E->E->E->K->Prop}{tl:E->E->Xt}
 (a2:0<e->O=C ⟨f,0,F⟩)(e4:e<2^20)(Q:P 0 c)
 (W:∀b g,P b g->b<e->g.cell? ⟨f,b*2,F⟩=C (i64 (l b))/\g.cell? ⟨f,b*2+1,F⟩=C (.string (k b)))
 (U:∀b g,P b g->g.cell? ⟨u,3,F⟩=C (pt q 0)/\u<g.heap.size)
 (hF:∀b g,b<e->P b g->∀d5,Calls TP 150 #[pt q 0,i64 (l b),.string (k b)] ((g.alloc (.cells #[i64 (l b),.string (k b)] 269)).drewN d5) λp r=>∃m i n,p=XB (.slice m i n)/\i<2^20/\s b g.heap.size m i n 0 r)
 (Z:∀b o m i n j g,s b o m i n j g->g.cell? ⟨o,0,F⟩=C (i64 (l b))/\g.cell? ⟨o,1,F⟩=C (.string (k b))/\g.cell? ⟨u,3,F⟩=C (pt q 0)/\(j<i->∃a,m=C ⟨a,0,F⟩/\g.cell? ⟨a,j,F⟩=C (i64 (tl b j))))
 (a1:∀b o m i n j g,j<i->s b o m i n j g->Calls TP 60 #[pt u 0,.agg (PF (tl b j) (l b) of (k b))] (g.alloc (.cells (PF (tl b j) (l b) of (k b)) 38)) λp r=>p=XB (.tuple #[])/\r.heap[g.heap.size]?=C (Xx (PF (tl b j) (l b) of (k b)) 38 (0,0))/\N b o m i n j r)
 (T:∀b o m i n j g,N b o m i n j g->Calls TP 151 #[pt u 0,.agg (PF (tl b j) (l b) of (k b))] g λp r=>p=XB (.tuple #[])/\s b o m i n (j+1) r)
 (R:∀b o m i n g,s b o m i n i g->P (b+1) g):
 Calls TP 110 #[pt u 0,Xo M of,.slice O e c6] c λp g=>p=XB (.tuple #[])/\P e g:=by
 have a5:=Xv Q;have b1:=Xv W;have b0:=Xv U;have a8:=Xv hF;have x:=Xv Z;have b5:=Xv a1;have a9:=Xv T;have a7:=Xv R;have a6:=Xv a2;clear Q W U hF Z a1 T R a2;go_enter Tryz.func110,Tryz.ntmps110
 go_wp2
 go_loopw [13] (λb wr=>∃d:E,d<=e/\b=Xo M d/\P d wr) (λb _=>e-(Lib.intOf b).toNat)
 case atStart=>exact⟨0,YH _,A,a5.out⟩
 case round=>
  obtain⟨d,e2,rfl,X⟩:=hrel;have w:=Xv X;clear X;by_cases a4:d<e
  .have c8:=a6.out (by omega);subst c8;obtain⟨c1,c2⟩:=b1.out d wr w.out a4;obtain⟨c3,d2⟩:=b0.out d wr w.out;have c0:(wr.alloc (.cells #[i64 (l d),.string (k d)] 269)).cell? ⟨u,3,F⟩=C (pt q 0):=by simp_all [YJ]
   have d1:(wr.alloc (.cells #[i64 (l d),.string (k d)] 269)).heap[wr.heap.size]?=C (Xx #[i64 (l d),.string (k d)] 269 (0,0)):=Yx wr _;have b6:(wr.alloc (.cells #[i64 (l d),.string (k d)] 269)).drew.cell? ⟨u,3,F⟩=C (pt q 0)/\(wr.alloc (.cells #[i64 (l d),.string (k d)] 269)).drew.cell? ⟨wr.heap.size,0,F⟩=C (i64 (l d))/\(wr.alloc (.cells #[i64 (l d),.string (k d)] 269)).drew.cell? ⟨wr.heap.size,1,F⟩=C (.string (k d)):=by simp_all
   have S:Calls TP 150 #[pt q 0,i64 (l d),.string (k d)] (wr.alloc (.cells #[i64 (l d),.string (k d)] 269)).drew λp r=>∃m i n,p=XB (.slice m i n)/\i<2^20/\s d wr.heap.size m i n 0 r:=a8.out d wr a4 w.out 1;have H:=Xv S;clear S d1
   go_upto_region 3 with fail
   clear c1 c2 c3 c0 d2
   go_region_held3 (λy=>y.cell? ⟨u,3,F⟩=C (pt q 0)/\y.cell? ⟨wr.heap.size,0,F⟩=C (i64 (l d))/\y.cell? ⟨wr.heap.size,1,F⟩=C (.string (k d)))
    (first|omega|omega)
    (first|(go_at_call 150;refine H.out.mono ?_;rintro p D⟨b8,v,c3,rfl,e3,t⟩;have b7:D.cell? ⟨u,3,F⟩=C (pt q 0)/\D.cell? ⟨wr.heap.size,0,F⟩=C (i64 (l d))/\D.cell? ⟨wr.heap.size,1,F⟩=C (.string (k d)):=⟨(x.out _ _ _ _ _ _ _ t).2.2.1,(x.out _ _ _ _ _ _ _ t).1,(x.out _ _ _ _ _ _ _ t).2.1⟩;have b2:=Xv t;clear t))
   generalize wr.heap.size=o at*
   clear b6 b7 H
   go_wp2
   go_loopw [27] (λb d7=>∃j:E,j<=v/\b=Xo M j/\s d o b8 v c3 j d7) (λb _=>v-(Lib.intOf b).toNat)
   case atStart=>exact⟨0,YH _,A,b2.out⟩
   case round=>
    obtain⟨j,e1,rfl,z⟩:=hrel;obtain⟨d8,d9,_,c7⟩:=x.out _ _ _ _ _ _ _ z;have L:=Xv z;clear z;by_cases a3:j<v
    .obtain⟨a,rfl,e0⟩:=c7 a3;have c9:=Xv (b5.out _ _ _ _ _ _ _ a3 L.out)
     go_wp2_with (first
      |(go_at_call 60;refine c9.out.mono ?_;rintro p g0⟨rfl,d0,a0⟩;obtain⟨e5,q1,f2,f3,f4,f5,f6,f7,f8,f9,e6,e7,e8,e9,f0,f1⟩:=wz d0;have b4:=Xv a0;clear a0)
      |(go_at_call 151;refine(a9.out _ _ _ _ _ _ _ b4.out).mono ?_;rintro p g1⟨rfl,Y⟩;have b3:=Xv Y;clear Y))
     go_roundw
     case rel=>exact⟨j+1,by omega,by go_num,b3.out⟩
     case measure=>simp[Lib.intOf];omega
    have d3:j=v:=by omega
    subst d3
    go_wp2
    go_roundw
    case rel=>exact⟨d+1,by omega,by go_num,a7.out _ _ _ _ _ _ L.out⟩
    case measure=>simp[Lib.intOf];omega
  have d4:d=e:=by omega
  subst d4
  go_wp2
  go_end0
  exact⟨A,w.out⟩
variable{c:E}{a:K}{P:XI}{R:Xn}{S:E}{p:XM}{ak:Xt}
abbrev rV(b ak r:Xt)(x s:XM)(aE t:Xt)(y:Xy)(a:Xn):Xu Xn:=#[i64 b,i64 ak,i64 r,.string x,.string s,i64 aE,i64 t,.bool y,a]
abbrev gV(p:XM)(e f h i k m o:Xt)(a q:Xn):Xu Xn:=#[.string p,i64 e,i64 f,i64 h,i64 i,i64 k,i64 m,i64 o,a,q]
abbrev oZ:Xu Xn:=oV 0 0 0 0 ⟨#[]⟩ ⟨#[]⟩ Xp 0 0 0 0 0 0 0 (Xw F 0 0) (Xw F 0 0)
abbrev oS(ak b:Xt):Xu Xn:=oV ak 0 b 0 ⟨#[]⟩ ⟨#[]⟩ Xp 0 0 0 0 0 0 0 (Xw F 0 0) (Xw F 0 0)
structure ql(c w W:E)(v n V:Xu Xn)(g a:K):Prop where
 h0:a.heap[c]?=C (Xx v w (0,0))
 h1:a.heap[c+1]?=C (Xx n W (0,0))
 h2:a.heap[c+1+1]?=C (Xx oZ 38 (0,0))
 h3:a.heap[c+1+1+1]?=C (Xx V 38 (0,0))
 size:a.heap.size=g.heap.size
 keep:∀d,d≠c+1+1+1->a.heap[d]?=g.heap[d]?
theorem ql.set{h i:E}{g d V:Xu Xn}{k:K}(b:ql c h i g d V k a)(f:E)(R:Xn):ql c h i g d (V.setIfInBounds f R) k (a.setCell ⟨c+1+1+1,f,F⟩ R):=
 ⟨(ai (by omega)).trans b.h0,(ai (by omega)).trans b.h1,(ai (by omega)).trans b.h2,aA b.h3,aR.trans b.size,λl e=>(ai e).trans (b.keep l e)⟩
abbrev jO(a:K)(d c:Xu Xn)(ak b:Xt):K:=(((a.alloc (.cells d 107)).alloc (.cells c 158)).alloc (.cells oZ 38)).alloc (.cells (oS ak b) 38)
theorem ia{fn:Func}{b:Tmp}{d:XA}(f:fn.results=#[.cell b d]){e:Xu Xn}{c:XG}(g:e.getD b I=XK (C c))(h:(loadVar d c).run P a=.ok R a):
 (results fn e).run P a=.ok R a:=by
 simp_all [asAddr,results]
theorem pI{b:Xu Xn}{c:E×E}(d:a.heap[S]?=C (Xx b 38 c))(e:b.size=16):(loadVar 38 ⟨S,0,F⟩).run TP a=.ok (.agg b) a:=
 run_loadVar_row a S 38 38 b c _ d A rfl (by rw[e];rfl)
theorem ni{a b c d:Xt}{t:XM}{g:Xy}{e f h i k m o:Xt}{r s:Xz XG}{n c1 q c2:E}:(oV a b c d t p g e f h i k m o (.slice r n c1) (.slice s q c2)).all (·.oneCell')=J:=
 m_.2 λR l=>(Rs R (by simpa using l)).1
def lI(c:E)(V:Xu Xn)(KP:K->Prop)(e:Ending)(d:K):Prop:=e=XB (.agg V)/\∃b,KP b/\d.heap.size=b.heap.size/\∀a,a≠c+1+1->a≠c+1+1+1->d.heap[a]?=b.heap[a]?
theorem rC{l m:E}{k f V:Xu Xn}{d:K}{KP:K->Prop}(n:V.size=16)(b:ql c l m k f V d a)(i:KP d):(a.setRow (c+1+1) V).heap[c+1+1]?=C (Xx V 38 (0,0))/\lI c V KP (XB (.agg V)) (a.setRow (c+1+1) V):=
 ⟨k_ _ _ _ _ _ _ b.h2,A,d,i,by rw[abq];exact b.size,λe g h=>by rw[ZO _ _ _ _ g];exact b.keep e h⟩
section
variable{U:E}{b r aE t z:Xt}{x s:XM}{y:Xy}{Q:Xz XG}{O N:E}{e f h i k m o:Xt}{D:Xz XG}{L H:E}{q:Xn}{KP T:K->Prop}
theorem xY(R:Calls TP 64 #[pt u 0,i64 ak] (jO a (rV b ak r x s aE t y (.slice Q O N)) (gV p e f h i k m o (.slice D L H) q) ak b) λz c=>z=XB (.bool Xp)/\ql a.heap.size 107 158 (rV b ak r x s aE t y (.slice Q O N)) (gV p e f h i k m o (.slice D L H) q) (oS ak b) c c/\KP c):
 Calls TP 61 #[pt u 0,.agg (rV b ak r x s aE t y (.slice Q O N)),.agg (gV p e f h i k m o (.slice D L H) q)] a (lI a.heap.size (oV ak 0 b 3 ⟨#[]⟩ ⟨#[]⟩ Xp 0 0 0 0 0 0 0 (Xw F 0 0) (Xw F 0 0)) KP):=by
 have U:=Xv R;clear R;go_enter Tryz.func61,Tryz.ntmps61
 go_upto_region 3 with(go_at_call 64;refine U.out.mono ?_;rintro z c⟨rfl,g,S⟩;have d:=g.h0;have T:=g.h1;have a1:=aa d 1 A;have a2:=aa d 2 A;have a3:=aa d 3 A;have a4:=aa d 7 A;have a5:=aa T 9 A;have l:=Xv g;have W:=Xv S;clear S g d T)
 have a0:=aa l.out.h3 3 A;have a6:=frozenAt l.out.h3 3;obtain⟨v,Z⟩:∃v,c.setCell ⟨a.heap.size+1+1+1,3,F⟩ (i64 3)=v:=by simp
 have X:ql a.heap.size 107 158 (rV b ak r x s aE t y (.slice Q O N)) (gV p e f h i k m o (.slice D L H) q) (oV ak 0 b 3 ⟨#[]⟩ ⟨#[]⟩ Xp 0 0 0 0 0 0 0 (Xw F 0 0) (Xw F 0 0)) c v:=by rw[<-Z];exact l.out.set 3 _
 have n:=Xv X
 go_upto_region 4 with fail
 refine ZS ?_;refine ZG A 38 _ A (a.heap.size+1+1+1) A 38 (oV ak 0 b 3 ⟨#[]⟩ ⟨#[]⟩ Xp 0 0 0 0 0 0 0 (Xw F 0 0) (Xw F 0 0)) (0,0) _ n.out.h3 A rfl rfl ?_;refine Zm A 38 _ _ A (a.heap.size+1+1) (oV ak 0 b 3 ⟨#[]⟩ ⟨#[]⟩ Xp 0 0 0 0 0 0 0 (Xw F 0 0) (Xw F 0 0)) A rfl 38 oZ n.out.h2 A rfl ni ?_;have Y:=rC A n.out W.out;have w:=Xv Y
 go_wp2
 exact Zx (ia A rfl (pI w.out.1 A)) A w.out.2
theorem ze(U:Calls TP 64 #[pt u 0,i64 ak] (jO a (rV b ak r x s aE t y (.slice Q O N)) (gV p e f h i k m o (.slice D L H) q) ak b) λv c=>v=XB (.bool J)/\ql a.heap.size 107 158 (rV b ak r x s aE t y (.slice Q O N)) (gV p e f h i k m o (.slice D L H) q) (oS ak b) c c/\KP c)(T:∀a,Calls TP 104 #[q] a λa5 a6=>a5=XB (i64 z)/\a=a6)(w:(z==7)=Xp\/(z==7)=J/\(r==9)=Xp)(a8:(z !=0)=J):
 Calls TP 61 #[pt u 0,.agg (rV b ak r x s aE t y (.slice Q O N)),.agg (gV p e f h i k m o (.slice D L H) q)] a (lI a.heap.size (oV ak 0 b z ⟨#[]⟩ ⟨#[]⟩ Xp 0 0 0 0 0 0 0 (Xw F 0 0) (Xw F 0 0)) KP):=by
 rcases w with w|⟨w,a9⟩
 all_goals
  have a2:=Xv U;clear U;have a1:=Xv T;clear T;go_enter Tryz.func61,Tryz.ntmps61
  go_upto_region 8 with(first|(go_at_call 64;refine a2.out.mono ?_;rintro v c⟨rfl,g,W⟩;have d:=g.h0;have a0:=g.h1;have b1:=aa d 1 A;have b2:=aa d 2 A;have b3:=aa d 3 A;have b4:=aa d 7 A;have b5:=aa a0 9 A;have l:=Xv g;have a3:=Xv W;clear W g d a0)|(go_at_call 104;refine(a1.out _).mono ?_;rintro v b0⟨rfl,rfl⟩))
  have a4:=aa l.out.h3 3 A;have a7:=frozenAt l.out.h3 3;obtain⟨R,Z⟩:∃R,c.setCell ⟨a.heap.size+1+1+1,3,F⟩ (i64 z)=R:=⟨_,A⟩;have X:ql a.heap.size 107 158 (rV b ak r x s aE t y (.slice Q O N)) (gV p e f h i k m o (.slice D L H) q) (oV ak 0 b z ⟨#[]⟩ ⟨#[]⟩ Xp 0 0 0 0 0 0 0 (Xw F 0 0) (Xw F 0 0)) c R:=by rw[<-Z];exact l.out.set 3 _
  have n:=Xv X;clear X
  go_upto_region 9 with fail
  clear a4 a7 Z;refine ZS ?_;refine ZG A 38 _ A (a.heap.size+1+1+1) A 38 (oV ak 0 b z ⟨#[]⟩ ⟨#[]⟩ Xp 0 0 0 0 0 0 0 (Xw F 0 0) (Xw F 0 0)) (0,0) _ n.out.h3 A rfl rfl ?_;refine Zm A 38 _ _ A (a.heap.size+1+1) (oV ak 0 b z ⟨#[]⟩ ⟨#[]⟩ Xp 0 0 0 0 0 0 0 (Xw F 0 0) (Xw F 0 0)) A rfl 38 oZ n.out.h2 A rfl ni ?_;have Y:=rC A n.out a3.out;have S:=Xv Y;clear Y
  go_wp2
  exact Zx (ia A rfl (pI S.out.1 A)) A S.out.2
end
variable{m:Xn}{q:E}
theorem qm{n:XA}(r:¬n=135)(a:K):(Instr.typeAssert (.iface n m) 101 135 J).run TP a=.ok (.tuple #[.agg #[Xo M 0,Xo M 0,Xo M 0,.string XM.empty,.string XM.empty,Xo M 0,Xo M 0,.bool Xp,Xw F 0 0,Xo M 0],.bool Xp]) a:=by unfold Instr.typeAssert;go_simp;rfl
theorem Cb{n:XA}(r:¬n=136)(a:K):(Instr.typeAssert (.iface n m) 101 136 J).run TP a=.ok (.tuple #[.agg #[Xo M 0,Xo M 0,Xo M 0,.string XM.empty,.string XM.empty,Xo M 0,Xo M 0,.bool Xp,Xw F 0 0],.bool Xp]) a:=by unfold Instr.typeAssert;go_simp;rfl
theorem yq(m:Xn)(a:K):(Instr.typeAssert (.iface 136 m) 101 136 J).run TP a=.ok (.tuple #[m,.bool J]) a:=by rfl
theorem Cc{n:XA}(r:¬n=137)(a:K):(Instr.typeAssert (.iface n m) 101 137 J).run TP a=.ok (.tuple #[.agg #[Xo M 0,Xo M 0,Xo M 0,.string XM.empty,.string XM.empty,Xo M 0,Xo M 0,.bool Xp,Xw F 0 0],.bool Xp]) a:=by unfold Instr.typeAssert;go_simp;rfl
theorem yr(m:Xn)(a:K):(Instr.typeAssert (.iface 140 m) 101 140 J).run TP a=.ok (.tuple #[m,.bool J]) a:=by rfl
section
variable{e:E}{b f aE d now aL kW:Xt}{k c:XM}{l:Xy}{i:Xz XG}{h g:E}{KP p:K->Prop}{o:Xu Xn}
theorem Dy(v:Calls TP 64 #[pt u 0,i64 ak] (a.alloc (.cells (rV b ak f k c aE d l (.slice i h g)) 140)) λr s=>r=XB (.bool Xp)/\s.heap[a.heap.size]?=C (Xx (rV b ak f k c aE d l (.slice i h g)) 140 (0,0))/\KP s)(x:∀s,KP s->Calls TP 60 #[pt u 0,.agg (oV ak 0 b 3 ⟨#[]⟩ ⟨#[]⟩ Xp 0 0 0 0 0 0 0 (Xw F 0 0) (Xw F 0 0))] s λr z=>r=XB (.tuple #[])/\p z):
 Calls TP 40 #[pt u 0,.iface 140 (.agg (rV b ak f k c aE d l (.slice i h g)))] a λr N=>r=XB (.tuple #[])/\p N:=by
 have D:=Xv v;have L:=Xv x;clear v x;have O:∀t,_:=qm (n:=140) (m:=.agg (rV b ak f k c aE d l (.slice i h g))) (by decide);have Q:∀t,_:=Cb (n:=140) (m:=.agg (rV b ak f k c aE d l (.slice i h g))) (by decide);have R:∀t,_:=Cc (n:=140) (m:=.agg (rV b ak f k c aE d l (.slice i h g))) (by decide);have S:∀t,_:=yr (.agg (rV b ak f k c aE d l (.slice i h g)));go_enter Tryz.func40,Tryz.ntmps40
 go_wp2_with (first|(go_at_call 64;refine D.out.mono ?_;rintro r s⟨rfl,n,w⟩;have U:=aa n 0 A;have W:=aa n 1 A;have X:=aa n 2 A;have Y:=aa n 3 A;have Z:=aa n 4 A;have a0:=aa n 5 A;have a1:=aa n 6 A;have a2:=aa n 7 A;have a3:=aa n 8 A;have H:=Xv w;clear w n)|(go_at_call 60;refine(L.out _ H.out).mono ?_;rintro r z⟨rfl,T⟩))
 simp_all [Zx,aaZ]
theorem Km(S:Calls TP 64 #[pt u 0,i64 ak] (a.alloc (.cells (rV b ak f k c aE d l (.slice i h g)) 140)) λn t=>n=XB (.bool J)/\t.heap[a.heap.size]?=C (Xx (rV b ak f k c aE d l (.slice i h g)) 140 (0,0))/\KP t){x:Out->Xn×Xn->K->Prop}(U:∀t,KP t->Calls TP 65 #[pt u 0,.agg (rV b ak f k c aE d l (.slice i h g))] t λn v=>∃s m,n=XB (.agg (gZ s m))/\x s m v)(T:∀s m v,x s m v->Calls TP 60 #[pt u 0,.agg (gZ s m)] v λn H=>n=XB (.tuple #[])/\p H):
 Calls TP 40 #[pt u 0,.iface 140 (.agg (rV b ak f k c aE d l (.slice i h g)))] a λn W=>n=XB (.tuple #[])/\p W:=by
 have L:=Xv S;have Q:=Xv T;have R:=Xv U;have X:∀w,_:=qm (n:=140) (m:=.agg (rV b ak f k c aE d l (.slice i h g))) (by decide);have Y:∀w,_:=Cb (n:=140) (m:=.agg (rV b ak f k c aE d l (.slice i h g))) (by decide);have Z:∀w,_:=Cc (n:=140) (m:=.agg (rV b ak f k c aE d l (.slice i h g))) (by decide);have a0:∀w,_:=yr (.agg (rV b ak f k c aE d l (.slice i h g)));go_enter Tryz.func40,Tryz.ntmps40
 go_wp2_with (first|(go_at_call 64;refine L.out.mono ?_;rintro n t⟨rfl,r,y⟩;have a2:=aa r 0 A;have a3:=aa r 1 A;have a4:=aa r 2 A;have a5:=aa r 3 A;have a6:=aa r 4 A;have a7:=aa r 5 A;have a8:=aa r 6 A;have a9:=aa r 7 A;have b0:=aa r 8 A;have N:=Xv y;clear y r)|(go_at_call 65;refine(R.out _ N.out).mono ?_;rintro n v⟨s,m,rfl,z⟩;have O:=Xv z;clear z)|(go_at_call 60;refine(Q.out _ _ _ O.out).mono ?_;rintro n H⟨rfl,a1⟩))
 go_end0
 simp_all
theorem FA(w:a.heap[u]?=C (Xx o 98 (0,0)))(x:o[4]?=C (.map (C e)))(S:e<a.heap.size)(L:∀n:K,n.heap[e]?=a.heap[e]?->(Builtin.len_ #[96] 3 #[.map (C e)]).run TP n=.ok (Xo M (q:Xt)) n)(a3:¬(q:Xt)<8)(y:∀n:K,a.heap.size<=n.heap.size->(∀s,s<a.heap.size->n.heap[s]?=a.heap[s]?)->Calls TP 60 #[pt u 0,.agg (oV 0 0 b 13 ⟨#[]⟩ ⟨#[]⟩ Xp 0 0 0 0 0 0 0 (Xw F 0 0) (Xw F 0 0))] n λt W=>t=XB (.tuple #[])/\p W):
 Calls TP 40 #[pt u 0,.iface 136 (.agg (rV b ak f k c aE d l (.slice i h g)))] a λt U=>t=XB (.tuple #[])/\p U:=by
 have R:=(XZ.1 w).1;obtain⟨r,z⟩:∃r,r=((a.alloc (.cells (rV b ak f k c aE d l (.slice i h g)) 136)).alloc (.cells (oV 0 0 b 13 ⟨#[]⟩ ⟨#[]⟩ Xp 0 0 0 0 0 0 0 (Xw F 0 0) (Xw F 0 0)) 38)):=by simp
 have T:r.heap.size=a.heap.size+2:=by simp_all
 have v:∀s,s<a.heap.size->r.heap[s]?=a.heap[s]?:=by grind [Below.heap_alloc]
 have Q:r.heap[a.heap.size]?=C (Xx (rV b ak f k c aE d l (.slice i h g)) 136 (0,0)):=by grind [Below.heap_alloc,heap_alloc_new]
 have D:r.heap[a.heap.size+1]?=C (Xx (oV 0 0 b 13 ⟨#[]⟩ ⟨#[]⟩ Xp 0 0 0 0 0 0 0 (Xw F 0 0) (Xw F 0 0)) 38 (0,0)):=by have:=Yx (a.alloc (.cells (rV b ak f k c aE d l (.slice i h g)) 136)) (.cells (oV 0 0 b 13 ⟨#[]⟩ ⟨#[]⟩ Xp 0 0 0 0 0 0 0 (Xw F 0 0) (Xw F 0 0)) 38);simp_all
 have H:=(v u R).trans w;have Z:=aa H 4 x;have a2:=L r (v e S);have O:=Xv (y r (by omega) v);obtain⟨a4,q1,b1,b2,b3,b4,b5,b6,b7,b8,a5,a6,a7,a8,a9,b0⟩:=wz D;have N:=Xv z;clear L y w x Q D H v T z;have X:∀n,_:=qm (n:=136) (m:=.agg (rV b ak f k c aE d l (.slice i h g))) (by decide);have Y:∀n,_:=yq (.agg (rV b ak f k c aE d l (.slice i h g)));go_enter Tryz.func40,Tryz.ntmps40
 go_upto_region 7 with fail
 have a1:=N.out.symm
 go_wp2_with (go_at_call 60;refine O.out.mono ?_;rintro t c0⟨rfl,a0⟩)
 go_end0
 simp_all
theorem ML(U:a.heap[u]?=C (Xx o 98 (0,0)))(R:o[4]?=C (.map (C e)))(e5:e<a.heap.size)(b8:∀r:K,r.heap[e]?=a.heap[e]?->(Builtin.len_ #[96] 3 #[.map (C e)]).run TP r=.ok (Xo M (q:Xt)) r)(a1:o[5]?=C (i64 now))(a2:o[6]?=C (i64 aL))(e0:o[7]?=C (i64 kW))(b9:e≠u)(g5:(q:Xt)<8)(g4:0<=aL/\aL<2^62)(g6:0<=kW/\kW<2^62){a0:Obj->Prop}
 (a5:∀r:K,r.heap[e]?=a.heap[e]?->∃w,(Instr.mapUpdate 96 (.map (C e)) (i64 kW) (i64 now)).run TP r=.ok () (yb r e w)/\a0 w)
 (a4:∀r:K,a.heap.size<=r.heap.size->r.heap[u]?=C (Xx ((o.setIfInBounds 6 (i64 (aL+1))).setIfInBounds 7 (i64 (kW+1))) 98 (0,0))->(∃w,r.heap[e]?=C w/\a0 w)->(∀n,n<a.heap.size->n≠u->n≠e->r.heap[n]?=a.heap[n]?)->Calls TP 60 #[pt u 0,.agg (oV kW 0 b 0 ⟨#[]⟩ ⟨#[]⟩ Xp 0 0 0 0 0 0 0 (Xw F 0 0) (Xw F 0 0))] r λD f4=>D=XB (.tuple #[])/\p f4):
 Calls TP 40 #[pt u 0,.iface 136 (.agg (rV b ak f k c aE d l (.slice i h g)))] a λD f3=>D=XB (.tuple #[])/\p f3:=by
 have e4:=(XZ.1 U).1;obtain⟨t,a6⟩:∃t,t=((a.alloc (.cells (rV b ak f k c aE d l (.slice i h g)) 136)).alloc (.cells (oV 0 0 b 13 ⟨#[]⟩ ⟨#[]⟩ Xp 0 0 0 0 0 0 0 (Xw F 0 0) (Xw F 0 0)) 38)):=by simp
 have e8:t.heap.size=a.heap.size+2:=by simp_all
 have W:∀n,n<a.heap.size->t.heap[n]?=a.heap[n]?:=by grind [Below.heap_alloc]
 have b0:t.heap[a.heap.size]?=C (Xx (rV b ak f k c aE d l (.slice i h g)) 136 (0,0)):=by grind [Below.heap_alloc,heap_alloc_new]
 have b2:t.heap[a.heap.size+1]?=C (Xx (oV 0 0 b 13 ⟨#[]⟩ ⟨#[]⟩ Xp 0 0 0 0 0 0 0 (Xw F 0 0) (Xw F 0 0)) 38 (0,0)):=by have:=Yx (a.alloc (.cells (rV b ak f k c aE d l (.slice i h g)) 136)) (.cells (oV 0 0 b 13 ⟨#[]⟩ ⟨#[]⟩ Xp 0 0 0 0 0 0 0 (Xw F 0 0) (Xw F 0 0)) 38);simp_all
 have O:=(W u e4).trans U;have d7:=aa O 4 R;have e6:=b8 t (W e e5);have d8:=aa O 6 a2;have d9:=frozenAt O 6;obtain⟨v,a7⟩:∃v,t.setCell ⟨u,6,F⟩ (i64 (aL+1))=v:=by simp
 have X:∀n,n≠u->v.heap[n]?=t.heap[n]?:=by grind [ai]
 have e9:v.heap.size=t.heap.size:=by grind [aR]
 have b6:v.heap[u]?=C (Xx (o.setIfInBounds 6 (i64 (aL+1))) 98 (0,0)):=by grind [aA]
 have d6:v.cell? ⟨u,7,F⟩=C (i64 kW):=by grind [aa]
 have b1:=(X a.heap.size (by omega)).trans b0;have S:=(X (a.heap.size+1) (by omega)).trans b2;have d5:=aa b1 0 A;obtain⟨s,H⟩:∃s,s=v.drew.setRow (a.heap.size+1) (oV kW 0 b 0 ⟨#[]⟩ ⟨#[]⟩ Xp 0 0 0 0 0 0 0 (Xw F 0 0) (Xw F 0 0)):=by simp
 have c0:∀n,n≠a.heap.size+1->s.heap[n]?=v.heap[n]?:=λn N=>by rw[H];exact ZO _ _ _ _ N
 have f0:s.heap.size=v.heap.size:=by simp_all
 have b3:s.heap[a.heap.size+1]?=C (Xx (oV kW 0 b 0 ⟨#[]⟩ ⟨#[]⟩ Xp 0 0 0 0 0 0 0 (Xw F 0 0) (Xw F 0 0)) 38 (0,0)):=by rw[H];exact k_ _ _ _ _ _ _ S
 have z:=(c0 u (by omega)).trans b6;have c6:s.heap[e]?=a.heap[e]?:=by grind
 have f7:=aa z 4 (by rw[Zb];simpa using R);have f8:=aa z 5 (by rw[Zb];simpa using a1);have f9:s.cell? ⟨u,7,F⟩=C (i64 kW):=aa z 7 (by simp_all);obtain⟨w,Q,a3⟩:=a5 s.drew c6;obtain⟨x,L⟩:∃x,yb s.drew e w=x:=by simp
 rw[L]at Q;have e7:e<s.heap.size:=by omega
 have Y:∀n,n≠e->x.heap[n]?=s.heap[n]?:=λn N=>by rw[<-L];show(s.heap.setIfInBounds e w)[n]?=_;grind
 have c7:x.heap[e]?=C w:=by grind
 have f1:x.heap.size=s.heap.size:=by rw[<-L];simp
 have T:=(Y u (Zh b9)).trans z;have b4:=(Y (a.heap.size+1) (by omega)).trans b3;have g7:x.cell? ⟨u,7,F⟩=C (i64 kW):=aa T 7 (by grind);have g8:=frozenAt T 7;obtain⟨y,a9⟩:∃y,x.setCell ⟨u,7,F⟩ (i64 (kW+1))=y:=by simp
 have Z:∀n,n≠u->y.heap[n]?=x.heap[n]?:=λn N=>by grind [ai]
 have f2:y.heap.size=x.heap.size:=by grind [aR]
 have b7:y.heap[u]?=C (Xx ((o.setIfInBounds 6 (i64 (aL+1))).setIfInBounds 7 (i64 (kW+1))) 98 (0,0)):=by grind [aA]
 have b5:=(Z (a.heap.size+1) (by omega)).trans b4;have e1:=Xv (a4 y (by omega) b7 ⟨w,(Z e b9).trans c7,a3⟩ λn N g0 g1=>by grind);have c8:=Xv S;have c9:=Xv b5;have d1:=Xv a6;have d2:=Xv a7;have d3:=Xv H;have d4:=Xv a9;have d0:=Xv Q;clear a5 a4 b8 U R a1 a2 e0 b0 b2 O W e8 a6 a7 X e9 b6 b1 S H c0 f0 b3 z c6 a3 L Y c7 f1 T b4 a9 Z f2 b7 b5 e7 Q;have f5:∀r,_:=qm (n:=136) (m:=.agg (rV b ak f k c aE d l (.slice i h g))) (by decide);have f6:∀r,_:=yq (.agg (rV b ak f k c aE d l (.slice i h g)));go_enter Tryz.func40,Tryz.ntmps40
 go_upto_region 7 with fail
 have e2:=d1.out.symm;have e3:=d2.out
 go_upto_region 9 with fail
 clear e2 e3 d7 d8 d9 e6
 go_still_tail 8,(by kernel_rfl)
 change wpList _ _ _ _ _ v.drew
 refine Zm A 38 _ _ A (a.heap.size+1) (oV kW 0 b 0 ⟨#[]⟩ ⟨#[]⟩ Xp 0 0 0 0 0 0 0 (Xw F 0 0) (Xw F 0 0)) A rfl 38 (oV 0 0 b 13 ⟨#[]⟩ ⟨#[]⟩ Xp 0 0 0 0 0 0 0 (Xw F 0 0) (Xw F 0 0)) c8.out A rfl ni ?_;have a8:=d3.out.symm;rw[a8];clear d6 d5 a8
 go_upto_region 10 with fail
 have Q:=d0.out
 go_still_tail 12,(by kernel_rfl)
 have g3:=d4.out
 go_upto_region 12 with fail
 obtain⟨g9,q1,h6,h7,h8,h9,i0,i1,i2,i3,h0,h1,h2,h3,h4,h5⟩:=wz c9.out
 go_wp2_with (go_at_call 60;refine e1.out.mono ?_;rintro D i5⟨rfl,g2⟩)
 go_end0
 simp_all
end
variable{m:E}{N:E}
structure lD(m:E)(v V:Xu Xn)(t a:K):Prop where
 h0:a.heap[m]?=C (Xx v 140 (0,0))
 h2:a.heap[m+1]?=C (Xx oZ 38 (0,0))
 h3:a.heap[m+1+1]?=C (Xx V 38 (0,0))
 size:a.heap.size=t.heap.size
 keep:∀n,n≠m+1+1->a.heap[n]?=t.heap[n]?
theorem lD.set{e V:Xu Xn}{g:K}(b:lD m e V g a)(d:E)(f:Xn):lD m e (V.setIfInBounds d f) g (a.setCell ⟨m+1+1,d,F⟩ f):=
 ⟨(ai (by omega)).trans b.h0,(ai (by omega)).trans b.h2,aA b.h3,aR.trans b.size,λh c=>(ai c).trans (b.keep h c)⟩
theorem lD.base{c V:Xu Xn}{d:K}(b:lD m c V d a):lD m c V a a:=⟨b.h0,b.h2,b.h3,A,λ_ _=>rfl⟩
abbrev uu(a:K)(c:Xu Xn)(ak b:Xt):K:=((a.alloc (.cells c 140)).alloc (.cells oZ 38)).alloc (.cells (oS ak b) 38)
def zE(m:E)(V:Xu Xn)(KP:K->Prop)(d:Ending)(c:K):Prop:=d=XB (.agg V)/\∃b,KP b/\c.heap.size=b.heap.size/\∀a,a≠m+1->a≠m+1+1->c.heap[a]?=b.heap[a]?
theorem IY{h V:Xu Xn}{c:K}{KP:K->Prop}(i:V.size=16)(b:lD m h V c a)(g:KP c):(a.setRow (m+1) V).heap[m+1]?=C (Xx V 38 (0,0))/\zE m V KP (XB (.agg V)) (a.setRow (m+1) V):=
 ⟨k_ _ _ _ _ _ _ b.h2,A,c,g,by rw[abq];exact b.size,λd e f=>by rw[ZO _ _ _ _ e];exact b.keep d f⟩
section
variable{b c aE e o aL:Xt}{f d:XM}{k:Xy}{p:Xu Xn}{i:Xz XG}{h g:E}{r q s:K->Prop}
theorem OP(e1:(c==2)=Xp)(e2:(c==7)=Xp)(a8:a.heap[u]?=C (Xx p 98 (0,0)))(c0:p[6]?=C (i64 aL))(d9:p[2]?=C (pt N 0))(e0:0<=aL/\aL<2^62)(Y:Calls TP 109 #[pt N 0] ((uu a (rV b ak c f d aE e k (.slice i h g)) ak b).setCell ⟨u,6,F⟩ (i64 (aL+1))) λy n=>y=XB (.tuple #[])/\lD a.heap.size (rV b ak c f d aE e k (.slice i h g)) (oS ak b) n n/\(n.cell? ⟨u,2,F⟩=C (pt N 0)/\n.cell? ⟨u,6,F⟩=C (i64 (aL+1)))/\r n)(a1:∀l,r l->lD a.heap.size (rV b ak c f d aE e k (.slice i h g)) (oS ak b) l l->∀d1,Calls TP 113 #[pt N 0,.agg #[i64 c,.string f,.string d,i64 aE,i64 e],i64 ak,i64 (aL+1)] (l.drewN d1) λy z=>y=XB (.tuple #[.string ⟨#[]⟩,Xw F 0 0,.iface 32 (i64 o)])/\lD a.heap.size (rV b ak c f d aE e k (.slice i h g)) (oS ak b) z z/\(z.cell? ⟨u,2,F⟩=C (pt N 0)/\z.cell? ⟨u,6,F⟩=C (i64 (aL+1)))/\q z)(a0:∀a,Calls TP 104 #[.iface 32 (i64 o)] a λd2 n=>d2=XB (i64 o)/\a=n)(d8:(o !=0)=J):
 Calls TP 65 #[pt u 0,.agg (rV b ak c f d aE e k (.slice i h g))] a (zE a.heap.size (oV ak 0 b o ⟨#[]⟩ ⟨#[]⟩ Xp 0 0 0 0 0 0 0 (Xw F 0 0) (Xw F 0 0)) q):=by
 have b0:=Xv a0;clear a0;have b1:=Xv a1;have xx:=(XZ.1 a8).1;obtain⟨H,T⟩:∃H,H=uu a (rV b ak c f d aE e k (.slice i h g)) ak b:=by simp
 have Q:H.heap[u]?=C (Xx p 98 (0,0)):=by grind [Below.heap_alloc]
 have b8:=aa Q 6 c0;have b9:=frozenAt Q 6;have a6:=aA (l:=6) (g:=i64 (aL+1)) Q;obtain⟨L,O⟩:∃L,L=H.setCell ⟨u,6,F⟩ (i64 (aL+1)):=by simp
 rw[<-O]at a6;have b7:L.cell? ⟨u,2,F⟩=C (pt N 0):=by grind [aa]
 have Z:Calls TP 109 #[pt N 0] L λy n=>y=XB (.tuple #[])/\lD a.heap.size (rV b ak c f d aE e k (.slice i h g)) (oS ak b) n n/\(n.cell? ⟨u,2,F⟩=C (pt N 0)/\n.cell? ⟨u,6,F⟩=C (i64 (aL+1)))/\r n:=by rw[O,T];exact Y
 have a9:=Xv Z;have b5:=Xv T;have b6:=Xv O;clear Y Z a1 O T a8 Q a6;go_enter Tryz.func65,Tryz.ntmps65
 go_upto_region 5 with fail
 have c7:=b5.out.symm;have c8:=b6.out.symm
 go_upto_region 6 with fail
 clear b8 b9 c7
 go_upto_region 7 with(go_at_call 109;refine a9.out.mono ?_;rintro y l⟨rfl,a5,a7,a3⟩;have v:=Xv a5;have W:=Xv a7;have b3:=Xv a3;clear a5 a7 a3)
 clear b7 c8;have d3:=aa v.out.h0 2 A
 go_upto_region 12 with fail
 have a2:=b1.out l b3.out v.out 1;have b2:=Xv a2;clear a2 d3;have d5:l.drew.cell? ⟨u,2,F⟩=C (pt N 0)/\l.drew.cell? ⟨u,6,F⟩=C (i64 (aL+1))/\l.drew.cell? ⟨a.heap.size,0,F⟩=C (i64 b)/\l.drew.cell? ⟨a.heap.size,1,F⟩=C (i64 ak)/\l.drew.cell? ⟨a.heap.size,2,F⟩=C (i64 c)/\l.drew.cell? ⟨a.heap.size,3,F⟩=C (.string f)/\l.drew.cell? ⟨a.heap.size,4,F⟩=C (.string d)/\l.drew.cell? ⟨a.heap.size,5,F⟩=C (i64 aE)/\l.drew.cell? ⟨a.heap.size,6,F⟩=C (i64 e):=⟨W.out.1,W.out.2,aa (e:=l.drew) v.out.h0 0 A,aa (e:=l.drew) v.out.h0 1 A,aa (e:=l.drew) v.out.h0 2 A,aa (e:=l.drew) v.out.h0 3 A,aa (e:=l.drew) v.out.h0 4 A,aa (e:=l.drew) v.out.h0 5 A,aa (e:=l.drew) v.out.h0 6 A⟩
 go_region_held3 (λw=>w.cell? ⟨u,2,F⟩=C (pt N 0)/\w.cell? ⟨u,6,F⟩=C (i64 (aL+1))/\w.cell? ⟨a.heap.size,0,F⟩=C (i64 b)/\w.cell? ⟨a.heap.size,1,F⟩=C (i64 ak)/\w.cell? ⟨a.heap.size,2,F⟩=C (i64 c)/\w.cell? ⟨a.heap.size,3,F⟩=C (.string f)/\w.cell? ⟨a.heap.size,4,F⟩=C (.string d)/\w.cell? ⟨a.heap.size,5,F⟩=C (i64 aE)/\w.cell? ⟨a.heap.size,6,F⟩=C (i64 e))
  (first|omega|omega)
  (first|(go_at_call 113;refine b2.out.mono ?_;rintro y t⟨rfl,x,R,a4⟩;have d6:t.cell? ⟨u,2,F⟩=C (pt N 0)/\t.cell? ⟨u,6,F⟩=C (i64 (aL+1))/\t.cell? ⟨a.heap.size,0,F⟩=C (i64 b)/\t.cell? ⟨a.heap.size,1,F⟩=C (i64 ak)/\t.cell? ⟨a.heap.size,2,F⟩=C (i64 c)/\t.cell? ⟨a.heap.size,3,F⟩=C (.string f)/\t.cell? ⟨a.heap.size,4,F⟩=C (.string d)/\t.cell? ⟨a.heap.size,5,F⟩=C (i64 aE)/\t.cell? ⟨a.heap.size,6,F⟩=C (i64 e):=⟨R.1,R.2,aa x.h0 0 A,aa x.h0 1 A,aa x.h0 2 A,aa x.h0 3 A,aa x.h0 4 A,aa x.h0 5 A,aa x.h0 6 A⟩;have S:=Xv x;have d4:=Xv R;have b4:=Xv a4;clear x a4 R))
 have c3:=aa S.out.h3 3 A;have e6:=frozenAt S.out.h3 3;obtain⟨U,d0⟩:∃U,t.setCell ⟨a.heap.size+1+1,3,F⟩ (i64 o)=U:=by simp
 have c6:lD a.heap.size (rV b ak c f d aE e k (.slice i h g)) (oV ak 0 b o ⟨#[]⟩ ⟨#[]⟩ Xp 0 0 0 0 0 0 0 (Xw F 0 0) (Xw F 0 0)) t U:=by rw[<-d0];exact S.out.set 3 _
 have D:=Xv c6
 go_upto_region 14 with(go_at_call 104;refine(b0.out _).mono ?_;rintro y e5⟨rfl,rfl⟩)
 have d7:=aa D.out.h3 3 A
 go_upto_region 15 with fail
 refine ZS ?_;refine ZG A 38 _ A (a.heap.size+1+1) A 38 (oV ak 0 b o ⟨#[]⟩ ⟨#[]⟩ Xp 0 0 0 0 0 0 0 (Xw F 0 0) (Xw F 0 0)) (0,0) _ D.out.h3 A rfl rfl ?_;refine Zm A 38 _ _ A (a.heap.size+1) (oV ak 0 b o ⟨#[]⟩ ⟨#[]⟩ Xp 0 0 0 0 0 0 0 (Xw F 0 0) (Xw F 0 0)) A rfl 38 oZ D.out.h2 A rfl ni ?_;have c9:=IY A D.out b4.out;have X:=Xv c9
 go_wp2
 exact Zx (ia A rfl (pI X.out.1 A)) A X.out.2
theorem xp{c6:Xn}{V:Xu Xn}{d5 d6:K->Prop}{q:Xz XG->E->E->K->Prop}{x a8:XM}{T U W X Y Z a0:Xt}(l1:(c==2)=Xp)(l2:(c==7)=Xp)(g5:a.heap[u]?=C (Xx p 98 (0,0)))(j6:p[6]?=C (i64 aL))(k9:p[2]?=C (pt N 0))(l0:0<=aL/\aL<2^62)(d9:Calls TP 109 #[pt N 0] ((uu a (rV b ak c f d aE e k (.slice i h g)) ak b).setCell ⟨u,6,F⟩ (i64 (aL+1))) λn v=>n=XB (.tuple #[])/\lD a.heap.size (rV b ak c f d aE e k (.slice i h g)) (oS ak b) v v/\(v.cell? ⟨u,2,F⟩=C (pt N 0)/\v.cell? ⟨u,6,F⟩=C (i64 (aL+1)))/\r v)(e2:∀l,r l->lD a.heap.size (rV b ak c f d aE e k (.slice i h g)) (oS ak b) l l->∀k1,Calls TP 113 #[pt N 0,.agg #[i64 c,.string f,.string d,i64 aE,i64 e],i64 ak,i64 (aL+1)] (l.drewN k1) λn t=>∃D L H,n=XB (.tuple #[.string x,.slice D L H,.nilIface])/\lD a.heap.size (rV b ak c f d aE e k (.slice i h g)) (oS ak b) t t/\(t.cell? ⟨u,2,F⟩=C (pt N 0)/\t.cell? ⟨u,6,F⟩=C (i64 (aL+1)))/\q D L H t)(e1:∀a,Calls TP 104 #[.nilIface] a λk3 v=>k3=XB (i64 0)/\a=v)(f8:∀D L H t,q D L H t->lD a.heap.size (rV b ak c f d aE e k (.slice i h g)) (oV ak 0 b 0 ⟨#[]⟩ ⟨#[]⟩ Xp 0 0 0 0 0 0 0 (Xw F 0 0) (Xw F 0 0)) t t->Calls TP 110 #[pt u 0,i64 b,.slice D L H] t λn w=>n=XB (.tuple #[])/\lD a.heap.size (rV b ak c f d aE e k (.slice i h g)) (oV ak 0 b 0 ⟨#[]⟩ ⟨#[]⟩ Xp 0 0 0 0 0 0 0 (Xw F 0 0) (Xw F 0 0)) w w/\w.cell? ⟨u,2,F⟩=C (pt N 0)/\s w)(e4:∀w,s w->lD a.heap.size (rV b ak c f d aE e k (.slice i h g)) (oV ak 0 b 0 x ⟨#[]⟩ Xp 0 0 0 0 0 0 0 (Xw F 0 0) (Xw F 0 0)) w w->Calls TP 58 #[pt N 0,.string x] w λn a2=>∃a3 a5 a4,n=XB (.tuple #[.agg #[.string a8,i64 T,i64 U,i64 W,i64 X,i64 Y,i64 Z,i64 a0,.slice a3 a5 a4],c6])/\(∀a7,lD a.heap.size (rV b ak c f d aE e k (.slice i h g)) (oV ak 0 b 0 x ⟨#[]⟩ Xp 0 0 0 0 0 0 0 (Xw F 0 0) (Xw F 0 0)) (a2.alloc a7) (a2.alloc a7))/\d5 a2)(e7:∀D L H t O,q D L H t->lD a.heap.size (rV b ak c f d aE e k (.slice i h g)) (oV ak 0 b 0 ⟨#[]⟩ ⟨#[]⟩ Xp 0 0 0 0 0 0 0 (Xw F 0 0) (Xw F 0 0)) t O->q D L H O)(e8:∀t O,s t->lD a.heap.size (rV b ak c f d aE e k (.slice i h g)) (oV ak 0 b 0 x ⟨#[]⟩ Xp 0 0 0 0 0 0 0 (Xw F 0 0) (Xw F 0 0)) t O->s O)(e9:∀a2 a7,d5 a2->d6 (a2.alloc a7))(g0:.nilIface=c6/\oV ak 0 b 0 x ⟨#[]⟩ J T U W X Y Z a0 (Xw F 0 0) (Xw F 0 0)=V\/.iface 32 (i64 o)=c6/\oV ak 0 b 0 x ⟨#[]⟩ Xp 0 0 0 0 0 0 0 (Xw F 0 0) (Xw F 0 0)=V):
 Calls TP 65 #[pt u 0,.agg (rV b ak c f d aE e k (.slice i h g))] a (zE a.heap.size V d6):=by
 have i5:=Xv g0;clear g0;have h1:=Xv e1;have i3:=Xv f8;have h4:=Xv e4;have i0:=Xv e7;have i1:=Xv e8;have i2:=Xv e9;clear e1 f8 e4 e7 e8 e9;have h2:=Xv e2;have xx:=(XZ.1 g5).1;obtain⟨b1,c8⟩:∃b1,b1=uu a (rV b ak c f d aE e k (.slice i h g)) ak b:=by simp
 have b5:b1.heap[u]?=C (Xx p 98 (0,0)):=by grind [Below.heap_alloc]
 have j4:=aa b5 6 j6;have j5:=frozenAt b5 6;have g2:=aA (l:=6) (g:=i64 (aL+1)) b5;obtain⟨b2,b4⟩:∃b2,b2=b1.setCell ⟨u,6,F⟩ (i64 (aL+1)):=by simp
 rw[<-b4]at g2;have j3:b2.cell? ⟨u,2,F⟩=C (pt N 0):=by grind [aa]
 have e0:Calls TP 109 #[pt N 0] b2 λn v=>n=XB (.tuple #[])/\lD a.heap.size (rV b ak c f d aE e k (.slice i h g)) (oS ak b) v v/\(v.cell? ⟨u,2,F⟩=C (pt N 0)/\v.cell? ⟨u,6,F⟩=C (i64 (aL+1)))/\r v:=by rw[b4,c8];exact d9
 have g9:=Xv e0;have i6:=Xv c8;have i7:=Xv b4;clear d9 e0 e2 b4 c8 g5 b5 g2;go_enter Tryz.func65,Tryz.ntmps65
 go_upto_region 5 with fail
 have j7:=i6.out.symm;have j8:=i7.out.symm
 go_upto_region 6 with fail
 clear j4 j5 j7
 go_upto_region 7 with(go_at_call 109;refine g9.out.mono ?_;rintro n l⟨rfl,f3,g4,e6⟩;have Q:=Xv f3;have d3:=Xv g4;have h6:=Xv e6;clear f3 g4 e6)
 clear j3 j8;have k4:=aa Q.out.h0 2 A
 go_upto_region 12 with fail
 have e3:=h2.out l h6.out Q.out 1;have h3:=Xv e3;clear e3 k4;have i8:l.drew.cell? ⟨u,2,F⟩=C (pt N 0)/\l.drew.cell? ⟨u,6,F⟩=C (i64 (aL+1))/\l.drew.cell? ⟨a.heap.size,0,F⟩=C (i64 b)/\l.drew.cell? ⟨a.heap.size,1,F⟩=C (i64 ak)/\l.drew.cell? ⟨a.heap.size,2,F⟩=C (i64 c)/\l.drew.cell? ⟨a.heap.size,3,F⟩=C (.string f)/\l.drew.cell? ⟨a.heap.size,4,F⟩=C (.string d)/\l.drew.cell? ⟨a.heap.size,5,F⟩=C (i64 aE)/\l.drew.cell? ⟨a.heap.size,6,F⟩=C (i64 e):=⟨d3.out.1,d3.out.2,aa (e:=l.drew) Q.out.h0 0 A,aa (e:=l.drew) Q.out.h0 1 A,aa (e:=l.drew) Q.out.h0 2 A,aa (e:=l.drew) Q.out.h0 3 A,aa (e:=l.drew) Q.out.h0 4 A,aa (e:=l.drew) Q.out.h0 5 A,aa (e:=l.drew) Q.out.h0 6 A⟩
 go_region_held3 (λR=>R.cell? ⟨u,2,F⟩=C (pt N 0)/\R.cell? ⟨u,6,F⟩=C (i64 (aL+1))/\R.cell? ⟨a.heap.size,0,F⟩=C (i64 b)/\R.cell? ⟨a.heap.size,1,F⟩=C (i64 ak)/\R.cell? ⟨a.heap.size,2,F⟩=C (i64 c)/\R.cell? ⟨a.heap.size,3,F⟩=C (.string f)/\R.cell? ⟨a.heap.size,4,F⟩=C (.string d)/\R.cell? ⟨a.heap.size,5,F⟩=C (i64 aE)/\R.cell? ⟨a.heap.size,6,F⟩=C (i64 e))
  (first|omega|omega)
  (first|(go_at_call 113;refine h3.out.mono ?_;rintro n y⟨D,L,H,rfl,S,b6,f0⟩;have i9:y.cell? ⟨u,2,F⟩=C (pt N 0)/\y.cell? ⟨u,6,F⟩=C (i64 (aL+1))/\y.cell? ⟨a.heap.size,0,F⟩=C (i64 b)/\y.cell? ⟨a.heap.size,1,F⟩=C (i64 ak)/\y.cell? ⟨a.heap.size,2,F⟩=C (i64 c)/\y.cell? ⟨a.heap.size,3,F⟩=C (.string f)/\y.cell? ⟨a.heap.size,4,F⟩=C (.string d)/\y.cell? ⟨a.heap.size,5,F⟩=C (i64 aE)/\y.cell? ⟨a.heap.size,6,F⟩=C (i64 e):=⟨b6.1,b6.2,aa S.h0 0 A,aa S.h0 1 A,aa S.h0 2 A,aa S.h0 3 A,aa S.h0 4 A,aa S.h0 5 A,aa S.h0 6 A⟩;have c0:=Xv S;have k8:=Xv b6;have h7:=Xv f0;clear S f0 b6))
 clear i8 i9;have c3:=aa c0.out.h3 3 A;have k5:=frozenAt c0.out.h3 3;obtain⟨O,g8⟩:∃O,y.setCell ⟨a.heap.size+1+1,3,F⟩ (i64 0)=O:=by simp
 have b3:lD a.heap.size (rV b ak c f d aE e k (.slice i h g)) (oV ak 0 b 0 ⟨#[]⟩ ⟨#[]⟩ Xp 0 0 0 0 0 0 0 (Xw F 0 0) (Xw F 0 0)) y O:=by rw[<-g8];exact c0.out.set 3 _
 have f9:=i3.out D L H O (i0.out _ _ _ _ _ h7.out b3) b3.base;have i4:=Xv f9;have d7:=Xv b3;clear b3 f9
 go_upto_region 14 with(go_at_call 104;refine(h1.out _).mono ?_;rintro n a2⟨rfl,rfl⟩)
 clear c3 k5 g8;have j2:=aa d7.out.h3 3 A;have j1:=aa d7.out.h0 0 A
 go_upto_region 17 with(go_at_call 110;refine i4.out.mono ?_;rintro n w⟨rfl,f5,g3,f1⟩;have b9:=Xv f5;have h0:=Xv g3;have h8:=Xv f1;clear f5 g3 f1)
 clear j2 j1;have k2:=aa b9.out.h3 4 A;have k7:=frozenAt b9.out.h3 4;obtain⟨a9,c9⟩:∃a9,w.setCell ⟨a.heap.size+1+1,4,F⟩ (.string x)=a9:=by simp
 have c7:lD a.heap.size (rV b ak c f d aE e k (.slice i h g)) (oV ak 0 b 0 x ⟨#[]⟩ Xp 0 0 0 0 0 0 0 (Xw F 0 0) (Xw F 0 0)) w a9:=by rw[<-c9];exact b9.out.set 4 _
 have j9:a9.cell? ⟨u,2,F⟩=C (pt N 0):=by rw[<-c9,Re (λn=>by omega)];exact h0.out
 have e5:=h4.out a9 (i1.out _ _ h8.out c7) c7.base;have h5:=Xv e5;clear e5 c7
 go_upto_region 19 with(go_at_call 58;refine h5.out.mono ?_;rintro n b7⟨a3,a5,a4,rfl,f6,f2⟩;have a6:=Xv (f6 (.cells #[.string a8,i64 T,i64 U,i64 W,i64 X,i64 Y,i64 Z,i64 a0,.slice a3 a5 a4] 154));have h9:=Xv (i2.out b7 (.cells #[.string a8,i64 T,i64 U,i64 W,i64 X,i64 Y,i64 Z,i64 a0,.slice a3 a5 a4] 154) f2);have g1:=Yx b7 (.cells #[.string a8,i64 T,i64 U,i64 W,i64 X,i64 Y,i64 Z,i64 a0,.slice a3 a5 a4] 154);have d2:=Xv g1;clear f6 f2 g1)
 clear k2 k7 c9 j9;generalize b7.alloc (.cells #[.string a8,i64 T,i64 U,i64 W,i64 X,i64 Y,i64 Z,i64 a0,.slice a3 a5 a4] 154)=d0 at*
 rcases i5.out with⟨rfl,rfl⟩|⟨rfl,rfl⟩
 focus
  go_upto_region 20 with fail
  have j0:=aa a6.out.h3 6 A;have k6:=frozenAt a6.out.h3 6;obtain⟨b8,g7⟩:∃b8,d0.setCell ⟨a.heap.size+1+1,6,F⟩ (.bool J)=b8:=by simp
  have f7:lD a.heap.size (rV b ak c f d aE e k (.slice i h g)) (oV ak 0 b 0 x ⟨#[]⟩ J 0 0 0 0 0 0 0 (Xw F 0 0) (Xw F 0 0)) d0 b8:=by rw[<-g7];exact a6.out.set 6 _
  have z:=Xv f7;clear f7
  go_upto_region 21 with fail
  clear j0 k6 g7;have a1:=(z.out.keep b7.heap.size (λn=>by have d8:=a6.out.h3;rw[<-n,d2.out]at d8;cases d8)).trans d2.out;have l3:=aa a1 1 A;have l4:=aa a1 2 A;have l5:=aa a1 3 A;have l6:=aa a1 4 A;have l7:=aa a1 5 A;have l8:=aa a1 6 A;have l9:=aa a1 7 A;have m0:=aa z.out.h3 7 A;have m1:=aa z.out.h3 8 A;have m2:=aa z.out.h3 9 A;have m3:=aa z.out.h3 10 A;have m4:=aa z.out.h3 11 A;have m5:=aa z.out.h3 12 A;have m6:=aa z.out.h3 13 A;have m8:=frozenAt z.out.h3;clear a1;obtain⟨d1,k0⟩:∃d1,(((((((b8.setCell ⟨a.heap.size+1+1,7,F⟩ (i64 T)).setCell ⟨a.heap.size+1+1,8,F⟩ (i64 U)).setCell ⟨a.heap.size+1+1,9,F⟩ (i64 W)).setCell ⟨a.heap.size+1+1,10,F⟩ (i64 X)).setCell ⟨a.heap.size+1+1,11,F⟩ (i64 Y)).setCell ⟨a.heap.size+1+1,12,F⟩ (i64 Z)).setCell ⟨a.heap.size+1+1,13,F⟩ (i64 a0))=d1:=by simp
  have f4:lD a.heap.size (rV b ak c f d aE e k (.slice i h g)) (oV ak 0 b 0 x ⟨#[]⟩ J T U W X Y Z a0 (Xw F 0 0) (Xw F 0 0)) d0 d1:=by rw[<-k0];exact((((((z.out.set 7 _).set 8 _).set 9 _).set 10 _).set 11 _).set 12 _).set 13 _
  have b0:=Xv f4;clear f4
  go_upto_region 22 with fail
 rotate_left
 have b0:=a6
 focus
  go_upto_region 22 with fail
 rotate_left
 all_goals
  refine ZS ?_;refine ZG A 38 _ A (a.heap.size+1+1) A 38 _ (0,0) _ b0.out.h3 A rfl rfl ?_;refine Zm A 38 _ _ A (a.heap.size+1) _ A rfl 38 oZ b0.out.h2 A rfl ni ?_;have g6:=IY A b0.out h9.out;have d4:=Xv g6;clear g6
  go_wp2
  exact Zx (ia A rfl (pI d4.out.1 A)) A d4.out.2
end
variable{c:K}{b:K}{e:Xn}{i:Out}{h:E}{a:E}
section
variable[Inhabited aN]
theorem fg(c:Xq (Xt×Xt))(id:Xt):fP c (Xo M id)=(c.find? λb=>decide (b.1=id)).map λb=>i64 b.2:=A
theorem tB{id:Xt}:(fP y.dG (Xo M id)).isSome=Wt.known y id:=by rw[fg,Xz.isSome_map,aa9,Xq.find?_isSome];simp[Wt.known]
theorem vK(c:Xq (Xt×Xt))(id now:Xt)(d:Xt):((c.map λb=>if b.1=id then(b.1,now)else b).find? λb=>decide (b.1=d))=(c.find? λb=>decide (b.1=d)).map λb=>if b.1=id then(b.1,now)else b:=by
 induction c with
 |nil=>rfl
 |cons b c e=>grind
theorem Ak{id:Xt}(e:Wt.known y id=J):fP (Wt.heard y id).dG (Xo M id)=C (i64 y.now)/\∀b,b≠Xo M id->fP (Wt.heard y id).dG b=fP y.dG b:=by
 have d:=e;rw[<-tB,fg,Xz.isSome_map]at d;obtain⟨c,f⟩:=Yd.1 d;have hid:c.1=id:=by grind
 refine⟨?_,λb l=>?_⟩
 .show Xz.map _ (Xq.find? _ (y.dG.map _))=_;rw[vK,f];simp[hid]
 cases b with
 |int g h=>
  cases g with
  |i64=>
   rw[fg,fg];show Xz.map _ (Xq.find? _ (y.dG.map _))=_;rw[vK];cases k:Xq.find? (λc=>decide (c.1=h)) y.dG with
   |none=>rfl
   |some i=>grind
  |_=>rfl
 |_=>rfl
section
variable{f:Xt}{g:Xq Out}{d:fB}
theorem Ie(i:aK u f y g d c)(id:Xt):Calls TP 64 #[pt u 0,Xo M id] c λh b=>h=XB (.bool (Wt.known y id))/\aK u f (if Wt.known y id then Wt.heard y id else y) g d b/\aI (aH u y.tree d) (aH u y.tree d) c b:=by
 obtain⟨z,w,r,p⟩:=i.kF;have k:=p.get Ni IQ (Ve c) r (k:=Xo M id) ⟨id,A⟩ J;have l:=tB (y:=y) (id:=id);cases o:Wt.known y id with
 |true=>
  rw[o]at l;obtain⟨e,m⟩:=Yd.1 l;obtain⟨H,L⟩:=Ak o;obtain⟨q,rfl⟩:∃q,e=i64 q:=by
   rw[fg]at m;cases W:Xq.find? (λh=>decide (h.1=id)) y.dG with
   |none=>simp_all
   |some h=>grind
  rw[m]at k;have s:c.drew.heap[d.hb]?=C (.map z w):=r;obtain⟨D,x,O,v⟩:=p.put Ni IQ s (k:=Xo M id) ⟨id,A⟩ (i64 y.now) (g:=fP (Wt.heard y id).dG) H L;refine(JY i.ch k O).mono λh S⟨n,t⟩=>⟨n,?_⟩;obtain⟨q1,R⟩:=abp (o':=.map D x) s;rw[t];exact i.hears (se:=(Wt.heard y id).dG) q1 v (by simp) (λa U N=>R a N)
 |false=>
  rw[o]at l;have m:fP y.dG (Xo M id)=F:=by simpa using l
  rw[m]at k;refine(Np i.ch k).mono λh S⟨n,t⟩=>⟨n,?_⟩;simp_all [aI.refl]
theorem dK.form{f:Xq B}(d:dK f e c):∃a h b,e=.slice a h b:=by rcases d with⟨rfl,_⟩|⟨_,_,_,_,_,rfl,_⟩<;>exact⟨_,_,_,A⟩
theorem tn.form{f:Xq (Xt×B)}(d:tn f e c):∃a h b,e=.slice a h b:=by rcases d with⟨rfl,_⟩|⟨_,_,_,_,_,rfl,_⟩<;>exact⟨_,_,_,A⟩
theorem GA(k:aK u f y g d c)(t:g.length<2^20){e:Xn×Xn}(l:eU i e c)(r:∀a,e.1.ownBlock=C a\/e.2.ownBlock=C a->¬aH u y.tree d a):
 Calls TP 60 #[pt u 0,.agg (gZ i e)] c λm b=>m=XB (.tuple #[])/\∃h,aK u f y (g++[i]) {d with ov:=h,vs:=d.vs++[e]} b/\aI (aH u y.tree d) (aH u y.tree {d with ov:=h,vs:=d.vs++[e]}) c b:=by
 obtain⟨Q,R⟩:=e;obtain⟨N,H,c1,n⟩:=l.1.form;obtain⟨O,L,c2,o⟩:=l.2.form;subst n o;refine(Ov k.ch A k.row t).mono λm b⟨q,x,s,h,p,w,v⟩=>⟨q,h,?_⟩;exact k.VU l r p w v x s
theorem UB(c:K):(binOp .eql 75 .nilFunc .nilFunc).run TP c=.ok (.bool J) c:=A
theorem Nu{v:Xu Xn}(w:c.heap[u]?=C (Xx v 98 (0,0)))(y:v[9]?=C .nilFunc)(d e f g:Xt)(r s:XM)(p:Xy)(h i k l m n o:Xt)(q t:Xn):Calls TP 151 #[pt u 0,.agg (oV d e f g r s p h i k l m n o q t)] c λx b=>x=XB (.tuple #[])/\b=c.alloc (.cells (oV d e f g r s p h i k l m n o q t) 38):=by
 have z:=(XZ.1 w).1
 have D:(c.alloc (.cells (oV d e f g r s p h i k l m n o q t) 38)).cell? ⟨u,9,F⟩=C .nilFunc:=by rw[YJ _ _ _ z];exact aa w 9 y
 have H:=UB (c.alloc (.cells (oV d e f g r s p h i k l m n o q t) 38));go_enter Tryz.func151,Tryz.ntmps151
 go_wp2
 simp[Zx,aaZ]
theorem zp(of:Xt):∀(c:Xq Wt.Ev)(y:cz)(b:Wt.Ev),Wt.tell of y (c++[b])=((gN of (Wt.tell of y c).1 b).1,(Wt.tell of y c).2++(gN of (Wt.tell of y c).1 b).2)
 |[],y,b=>by
  simp[Wt.tell]
 |d::c,y,b=>by simp[Wt.tell,zp]
theorem zq(of:Xt):∀(m:Xq Wt.Ev){y:cz},(∀k l,(y.ck k l).length<=h)->∀k l,((Wt.tell of y m).1.ck k l).length<=h
 |[],y,n=>n
 |o::m,y,n=>by
  refine zq of m (y:=(gN of y o).1) λk l=>?_;unfold gN
  grind
theorem CX(c:Xt):∀b:Xq Xt,(dI c b).length<=b.length+1
 |[]=>by simp[dI]
 |d::b=>by
  unfold dI;split
  .simp
  split
  .simp
  have:=CX c b;simp only[Yv];omega
theorem mV(b:Xq Xt):∀a:Xq Xt,(a.foldr dI b).length<=a.length+b.length
 |[]=>by simp
 |c::a=>by have d:=CX c (a.foldr dI b);have e:=mV b a;simp only[aa7,Yv];omega
theorem pX(e:∀c d,(y.ck c d).length<=h)(b:Wt.Ev):(Wt.toldOf y b).length<=h+h:=by grind [Wt.toldOf,mV]
theorem FD(c:Xq Wt.Ev)(b:E)(d:Wt.Ev)(e:c[b]?=C d):(ij c)[b*2]?=C (i64 d.1)/\(ij c)[b*2+1]?=C (.string (bs d.2)):=by
 unfold ij
 induction c generalizing b with
 |nil=>simp at e
 |cons g c f=>
  cases b with
  |zero=>simp_all
  |succ b=>grind
def yE(of:Xt)(b:Wt.Ev)(c:Xt):Out:={ak:=c,ev:=b.1,idx:=of,path:=b.2}
abbrev ly:Xn×Xn:=(Xw F 0 0,Xw F 0 0)
theorem Kp(of:Xt)(b:Wt.Ev)(d:Xt)(c:K):eU (yE of b d) ly c:=⟨Xr ⟨A,A⟩,Xr ⟨A,A⟩⟩
def mK(u:E)(f:Xt)(h:cz)(i:Xq Out)(g:Tree)(d:fB)(c b:K)(e:fB):Prop:=aK u f h i e b/\h.tree=g/\aI (aH u g d) (aH u g e) c b/\(∀a,dm e a->dm d a)/\e.tb=d.tb
theorem mK.step{H o:cz}{D p:Xq Out}{l:Tree}{m k:fB}{q w₂:K}(n:mK u f H D l d c q m)(t:aK u f o p k w₂)(x:o.tree=l)(s:aI (aH u l m) (aH u l k) q w₂)(z:∀a,dm k a->dm m a)(w:k.tb=m.tb):mK u f o p l d c w₂ k:=
 ⟨t,x,n.2.2.1.trans s,λa v=>n.2.2.2.1 a (z a v),w.trans n.2.2.2.2⟩
theorem aI.out{own o:E->Prop}(l:aI own o c b)(m:a<c.heap.size)(n:¬own a):b.heap[a]?=c.heap[a]?/\¬o a/\a<b.heap.size:=
 ⟨l.keep a m n,λk=>by
   rcases l.more a k with k|k
   .exact n k
   omega,Yk m l.size⟩
theorem IS{d:fB}{f:Xn}:∀a,dm {d with ov:=f,vs:=d.vs++[ly]} a->dm d a:=λa g=>by
 rcases g with b|b|⟨e,c,b⟩
 .exact Xr b
 .exact Xs (Xr b)
 replace c:=c;rcases YC.1 c with c|c
 .exact Xs (Xs ⟨e,c,b⟩)
 simp at c;subst c;rcases b with b|b<;>cases b
theorem Tw(e7:aK u f y g d c)(g3:∀d4 a0,(y.ck d4 a0).length<=8){m:Xq Wt.Ev}{g6:E}(f4:RE m e g6 c)(f6:∀a,e.ownBlock=C a->¬aH u y.tree d a)(h4:m.length<2^10)(h6:g.length+16*m.length<2^20)(of:Xt):
 Calls TP 110 #[pt u 0,Xo M of,e] c λT b=>T=XB (.tuple #[])/\∃n,mK u f (Wt.tell of y m).1 (g++(Wt.tell of y m).2) y.tree d c b n:=by
 obtain⟨p,g2,c8⟩:∃p,(∃b8,e=.slice b8 m.length m.length/\(0<m.length->b8=C ⟨p,0,F⟩))/\(0<m.length->c.heap[p]?=C (Xx (ij m) 269 (0,0))/\¬aH u y.tree d p):=by
  rcases f4 with⟨rfl,rfl⟩|⟨p,rfl,X,_,O⟩
  .exact⟨0,⟨F,A,λl=>absurd l (by simp)⟩,λl=>absurd l (by simp)⟩
  exact⟨p,⟨_,A,λ_=>rfl⟩,λ_=>⟨O,f6 p A⟩⟩
 obtain⟨b8,rfl,f3⟩:=g2;obtain⟨k,e0⟩:∃k:E->Wt.Ev,∀i,i<m.length->m[i]?=C (k i):=⟨λi=>m.getD i (0,[]),λi w=>by simp[List.getD,w]⟩
 let o:=λi=>(Wt.tell of y (m.take i)).1
 let a7:=λi=>g++(Wt.tell of y (m.take i)).2
 have b4:∀i,(o i).tree=y.tree:=λi=>sZ of _ y;have d3:∀i d4 a0,((o i).ck d4 a0).length<=8:=λi=>zq of _ g3
 have g1:∀i,i<m.length->o (i+1)=(gN of (o i) (k i)).1/\a7 (i+1)=a7 i++(Wt.toldOf (o i) (k i)).map (yE of (k i)):=λi w=>by
  have L:m.take (i+1)=m.take i++[k i]:=by rw[j_,e0 i w];rfl
  show(Wt.tell of y (m.take (i+1))).1=_/\g++(Wt.tell of y (m.take (i+1))).2=_;rw[L,zp];exact⟨A,by rw[<-ZW];rfl⟩
 have f9:∀i,i<=m.length->(a7 i).length<=g.length+16*i:=λi=>by
  induction i with
  |zero=>intro _;show(g++(Wt.tell of y []).2).length<=_;simp[Wt.tell]
  |succ i h7=>intro w;have O:=pX (d3 i) (k i);rw[(g1 i (by omega)).2,YA,h_];omega
 let P:E->K->Prop:=λi b=>∃n,mK u f (o i) (a7 i) y.tree d c b n/\n.tw=d.tw/\(0<m.length->b.heap[p]?=C (Xx (ij m) 269 (0,0))/\¬aH u y.tree n p/\p<b.heap.size)
 let b5:E->E->Xz XG->E->E->E->K->Prop:=λi D a R S j b=>i<m.length/\j<=R/\R=(Wt.toldOf (o i) (k i)).length/\∃n,mK u f (gN of (o i) (k i)).1 (a7 i++((Wt.toldOf (o i) (k i)).take j).map (yE of (k i))) y.tree d c b n/\n.tw=d.tw/\(0<m.length->b.heap[p]?=C (Xx (ij m) 269 (0,0))/\¬aH u y.tree n p/\p<b.heap.size)/\
  (b.heap[D]?=C (Xx #[i64 (k i).1,.string (bs (k i).2)] 269 (0,0))/\¬aH u y.tree n D/\D<b.heap.size)/\(0<R->∃q H,a=C ⟨q,0,F⟩/\b.heap[q]?=C (Xx H 3 (0,0))/\H.toList.take R=(Wt.toldOf (o i) (k i)).map i64/\¬aH u y.tree n q/\q<b.heap.size)
 let d6:E->E->Xz XG->E->E->E->K->Prop:=λi D a R S j b=>b5 i D a R S (j+1) b
 have f5:∀b,P m.length b->∃n,mK u f (Wt.tell of y m).1 (g++(Wt.tell of y m).2) y.tree d c b n:=λb⟨n,l,_⟩=>by have L:m.take m.length=m:=F_;have d8:mK u f (Wt.tell of y (m.take m.length)).1 (g++(Wt.tell of y (m.take m.length)).2) y.tree d c b n:=l;rw[L]at d8;exact⟨n,d8⟩
 refine aa4 (OF (q:=d.tw) (f:=p) (l:=λi=>(k i).1) (k:=λi=>bs (k i).2) (tl:=λi j=>(Wt.toldOf (o i) (k i)).getD j 0) (P:=P) (s:=b5) (N:=d6) f3 (by omega) ?_ ?_ ?_ ?_ ?_ ?_ ?_ ?_) λT b⟨U,l⟩=>⟨U,f5 b l⟩
 ·
  refine⟨d,⟨?_,A,aI.refl _ _,λa l=>l,A⟩,A,λl=>⟨(c8 l).1,(c8 l).2,(XZ.1 (c8 l).1).1⟩⟩;show aK u f (Wt.tell of y []).1 (g++(Wt.tell of y []).2) d c;simp only[Wt.tell,Zf];exact e7
 ·
  intro i b⟨n,_,_,l⟩ w;obtain⟨X,_⟩:=l (by omega);obtain⟨q1,g9⟩:=FD m i (k i) (e0 i w);exact⟨aa X _ q1,aa X _ g9⟩
 ·
  intro i b⟨n,l,x,_⟩;have Z:=l.1.ch;rw[x]at Z;exact⟨aa Z 3 A,(XZ.1 Z).1⟩
 ·
  intro i b w⟨n,l,x,Y⟩ a0;obtain⟨v,Q⟩:∃v,v=(b.alloc (.cells #[i64 (k i).1,.string (bs (k i).2)] 269)).drewN a0:=⟨_,A⟩;have e4:v.heap.size=b.heap.size+1:=by rw[Q];show(b.heap.push _).size=_;simp
  have t:∀a,a<b.heap.size->v.heap[a]?=b.heap[a]?:=λa s=>by rw[Q];exact Yc b _ a s
  have c9:v.heap[b.heap.size]?=C (Xx #[i64 (k i).1,.string (bs (k i).2)] 269 (0,0)):=by rw[Q];exact Yx b _
  show Calls TP 150 #[pt d.tw 0,i64 (k i).1,.string (bs (k i).2)] ((b.alloc (.cells #[i64 (k i).1,.string (bs (k i).2)] 269)).drewN a0) _;rw[<-Q];have a2:=l.1.old (by omega) t;have e1:=Sx a2.ck (k i).1 (k i).2;rw[x]at e1;refine e1.mono λT a1⟨a,h,S,e9,U,d7,b7,d5,e3⟩=>?_;rw[<-x]at e3;rw[<-x]at d7 d5;obtain⟨b6,z⟩:=a2.watched d7 d5;rw[b4]at z;have f2:tZ (o i).ck (k i).1 (k i).2=Wt.toldOf (o i) (k i):=A;rw[f2]at b7
  have f8:h=(Wt.toldOf (o i) (k i)).length:=by
   rcases b7 with⟨X,e8,b9,O⟩|⟨q,b9,H,O,_⟩
   .cases O;rw[X];rfl
   cases O;rfl
  have f7:=pX (d3 i) (k i);have c7:aI (aH u y.tree n) (aH u y.tree n) b v:=⟨by omega,λa s _=>t a s,λa l=>Xr l⟩
  have d2:¬aH u y.tree n b.heap.size:=λa5=>by have:=l.1.bg (b:=b.heap.size) (by rw[b4];exact a5);omega
  refine⟨a,h,S,U,by omega,w,YH _,f8,{n with f:=e9},?_,x,λN=>?_,?_,λN=>?_⟩
  .refine l.step (w₂:=a1) ?_ (b4 i) (c7.trans z) (λa l=>l) A;rw[abi,Zs,Zf];exact b6
  .obtain⟨a8,a9,b0⟩:=Y N;have r:=aI.out z (a:=p) (by omega) a9;exact⟨r.1.trans ((t p b0).trans a8),r.2.1,r.2.2⟩
  .have r:=aI.out z (a:=b.heap.size) (by omega) d2;exact⟨r.1.trans c9,r.2.1,r.2.2⟩
  rcases b7 with⟨X,e8,b9,O⟩|⟨q,b9,H,O,h3,d9,f0⟩
  .cases O;omega
  cases O;refine⟨q,H,A,d9,f0,λa5=>?_,(XZ.1 d9).1⟩;have f1:aH u y.tree n q:=by
   rcases a5 with l|l|l|l|l
   .exact Xr l
   .exact Xs (Xr l)
   .exact Xs (Xs (Xr (e3 q l)))
   .exact Xs (Xs (Xs (Xr l)))
   exact Xs (Xs (Xs (Xs l)))
  have:=a2.bg (b:=q) (by rw[b4];exact f1);omega
 ·
  intro i D a R S j b⟨w,d0,b3,n,l,x,Y,⟨L,b1,b2⟩,a6⟩;have Z:=l.1.ch;rw[x]at Z;refine⟨aa L 0 A,aa L 1 A,aa Z 3 A,λe2=>?_⟩;obtain⟨q,H,rfl,a3,a4,_⟩:=a6 (by omega);refine⟨q,A,aa a3 j ?_⟩;have:=Zc (λg5=>g5[j]?) a4;simp only[e_,XN e2,z_]at this;rw[g_]at this;rw[this];have d1:j<(Wt.toldOf (o i) (k i)).length:=by omega
  simp[List.getD,d1]
 ·
  intro i D a R S j b e2⟨w,d0,b3,n,l,x,Y,⟨L,b1,b2⟩,a6⟩;have d1:j<(Wt.toldOf (o i) (k i)).length:=by omega
  obtain⟨W,e6⟩:∃W,(Wt.toldOf (o i) (k i)).getD j 0=W:=⟨_,A⟩;have g4:(Wt.toldOf (o i) (k i))[j]?=C W:=by rw[<-e6];simp[List.getD,d1]
  show Calls TP 60 #[pt u 0,.agg (PF ((Wt.toldOf (o i) (k i)).getD j 0) (k i).1 of (bs (k i).2))] (b.alloc (.cells (PF ((Wt.toldOf (o i) (k i)).getD j 0) (k i).1 of (bs (k i).2)) 38)) λT h0=>T=XB (.tuple #[])/\h0.heap[b.heap.size]?=C (Xx (PF ((Wt.toldOf (o i) (k i)).getD j 0) (k i).1 of (bs (k i).2)) 38 (0,0))/\_;rw[e6];obtain⟨v,Q⟩:∃v,v=b.alloc (.cells (PF W (k i).1 of (bs (k i).2)) 38):=⟨_,A⟩;have e4:v.heap.size=b.heap.size+1:=by rw[Q];show(b.heap.push _).size=_;simp
  have t:∀a,a<b.heap.size->v.heap[a]?=b.heap[a]?:=λa s=>by rw[Q];exact Yc b _ a s
  have c9:v.heap[b.heap.size]?=C (Xx (PF W (k i).1 of (bs (k i).2)) 38 (0,0)):=by rw[Q];exact Yx b _
  rw[<-Q];have a2:=l.1.old (by omega) t;have h5:=f9 i (by omega);have f7:=pX (d3 i) (k i);have g0:=GA a2 (by rw[YA,h_,ZJ];omega) (Kp of (k i) W v) (λa s=>by rcases s with s|s<;>cases s)
  have d2:¬aH u y.tree n b.heap.size:=λa5=>by have:=l.1.bg (b:=b.heap.size) (by rw[l.2.1];exact a5);omega
  refine g0.mono λT a1⟨U,g8,b6,z⟩=>?_;rw[l.2.1]at z;have c7:aI (aH u y.tree n) (aH u y.tree n) b v:=⟨by omega,λa s _=>t a s,λa l=>Xr l⟩;have g7:=aI.out z (a:=b.heap.size) (by omega) d2;refine⟨U,g7.1.trans c9,w,by omega,b3,{n with ov:=g8,vs:=n.vs++[ly]},?_,x,λN=>?_,?_,λN=>?_⟩
  .refine l.step (w₂:=a1) ?_ l.2.1 (c7.trans z) IS A
   have:((Wt.toldOf (o i) (k i)).take (j+1)).map (yE of (k i))=((Wt.toldOf (o i) (k i)).take j).map (yE of (k i))++[yE of (k i) W]:=by rw[j_,g4];simp
   rw[this,<-ZW];exact b6
  .obtain⟨a8,a9,b0⟩:=Y N;have r:=aI.out z (a:=p) (by omega) a9;exact⟨r.1.trans ((t p b0).trans a8),r.2.1,r.2.2⟩
  .have r:=aI.out z (a:=D) (by omega) b1;exact⟨r.1.trans ((t D b2).trans L),r.2.1,r.2.2⟩
  obtain⟨q,H,rfl,a3,a4,c0,c6⟩:=a6 N;have r:=aI.out z (a:=q) (by omega) c0;exact⟨q,H,A,r.1.trans ((t q c6).trans a3),a4,r.2.1,r.2.2⟩
 ·
  intro i D a R S j b⟨w,d0,b3,n,l,x,Y,⟨L,b1,b2⟩,a6⟩;refine(Nu l.1.ch A _ _ _ _ _ _ _ _ _ _ _ _ _ _ _ _).mono λT a1⟨U,e5⟩=>⟨U,w,d0,b3,n,?_,x,λN=>?_,?_,λN=>?_⟩
  all_goals
   have e4:a1.heap.size=b.heap.size+1:=by rw[e5];show(b.heap.push _).size=_;simp
   have t:∀a,a<b.heap.size->a1.heap[a]?=b.heap[a]?:=λa s=>by rw[e5];exact Yc b _ a s
  .exact l.step (l.1.old (by omega) t) l.2.1 ⟨by omega,λa s _=>t a s,λa l=>Xr l⟩ (λa l=>l) A
  .obtain⟨a8,a9,b0⟩:=Y N;exact⟨(t p b0).trans a8,a9,by omega⟩
  .exact⟨(t D b2).trans L,b1,by omega⟩
  obtain⟨q,H,rfl,a3,a4,c0,c6⟩:=a6 N;exact⟨q,H,A,(t q c6).trans a3,a4,c0,by omega⟩
 grind
end
end
variable{a:K}{o:XM}
section
variable{z:E}{b e aE q D:Xt}{c p:XM}{L:Xy}{y:Xz XG}{x v:E}{g h i k l m n:Xt}{r:Xz XG}{t s:E}{f:Xn}{KP H:K->Prop}
theorem DL(S:Calls TP 64 #[pt u 0,i64 ak] (jO a (rV b ak e c p aE q Xp (.slice y x v)) (gV o g h i k l m n (.slice r t s) f) ak b) λN d=>N=XB (.bool J)/\ql a.heap.size 107 158 (rV b ak e c p aE q Xp (.slice y x v)) (gV o g h i k l m n (.slice r t s) f) (oS ak b) d d/\KP d)(R:∀a,Calls TP 104 #[f] a λa2 a3=>a2=XB (i64 D)/\a=a3)(b3:(D==7)=J)(b4:(e==9)=J)(b2:(e==10)=Xp)(b1:(D !=0)=J):
 Calls TP 61 #[pt u 0,.agg (rV b ak e c p aE q Xp (.slice y x v)),.agg (gV o g h i k l m n (.slice r t s) f)] a (lI a.heap.size (oV ak 0 b 0 c ⟨#[]⟩ Xp 0 0 0 0 0 0 0 (Xw F 0 0) (Xw F 0 0)) KP):=by
 have X:=Xv S;clear S;have W:=Xv R;clear R;go_enter Tryz.func61,Tryz.ntmps61
 go_upto_region 12 with(first|(go_at_call 64;refine X.out.mono ?_;rintro N d⟨rfl,H,T⟩;have w:=H.h0;have U:=H.h1;have a4:=aa w 1 A;have a5:=aa w 2 A;have a6:=aa w 3 A;have a7:=aa w 7 A;have a8:=aa U 9 A;have z:=Xv H;have Y:=Xv T;clear T H w U)|(go_at_call 104;refine(W.out _).mono ?_;rintro N b5⟨rfl,rfl⟩))
 clear a4 a5 a6 a7 a8;have b0:=aa z.out.h0 3 A;have a9:=aa z.out.h3 4 A;have b6:=frozenAt z.out.h3 4;obtain⟨O,a1⟩:∃O,d.setCell ⟨a.heap.size+1+1+1,4,F⟩ (.string c)=O:=by simp
 have Z:ql a.heap.size 107 158 (rV b ak e c p aE q Xp (.slice y x v)) (gV o g h i k l m n (.slice r t s) f) (oV ak 0 b 0 c ⟨#[]⟩ Xp 0 0 0 0 0 0 0 (Xw F 0 0) (Xw F 0 0)) d O:=by rw[<-a1];exact z.out.set 4 _
 have L:=Xv Z
 go_upto_region 14 with fail
 refine ZS ?_;refine ZG A 38 _ A (a.heap.size+1+1+1) A 38 (oV ak 0 b 0 c ⟨#[]⟩ Xp 0 0 0 0 0 0 0 (Xw F 0 0) (Xw F 0 0)) (0,0) _ L.out.h3 A rfl rfl ?_;refine Zm A 38 _ _ A (a.heap.size+1+1) (oV ak 0 b 0 c ⟨#[]⟩ Xp 0 0 0 0 0 0 0 (Xw F 0 0) (Xw F 0 0)) A rfl 38 oZ L.out.h2 A rfl ni ?_;have a0:=rC A L.out Y.out;have Q:=Xv a0
 go_wp2
 exact Zx (ia A rfl (pI Q.out.1 A)) A Q.out.2
theorem DM(a3:Calls TP 64 #[pt u 0,i64 ak] (jO a (rV b ak e c p aE q J (.slice y x v)) (gV o g h i k l m n (.slice r t s) f) ak b) λL d=>L=XB (.bool J)/\ql a.heap.size 107 158 (rV b ak e c p aE q J (.slice y x v)) (gV o g h i k l m n (.slice r t s) f) (oS ak b) d d/\KP d)(a2:∀a,Calls TP 104 #[f] a λc6 c7=>c6=XB (i64 D)/\a=c7)(d7:(D==7)=J)(d8:(e==9)=J)(d6:(e==10)=Xp)(d5:(D !=0)=J)(a0:∀d,KP d->ql a.heap.size 107 158 (rV b ak e c p aE q J (.slice y x v)) (gV o g h i k l m n (.slice r t s) f) (oS ak b) d d->d.cell? ⟨u,3,F⟩=C (pt z 0)/\∀c0,Calls TP 105 #[pt z 0,i64 ak,.bool Xp,.string c] (d.drewN c0) λL w=>L=XB (.tuple #[])/\w.cell? ⟨u,3,F⟩=C (pt z 0)/\ql a.heap.size 107 158 (rV b ak e c p aE q J (.slice y x v)) (gV o g h i k l m n (.slice r t s) f) (oS ak b) w w/\H w):
 Calls TP 61 #[pt u 0,.agg (rV b ak e c p aE q J (.slice y x v)),.agg (gV o g h i k l m n (.slice r t s) f)] a (lI a.heap.size (oV ak 0 b 0 c ⟨#[]⟩ Xp 0 0 0 0 0 0 0 (Xw F 0 0) (Xw F 0 0)) H):=by
 have b1:=Xv a3;clear a3;have b0:=Xv a2;clear a2;have a7:=Xv a0;clear a0;go_enter Tryz.func61,Tryz.ntmps61
 go_upto_region 11 with(first|(go_at_call 64;refine b1.out.mono ?_;rintro L d⟨rfl,T,a4⟩;have Q:=T.h0;have a6:=T.h1;have c8:=aa Q 1 A;have c9:=aa Q 2 A;have d0:=aa Q 3 A;have d1:=aa Q 7 A;have d2:=aa a6 9 A;have b5:=Xv T;have b2:=Xv a4;clear a4 T Q a6)|(go_at_call 104;refine(b0.out _).mono ?_;rintro L d9⟨rfl,rfl⟩))
 obtain⟨b6,a1⟩:=a7.out d b2.out b5.out;have X:Calls TP 105 #[pt z 0,i64 ak,.bool Xp,.string c] d.drew λL w=>L=XB (.tuple #[])/\w.cell? ⟨u,3,F⟩=C (pt z 0)/\ql a.heap.size 107 158 (rV b ak e c p aE q J (.slice y x v)) (gV o g h i k l m n (.slice r t s) f) (oS ak b) w w/\H w:=a1 1;have a8:=Xv X;clear X a1;have b3:d.drew.cell? ⟨u,3,F⟩=C (pt z 0)/\d.drew.cell? ⟨a.heap.size,1,F⟩=C (i64 ak)/\d.drew.cell? ⟨a.heap.size,2,F⟩=C (i64 e)/\d.drew.cell? ⟨a.heap.size,3,F⟩=C (.string c):=by simp_all
 clear b6 c8 c9 d0 d1 d2
 go_region_held3 (λS=>S.cell? ⟨u,3,F⟩=C (pt z 0)/\S.cell? ⟨a.heap.size,1,F⟩=C (i64 ak)/\S.cell? ⟨a.heap.size,2,F⟩=C (i64 e)/\S.cell? ⟨a.heap.size,3,F⟩=C (.string c))
  (first|omega|omega)
  (first|(go_at_call 105;refine a8.out.mono ?_;rintro L N⟨rfl,Z,O,a5⟩;have b4:N.cell? ⟨u,3,F⟩=C (pt z 0)/\N.cell? ⟨a.heap.size,1,F⟩=C (i64 ak)/\N.cell? ⟨a.heap.size,2,F⟩=C (i64 e)/\N.cell? ⟨a.heap.size,3,F⟩=C (.string c):=⟨Z,aa O.h0 1 A,aa O.h0 2 A,aa O.h0 3 A⟩;have R:=Xv O;have a9:=Xv a5;clear O a5 Z))
 clear b3 b4
 go_upto_region 12 with fail
 have d4:=aa R.out.h0 3 A;have d3:=aa R.out.h3 4 A;have e0:=frozenAt R.out.h3 4;obtain⟨W,b9⟩:∃W,N.setCell ⟨a.heap.size+1+1+1,4,F⟩ (.string c)=W:=by simp
 have b7:ql a.heap.size 107 158 (rV b ak e c p aE q J (.slice y x v)) (gV o g h i k l m n (.slice r t s) f) (oV ak 0 b 0 c ⟨#[]⟩ Xp 0 0 0 0 0 0 0 (Xw F 0 0) (Xw F 0 0)) N W:=by rw[<-b9];exact R.out.set 4 _
 have U:=Xv b7
 go_upto_region 14 with fail
 refine ZS ?_;refine ZG A 38 _ A (a.heap.size+1+1+1) A 38 (oV ak 0 b 0 c ⟨#[]⟩ Xp 0 0 0 0 0 0 0 (Xw F 0 0) (Xw F 0 0)) (0,0) _ U.out.h3 A rfl rfl ?_;refine Zm A 38 _ _ A (a.heap.size+1+1) (oV ak 0 b 0 c ⟨#[]⟩ Xp 0 0 0 0 0 0 0 (Xw F 0 0) (Xw F 0 0)) A rfl 38 oZ U.out.h2 A rfl ni ?_;have b8:=rC A U.out a9.out;have Y:=Xv b8
 go_wp2
 exact Zx (ia A rfl (pI Y.out.1 A)) A Y.out.2
end
variable{q:XM}{U:E}{W:E}{X:E}
section
variable{v:E}{f p aE D R:Xt}{e z dd:XM}{x S O:Xy}{N:Xz XG}{L H:E}{g h i k l m o:Xt}{r:Xz XG}{t s:E}{y T:Xn}{KP Q:K->Prop}
theorem ql.Ow{w n V d:Xu Xn}{Y:K}(Z:ql U W X w n V Y c)(a:E)(b:Xn)(a0:V.setIfInBounds a b=d):ql U W X w n d Y (c.setCell ⟨U+1+1+1,a,F⟩ b):=a0▸Z.set a b
theorem fX(d8:Calls TP 64 #[pt u 0,i64 ak] (jO c (rV f ak p e z aE D x (.slice N L H)) (gV q g h i k l m o (.slice r t s) y) ak f) λw a=>w=XB (.bool J)/\ql c.heap.size 107 158 (rV f ak p e z aE D x (.slice N L H)) (gV q g h i k l m o (.slice r t s) y) (oS ak f) a a/\KP a)(d7:∀c,Calls TP 104 #[y] c λg0 h5=>g0=XB (i64 R)/\c=h5)(i4:(R==7)=Xp)(i2:(R !=0)=Xp)(i5:(p==8)=S)(i3:(p==10)=O)(e1:J=S/\q=dd\/Xp=S/\⟨#[]⟩=dd)(e2:J=O/\.slice r t s=T\/Xp=O/\Xw F 0 0=T)
 (d9:x=Xp->∀a,KP a->Q a)(d5:x=J->∀a,KP a->ql c.heap.size 107 158 (rV f ak p e z aE D x (.slice N L H)) (gV q g h i k l m o (.slice r t s) y) (oS ak f) a a->a.cell? ⟨u,3,F⟩=C (pt v 0)/\∀f9,Calls TP 105 #[pt v 0,i64 ak,.bool O,.string e] (a.drewN f9) λw Z=>w=XB (.tuple #[])/\Z.cell? ⟨u,3,F⟩=C (pt v 0)/\ql c.heap.size 107 158 (rV f ak p e z aE D x (.slice N L H)) (gV q g h i k l m o (.slice r t s) y) (oS ak f) Z Z/\Q Z):
 Calls TP 61 #[pt u 0,.agg (rV f ak p e z aE D x (.slice N L H)),.agg (gV q g h i k l m o (.slice r t s) y)] c (lI c.heap.size (oV ak 0 f 0 e dd J g h i k l m o T (Xw F 0 0)) Q):=by
 have d2:=Xv d8;have d0:=Xv d7;have f1:=Xv d9;have e7:=Xv d5;have e9:=Xv (And.intro e1 e2);clear d8 d7 d9 d5 e1 e2;go_enter Tryz.func61,Tryz.ntmps61;cases x
 focus
  go_upto_region 12 with(first|(go_at_call 64;refine d2.out.mono ?_;rintro w a1⟨rfl,Y,a5⟩;have d:=Y.h0;have a7:=Y.h1;have b8:=aa d 1 A;have b9:=aa d 2 A;have c0:=aa d 3 A;have c6:=aa d 7 A;have c7:=aa a7 9 A;have a3:=Xv Y;have c9:=Xv (f1.out (by trivial) a1 a5);clear a5 Y d a7)|(go_at_call 104;refine(d0.out _).mono ?_;rintro w a2⟨rfl,rfl⟩))
  clear b8 b9 c0 c6 c7
 rotate_left
 focus
  go_upto_region 11 with(first|(go_at_call 64;refine d2.out.mono ?_;rintro w a⟨rfl,Y,a5⟩;have d:=Y.h0;have a7:=Y.h1;have b8:=aa d 1 A;have b9:=aa d 2 A;have c0:=aa d 3 A;have c6:=aa d 7 A;have c7:=aa a7 9 A;have f4:=Xv Y;have f0:=Xv a5;clear a5 Y d a7)|(go_at_call 104;refine(d0.out _).mono ?_;rintro w a2⟨rfl,rfl⟩))
  obtain⟨f8,d6⟩:=e7.out (by trivial) a f0.out f4.out;have c8:Calls TP 105 #[pt v 0,i64 ak,.bool O,.string e] a.drew λw Z=>w=XB (.tuple #[])/\Z.cell? ⟨u,3,F⟩=C (pt v 0)/\ql c.heap.size 107 158 (rV f ak p e z aE D J (.slice N L H)) (gV q g h i k l m o (.slice r t s) y) (oS ak f) Z Z/\Q Z:=d6 1;have e8:=Xv c8;clear c8 d6;have f2:a.drew.cell? ⟨u,3,F⟩=C (pt v 0)/\a.drew.cell? ⟨c.heap.size,1,F⟩=C (i64 ak)/\a.drew.cell? ⟨c.heap.size,2,F⟩=C (i64 p)/\a.drew.cell? ⟨c.heap.size,3,F⟩=C (.string e):=by simp_all
  clear f8 b8 b9 c0 c6 c7
  go_region_held3 (λb0=>b0.cell? ⟨u,3,F⟩=C (pt v 0)/\b0.cell? ⟨c.heap.size,1,F⟩=C (i64 ak)/\b0.cell? ⟨c.heap.size,2,F⟩=C (i64 p)/\b0.cell? ⟨c.heap.size,3,F⟩=C (.string e))
   (first|omega|omega)
   (first|(go_at_call 105;refine e8.out.mono ?_;rintro w a1⟨rfl,d4,a6,e0⟩;have f3:a1.cell? ⟨u,3,F⟩=C (pt v 0)/\a1.cell? ⟨c.heap.size,1,F⟩=C (i64 ak)/\a1.cell? ⟨c.heap.size,2,F⟩=C (i64 p)/\a1.cell? ⟨c.heap.size,3,F⟩=C (.string e):=⟨d4,aa a6.h0 1 A,aa a6.h0 2 A,aa a6.h0 3 A⟩;have a3:=Xv a6;have c9:=Xv e0;clear a6 e0 d4))
  clear f2 f3
  go_upto_region 12 with fail
 all_goals
  have f7:=aa a3.out.h0 3 A;have f5:=aa a3.out.h3 4 A;have h6:=frozenAt a3.out.h3 4;obtain⟨b6,e3⟩:∃b6,a1.setCell ⟨c.heap.size+1+1+1,4,F⟩ (.string e)=b6:=⟨_,A⟩;have b4:=a3.out.Ow (d:=(oV ak 0 f 0 e ⟨#[]⟩ Xp 0 0 0 0 0 0 0 (Xw F 0 0) (Xw F 0 0))) 4 _ A;rw[e3]at b4;have b2:=Xv b4;clear b4
  go_upto_region 15 with fail
  clear f5 h6 e3;clear f7;have f6:=aa b2.out.h3 6 A;have h7:=frozenAt b2.out.h3 6;obtain⟨b7,e4⟩:∃b7,b6.setCell ⟨c.heap.size+1+1+1,6,F⟩ (.bool J)=b7:=⟨_,A⟩;have b5:=b2.out.Ow (d:=(oV ak 0 f 0 e ⟨#[]⟩ J 0 0 0 0 0 0 0 (Xw F 0 0) (Xw F 0 0))) 6 _ A;rw[e4]at b5;have b:=Xv b5;clear b5
  go_upto_region 16 with fail
  clear f6 h7 e4;have g1:=aa b.out.h1 1 A;have g2:=aa b.out.h1 2 A;have g3:=aa b.out.h1 3 A;have g4:=aa b.out.h1 4 A;have g5:=aa b.out.h1 5 A;have g6:=aa b.out.h1 6 A;have g7:=aa b.out.h1 7 A;have g8:=aa b.out.h3 7 A;have g9:=aa b.out.h3 8 A;have h0:=aa b.out.h3 9 A;have h1:=aa b.out.h3 10 A;have h2:=aa b.out.h3 11 A;have h3:=aa b.out.h3 12 A;have h4:=aa b.out.h3 13 A;have h8:=frozenAt b.out.h3;obtain⟨a2,e5⟩:∃a2,(((((((b7.setCell ⟨c.heap.size+1+1+1,7,F⟩ (i64 g)).setCell ⟨c.heap.size+1+1+1,8,F⟩ (i64 h)).setCell ⟨c.heap.size+1+1+1,9,F⟩ (i64 i)).setCell ⟨c.heap.size+1+1+1,10,F⟩ (i64 k)).setCell ⟨c.heap.size+1+1+1,11,F⟩ (i64 l)).setCell ⟨c.heap.size+1+1+1,12,F⟩ (i64 m)).setCell ⟨c.heap.size+1+1+1,13,F⟩ (i64 o))=a2:=⟨_,A⟩;have b3:=((((((b.out.set 7 _).set 8 _).set 9 _).set 10 _).set 11 _).set 12 _).Ow (d:=(oV ak 0 f 0 e ⟨#[]⟩ J g h i k l m o (Xw F 0 0) (Xw F 0 0))) 13 _ A;rw[e5]at b3;have n:=Xv b3;clear b3
  go_upto_region 17 with fail
  clear g1 g2 g3 g4 g5 g6 g7 g8 g9 h0 h1 h2 h3 h4 h8 e5;have i0:=aa n.out.h0 2 A;rcases e9.out with⟨⟨rfl,rfl⟩|⟨rfl,rfl⟩,⟨rfl,rfl⟩|⟨rfl,rfl⟩⟩
  .simp_all
  focus
   go_upto_region 19 with fail
   have h9:=aa n.out.h1 0 A;have d3:=aa n.out.h3 5 A;have e6:=frozenAt n.out.h3 5;obtain⟨a8,b1⟩:∃a8,a2.setCell ⟨c.heap.size+1+1+1,5,F⟩ (.string q)=a8:=⟨_,A⟩;have a0:=n.out.Ow (d:=(oV ak 0 f 0 e q J g h i k l m o (Xw F 0 0) (Xw F 0 0))) 5 _ A;rw[b1]at a0;have a4:=Xv a0;clear a0
  rotate_left
  focus
   go_upto_region 21 with fail
   have i1:=aa n.out.h1 8 A;have d3:=aa n.out.h3 14 A;have e6:=frozenAt n.out.h3 14;obtain⟨a8,b1⟩:∃a8,a2.setCell ⟨c.heap.size+1+1+1,14,F⟩ (.slice r t s)=a8:=⟨_,A⟩;have a0:=n.out.Ow (d:=(oV ak 0 f 0 e ⟨#[]⟩ J g h i k l m o (.slice r t s) (Xw F 0 0))) 14 _ A;rw[b1]at a0;have a4:=Xv a0;clear a0
  rotate_left
  have a4:=n
  rotate_left
  all_goals
   go_upto_region 22 with fail
   try clear d3 e6 b1
   refine ZS ?_;refine ZG A 38 _ A (c.heap.size+1+1+1) A 38 _ (0,0) _ a4.out.h3 A rfl rfl ?_;refine Zm A 38 _ _ A (c.heap.size+1+1) _ A rfl 38 oZ a4.out.h2 A rfl ni ?_;have d1:=Xv (rC A a4.out c9.out)
   go_wp2
   exact Zx (ia A rfl (pI d1.out.1 A)) A d1.out.2
end
variable{i:K}{q:E}{s:E}{p:Tree}{m:Out}
section
variable[Inhabited aN]
theorem Iy(a:K)(e f:Xu Xn)(ak b:Xt):(jO a e f ak b).heap.size=a.heap.size+4/\(∀c,c<a.heap.size->(jO a e f ak b).heap[c]?=a.heap[c]?)/\ql a.heap.size 107 158 e f (oS ak b) (jO a e f ak b) (jO a e f ak b):=by
 have k:(a.alloc (.cells e 107)).heap.size=a.heap.size+1:=by simp
 have l:((a.alloc (.cells e 107)).alloc (.cells f 158)).heap.size=a.heap.size+2:=by simp
 have m:(((a.alloc (.cells e 107)).alloc (.cells f 158)).alloc (.cells oZ 38)).heap.size=a.heap.size+3:=by simp
 have i:=Yx a (.cells e 107);have d:=Yx (a.alloc (.cells e 107)) (.cells f 158);have g:=Yx ((a.alloc (.cells e 107)).alloc (.cells f 158)) (.cells oZ 38);have h:=Yx (((a.alloc (.cells e 107)).alloc (.cells f 158)).alloc (.cells oZ 38)) (.cells (oS ak b) 38);rw[k]at d;rw[l]at g;rw[m]at h;refine⟨by simp,λc n=>?_,⟨?_,?_,?_,h,A,λ_ _=>rfl⟩⟩
 .rw[jO,Yc _ _ _ (by omega),Yc _ _ _ (by omega),Yc _ _ _ (by omega),Yc _ _ _ n]
 .rw[jO,Yc _ _ _ (by omega),Yc _ _ _ (by omega),Yc _ _ _ (by omega)];exact i
 .rw[jO,Yc _ _ _ (by omega),Yc _ _ _ (by omega)];exact d
 rw[jO,Yc _ _ _ (by omega)];exact g
section
variable{k:Xt}{g:cz}{l:Xq Out}{c h:fB}{d:K}{e f:Xu Xn}{b:Xt}
theorem ql.qX{own n:E->Prop}{i k:E}{V:Xu Xn}{g h:K}(a:ql q i k e f V g g)(b:aI own n g h)(d:∀c,q<=c->¬own c):ql q i k e f V h h:=
 have lt:=λ(c:E)(m:Obj)(l:g.heap[c]?=C m)=>(XZ.1 l).1
 ⟨(b.keep _ (lt _ _ a.h0) (d _ (by omega))).trans a.h0,(b.keep _ (lt _ _ a.h1) (d _ (by omega))).trans a.h1,(b.keep _ (lt _ _ a.h2) (d _ (by omega))).trans a.h2,(b.keep _ (lt _ _ a.h3) (d _ (by omega))).trans a.h3,A,λ_ _=>rfl⟩
theorem Qx(q:aK u k y l c a)(r:aK u k g l h d)(L:g.tree=y.tree)(O:h.vs=c.vs)(o:aI (aH u y.tree c) (aH u y.tree h) (jO a e f ak b) d)(D:i.heap.size=d.heap.size)(t:∀m,m≠a.heap.size+1+1->m≠a.heap.size+1+1+1->i.heap[m]?=d.heap[m]?):
 aK u k g l h i/\aI (aH u y.tree c) (aH u y.tree h) a i:=by
 obtain⟨x,s,_⟩:=Iy a e f ak b;have w:∀m,a.heap.size<=m->¬aH u y.tree c m:=λm n p=>by have:=q.bg p;omega
 have z:∀m,m=a.heap.size+1+1\/m=a.heap.size+1+1+1->¬aH u y.tree h m:=λm n=>(aI.out o (a:=m) (by omega) (w m (by omega))).2.1;have N:∀m,dm h m->m<a.heap.size:=λm n=>q.jh (by simp_all [dm]);have H:=o.size;refine⟨r.same ⟨by omega,λm n=>?_,λm n=>?_⟩,⟨by omega,λm n v=>?_,λm n=>?_⟩⟩
 .grind
 .grind
 .rw[t m (by omega) (by omega),o.keep m (by omega) v,s m n]
 rcases o.more m n with p|p
 .exact Xr p
 omega
def yl(u:E)(k:Xt)(f:cz)(m:Out)(l:Xq Out)(p:Tree)(c:fB)(h:E)(a:K)(g:Ending)(i:K):Prop:=∃e d,g=XB (.agg (gZ m e))/\aK u k f l d i/\f.tree=p/\aI (aH u p c) (aH u p d) a i/\d.vs=c.vs/\eU m e i/\∀b,e.1.ownBlock=C b\/e.2.ownBlock=C b->¬aH u p d b/\h<=b
theorem zH(y:cz)(id:Xt)(a:Xy)(b:B):dD y id a b={y with ck:=eY y.ck a b (dI id (y.ck a b))}:=by unfold dD eY;simp_all
theorem NH{d:Xq B}{sl:Xn}(h:gy (d.map bs) s sl a):dK d sl a:=by
 rcases h with⟨b,i⟩|⟨o,f,e,p,g,b,i,k,q,c,l,m⟩
 .exact Xr ⟨b,by simp_all⟩
 rw[h_]at b c;exact Xs ⟨o,f,e,p,g,b,k,c,l,λn y r=>m n _ (by simp_all)⟩
structure RQ(n:Sim.RV)(o:dA):Prop where
 ak:n.ak=o.ak
 kind:n.kind=o.op.kind
 path:n.path=bs o.op.path
 data:n.data=bs o.op.data
 aE:n.aE=o.op.aE
 flags:n.flags=o.op.flags
 watch:n.watch=o.watch
theorem Nw{c:B}{a:Xt}(b:Wt.look p c=.no a):a=4\/a=7:=by
 unfold Wt.look at b
 grind
theorem qB(b:Xt):∀a,Calls TP 104 #[.iface 32 (i64 b)] a λe i=>e=XB (i64 b)/\a=i:=λa=>(FC a b).mono λ_ _⟨c,d⟩=>⟨c,d.symm⟩
theorem zY:∀a,Calls TP 104 #[.nilIface] a λd i=>d=XB (i64 0)/\a=i:=λa=>(FB a).mono λ_ _⟨b,c⟩=>⟨b,c.symm⟩
theorem zi{g:BP}{r:E}{s:Xu Xn}(t:cm (ot g) r s a):∃c i k l m n o p d f e,s=#[.string c,i64 i,i64 k,i64 l,i64 m,i64 n,i64 o,i64 p,.slice d f e]/\gy (ot g).names r (.slice d f e) a/\
 match g with
 |.no _=>True
 |.yes b=>c=bs b.data/\i=b.stat.made/\k=b.stat.set/\l=b.stat.aE/\m=b.stat.eD/\n=b.stat.own/\o=b.stat.size/\p=b.stat.kids:=by
 obtain⟨_,sl,q,h⟩:=t;obtain⟨d,f,e,rfl⟩:∃d f e,sl=.slice d f e:=by rcases h with⟨rfl,_⟩|⟨_,_,_,_,_,rfl,_⟩<;>exact⟨_,_,_,A⟩
 cases g with
 |no u=>exact⟨_,_,_,_,_,_,_,_,d,f,e,Zc Xu.mk q,h,trivial⟩
 |yes b=>exact⟨_,_,_,_,_,_,_,_,d,f,e,Zc Xu.mk q,h,A,A,A,A,A,A,A,A⟩
theorem tP(b:m.names=[])(c:m.results=[])(a:K):eU m ly a:=⟨Xr ⟨A,b⟩,Xr ⟨A,c⟩⟩
theorem KD{b:Xt}{a:dA}(f:Wt.known y a.ak=J)(c:Xt):Wt.dF y b a (.no c)=if c=7/\a.op.kind=9 then(if a.watch then dD (Wt.heard y a.ak) a.ak Xp a.op.path else Wt.heard y a.ak,{ak:=a.ak,idx:=b,path:=a.op.path})else(Wt.heard y a.ak,{ak:=a.ak,idx:=b,err:=c}):=by simp_all [Wt.dF]
theorem Gv{b:Xt}{a:dA}(f:Wt.known y a.ak=J)(c:Wt.Seen):Wt.dF y b a (.yes c)=(if a.watch then dD (Wt.heard y a.ak) a.ak (decide (a.op.kind=10)) a.op.path else Wt.heard y a.ak,{ak:=a.ak,idx:=b,path:=a.op.path,found:=J,stat:=c.stat,data:=if a.op.kind=8 then c.data else[],names:=if a.op.kind=10 then c.names else[]}):=by simp_all [Wt.dF]
theorem Qy(c9:aK u k y l c a){n:dA}{rq:Sim.RV}(h2:RQ rq n)(w:n.op.kind=8\/n.op.kind=9\/n.op.kind=10)(h5:Wt.known y n.ak=J->0<n.ak/\n.ak<2^28)(b:Xt){O:BP}(g8:O=Wt.look y.tree n.op.path){d6:Xu Xn}{a8:E}(h7:cm (ot O) a8 d6 a)(g7:nJ (aH u y.tree c) d6):
 Calls TP 61 #[pt u 0,.agg (aP b rq),.agg (d6.push (ot O).ev)] a (yl u k (Wt.dF y b n O).1 (Wt.dF y b n O).2 l y.tree c a8 a):=by
 obtain⟨ak,j3,j5,i7,aE,j0,j7,i1,i0,h9⟩:=rq;obtain⟨Q,R,d9,e0,e1,e2,a6⟩:=h2;simp only at Q R d9 e0 e1 e2 a6;subst Q R d9 e0 e1 e2 a6;obtain⟨dd,f8,f9,g0,g1,g2,g3,g4,T,W,U,rfl,e7,h6⟩:=zi h7;obtain⟨Z,d3⟩:∃Z,Z=(ot O).ev:=by simp
 rw[<-d3];obtain⟨e,s⟩:∃e,e=rV b n.ak n.op.kind (bs n.op.path) (bs n.op.data) n.op.aE n.op.flags n.watch (.slice i1 i0 h9):=by simp
 obtain⟨f,L⟩:∃f,f=gV dd f8 f9 g0 g1 g2 g3 g4 (.slice T W U) Z:=by simp
 obtain⟨j8,i3,i4⟩:=Iy a e f n.ak b;have f4:=c9.old (by omega) i3;have e8:∀p,a.heap.size<=p->¬aH u y.tree c p:=λp o q=>by have:=c9.bg q;omega
 obtain⟨g,c0⟩:∃g,g=if Wt.known y n.ak then Wt.heard y n.ak else y:=by simp
 have z:g.tree=y.tree:=by rw[c0];split<;>rfl
 have x:Calls TP 64 #[pt u 0,i64 n.ak] (jO a e f n.ak b) λv d=>v=XB (.bool (Wt.known y n.ak))/\ql a.heap.size 107 158 e f (oS n.ak b) d d/\aK u k g l c d/\aI (aH u y.tree c) (aH u y.tree c) (jO a e f n.ak b) d:=
  (Ie f4 n.ak).mono λv d⟨a1,j2,e3⟩=>⟨a1,i4.qX e3 e8,by simp_all,e3⟩
 have e6:∀p,(Value.slice T W U).ownBlock=C p->¬aH u y.tree c p:=λp o=>by
  cases T with
  |none=>cases o
  |some f7=>have:=g7 f7 W U A;simp_all [Xn.ownBlock]
 have fin:∀(m:Out)(b3:Xn×Xn)(c7:cz)(KP:K->Prop),(∀d,KP d->∃h,aK u k c7 l h d/\h.vs=c.vs/\aI (aH u y.tree c) (aH u y.tree h) (jO a e f n.ak b) d)->c7.tree=y.tree->(b3=ly/\m.names=[]/\m.results=[]\/b3=(.slice T W U,Xw F 0 0)/\m.results=[]/\gy (m.names.map bs) a8 (.slice T W U) a)->
  ∀v i,lI a.heap.size (gZ m b3) KP v i->yl u k c7 m l y.tree c a8 a v i:=λm b3 c7 KP g5 f0 h8 v i⟨a1,d,g9,h4,h0⟩=>by
  obtain⟨h,b5,f1,c8⟩:=g5 d g9;obtain⟨f3,a2⟩:=Qx c9 b5 f0 f1 c8 h4 h0;refine⟨b3,h,a1,f3,f0,a2,f1,?_⟩;rcases h8 with⟨rfl,Q,R⟩|⟨rfl,Q,R⟩
  .exact⟨tP Q R i,λp o=>by rcases o with o|o<;>cases o⟩
  have h1:=NH R
  have d2:∀p,(Value.slice T W U).ownBlock=C p->p<a.heap.size/\a8<=p:=λp o=>by
   rcases R with⟨d0,_⟩|⟨j4,i6,i5,j6,j1,d0,i8,i9,_⟩
   .rw[d0]at o;cases o
   rw[d0]at o;cases o
   grind
  refine⟨⟨h1.stay λp o=>?_,Xr ⟨A,Q⟩⟩,λp o=>?_⟩
  .rw[a2.keep p (d2 p o).1 (e6 p o)]
  rcases o with o|o
  .exact⟨(aI.out a2 (d2 p o).1 (e6 p o)).2.1,(d2 p o).2⟩
  cases o
 cases a7:Wt.known y n.ak with
 |false=>
  rw[a7]at x c0
  have h3:Wt.dF y b n O=(g,{ak:=n.ak,idx:=b,err:=3}):=by simp_all [Wt.dF]
  rw[h3];rw[s,L]at x;have:=xY x;refine this.mono (fin {ak:=n.ak,idx:=b,err:=3} ly g _ (λd⟨Q,R⟩=>⟨c,Q,A,by simp_all⟩) z (Xr ⟨A,A,A⟩))
 |true=>
  rw[a7]at x c0;have e9:g=Wt.heard y n.ak:=by rw[c0];rfl
  obtain⟨q1,i2⟩:=h5 a7
  have b8:∀r:Xy,∀d,(aK u k g l c d/\aI (aH u y.tree c) (aH u y.tree c) (jO a e f n.ak b) d)->ql a.heap.size 107 158 e f (oS n.ak b) d d->d.cell? ⟨u,3,F⟩=C (pt c.tw 0)/\∀d5,Calls TP 105 #[pt c.tw 0,i64 n.ak,.bool r,.string (bs n.op.path)] (d.drewN d5) λv Y=>v=XB (.tuple #[])/\Y.cell? ⟨u,3,F⟩=C (pt c.tw 0)/\ql a.heap.size 107 158 e f (oS n.ak b) Y Y/\
   ∃N,aK u k (dD g n.ak r n.op.path) l {c with f:=N} Y/\aI (aH u y.tree c) (aH u y.tree {c with f:=N}) (jO a e f n.ak b) Y:=λr d⟨b5,c8⟩ g6=>by
   refine⟨aa b5.ch 3 A,λd5=>?_⟩;have d8:aK u k g l c (d.drewN d5):=b5.old (Ye _) (λ_ _=>rfl);refine(RX d8.ck ⟨q1,i2⟩ r n.op.path).mono λv Y⟨a1,N,f6,a2⟩=>?_;obtain⟨f5,b4⟩:=d8.watched f6 a2;rw[z]at b4;have d7:aI (aH u y.tree c) (aH u y.tree {c with f:=N}) d Y:=⟨b4.size,b4.keep,b4.more⟩;refine⟨a1,aa f5.ch 3 A,g6.qX d7 e8,N,?_,c8.trans d7⟩;simp_all [zH]
  have kp:∀d,(aK u k g l c d/\aI (aH u y.tree c) (aH u y.tree c) (jO a e f n.ak b) d)->∃h,aK u k g l h d/\h.vs=c.vs/\aI (aH u y.tree c) (aH u y.tree h) (jO a e f n.ak b) d:=by grind
  have b6:∀(r:Xy) d,(∃N,aK u k (dD g n.ak r n.op.path) l {c with f:=N} d/\aI (aH u y.tree c) (aH u y.tree {c with f:=N}) (jO a e f n.ak b) d)->∃h,aK u k (dD g n.ak r n.op.path) l h d/\h.vs=c.vs/\aI (aH u y.tree c) (aH u y.tree h) (jO a e f n.ak b) d:=by grind
  cases O with
  |no v=>
   have a1:=Nw g8.symm;have b9:Z=.iface 32 (i64 v):=d3;have e4:(v !=0)=J:=by grind
   rw[KD a7,<-e9];by_cases d4:v=7/\n.op.kind=9
   .rw[XN d4];obtain⟨rfl,e5⟩:=d4;have c6:(n.op.kind==9)=J:=by simp[e5]
    have r:(n.op.kind==10)=Xp:=by simp[e5]
    cases D:n.watch with
    |false=>rw[D]at s;subst s L;refine(DL x (by rw[b9];exact qB 7) A c6 r A).mono ?_;exact fin {ak:=n.ak,idx:=b,path:=n.op.path} ly g _ kp z (Xr ⟨A,A,A⟩)
    |true=>rw[D]at s;subst s L;refine(DM x (by rw[b9];exact qB 7) A c6 r A (b8 Xp)).mono ?_;exact fin {ak:=n.ak,idx:=b,path:=n.op.path} ly (dD g n.ak Xp n.op.path) _ (b6 Xp) z (Xr ⟨A,A,A⟩)
   rw[XH d4];subst s L;by_cases a6:v=7
   .have c6:(n.op.kind==9)=Xp:=by
     simp_all
    refine(ze x (by grind [qB]) (Xs ⟨by simp[a6],c6⟩) e4).mono ?_;exact fin {ak:=n.ak,idx:=b,err:=v} ly g _ kp z (Xr ⟨A,A,A⟩)
   refine(ze x (by simp_all [qB]) (Xr (by simp[a6])) e4).mono ?_;exact fin {ak:=n.ak,idx:=b,err:=v} ly g _ kp z (Xr ⟨A,A,A⟩)
  |yes t=>
   have b9:Z=.nilIface:=d3;obtain⟨rfl,rfl,rfl,rfl,rfl,rfl,rfl,rfl⟩:=h6;rw[Gv a7,<-e9];have a0:∀a,Calls TP 104 #[Z] a λn i=>n=XB (i64 0)/\a=i:=by rw[b9];exact zY
   rcases w with w|w|w
   .have S:(n.op.kind==8)=J:=by simp[w]
    have r:(n.op.kind==10)=Xp:=by simp[w]
    have a3:decide (n.op.kind=10)=Xp:=by simp[w]
    have b1:(if n.op.kind=8 then t.data else[])=t.data:=XN w;have b0:(if n.op.kind=10 then t.names else[])=[]:=by simp_all
    rw[a3,b1,b0];cases D:n.watch with
    |false=>rw[D]at s;subst s L;refine(fX (v:=0) x a0 A rfl S r (Xr ⟨A,A⟩) (Xs ⟨A,A⟩) (λ_ _ q=>q) (λq=>by cases q)).mono ?_;exact fin {ak:=n.ak,idx:=b,path:=n.op.path,found:=J,stat:=t.stat,data:=t.data,names:=[]} ly g _ kp z (Xr ⟨A,A,A⟩)
    |true=>rw[D]at s;subst s L;refine(fX x a0 A rfl S r (Xr ⟨A,A⟩) (Xs ⟨A,A⟩) (λq=>by cases q) (λ_=>b8 Xp)).mono ?_;exact fin {ak:=n.ak,idx:=b,path:=n.op.path,found:=J,stat:=t.stat,data:=t.data,names:=[]} ly (dD g n.ak Xp n.op.path) _ (b6 Xp) z (Xr ⟨A,A,A⟩)
   .have S:(n.op.kind==8)=Xp:=by simp[w]
    have r:(n.op.kind==10)=Xp:=by simp[w]
    have a3:decide (n.op.kind=10)=Xp:=by simp[w]
    have b1:(if n.op.kind=8 then t.data else[])=[]:=by simp_all
    have b0:(if n.op.kind=10 then t.names else[])=[]:=by simp_all
    rw[a3,b1,b0];cases D:n.watch with
    |false=>rw[D]at s;subst s L;refine(fX (v:=0) x a0 A rfl S r (Xs ⟨A,A⟩) (Xs ⟨A,A⟩) (λ_ _ q=>q) (λq=>by cases q)).mono ?_;exact fin {ak:=n.ak,idx:=b,path:=n.op.path,found:=J,stat:=t.stat,data:=[],names:=[]} ly g _ kp z (Xr ⟨A,A,A⟩)
    |true=>rw[D]at s;subst s L;refine(fX x a0 A rfl S r (Xs ⟨A,A⟩) (Xs ⟨A,A⟩) (λq=>by cases q) (λ_=>b8 Xp)).mono ?_;exact fin {ak:=n.ak,idx:=b,path:=n.op.path,found:=J,stat:=t.stat,data:=[],names:=[]} ly (dD g n.ak Xp n.op.path) _ (b6 Xp) z (Xr ⟨A,A,A⟩)
   have S:(n.op.kind==8)=Xp:=by simp[w]
   have r:(n.op.kind==10)=J:=by simp[w]
   have a3:decide (n.op.kind=10)=J:=by simp[w]
   have b1:(if n.op.kind=8 then t.data else[])=[]:=by simp_all
   have b0:(if n.op.kind=10 then t.names else[])=t.names:=XN w;rw[a3,b1,b0];cases D:n.watch with
   |false=>rw[D]at s;subst s L;refine(fX (v:=0) x a0 A rfl S r (Xs ⟨A,A⟩) (Xr ⟨A,A⟩) (λ_ _ q=>q) (λq=>by cases q)).mono ?_;exact fin {ak:=n.ak,idx:=b,path:=n.op.path,found:=J,stat:=t.stat,data:=[],names:=t.names} (.slice T W U,Xw F 0 0) g _ kp z (Xs ⟨A,A,e7⟩)
   |true=>rw[D]at s;subst s L;refine(fX x a0 A rfl S r (Xs ⟨A,A⟩) (Xr ⟨A,A⟩) (λq=>by cases q) (λ_=>b8 J)).mono ?_;exact fin {ak:=n.ak,idx:=b,path:=n.op.path,found:=J,stat:=t.stat,data:=[],names:=t.names} (.slice T W U,Xw F 0 0) (dD g n.ak J n.op.path) _ (b6 J) z (Xs ⟨A,A,e7⟩)
end
variable{l:Tree}{i:Path}{k:K}{v:E}
theorem Mb{c m:Path->E}{u:Xn}(n:bn l c m a)(e:a.heap[N]?=C (Xx #[pt (c []) 0,Xo M l.length,u] 195 (0,0))):
 Calls TP 109 #[pt N 0] a λp k=>p=XB (.tuple #[])/\qd l c m N [] k/\k.heap.size=a.heap.size/\(∀b,b≠N->k.heap[b]?=a.heap[b]?)/\∀b,¬wI k N b:=by
 have c2:=aa e 2 A;have x:=frozenAt e 2;have o:=Xv e;have d:=Xv n;go_enter Tryz.func109,Tryz.ntmps109
 go_wp2
 go_end0
 have r:∀b,b≠N->(a.setCell ⟨N,2,F⟩ (Xw F 0 0)).heap[b]?=a.heap[b]?:=by grind [ai]
 have g:(a.setCell ⟨N,2,F⟩ (Xw F 0 0)).heap[N]?=C (Xx #[pt (c []) 0,Xo M l.length,Xw F 0 0] 195 (0,0)):=by have:=aA (l:=2) (g:=Xw F 0 0) o.out;simp_all
 refine⟨A,⟨d.out.stay λi t=>?_,Xw F 0 0,[],g,bV.nil _ _ _ _,trivial⟩,aR,r,λb⟨L,y,O,f,q⟩=>?_⟩
 .obtain⟨s,h⟩:=Yd.1 t;obtain⟨w,v,z,_⟩:=d.out.kd i s h;have D:=d.out.nd i s h
  grind
 rw[g]at f;cases f;cases q
theorem QR(a:K)(f:Xu Xn)(ak d:Xt):(uu a f ak d).heap.size=a.heap.size+3/\(∀b,b<a.heap.size->(uu a f ak d).heap[b]?=a.heap[b]?)/\lD a.heap.size f (oS ak d) (uu a f ak d) (uu a f ak d):=by
 have h:(a.alloc (.cells f 140)).heap.size=a.heap.size+1:=by simp
 have i:((a.alloc (.cells f 140)).alloc (.cells oZ 38)).heap.size=a.heap.size+2:=by simp
 have g:=Yx a (.cells f 140);have c:=Yx (a.alloc (.cells f 140)) (.cells oZ 38);have e:=Yx ((a.alloc (.cells f 140)).alloc (.cells oZ 38)) (.cells (oS ak d) 38);rw[h]at c;rw[i]at e;refine⟨by simp,λb k=>?_,⟨?_,?_,e,A,λ_ _=>rfl⟩⟩
 .rw[uu,Yc _ _ _ (by omega),Yc _ _ _ (by omega),Yc _ _ _ k]
 .rw[uu,Yc _ _ _ (by omega),Yc _ _ _ (by omega)];exact g
 rw[uu,Yc _ _ _ (by omega)];exact c
theorem FW(k:i.length<=4)(l:∀b∈i,dH b=J):(Wt.join i).length<2^31:=by
 have:∀(a:Xq B),(∀b∈a,dH b=J)->([47].intercalate a).length<=a.length*13:=λa c=>by
  induction a with
  |nil=>simp
  |cons e d g=>
   have:=Gk (c e (by simp));cases d with
   |nil=>simp[Xq.intercalate];omega
   |cons v d=>
    have h:=g (λb f=>c b (Yw _ f));simp[Xq.intercalate]at h⊢
    omega
 grind [Wt.join]
theorem zO{k:Tree}(c:WF l){b:Wt.Op}(g:qj b){aL:Xt}{h:B}{d:Xq Wt.Ev}(e:Wt.change l b ak aL=.yes k h d):d.length<=2/\h.length<2^31:=by
 by_cases f:b.kind=3
 .have a:=e;unfold Wt.change at a;rw[XN f]at a;have m:=nO c a;obtain⟨n,t,S,r,N,v,u,x,y,O,g,L,D,H,z,q,p,w⟩:=gS a
  have o:Wt.find k ((n::t).dropLast++[r])=C (eW b ak aL):=by rw[q];exact oH (fi c.ord)
  obtain⟨Q,R⟩:=m.names _ _ o
  grind [FW]
 obtain⟨i,s,_,_,p,a⟩:=py f e;have:=g.path
 grind [kC]
theorem AU{f:Xt}{k:E}{e:Xu Xn}(g:cm (ot (.no f)) k e a):∃b d c,e=#[.string ⟨#[]⟩,i64 0,i64 0,i64 0,i64 0,i64 0,i64 0,i64 0,.slice b d c]:=by
 obtain⟨_,sl,h,i⟩:=g;obtain⟨b,d,c,rfl⟩:∃b d c,sl=.slice b d c:=by rcases i with⟨rfl,_⟩|⟨_,_,_,_,_,rfl,_⟩<;>exact⟨_,_,_,A⟩
 exact⟨b,d,c,Zc Xu.mk h⟩
section
variable{g:Xt}{h:cz}{o:Xq Out}{c O:fB}{e:K}{f Q:Xu Xn}{d:Xt}
theorem lD.qX{own k:E->Prop}{V:Xu Xn}{c g:K}(a:lD s f V c c)(d:aI own k c g)(e:∀b,s<=b->b<s+3->¬own b):lD s f V g g:=
 have lt:=λ(b:E)(i:Obj)(h:c.heap[b]?=C i)=>(XZ.1 h).1
 ⟨(d.keep _ (lt _ _ a.h0) (e _ (by omega) (by omega))).trans a.h0,(d.keep _ (lt _ _ a.h2) (e _ (by omega) (by omega))).trans a.h2,(d.keep _ (lt _ _ a.h3) (e _ (by omega) (by omega))).trans a.h3,A,λ_ _=>rfl⟩
theorem aK.Tz(d:aK u g y o c a){Q:Xq Un}(n:qd y.tree c.nb c.mb c.tb Q k)(p:a.heap.size<=k.heap.size)(t:∀b,b<a.heap.size->b≠c.tb->k.heap[b]?=a.heap[b]?):aK u g y o c k/\aI (aH u y.tree c) (aH u y.tree c) a k:=by
 obtain⟨iV,q,x,z,D,H,L⟩:=d.iV;have S:=q c.tb (Xr A);have kp:∀b,b<a.heap.size->iV b≠0->k.heap[b]?=a.heap[b]?:=by grind
 have i:=λb e=>kp b (d.jh e) (by simp_all);refine⟨⟨n.lq,?_,d.wf,?_,?_,?_,?_,?_,?_,⟨iV,q,x,z,D,H,L⟩⟩,?_⟩
 .obtain⟨R,T,l,f,_⟩:=n.top;exact⟨R,Xs f.slice,l⟩
 .exact d.ck.stay λb e=>kp b (d.bg (Xs (Xs (Xr e)))) (by simp_all)
 .rw[kp c.hb (d.bg (.inr (.inr (.inr (.inl A))))) (by omega)];exact d.kF
 .rw[kp u (d.bg (.inl A)) (by omega)];exact d.ch
 .exact d.row.stay λb e=>kp b (d.bg (Xs (Xs (Xs (Xs e))))) (by simp_all)
 .exact⟨d.outs.1,λw O m l f=>by
   have:=d.outs.2 w O m l f;have h:=Yn f
   exact⟨this.1.stay λb e=>by rw[i b (.inr (.inr ⟨m,h,.inl e⟩))],this.2.stay λb e=>by rw[i b (.inr (.inr ⟨m,h,.inr e⟩))]⟩⟩
 .obtain⟨⟨N,h⟩,f,s⟩:=d.bC;exact⟨⟨N,bZ (i 1 (Xr A)) h⟩,f.stay (by rw[i 4 (.inr (.inl A))]),Yk s p⟩
 exact⟨p,λb e v=>t b e λr=>v (Xs (Xr (Xr r))),λb e=>Xr e⟩
theorem aK.UC(b:aK u g y o c a){n:Xu Xn}{q:E×E}(d:a.heap[v]?=C (Xx n 269 q)):¬aH u y.tree c v:=by
 rintro(rfl|e|e|rfl|e)
 .rw[b.ch]at d;cases d
 .rcases e with rfl|⟨k,h,rfl|rfl⟩
  .obtain⟨w,_,r⟩:=b.top;simp_all
  .obtain⟨s,i⟩:=Yd.1 h;rw[b.tree.nd k s i]at d;cases d
  obtain⟨s,i⟩:=Yd.1 h;obtain⟨m,l,f,_⟩:=b.tree.kd k s i;simp_all
 .rcases e with rfl|rfl|⟨t,k,h⟩
  .rw[b.ck.tb]at d;cases d
  .obtain⟨m,l,f,_⟩:=b.ck.mp;simp_all
  obtain⟨p,f,_⟩:=b.ck.AR h;simp_all
 .obtain⟨m,l,f,_⟩:=b.kF;simp_all
 obtain⟨p,f,_⟩:=b.row.blk v e;simp_all
def oq(u:E)(g:Xt)(l:Tree)(c:fB)(a:K)(q:cz)(z:Xq Out)(w₂:K):Prop:=∃m,aK u g q z m w₂/\m.tb=c.tb/\aI (aH u l c) (aH u q.tree m) a w₂/\(∀b,dm m b->dm c b)/\a.heap.size+3<=w₂.heap.size/\∀b,a.heap.size<=b->b<a.heap.size+3->¬aH u q.tree m b
variable{w₂ x:K}{q H:cz}{z L:Xq Out}{m D:fB}
theorem oq.old(n:oq u g l c a q z w₂)(r:w₂.heap.size<=x.heap.size)(p:∀b,b<w₂.heap.size->x.heap[b]?=w₂.heap[b]?):oq u g l c a q z x:=by obtain⟨m,w,S,t,T,W,U⟩:=n;exact⟨m,w.old r p,S,t.trans ⟨r,λb R _=>p b R,λb n=>Xr n⟩,T,by omega,U⟩
theorem oq.var(h:oq u g l c a q z w₂)(hd:∀b,dm c b->b<a.heap.size)(s:x.heap.size=w₂.heap.size)(o:∀b,b<a.heap.size\/a.heap.size+3<=b->x.heap[b]?=w₂.heap[b]?):oq u g l c a q z x:=by
 obtain⟨m,f,i,e,p,t,r⟩:=h;have k:∀b,aH u q.tree m b->x.heap[b]?=w₂.heap[b]?:=by grind
 refine⟨m,f.same ⟨by omega,k,λb d=>by grind⟩,i,⟨by omega,λb d n=>by rw[o b (.inl d),e.keep b d n],e.more⟩,p,by omega,r⟩
theorem oq.step(w:aK u g q z m w₂/\m.tb=c.tb/\aI (aH u l c) (aH u q.tree m) a w₂/\(∀b,dm m b->dm c b)/\a.heap.size+3<=w₂.heap.size/\∀b,a.heap.size<=b->b<a.heap.size+3->¬aH u q.tree m b)(t:aK u g H L D x)(U:D.tb=m.tb)(n:aI (aH u q.tree m) (aH u H.tree D) w₂ x)(X:∀b,dm D b->dm m b):oq u g l c a H L x:=by obtain⟨a0,W,p,Y,a1,Z⟩:=w;have:=n.size;exact⟨D,t,U.trans W,p.trans n,λb T=>Y b (X b T),by omega,λb R S=>(aI.out n (a:=b) (by omega) (Z b R S)).2.1⟩
def Jj(u:E)(g:Xt)(e:cz)(told:Xq Out)(b:Out)(o:Xq Out)(l:Tree)(c:fB)(a:K)(d:Ending)(k:K):Prop:=d=XB (.agg (gZ b ly))/\b.names=[]/\b.results=[]/\oq u g l c a e (o++told) k
theorem QS(Y:aK u g y o c a){m:dA}{rq:Sim.RV}(j7:RQ rq m)(j0:m.op.kind≠2)(j1:m.op.kind≠7)(h0:qj m.op)(m1:TK y.tree)(e1:0<=y.aL/\y.aL<2^62)(m9:∀e7 z,(y.ck e7 z).length<=8)(m6:o.length+64<2^20)(d:Xt):
 Calls TP 65 #[pt u 0,.agg (aP d rq)] a λr k=>∃h1 told N,Wt.write y d m=(h1,told++[N])/\Jj u g h1 told N o y.tree c a r k:=by
 obtain⟨ak,n0,n3,l8,aE,m0,n7,l2,l1,l0⟩:=rq;obtain⟨O,W,a9,X,g2,g3,g4⟩:=j7;simp only at O W a9 X g2 g3 g4;subst O W a9 X g2 g3 g4;obtain⟨f,a5⟩:∃f,f=rV d m.ak m.op.kind (bs m.op.path) (bs m.op.data) m.op.aE m.op.flags m.watch (.slice l2 l1 l0):=by simp
 obtain⟨l6,f2,h3⟩:=QR a f m.ak d;have d5:=Y.old (by omega) f2;have j3:∀b,a.heap.size<=b->¬aH u y.tree c b:=λb s q=>by have:=Y.bg q;omega
 have b5:∀b,dm c b->b<a.heap.size:=λb s=>Y.jh s;have e3:=fL j0;have e4:=fL j1;obtain⟨h,b9⟩:∃h:cz,h={y with aL:=y.aL+1}:=by simp
 have c7:h.tree=y.tree:=by rw[b9]
 have m8:h.ck=y.ck:=by rw[b9]
 obtain⟨b3,g7⟩:∃b3,b3=uu a f m.ak d:=by simp
 rw[<-g7]at l6 f2 h3 d5
 have i7:(b3.setCell ⟨u,6,F⟩ (i64 (y.aL+1))).heap[u]?=C (Xx (Fp y.timeout g c.tb c.tw c.hb y.now (y.aL+1) y.next c.ov .nilFunc) 98 (0,0)):=by have:=aA (l:=6) (g:=i64 (y.aL+1)) d5.ch;simp_all
 obtain⟨f4,h6⟩:=d5.nums i7 (by simp) (λb _ e6=>ai e6);have d6:aK u g h o c (b3.setCell ⟨u,6,F⟩ (i64 (y.aL+1))):=by simp_all
 obtain⟨n5,_,k2⟩:=d6.top
 let d4:K->Prop:=λe=>(aK u g h o c e/\c.tb=c.tb/\aI (aH u y.tree c) (aH u h.tree c) a e/\(∀b,dm c b->dm c b)/\a.heap.size+3<=e.heap.size/\∀b,a.heap.size<=b->b<a.heap.size+3->¬aH u h.tree c b)/\qd h.tree c.nb c.mb c.tb [] e/\∀b,¬wI e c.tb b
 have b4:Calls TP 109 #[pt c.tb 0] (b3.setCell ⟨u,6,F⟩ (i64 (y.aL+1))) λr k=>r=XB (.tuple #[])/\lD a.heap.size f (oS m.ak d) k k/\(k.cell? ⟨u,2,F⟩=C (pt c.tb 0)/\k.cell? ⟨u,6,F⟩=C (i64 (y.aL+1)))/\d4 k:=
  (Mb d6.tree k2).mono λr p⟨x,a8,a1,i9,j8⟩=>by
    obtain⟨a7,a2⟩:=d6.Tz a8 (by omega) (λb _ e6=>i9 b e6);rw[c7]at a2;have d3:=h6.trans a2;have a0:=a7.ch;rw[b9]at a0;refine⟨x,h3.qX d3 (λb O _=>j3 b O),⟨aa a0 2 A,aa a0 6 A⟩,⟨a7,A,?_,λb q=>q,?_,λb O _=>by simp_all⟩,a8,j8⟩
    .rw[c7];exact⟨by have:=d3.size;omega,λb s j2=>by rw[d3.keep b (by omega) j2,f2 b s],λb q=>Xr q⟩
    simp_all
 have c8:∀e,d4 e->∀z,Calls TP 113 #[pt c.tb 0,.agg (uh m.op),i64 m.ak,i64 (y.aL+1)] (e.drewN z) (gO h.tree c.nb c.mb c.tb [] (e.drewN z) (Wt.change h.tree m.op m.ak (y.aL+1))):=λe⟨⟨f4,_⟩,a8,_⟩ z=>by have d7:aK u g h o c (e.drewN z):=f4.old (Ye _) (λ_ _=>rfl);obtain⟨⟨k9,e5⟩,k1,X⟩:=d7.bC;have i0:qd h.tree c.nb c.mb c.tb [] (e.drewN z):=a8.old λ_ _=>rfl;exact Mt i0 (by rw[c7];exact Y.wf) (by simp_all) h0 e5 k1 X (by decide)
 have k7:Wt.write y d m=(match Wt.change h.tree m.op m.ak (y.aL+1)with
  |.no r=>(h,[{ak:=m.ak,idx:=d,err:=r}])
  |.yes l i Q=>match Wt.look l i with
   |.no _=>((Wt.tell d {h with tree:=l} Q).1,(Wt.tell d {h with tree:=l} Q).2++[{ak:=m.ak,idx:=d,path:=i}])
   |.yes U=>((Wt.tell d {h with tree:=l} Q).1,(Wt.tell d {h with tree:=l} Q).2++[{ak:=m.ak,idx:=d,path:=i,found:=J,stat:=U.stat}])):=by
  grind [Wt.write]
 rw[k7];have xx:(Fp y.timeout g c.tb c.tw c.hb y.now y.aL y.next c.ov .nilFunc)[6]?=C (i64 y.aL):=A;rw[g7]at b4;rw[a5]at b4;cases a0:Wt.change h.tree m.op m.ak (y.aL+1)with
 |no r=>
  rw[a0]at c8
  have i8:(r !=0)=J:=by grind [Ju]
  refine(OP (q:=oq u g y.tree c a h o) e3 e4 Y.ch xx A e1 b4 (λe t n z=>(c8 e t z).mono λl3 p⟨x,g8⟩=>?_) (qB r) i8).mono λl3 k⟨x,e,Z,a1,b6⟩=>⟨h,[],_,A,x,A,A,by
   rw[Zf]
   exact Z.var b5 a1 λb s=>b6 b (by omega) (by omega)⟩
  have j6:oq u g y.tree c a h o e:=⟨c,t.1.1,A,t.1.2.2.1,λb q=>q,t.1.2.2.2.2.1,t.1.2.2.2.2.2⟩;have e2:=t.1.1.ch;rw[b9]at e2;have b8:∀b,b<e.heap.size->p.heap[b]?=e.heap[b]?:=λb s=>g8.block b s;have j9:=g8.size;have lt:=λ(b:E)(N:Obj)(s:e.heap[b]?=C N)=>(XZ.1 s).1;have g9:=(b8 u (lt _ _ e2)).trans e2;exact⟨x,⟨(b8 _ (lt _ _ n.h0)).trans n.h0,(b8 _ (lt _ _ n.h2)).trans n.h2,(b8 _ (lt _ _ n.h3)).trans n.h3,A,λ_ _=>rfl⟩,⟨aa g9 2 A,aa g9 6 A⟩,j6.old j9 b8⟩
 |yes b1 i Q=>
  rw[a0]at c8;simp only;obtain⟨m4,j5⟩:=zO (by rw[c7];exact Y.wf) h0 a0;have i1:=yz (by rw[c7];exact Y.wf) a0;obtain⟨R,c0⟩:∃R:cz,R={h with tree:=b1}:=by simp
  have k6:∀e7 z,(R.ck e7 z).length<=8:=by simp_all
  have k0:R.tree=b1:=by rw[c0]
  let b2:Xz XG->E->E->K->Prop:=λD L H p=>oq u g y.tree c a R o p/\RE Q (.slice D L H) (a.heap.size+3) p
  let T:K->Prop:=λw=>oq u g y.tree c a (Wt.tell d R Q).1 (o++(Wt.tell d R Q).2) w
  have g5:∀e,d4 e->lD a.heap.size f (oS m.ak d) e e->∀z,Calls TP 113 #[pt c.tb 0,.agg (uh m.op),i64 m.ak,i64 (y.aL+1)] (e.drewN z) λr p=>∃D L H,r=XB (.tuple #[.string (bs i),.slice D L H,.nilIface])/\lD a.heap.size f (oS m.ak d) p p/\(p.cell? ⟨u,2,F⟩=C (pt c.tb 0)/\p.cell? ⟨u,6,F⟩=C (i64 (y.aL+1)))/\b2 D L H p:=λe t n z=>(c8 e t z).mono λr p⟨n2,n1,n4,h2,x,a8,m5,h7,a4⟩=>by
   have d7:aK u g h o c (e.drewN z):=t.1.1.old (Ye _) (λ_ _=>rfl);obtain⟨a7,a2⟩:=d7.UX a8 i1 h7 t.2.2;rw[<-c0]at a7;have a1:=t.1.2.2.2.2.1;have k8:=t.1.2.2.2.2.2;have i6:lD a.heap.size f (oS m.ak d) (e.drewN z) (e.drewN z):=⟨n.h0,n.h2,n.h3,A,λ_ _=>rfl⟩;have e0:=a7.ch;rw[c0,b9]at e0;obtain⟨D,L,H,rfl⟩:∃D L H,h2=.slice D L H:=by rcases a4 with⟨_,rfl⟩|⟨v,rfl,_⟩<;>exact⟨_,_,_,A⟩
   refine⟨D,L,H,x,i6.qX a2 k8,⟨aa e0 2 A,aa e0 6 A⟩,oq.step t.1 a7 A ?_ (λb q=>q),?_⟩
   .rw[k0];exact⟨a2.size,a2.keep,a2.more⟩
   rcases a4 with q|⟨v,O,W,a9,X⟩
   .exact Xr q
   exact Xs ⟨v,O,W,Yi a1 a9,X⟩
  have g6:∀D L H p,b2 D L H p->lD a.heap.size f (oV m.ak 0 d 0 ⟨#[]⟩ ⟨#[]⟩ Xp 0 0 0 0 0 0 0 (Xw F 0 0) (Xw F 0 0)) p p->Calls TP 110 #[pt u 0,i64 d,.slice D L H] p λr w=>r=XB (.tuple #[])/\lD a.heap.size f (oV m.ak 0 d 0 ⟨#[]⟩ ⟨#[]⟩ Xp 0 0 0 0 0 0 0 (Xw F 0 0) (Xw F 0 0)) w w/\w.cell? ⟨u,2,F⟩=C (pt c.tb 0)/\T w:=λD L H p⟨⟨l7,W⟩,a4⟩ n=>by
   have f3:=W.1;refine(Tw f3 k6 a4 (λb s=>?_) (by omega) (by omega) d).mono λr w⟨x,i2,a3,m7,h5,k5,d9⟩=>⟨x,n.qX h5 W.2.2.2.2.2,?_,oq.step W a3 d9 (by simp_all) k5⟩
   .rcases a4 with⟨_,q⟩|⟨v,O,_,_,X⟩
    .cases q;cases s
    rw[O]at s;cases s;exact f3.UC X
   have:=aa a3.ch 2 A;simp_all
  have m2:∀D L H p a6,b2 D L H p->lD a.heap.size f (oV m.ak 0 d 0 ⟨#[]⟩ ⟨#[]⟩ Xp 0 0 0 0 0 0 0 (Xw F 0 0) (Xw F 0 0)) p a6->b2 D L H a6:=λD L H p a6⟨q,a4⟩ n=>⟨q.var b5 n.size λb s=>n.keep b (by omega),by
   rcases a4 with q|⟨v,O,W,a9,X⟩
   .exact Xr q
   exact Xs ⟨v,O,W,a9,(n.keep v (by omega)).trans X⟩⟩
  have m3:∀p a6,T p->lD a.heap.size f (oV m.ak 0 d 0 (bs i) ⟨#[]⟩ Xp 0 0 0 0 0 0 0 (Xw F 0 0) (Xw F 0 0)) p a6->T a6:=λp a6 q n=>q.var b5 n.size λb s=>n.keep b (by omega);have Z:∀S N,T S->T (S.alloc N):=λS N q=>q.old (by simp) λb s=>Yc _ _ _ s;have k4:(Wt.tell d R Q).1.tree=b1:=by simp_all [sZ]
  have c9:∀w,T w->lD a.heap.size f (oV m.ak 0 d 0 (bs i) ⟨#[]⟩ Xp 0 0 0 0 0 0 0 (Xw F 0 0) (Xw F 0 0)) w w->Calls TP 58 #[pt c.tb 0,.string (bs i)] w λr S=>∃b0,r=XB (.tuple #[.agg b0,(ot (Wt.look b1 i)).ev])/\cm (ot (Wt.look b1 i)) w.heap.size b0 S/\(∀N,lD a.heap.size f (oV m.ak 0 d 0 (bs i) ⟨#[]⟩ Xp 0 0 0 0 0 0 0 (Xw F 0 0) (Xw F 0 0)) (S.alloc N) (S.alloc N))/\T S:=λw t n=>by
   have i5:=t;obtain⟨i2,a3,d9,_⟩:=t;obtain⟨⟨k9,e5⟩,_,_⟩:=a3.bC;obtain⟨n6,_,k3⟩:=a3.top;have b7:=SO a3.tree (aa k3 0 A) a3.wf (bs i) e5 (by show i.length<2^31;exact j5);rw[k4,d9]at b7;refine b7.mono λr S⟨b0,x,c6,d0⟩=>⟨b0,x,c6,λN=>?_,oq.old i5 d0.size d0.block⟩;have lt:=λ(b:E)(N:Obj)(s:w.heap[b]?=C N)=>(XZ.1 s).1
   have kp:∀(b:E)(d2:Obj),w.heap[b]?=C d2->(S.alloc N).heap[b]?=C d2:=λb d2 q=>by have O:=lt b d2 q;rw[Yc _ _ _ (Yk O d0.size),d0.block b O];exact q
   exact⟨kp _ _ n.h0,kp _ _ n.h2,kp _ _ n.h3,A,λ_ _=>rfl⟩
  cases b7:Wt.look b1 i with
  |no h4=>rw[b7]at c9;refine(xp (o:=h4) (d5:=T) (d6:=T) (T:=0) (U:=0) (W:=0) (X:=0) (Y:=0) (Z:=0) (a0:=0) (a8:=⟨#[]⟩) e3 e4 Y.ch xx A e1 b4 (by rw[<-a5];exact g5) zY (by rw[<-a5];exact g6) (λw t n=>?_) (by grind) (by grind) Z (.inr ⟨rfl,rfl⟩)).mono λr k⟨x,e,Z,a1,b6⟩=>⟨(Wt.tell d R Q).1,(Wt.tell d R Q).2,{ak:=m.ak,idx:=d,path:=i},by rw[c0],x,A,A,Z.var b5 a1 λb s=>b6 b (by omega) (by omega)⟩;rw[<-a5]at n;refine(c9 w t n).mono λr S⟨b0,x,c6,j4,d8⟩=>?_;obtain⟨e8,f0,e9,rfl⟩:=AU c6;exact⟨e8,f0,e9,x,by simp_all,d8⟩
  |yes U=>rw[b7]at c9;refine(xp (o:=0) (d5:=T) (d6:=T) (T:=U.stat.made) (U:=U.stat.set) (W:=U.stat.aE) (X:=U.stat.eD) (Y:=U.stat.own) (Z:=U.stat.size) (a0:=U.stat.kids) (a8:=bs U.data) e3 e4 Y.ch xx A e1 b4 (by rw[<-a5];exact g5) zY (by rw[<-a5];exact g6) (λw t n=>?_) (by grind) (by grind) Z (.inl ⟨rfl,rfl⟩)).mono λr k⟨x,e,Z,a1,b6⟩=>⟨(Wt.tell d R Q).1,(Wt.tell d R Q).2,{ak:=m.ak,idx:=d,path:=i,found:=true,stat:=U.stat},by rw[c0],x,A,A,Z.var b5 a1 λb s=>b6 b (by omega) (by omega)⟩;rw[<-a5]at n;refine(c9 w t n).mono λr S⟨b0,x,c6,j4,d8⟩=>?_;obtain⟨dd,f5,f6,f7,f8,f9,g0,g1,e8,f0,e9,rfl,_,rfl,rfl,rfl,rfl,rfl,rfl,rfl,rfl⟩:=zi c6;exact⟨e8,f0,e9,x,by simp_all,d8⟩
end
variable{g:Tree}{e:Out}
section
variable{c:Xt}{h:cz}{d i:Xq Out}{a:fB}{f:E}
def BR(u:E)(c:Xt)(h:cz)(i:Xq Out)(g:Tree)(a:fB)(b e:K):Prop:=∃d,aK u c h i d e/\aI (aH u g a) (aH u h.tree d) b e/\iw (dm a) (dm d) b.heap.size
def zD(u:E)(c:Xt)(h:cz)(i:Xq Out)(g:Tree)(a:fB)(b:K)(d:Ending)(e:K):Prop:=d=XB (.tuple #[])/\BR u c h i g a b e
theorem Sc(a:Wt.TB (512*f) g)(l:f<2^20):TK g:=λd c b=>by obtain⟨⟨e,h⟩,i,k⟩:=a d c b;omega
theorem rH(q:aK u c y d a b)(w:d.length<2^20)(s:e.names=[])(t:e.results=[]):Calls TP 60 #[pt u 0,.agg (gZ e ly)] b λo n=>o=XB (.tuple #[])/\∃m,aK u c y (d++[e]) m n/\aI (aH u y.tree a) (aH u y.tree m) b n/\∀l,dm m l->dm a l:=
 (GA q w (tP s t b) λl k=>by rcases k with k|k<;>cases k).mono λo n⟨v,x,r,p⟩=>⟨v,_,r,p,IS⟩
theorem Dz(Z:aK u c y d a b)(b5:Ok y f)(c7:f<2^20)(d2:d.length+64<2^20){g:dA}{rq:Sim.RV}(a8:RQ rq g)(d1:qj g.op){h:Xt}(e4:g.op.kind=3\/g.op.kind=4\/g.op.kind=5\/g.op.kind=6)(e3:h<64):
 Calls TP 40 #[pt u 0,.iface 140 (.agg (aP h rq))] b (zD u c (Wt.step y h g).1 (d++(Wt.step y h g).2) y.tree a b):=by
 have d4:Wt.step y h g=if Wt.known y g.ak=Xp then(y,[{ak:=g.ak,idx:=h,err:=3}])else Wt.write (Wt.heard y g.ak) h g:=by
  have e6:Wt.task h g=.write:=by unfold Wt.task;rw[XH (by omega),XH (by omega),XH (by omega),XH (by omega),XH (by omega),XN (by omega)]
  simp_all [Wt.step]
 have d3:=a8;obtain⟨ak,e8,e9,e1,aE,e2,f1,d8,d7,d6⟩:=rq;obtain⟨O,Q,b7,b8,b9,c0,c6⟩:=a8;subst O Q b7 b8 b9 c0 c6;obtain⟨o,a9⟩:∃o,o=rV h g.ak g.op.kind (bs g.op.path) (bs g.op.data) g.op.aE g.op.flags g.watch (.slice d8 d7 d6):=by simp
 have a7:∀i,i<b.heap.size->(b.alloc (.cells o 140)).heap[i]?=b.heap[i]?:=by simp_all [Yc]
 have e5:(b.alloc (.cells o 140)).heap.size=b.heap.size+1:=by simp
 have a5:=Yx b (.cells o 140);have a6:¬aH u y.tree a b.heap.size:=λN=>by have:=Z.bg N;omega
 have r:=Ie (Z.old (by omega) a7) g.ak;have a2:∀{k:K},aI (aH u y.tree a) (aH u y.tree a) (b.alloc (.cells o 140)) k->aI (aH u y.tree a) (aH u y.tree a) b k:=λY=>⟨by have:=Y.size;omega,λi t c8=>by rw[Y.keep i (by omega) c8,a7 i t],λi N=>Xr N⟩;rw[d4];cases a4:Wt.known y g.ak with
 |false=>
  rw[a4]at r;refine Dy (KP:=λk=>aK u c y d a k/\aI (aH u y.tree a) (aH u y.tree a) b k) (p:=λX=>BR u c y (d++[{ak:=g.ak,idx:=h,err:=3}]) y.tree a b X) ?_ λk⟨H,D⟩=>?_
  .rw[<-a9];exact r.mono λz k⟨l,S,s⟩=>⟨l,(s.keep _ (by omega) a6).trans a5,S,a2 s⟩
  exact(rH H (by omega) (e:={ak:=g.ak,idx:=h,err:=3}) A rfl).mono λz v⟨l,L,q,x,T⟩=>⟨l,L,q,D.trans x,λi t=>Xr (T i t)⟩
 |true=>
  rw[a4]at r;have w:=b5.heard g.ak;have b1:=w.Vd;have a1:=Sc w.Mf c7;have a3:0<=(Wt.heard y g.ak).aL/\(Wt.heard y g.ak).aL<2^62:=by have:=w.aL;omega
  have R:=(w.write h (r:=g) (by omega) (by omega)).2;obtain⟨m,b0⟩:∃m,m=Wt.heard y g.ak:=by simp
  have e7:m.tree=y.tree:=by rw[b0];rfl
  rw[<-b0]at r b1 a1 a3 R⊢
  refine Km (KP:=λk=>aK u c m d a k/\aI (aH u y.tree a) (aH u y.tree a) b k) (p:=λX=>BR u c (Wt.write m h g).1 (d++(Wt.write m h g).2) y.tree a b X)
   (x:=λe b3 v=>b3=ly/\e.names=[]/\e.results=[]/\∃p told n,Wt.write m h g=(p,told++[e])/\aK u c p (d++told) n v/\aI (aH u y.tree a) (aH u p.tree n) b v/\∀i,dm n i->dm a i) ?_ (λk⟨H,D⟩=>?_) λe b3 v⟨d5,c9,d0,p,told,n,W,q,x,U⟩=>?_
  .rw[<-a9];exact r.mono λz k⟨l,S,s⟩=>⟨l,(s.keep _ (by omega) a6).trans a5,S,a2 s⟩
  .refine(QS H d3 (by omega) (by omega) d1 a1 a3 b1 d2 h).mono λz v⟨p,told,e,W,l,O,Q,n,q,_,x,U,_⟩=>⟨e,ly,l,A,O,Q,p,told,n,W,q,D.trans ?_,U⟩;simp_all
  rw[W]at R⊢
  rw[d5];simp only[YA,abg]at R;refine(rH q (by rw[YA];omega) c9 d0).mono λz f0⟨l,L,d9,b6,T⟩=>⟨l,L,?_,x.trans b6,λi t=>Xr (U i (T i t))⟩;simp_all
theorem CQ{d:Xq (Xt×Xt)}(a:Xn):a∈d.map (λc=>i64 c.1)↔(fP d a).isSome=J:=by
 constructor
 .intro b;obtain⟨c,e,rfl⟩:=YL.1 b;simp_all [fg]
 intro b;cases a with
 |int a f=>
  cases a with
  |i64=>simp_all [fg]
  |_=>cases b
 |_=>cases b
theorem CS{m:Xq (Xt×Xt)}{k n:Xt}(q:∀o∈m,o.1≠k):fP (m++[(k,n)]) (i64 k)=C (i64 n)/\∀l,l≠i64 k->fP (m++[(k,n)]) l=fP m l:=by
 refine⟨?_,λl r=>?_⟩
 .grind [fg]
 cases l with
 |int p j=>
  cases p with
  |i64=>grind [fg]
  |_=>rfl
 |_=>rfl
theorem Dw(n:aK u c y d a b)(v:Ok y f)(c0:f<2^20)(d1:d.length+64<2^20){t:dA}{rq:Sim.RV}(b2:RQ rq t){h:Xt}(c9:t.op.kind=1)(c8:h<64):
 Calls TP 40 #[pt u 0,.iface 136 (.agg (aP h rq))] b (zD u c (Wt.step y h t).1 (d++(Wt.step y h t).2) y.tree a b):=by
 have b3:Wt.step y h t=if y.dG.length<8 then({y with aL:=y.aL+1,dG:=y.dG++[(y.next,y.now)],next:=y.next+1},[{ak:=y.next,idx:=h}])else(y,[{idx:=h,err:=13}]):=by simp_all [Wt.task,XH,Wt.step]
 obtain⟨a6,b9,U,N⟩:=n.kF;have R:=(XZ.1 U).1;have w:a.hb≠u:=λm=>by have:=n.ch;simp_all
 have d2:a6.size=y.dG.length:=by
  have b2:=v.xZ;have:=N.size (l:=y.dG.map λm=>i64 m.1) ?_ CQ
  .rw[this,h_]
  grind
 have T:∀i:K,i.heap[a.hb]?=b.heap[a.hb]?->(Builtin.len_ #[96] 3 #[.map (C a.hb)]).run TP i=.ok (Xo M ((y.dG.length:E):Xt)) i:=by grind [On,IQ]
 rw[b3];by_cases S:y.dG.length<8
 .rw[XN S]
  obtain⟨b4,b5⟩:=CS (m:=y.dG) (k:=y.next) (n:=y.now) λm r q=>by have:=v.key m.1 (YL.2 ⟨m,r,A⟩);omega
  have c6:=v.aL;have d3:=v.kW
  refine ML (o:=Fp y.timeout c a.tb a.tw a.hb y.now y.aL y.next a.ov .nilFunc) (aL:=y.aL) (kW:=y.next) (now:=y.now) (q:=y.dG.length)
   (p:=λz=>BR u c {y with aL:=y.aL+1,dG:=y.dG++[(y.next,y.now)],next:=y.next+1} (d++[{ak:=y.next,idx:=h}]) y.tree a b z)
   (a0:=λY=>∃l k,Y=.map l k/\Mp Pd l k (fP (y.dG++[(y.next,y.now)]))) n.ch A R T A rfl rfl w (by omega) (by omega) (by omega) (λi a7=>?_) λi W a9⟨Y,d0,l,k,c7,O⟩ L=>?_
  .obtain⟨l,k,x,O⟩:=N.put Ni IQ (w:=i) (a7.trans U) (k:=i64 y.next) ⟨_,A⟩ (i64 y.now) b4 b5
   grind
  have d4:(yb b a.hb (.map l k)).heap.size=b.heap.size:=by simp[yb]
  have a8:(yb b a.hb (.map l k)).heap[a.hb]?=C (.map l k):=by simp_all
  have b1:∀g,g≠a.hb->(yb b a.hb (.map l k)).heap[g]?=b.heap[g]?:=by grind
  obtain⟨a3,a1⟩:=n.hears a8 O (by omega) λg _ w=>b1 g w
  obtain⟨a4,a2⟩:=a3.nums (w':=i) (now:=y.now) (aL:=y.aL+1) (kW:=y.next+1) a9 (by omega) λg o w=>by grind
  refine(rH a4 (by omega) (e:={ak:=y.next,idx:=h}) A rfl).mono λm b7⟨r,H,D,p,x⟩=>⟨r,H,D,(a1.trans a2).trans p,λg o=>Xr (x g o)⟩
 rw[XH S];refine FA (o:=Fp y.timeout c a.tb a.tw a.hb y.now y.aL y.next a.ov .nilFunc) (q:=y.dG.length) (p:=λz=>BR u c y (d++[{idx:=h,err:=13}]) y.tree a b z) n.ch A R T (by omega) λi W L=>?_;have a5:=n.old W L;refine(rH a5 (by omega) (e:={idx:=h,err:=13}) A rfl).mono λm b7⟨r,H,D,p,x⟩=>⟨r,H,D,?_,λg o=>Xr (x g o)⟩
 exact⟨by have:=p.size;omega,λg o b0=>by rw[p.keep g (by omega) b0,L g o],λg q=>by
  rcases p.more g q with q|q
  .exact Xr q
  omega⟩
end
variable{g:K}{i:K}{m:Xn}{c:E}
structure Sg where
 fu:cz
 outs:Xq Out
 cnt:E
def wy(d:E->dA)(y:Sg)(c:E):Sg:=⟨(Wt.step y.fu c (d c)).1,y.outs++(Wt.step y.fu c (d c)).2,y.cnt+1⟩
def Gu(d:E->dA)(y:Sg)(c:E):Sg:=⟨(Wt.dF y.fu c (d c) (Wt.look y.fu.tree (d c).op.path)).1,y.outs++[(Wt.dF y.fu c (d c) (Wt.look y.fu.tree (d c).op.path)).2],y.cnt+1⟩
def tE(d:E->dA)(c:E):Xy:=decide ((d c).op.kind=8\/(d c).op.kind=9\/(d c).op.kind=10)
def Nv(d:E->dA)(y:Sg)(c:E):LR:=ot (Wt.look y.fu.tree (d c).op.path)
def KV(d:E->dA)(rq:E->RV)(c:E):Xn:=.iface (if tE d c then 107 else if(d c).op.kind=1 then 136 else 140) (.agg (aP c (rq c)))
def Pe(o:E)(y:cz)(p:Xq Out)(a:E):Prop:=Ok y (o+a)/\p.length<=33*a
def Wr(o u:E)(l:Xt)(y:Sg)(own a:E->Prop)(g:K):Prop:=∃e,aK u l y.fu y.outs e g/\own=aH u y.fu.tree e/\a=dm e/\Pe o y.fu y.outs y.cnt
def WW(o u:E)(l:Xt)(d:E->dA)(y:Sg)(c:E)(b:Xn)(own a:E->Prop)(g:K):Prop:=∃e m,b=.agg (gZ (Wt.dF y.fu c (d c) (Wt.look y.fu.tree (d c).op.path)).2 m)/\aK u l (Gu d y c).fu y.outs e g/\eU (Wt.dF y.fu c (d c) (Wt.look y.fu.tree (d c).op.path)).2 m g/\(∀f,m.1.ownBlock=C f\/m.2.ownBlock=C f->¬aH u (Gu d y c).fu.tree e f)/\own=aH u (Gu d y c).fu.tree e/\(a=λf=>dm e f\/m.1.ownBlock=C f\/m.2.ownBlock=C f)/\Pe o (Gu d y c).fu (Gu d y c).outs (Gu d y c).cnt
theorem fT{a:Xu Xn}(d:∀f∈a.toList,NB f):¬aS a:=λ⟨c,b,e⟩=>d (.int .u8 b) (YK.2 (YE e)) b A
theorem Gw(y:cz)(b:Xt)(d:dA)(a:BP):(Wt.dF y b d a).1.tree=y.tree:=by
 unfold Wt.dF;split
 .rfl
 split
 .split
  .split<;>rfl
  rfl
 split<;>rfl
section
variable{l:Xt}{p:Xq Out}{e:fB}
theorem aK.EO(b:aK u l y p e g)(a:aH u y.tree e f){t:Xu Xn}{T:XA}{O:E×E}(m:g.heap[f]?=C (Xx t T O)):¬aS t:=by
 refine fT ?_
 have S:NB e.ov:=λD n=>by rcases b.row.2 with⟨a,_⟩|⟨_,_,_,a,_⟩<;>(simp_all)
 have base:∀(s:Xq Xn),(∀d∈s,d=e.ov\/(match d with|.int .u8 _=>False|_=>True))->∀d∈s,NB d:=λs R d k D n=>by
  rcases R d k with a|a
  .exact S D (a.symm.trans n)
  simp_all
 rcases a with rfl|a|a|rfl|a
 .rw[b.ch]at m;cases m;refine base _ λd k=>?_;simp only[Fp,Yg,Yo,Ze]at k
  grind
 .rcases a with rfl|⟨o,i,rfl|rfl⟩
  .obtain⟨W,x,z⟩:=b.top;rw[z]at m;cases m;refine base _ λd k=>Xs ?_;simp only[Yg,Yo,Ze]at k;rcases k with rfl|rfl|rfl
   .trivial
   .trivial
   rcases x with rfl|⟨_,_,_,rfl⟩<;>trivial
  .obtain⟨h,r⟩:=Yd.1 i;rw[b.tree.nd o h r]at m;cases m;refine base _ λd k=>Xs ?_;simp only[cW,Yg,Yo,Ze]at k
   grind
  obtain⟨h,r⟩:=Yd.1 i;obtain⟨w,v,q,_⟩:=b.tree.kd o h r;simp_all
 .rcases a with rfl|rfl|⟨c,o,i⟩
  .rw[b.ck.tb]at m;grind
  .obtain⟨w,v,q,_⟩:=b.ck.mp;simp_all
  rcases b.ck.row c o with⟨_,H,n⟩|⟨Q,L,N,n,x,z,_,_,_,_,U⟩
  .rw[n]at i;cases H<;>cases i
  rw[n]at i;have:Q=f:=by
   cases L with
   |zero=>cases i
   |succ h=>simpa[rowOf]using i
  grind
 .obtain⟨w,v,q,_⟩:=b.kF;simp_all
 obtain⟨N,q,a⟩:=b.row.blk f a;simp_all
theorem aK.forget(a:aK u l y p e g):∃i,nI (aH u y.tree e) g i/\aK u l y p e i/\∃b,(b=.tuple #[]\/∃h q,b=Xw F h q)/\i.heap[e.tb]?=C (Xx #[pt (e.nb []) 0,Xo M y.tree.length,b] 195 (0,0)):=by
 obtain⟨b,w,d⟩:=a.top;have a6:(b=.tuple #[]\/∃h q,b=Xw F h q)->_:=λY=>(⟨g,⟨A,A,λ_=>Xr A⟩,a,b,Y,d⟩:∃i,nI (aH u y.tree e) g i/\aK u l y p e i/\∃b,(b=.tuple #[]\/∃h q,b=Xw F h q)/\i.heap[e.tb]?=C (Xx #[pt (e.nb []) 0,Xo M y.tree.length,b] 195 (0,0)));rcases w with rfl|⟨f,h,q,rfl⟩
 .simp_all
 cases f with
 |none=>simp_all
 |some f=>
  have x:(g.setCell ⟨e.tb,2,F⟩ (.tuple #[])).heap[e.tb]?=C (Xx #[pt (e.nb []) 0,Xo M y.tree.length,.tuple #[]] 195 (0,0)):=by have:=aA (l:=2) (g:=.tuple #[]) d;simpa using this
  have z:∀s,s≠e.tb->(g.setCell ⟨e.tb,2,F⟩ (.tuple #[])).heap[s]?=g.heap[s]?:=by grind [ai]
  have X:aK u l y p e (g.setCell ⟨e.tb,2,F⟩ (.tuple #[])):=by
   obtain⟨iV,N,O,Q,R,S,T⟩:=a.iV;have a5:=N e.tb (Xr A);have kp:∀f,iV f≠0->(g.setCell ⟨e.tb,2,F⟩ (.tuple #[])).heap[f]?=g.heap[f]?:=by grind
   have t:=λf k=>kp f (by rw[T f k];decide);refine⟨a.tree.stay λW a0=>?_,⟨_,Xr A,x⟩,a.wf,?_,?_,?_,?_,?_,?_,⟨iV,N,O,Q,R,S,T⟩⟩
   .obtain⟨h,D⟩:=Yd.1 a0;obtain⟨a4,a3,n,_⟩:=a.tree.kd W h D;have H:=a.tree.nd W h D;exact⟨z _ (λv=>by rw[v,d]at H;cases H),z _ (λv=>by rw[v,d]at n;cases n)⟩
   .exact a.ck.stay λf k=>kp f (by rw[O f k];decide)
   .rw[kp e.hb (by rw[Q];decide)];exact a.kF
   .rw[kp u (by rw[R];decide)];exact a.ch
   .exact a.row.stay λf k=>kp f (by rw[S f k];decide)
   .exact⟨a.outs.1,λc U m w d=>by
     have:=a.outs.2 c U m w d;have n:=Yn d
     exact⟨this.1.stay λf k=>by rw[t f (.inr (.inr ⟨m,n,.inl k⟩))],this.2.stay λf k=>by rw[t f (.inr (.inr ⟨m,n,.inr k⟩))]⟩⟩
   obtain⟨⟨a2,n⟩,d,Z⟩:=a.bC;exact⟨⟨a2,bZ (t 1 (Xr A)) n⟩,d.stay (by rw[t 4 (.inr (.inl A))]),by rw[aR];exact Z⟩
  refine⟨_,⟨aR,A,λs=>?_⟩,X,_,Xr A,x⟩;by_cases a1:s=e.tb
  .subst a1;refine Xs ⟨Xs (Xr (Xr A)),_,_,195,(0,0),d,x,A,λL a7 a8 o r=>?_⟩;rcases L with _|_|_|L
   .simp at o r;subst o r;exact Xr A
   .simp at o r;subst o r;exact Xr A
   .simp at o r;subst o r;exact Xs ⟨A,trivial⟩
   simp at o
  simp_all
theorem xm(b:i.heap[q]?=(g.heap[q]?).map Sim.Obj.whole)(a:g.cell? ⟨q,j,F⟩=C m):i.cell? ⟨q,j,F⟩=C m:=by
 unfold K.cell? at a⊢
 rw[b];cases c:g.heap[q]? with
 |none=>simp_all
 |some d=>
  rw[c]at a;cases d with
  |cells e h f=>exact a
  |_=>simp at a
theorem aK.TC(i:aK u l y p e g){Q:Xn}(b2:Q=.tuple #[]\/∃h w,Q=Xw F h w)(O:g.heap[e.tb]?=C (Xx #[pt (e.nb []) 0,Xo M y.tree.length,Q] 195 (0,0))){r:E->Prop}(b3:r 1){Z:E}(b6:l=Z){rq:E->RV}{d:E->dA}(a9:∀c,c<h->RQ (rq c) (d c))(a7:∀c,c<h->(d c).op.path.length<2^30):
 LL r (pP y.tree e.nb e.mb e.tb) (λc=>ot (Wt.look y.tree (d c).op.path)) e.tb u Z h rq g:=by
 obtain⟨b9,b0,_⟩:=i.wf.root;have b1:(Wt.find y.tree []).isSome=J:=by rw[b0];rfl
 have t:∀a,(Wt.find y.tree a).isSome=J->pP y.tree e.nb e.mb e.tb (e.nb a):=λa k=>Xs ⟨a,k,Xr A⟩;have U:∀a,(Wt.find y.tree a).isSome=J->pP y.tree e.nb e.mb e.tb (e.mb a):=λa k=>Xs ⟨a,k,Xs A⟩;have W:∀{f w b4 a2},pP y.tree e.nb e.mb e.tb f->g.heap[f]?=C (Xx w b4 a2)->¬aS w:=λN m=>i.EO (Xs (Xr N)) m;refine⟨λf N=>?_,Xr A,⟨_,_,_,i.ch,YH _,by simp_all,A,i.EO (Xr A) i.ch,λX R o=>?_⟩,λc T b5 z b8=>?_⟩
 .rcases N with rfl|⟨a,k,rfl|rfl⟩
  .refine Xr ⟨_,_,_,O,by simp,YH _,W (Xr A) O,λX R o=>?_⟩;have b:=YK.2 (YE o);simp only[Yg,Yo,Ze]at b;rcases b with rfl|rfl|rfl
   .exact .ptr (t _ b1)
   .exact .int _ _
   rcases b2 with rfl|⟨_,_,rfl⟩
   .exact .bS
   exact .aO _ _
  .obtain⟨n,b⟩:=Yd.1 k;have m:=i.tree.nd a n b;refine Xr ⟨_,_,_,m,by simp[cW],YH _,W (t a k) m,λX R o=>?_⟩;have s:=YK.2 (YE o);simp only[cW,Yg,Yo,Ze]at s;rcases s with rfl|rfl|rfl|rfl|rfl|rfl|rfl|rfl|rfl|rfl|rfl|rfl
   case inr.inr.inr.inr.inr.inr.inr.inr.inr.inr.inl=>
    split
    .exact .cJ
    rename_i a6;exact .ptr (t _ (i.wf.up a a6 k))
   case inr.inr.inr.inr.inr.inr.inr.inr.inr.inr.inr=>exact .map (U a k)
   all_goals first|exact .string _|exact .int _ _
  obtain⟨n,b⟩:=Yd.1 k;obtain⟨L,H,m,D⟩:=i.tree.kd a n b;refine Xs ⟨L,H,m,λa1 a5=>?_⟩;obtain⟨R,q,a3,a4,x⟩:=D.key a1 a5;rw[a3,a4];refine⟨.string _,?_⟩;unfold cd at x;split at x
  .rename_i o;cases x;exact .ptr (t _ o)
  cases x
 .have s:=YK.2 (YE o);simp only[Fp,Yg,Yo,Ze]at s;rcases s with rfl|rfl|rfl|rfl|rfl|rfl|rfl|rfl|rfl|rfl
  case inr.inr.inr.inr.inr.inr.inr.inr.inl=>
   rcases i.row.2 with⟨S,_⟩|⟨_,_,_,S,_⟩<;>rw[S]
   .exact Xr (.aO _ _)
   exact Xs trivial
  all_goals first|exact Xr (.int _ _)|exact Xs trivial|exact Xr .nilFunc
 obtain⟨⟨n,b⟩,_,_⟩:=i.bC
 have a0:my y.tree e.nb e.mb b5:=⟨λv n b=>⟨_,by rw[z _ (.inl (t v (by rw[b];rfl))),i.tree.nd v n b];rfl⟩,λv n b=>by
  obtain⟨L,H,m,D⟩:=i.tree.kd v n b
  exact⟨L,H,by rw[z _ (.inl (U v (by rw[b];rfl))),m];rfl,D⟩⟩
 have a8:=(a9 c T).path;have b7:=a7 c T;have:=Ii a0 (xm (z _ (Xr (Xr A))) (aa O 0 A)) i.wf (bs (d c).op.path) (xm (z _ (Xs b3)) b) (by show(d c).op.path.length<2^31;omega);rw[a8];exact this
end
section
variable{l o:E}{d:E->dA}{rq:E->RV}{r:E->Prop}
theorem sJ:tE d c=J↔(d c).op.kind=8\/(d c).op.kind=9\/(d c).op.kind=10:=by simp[tE]
theorem Ix{y:Sg}(a:tE d c=J)(b:c<64):Gu d y c=wy d y c:=by
 have k:=sJ.1 a
 have n:Wt.task c (d c)=.read:=by unfold Wt.task;rw[XH (by omega),XH (by omega),XH (by omega),XN (by omega)]
 simp_all [Gu,wy,Wt.step]
theorem SH(R:∀c,c<h->RQ (rq c) (d c))(a0:∀c,c<h->qj (d c).op)(W:∀c,c<h->(d c).op.kind=1\/(d c).op.kind=3\/(d c).op.kind=4\/(d c).op.kind=5\/(d c).op.kind=6\/(d c).op.kind=8\/(d c).op.kind=9\/(d c).op.kind=10)(c9:o<2^16)(d3:h<=64)(b7:r 1)(b4:1<=l/\l<2^16):
 HC (Wr o u l) (WW o u l d) (Gu d) (wy d) (Nv d) r u l h rq (tE d) (KV d rq) Sg.cnt where
 Vl:=λ_ _=>rfl
 Sh:=λ_ _=>rfl
 sm:=λy own H g i b⟨e,a,k,n,x⟩=>⟨e,a.same (by simp_all),k,n,x⟩
 lt:=λy own H g⟨e,a,k,n,_⟩ f w=>by
  subst k n;rcases w with b|b
  .exact a.bg b
  exact a.jh b
 EO:=λy own H g⟨e,a,k,n,_⟩ f w c6 e3 c8 Q=>by subst k n;exact a.EO w Q
 pre:=λy own H g⟨e,a,k,n,x⟩=>by subst k n;obtain⟨i,b1,z,e4,v,N⟩:=a.forget;exact⟨i,_,e.tb,b1,⟨e,z,A,A,x⟩,λf w=>Xs (Xr w),z.TC v N b7 A R λc W=>(a0 c W).path⟩
 ev:=λy c=>by
  unfold Nv;cases Wt.look y.fu.tree (d c).op.path with
  |no s=>exact .iface _ _ _
  |yes a4=>exact .nil
 WC:=λy c j=>by simp[Nv,Gu,Gw]
 mh:=λy c b8 own H g i s⟨e,m,v,a,N,a7,a8,a9,b0⟩=>⟨e,m,v,a.old (by simp_all) (λ_ _=>by rw[s]),⟨N.1.stay λf _=>by rw[s],N.2.stay λf _=>by rw[s]⟩,a7,a8,a9,b0⟩
 Rx:=λy c t kF Q own H g d6 e2⟨e,a,k,n,x⟩ b6 b2=>by
  subst k n;have b3:=sJ.1 kF;have b5:=Ix (y:=y) kF (by omega);obtain⟨D,c0⟩:=x;obtain⟨Z,b9⟩:=Ok.step D c (r:=d c) (by omega) (by omega) (by omega)
  have X:Pe o (Gu d y c).fu (Gu d y c).outs (Gu d y c).cnt:=by rw[b5];refine⟨Z,?_⟩;show(y.outs++_).length<=33*(y.cnt+1);rw[YA];omega
  refine(Qy a (R c t) b3 (λt=>?_) c A b6 b2).mono λs i⟨m,L,O,z,a1,a5,d5,Y,U⟩=>⟨_,_,_,O,⟨L,m,A,z,Y,λf w=>?_,A,A,X⟩,?_,λf w=>?_⟩
  .have v:=D.key _ (lW.1 t);have N:=D.kW;omega
  .show¬aH u (Wt.dF _ _ _ _).1.tree L f;rw[a1];exact(U f w).1
  .show aI _ (aH u (Wt.dF _ _ _ _).1.tree L) g i;rw[a1];exact a5
  grind [dm]
 snd:=λy c t kF Q b8 own H g⟨e,m,v,a,Y,U,k,n,x⟩=>by
  subst k n v;have d1:=x.2
  have d2:y.outs.length+1<=33*(y.cnt+1):=by simp_all [Gu]
  refine(GA a (by omega) Y U).mono λs i⟨O,d8,z,T⟩=>⟨_,_,O,⟨_,z,A,A,x⟩,T,λf w=>Xr ?_⟩;rcases w with b|b|⟨a4,S,b⟩
  .exact Xr (Xr b)
  .exact Xr (Xs (Xr b))
  rcases YC.1 S with S|S
  .exact Xr (Xs (Xs ⟨a4,S,b⟩))
  simp_all
 one:=λy c t kF Q own H g⟨e,a,k,n,x⟩=>by
  subst k n;have d4:¬((d c).op.kind=8\/(d c).op.kind=9\/(d c).op.kind=10):=λb=>by grind [sJ]
  have d0:=W c t;obtain⟨D,c0⟩:=x;obtain⟨Z,b9⟩:=Ok.step D c (r:=d c) (by omega) (by omega) (by omega)
  have X:Pe o (wy d y c).fu (wy d y c).outs (wy d y c).cnt:=by
   refine⟨Z,?_⟩;show(y.outs++_).length<=33*(y.cnt+1)
   grind
  have fin:∀{s i},zD u l (Wt.step y.fu c (d c)).1 (y.outs++(Wt.step y.fu c (d c)).2) y.fu.tree e g s i->∃a2 a3,s=XB (.tuple #[])/\Wr o u l (wy d y c) a2 a3 i/\aI (aH u y.fu.tree e) a2 g i/\iw (dm e) a3 g.heap.size:=λ⟨O,L,z,T,a6⟩=>⟨_,_,O,⟨L,z,A,A,X⟩,T,a6⟩;unfold KV;rw[XH (by simp_all)];by_cases v:(d c).op.kind=1
  .rw[XN v];exact(Dw a D (by omega) (by omega) (R c t) v (by omega)).mono λs i b=>fin b
  rw[XH v];exact(Dz a D (by omega) (by omega) (R c t) (a0 c t) (by omega) (by omega)).mono λs i b=>fin b
 yes:=λc t kF=>by simp_all [KV]
 no:=λc t kF=>⟨_,_,A,by grind⟩
 Ip:=b4
 small:=by omega
end
end
variable{c:E}
section
variable{b aE e:Xt}{i d:XM}{l:Xy}{h:Xz XG}{g f:E}
theorem fR(a:K)(b c:Obj):Below a.heap.size a ((a.alloc b).alloc c):=(bU a b).trans ((bU (a.alloc b) c).mono (by simp))
theorem SX(m:0<=b/\b<64):Calls TP 38 #[i64 b,.agg #[i64 ak,i64 1,.string i,.string d,i64 aE,i64 e,.bool l,.slice h g f]] a λc k=>c=XB (.iface 136 (.agg (rV b ak 1 i d aE e l (.slice h g f))))/\Below a.heap.size a k:=by
 go_enter Tryz.func38,Tryz.ntmps38
 go_wp2
 go_ret;simp[fR]
theorem SY(m:0<=b/\b<64):Calls TP 38 #[i64 b,.agg #[i64 ak,i64 3,.string i,.string d,i64 aE,i64 e,.bool l,.slice h g f]] a λc k=>c=XB (.iface 140 (.agg (rV b ak 3 i d aE e l (.slice h g f))))/\Below a.heap.size a k:=by
 go_enter Tryz.func38,Tryz.ntmps38
 go_wp2
 go_ret;simp[fR]
theorem SZ(m:0<=b/\b<64):Calls TP 38 #[i64 b,.agg #[i64 ak,i64 4,.string i,.string d,i64 aE,i64 e,.bool l,.slice h g f]] a λc k=>c=XB (.iface 140 (.agg (rV b ak 4 i d aE e l (.slice h g f))))/\Below a.heap.size a k:=by
 go_enter Tryz.func38,Tryz.ntmps38
 go_wp2
 go_ret;simp[fR]
theorem Ta(m:0<=b/\b<64):Calls TP 38 #[i64 b,.agg #[i64 ak,i64 5,.string i,.string d,i64 aE,i64 e,.bool l,.slice h g f]] a λc k=>c=XB (.iface 140 (.agg (rV b ak 5 i d aE e l (.slice h g f))))/\Below a.heap.size a k:=by
 go_enter Tryz.func38,Tryz.ntmps38
 go_wp2
 go_ret;simp[fR]
theorem Tb(m:0<=b/\b<64):Calls TP 38 #[i64 b,.agg #[i64 ak,i64 6,.string i,.string d,i64 aE,i64 e,.bool l,.slice h g f]] a λc k=>c=XB (.iface 140 (.agg (rV b ak 6 i d aE e l (.slice h g f))))/\Below a.heap.size a k:=by
 go_enter Tryz.func38,Tryz.ntmps38
 go_wp2
 go_ret;simp[fR]
theorem Tc(m:0<=b/\b<64):Calls TP 38 #[i64 b,.agg #[i64 ak,i64 8,.string i,.string d,i64 aE,i64 e,.bool l,.slice h g f]] a λc k=>c=XB (.iface 107 (.agg (rV b ak 8 i d aE e l (.slice h g f))))/\Below a.heap.size a k:=by
 go_enter Tryz.func38,Tryz.ntmps38
 go_wp2
 go_ret;simp[fR]
theorem Td(m:0<=b/\b<64):Calls TP 38 #[i64 b,.agg #[i64 ak,i64 9,.string i,.string d,i64 aE,i64 e,.bool l,.slice h g f]] a λc k=>c=XB (.iface 107 (.agg (rV b ak 9 i d aE e l (.slice h g f))))/\Below a.heap.size a k:=by
 go_enter Tryz.func38,Tryz.ntmps38
 go_wp2
 go_ret;simp[fR]
theorem Qr(m:0<=b/\b<64):Calls TP 38 #[i64 b,.agg #[i64 ak,i64 10,.string i,.string d,i64 aE,i64 e,.bool l,.slice h g f]] a λc k=>c=XB (.iface 107 (.agg (rV b ak 10 i d aE e l (.slice h g f))))/\Below a.heap.size a k:=by
 go_enter Tryz.func38,Tryz.ntmps38
 go_wp2
 go_ret;simp[fR]
end
theorem Te{b:E->dA}{rq:E->RV}(q:RQ (rq c) (b c))(o:(b c).op.kind=1\/(b c).op.kind=3\/(b c).op.kind=4\/(b c).op.kind=5\/(b c).op.kind=6\/(b c).op.kind=8\/(b c).op.kind=9\/(b c).op.kind=10)(t:c<64)(a:K):
 Calls TP 38 #[Xo M c,.agg (rq c).jm] a λp s=>p=XB (KV b rq c)/\Below a.heap.size a s:=by
 have k:(0:Xt)<=c/\(c:Xt)<64:=by omega
 have m:=q.kind;unfold KV tE;generalize (b c).op.kind=u at o m;obtain⟨n,r⟩:∃n,n=rq c:=by simp
 rw[<-r]at m⊢
 obtain⟨ak,v,i,d,aE,e,l,h,g,f⟩:=n;subst m;rcases o with rfl|rfl|rfl|rfl|rfl|rfl|rfl|rfl
 .exact SX k
 .exact SY k
 .exact SZ k
 .exact Ta k
 .exact Tb k
 .exact Tc k
 .exact Td k
 exact Qr k
end Go.Sv
namespace Go.Sim
open Go.Conc Go.Proofs Go.RowKit
open Go.ConcN (PermW PermW.app PermW.of fork_knows WgLive RelBy sumTo)
open Go.ConcR (KK wgBlock WgAt stA smA rd wr mk DC0)
variable{P:XI}{U:Xu XD}{d:K}{n:K}{b:E}{c:XD}{R:Xu XQ}{f:Set}{h:E->Prop}{m:Ren}{y:bR}{o:Xq Ms}{q:K}{k:XO}{T:Loc->Own}
section
theorem KG{sl:Xz (E×E)}{e:Outcome}(g:U[b]?=C c)(f:stepG P (b==0) c d=.ended e n R):
 runT P (crowd U d sl) b=(.ended e n,XP b c.frame.fn c.frame.place R):=by
 obtain⟨h,rfl⟩:=XZ.1 g;have i:=swapAt_of_lt h {(default:XD)with status:=.finished};show runT P {world:=d,gs:=U,rest:={timers:=#[],alone:=F,slice:=sl}} b=_;unfold runT;simp only[i,f,GStep.es]
def TQ(P:XI)(d:Xn->K->Prop):eA:=λU q sl k=>∃b n c,stepT P (crowd U q sl)=(.ended b n,c)/\Go.Conc.Good P d (crowd U q sl) b n (k++c)
variable[Inhabited aN]
section
theorem AQ(s:dJ (aj P F) 0 o U q k T y c)(r:y.tag=F):∀b d,0<b->U[b]?=C d->∃f,QuitsD P f (Deaf k b) d/\Told k T b:=by
 intro b d n m;obtain⟨w,_,p,t⟩:=s.ok;have g:=p.each b d n m;have e:=t b n (XZ.1 m).1;generalize w b=v at g e;cases v with
 |lv f=>exact⟨f,g⟩
 |wk Q=>obtain⟨i,l,_⟩:=g;rw[r]at l;cases l
 |pr h u i x=>cases e
 |pb h u i x z O R=>cases e
 |pq h f=>cases e
theorem FP(l:dJ (aj P F) 0 o U q k T y c)(D:y.tag=F):k.HandedOver:=by
 intro b x p t⟨g,v,s,H⟩;obtain⟨f,e,m⟩:=YP.1 p;have w:f.act.touch?=C g:=by have:k.act? b=C f.act:=act?_of e;rw[this]at v;exact v
 obtain⟨N,_,d,_⟩:=l.ok;have r:=d.ops b f e;rw[m]at r;obtain⟨L,_,told⟩:=AQ l D x _ (by omega) (Yb r)
 obtain⟨j,O,h,n,i⟩:=told b f g e m w s (by
  by_cases u:T g.loc=.sync
  .right;rcases l.bC.OW b g (by rw[YX e];exact w) s u with d|⟨_,d⟩
   .exact H.resolve_left (λz=>z d)
   rw[p]at d;cases d;exact absurd A t
  exact Xr u)
 refine⟨j,by simp[XO.g?,h,n],?_⟩;rcases i with rfl|i
 .rw[e]at h;cases h;exact absurd (m.symm.trans n) t
 exact i
structure RP(q:K):Prop where
 heap:∀e,e<dE.heap.size->q.heap[e]?=dE.heap[e]?
 size:dE.heap.size<=q.heap.size
 os:q.os=dE.os
 out:q.output=dE.output
theorem PM{y:Xn->K->Prop}(w:c.status=.running)(R:∀q,aU f m d q->RP q->∃r,stepG P J c q=.ended (.done r) q #[]/\y r q):ti P F F (TQ P y) f h m d c:=by
 intro o
 induction (aj P F).wf.apply o with
 |intro o _ a5=>
  intro U q sl k T e;have a0:∀n∈U,Go.Conc.awake n:=by
   intro n i;obtain⟨b,p,rfl⟩:=Zd.1 i;rcases Yp b with rfl|u
   .have:U[0]=c:=by have:=e.me;simpa[Yb p]using this
    rw[this];exactλk D=>by rw[w]at D;cases D
   exact(aj P F).awake e.ok b _ u (Yb p)
  obtain⟨b,a6,l,H,p,a2,z⟩:=s_ (P:=P) (w:=q) (sl:=sl) a0 ⟨0,c,e.me,w⟩;have g:dJ (aj P F) 0 o U (q.at l) k T ⟨f,m,d,h,F⟩ c:=⟨(aj P F).at_ l e.ok,e.bC.at l,e.bf.at l,e.me,e.hears⟩;rcases Yp b with rfl|u
  .obtain⟨r,s,t⟩:=R (q.at l) g.bf.rel ⟨g.bC.jV.heap,g.bC.jV.size,g.bC.jV.os,g.bC.jV.out⟩;refine bY.now ⟨_,_,_,z.trans (KG e.me s),r,A,t,?_,?_,⟨λn i=>?_,A⟩,λj n i a7=>?_⟩
   .simpa[XP]using e.bC.clean
   .simpa[XP]using FP e A
   .obtain⟨j,a3,rfl⟩:=Zt.1 i;have a4:j+1<U.size:=by simp[crowd]at a3;omega
    have a1:U[j+1]?=C (((crowd U q sl).gs.toList.drop 1)[j]):=by
     simp only[crowd,Xq.getElem_drop,Xu.getElem_toList];rw[Yb a4]
     congr 2;omega
    obtain⟨x,v,_⟩:=AQ e A (j+1) _ (by omega) a1;exact⟨x,v.leaves⟩
   obtain⟨x,v,_⟩:=AQ e A j n (by omega) i;refine⟨x,?_⟩;have:=v.hears (crowd U q sl).world;simpa[XP,Deaf]using this
  obtain⟨O,Q,N,a8,L,s,t,S,W,X,Y,Z⟩:=(aj P F).step H g.ok g.bC g.bf e.me w u p a2;exact bY.head (z.trans s) (a5 O t Q N H _ L ⟨W,X,Y,S,Z.trans e.hears⟩)
end
section
variable{a:XD}
open Classical in
noncomputable def ez:Loc->Own:=λb=>if RM b then .ro else .iQ 0
theorem Mi(o:Base P m)(hrel:aU f m d dE)(y:mF f h d)(s:∀a g,m a g->h a)(u:∀a,h a->IA a):dJ (aj P F) 0 (ug (λ_=>.lv 0) 1) #[a] dE #[] ez ⟨f,m,d,h,F⟩ a:=by
 have low:∀i g,az i g->g<dE.heap.size->ez i=.ro:=λi g t o=>by unfold ez;rw[XN ⟨g,t,o⟩]
 refine⟨⟨λ_=>.lv 0,A,⟨λb c q w=>?_,λb j H N q O r=>?_,λj _=>?_,λD v=>(by cases v),λp z l=>(by simp at l)⟩,λb q r=>rfl⟩,
  {clean:= ?_,mine:= ?_,low:= ?_,OW:= ?_,norel:= ?_,PW:= ?_,kF:= ?_,row:= ?_,jV:=⟨low,λ_ _=>rfl,Ye _,A,A⟩},
  {base:=o,rel:=hrel,cQ:=y,dz:=λa g n i x=>Xs ⟨low i g x (hrel.right n),s a g n⟩,dY:= ?_,low:=⟨Ye _,λa g n _=>u a (s a g n)⟩},A,?_⟩
 .have:=(XZ.1 w).1;simp at this;omega
 .simp at r;omega
 .rfl
 .rintro S⟨b,j,_,⟨k,T,e,_⟩,_⟩;simp[XO.act?]at e
 .intro i b _ _ p k e;simp[touchAt,XO.act?]at e
 .intro b k e;simp[touchAt,XO.act?]at e
 .intro b k e;simp[touchAt,XO.act?]at e
 .intro a p l;simp[XO.act?]at l
 .intro p z k b l;simp at l
 .intro b k e;simp[touchAt,XO.act?]at e
 .intro i _ _ b k e;simp[touchAt,XO.act?]at e
 .intro a g _ i _ _ b k e;simp[touchAt,XO.act?]at e
 rfl
theorem Gz{l:Xn->K->Prop}(v:ti P F F (TQ P l) f h m d a)(w:dJ (aj P F) 0 o #[a] dE #[] T ⟨f,m,d,h,F⟩ a):
 ∃e last g n i,runNT P (e+1) (solo a dE) #[]=(.ended g n,i)/\runN P e (solo a dE)=.next last/\step P last=.ended g n/\Go.Conc.Good P l last g n i:=by
 obtain⟨e,r,p,u,i,z,g,n,D,t,x⟩:=v o #[a] dE F #[] T w;have s:runNT P e (solo a dE) #[]=(.next (crowd r p u),i):=z;refine⟨e,crowd r p u,g,n,i++D,?_,?_,?_,x⟩
 .rw[runNT_add,s];simp only[runNT,t]
 .rw[<-runNT_fst P e _ #[],s]
 show(stepT P _).1=_;rw[t]
end
end
variable{y:E}{z:eA}{e:K}{T:XC}{N:Xq XC}{D:Xu Oper}{L:E}{U:Xq E}{c:XF}{q:XF}{j:E}{u:E}{O:E}{t:Xn}{d:Xq Item}{Q:Oper}{w':K}
section
variable[Inhabited aN]
theorem Hi{a6:Type}{c:Xu a6}(b:c.size=42):∃d e q H Y a1 a2 a3 a4 a5 f g h i k l m n o p r s t u v w x y z D L N O Q R S T U W X Z a0,c=#[d,e,q,H,Y,a1,a2,a3,a4,a5,f,g,h,i,k,l,m,n,o,p,r,s,t,u,v,w,x,y,z,D,L,N,O,Q,R,S,T,U,W,X,Z,a0]:=by
 obtain⟨a⟩:=c;simp only[YF]at b
 iterate 42
  rcases a with _|⟨_,a⟩
  simp at b
 rcases a with _|⟨_,a⟩
 .grind
 simp at b
def stepT{s:Type}(rd x:s->E->s)(H:E->Xy)(a:s)(d:E):s:=if H d then rd a d else x a d
theorem SP{d:E}{g:PD}{a8:Xz dv}{l:Rt}{o:Xq Item}{i k:E}(c7:al.fr T.fn=J)(d0:T.kind≠.early)(d3:bM D L (C j) (.load 99 (.tmp i)))(c6:l.free (C j)=J)
 (b0:Inv TP al h m e)(n:ar al m l c q)(a6:c.tmps[i]?=C (pt k 0))(b9:m k g.bx)(d1:∃a9 w,e.heap[k]?=C (Xx #[I] a9 w))(c9:j<c.tmps.size)
 (next:∀b v a,Inv TP al h b a->cX h m e b a->a.heap=e.heap->ar al b ⟨l.d0,(j,.chan (C g.rc))::l.kn⟩ (c.put (C j) I) v->ti TP (C (y,g,d)) a8 z al h b a (rg (T.at v (XE D U::o)) N)):
 ti TP (C (y,g,d)) a8 z al h m e (rg (T.at q (XE D (L::U)::o)) N):=by
 obtain⟨⟨e0,e4,a7,e5,e1,e3⟩,b5,a2,a3,a4⟩:=d3;simp only at a2 a3 a4;subst a2 a3 a4;refine JK A λp a5 b8=>?_;obtain⟨a9,w,c0⟩:=b8;obtain⟨e6,e2,d2⟩:=d1;obtain⟨B,b6,b7⟩:=lB n a6;obtain rfl:B=g.bx:=(a5.inj _ _ _ _ b6 b9).1 A;have b3:q.eval (.tmp i)=pt g.bx 0:=by simp[Act.eval,b7]
 have b4:c.eval (.tmp i)=pt k 0:=by simp[Act.eval,a6]
 obtain⟨b,a,new,d7,d8,d9,d5,d6,b1,b2,c8,d4⟩:=pJ (main:=J) (g:=o) (l:=N) (v:=U) aC c7 d0 b5 A (show jj TP al.fn al.bi al.cj (.load 99 (.tmp i))=J by rfl) c6 b0 n (j:=j) A (L:=I)
  (λa7=>by rw[ib (q:={e with tape:=a7}) A b4 d2];exact⟨A,A⟩) (ib A b3 c0) (by rw[<-n.tmps.1];exact c9) a5
 exact⟨_,b,a,p,new,d7,d8,d9,d5,d6,A,next _ _ _ b1 b2 c8 d4⟩
section
variable{s:Type}{St:s->(E->Prop)->(E->Prop)->K->Prop}{a0:s->E->Xn->(E->Prop)->(E->Prop)->K->Prop}{rd x:s->E->s}{look:s->E->LR}{Y:E->Prop}{a1:E}{rq:E->RV}{H:E->Xy}{X:E->Xn}{cnt:s->E}
variable{g:PD}{S:Ren}{r:K}{R Z:E->Prop}{W:s}
structure Wo(Y h:E->Prop)(u O:E)(X:E->Xn)(g:PD)(S:Ren)(r:K)(R:E->Prop):Prop where
 dn:g.n=O
 dt:g.τ=X
 only:∀d,ft g.sh (g.τ d)
 sh:∀c,g.sh c->h c
 xl:∀c,Y c->h c
 Ol:∀a,h a->a<r.heap.size/\¬R a
 Ll:∀c,h c->∃b k,r.heap[c]?=C (Xx b k (0,b.size))/\0<b.size/\(∀(L:E) a,b[L]?=C a->aQ h a)/\¬aS b
 IB:∀i,(0<i\/i=TP.globals.size)->i<=TP.globals.size->h i
structure Lt(cnt:s->E)(St:s->(E->Prop)->(E->Prop)->K->Prop)(rd x:s->E->s)(H:E->Xy)(rq:E->RV)(h:E->Prop)(u:E)(v:Xq (E×Xn))(S:Ren)(r:K)(R Z:E->Prop)(W:s)(d:E)(a:Xq E)(b:s)(m:Ren)(e:K)(c q:XF):Prop where
 inv:Inv TP al h m e
 grow:cX h S r m e
 rel:ar al m ⟨[],v⟩ c q
 size:c.tmps.size=42
 defs:c.defers=[]
 VV:c.tmps[0]?=C (pt u 0)
 st:∃own n o,c.tmps[6]?=C o/\St b own n e/\(gK R own r e/\iw Z n r.heap.size)/\om r.heap.size rq a o e/\∀i,o.ownBlock=C i->¬own i/\¬n i
 Vo:a.foldl rd b=(Xq.range d).foldl (stepT rd x H) W
 mem:∀p∈a,p<d/\H p=J
 len:cnt b+a.length=d
 Sh:∀k,k<a.length->a.getD k 0=cnt b+k
def BS{s:Type}(St:s->(E->Prop)->(E->Prop)->K->Prop)(c:s)(own d:E->Prop)(e w':K):Prop:=∃a b,St c a b w'/\aI own a e w'/\iw d b e.heap.size
def Hb(h:E)(rq:E->RV)(f:Xq E)(d:E)(mk:Xn->XF)(b:K)(t:Xn)(g:XF)(e:K):Prop:=
 ∃c,g=mk c/\om h rq (f++[d]) c e/\b.heap.size<=e.heap.size/\(∀a,a<b.heap.size->t.ownBlock≠C a->e.heap[a]?=b.heap[a]?)/\∀a,c.ownBlock=C a->t.ownBlock=C a\/b.heap.size<=a
theorem om.low{c:E}{rq:E->RV}{d:Xq E}(f:om c rq d t e){a:E}(b:t.ownBlock=C a):c<=a/\a<e.heap.size:=by
 rcases f with⟨rfl,_⟩|⟨i,g,h,rfl,k,l,_⟩
 .cases b
 cases b;grind
theorem Jo{a:XA}(i:¬a=107)(e:K):(Instr.typeAssert (.iface a t) 101 107 J).run TP e=.ok (.tuple #[.agg #[Xo M 0,Xo M 0,Xo M 0,.string XM.empty,.string XM.empty,Xo M 0,Xo M 0,.bool Xp,Xw F 0 0],.bool Xp]) e:=by have k:TP.underlying 107=C (.struct ((match TP.underlying 107 with|some (.struct b)=>b|_=>#[]))):=A;unfold Instr.typeAssert;simp only[ZB,YW k,B_,XH i];go_simp;rfl
theorem yA{i:Goal P f J h}{o:XU}{l:Xu XV}{a2:Xu XA}{fn:Func}{a3:XR}(a7:T.kind≠.early)(a9:D[L]?=C Q)(b3:Region.wanted Q (yielded D c.tmps)=J)(b0:Q.op=.call {callee:=.value (.func o),args:=l,argTypes:=a2})
 (a6:P.funcs[o]?=C fn)(a8:(fn.name== "runtime.NumGoroutine")=Xp)(a4:fn.body=C a3)(b1:l.toList.all (dy P f.fn)=J)(w:Inv P f h m e){n:Rt}(a5:n.free Q.dst=J)(b2:ar f m n c q)
 {p:Xn->K->Prop}{k:Xu Xn}(b6:l.map c.eval=k)(b7:Co i o k e p)
 (next:∀b v t a,Inv P f h b a->cX h m e b a->ar f b n (c.put Q.dst t) v->p t a->i.G b a (rg (T.at v (XE D U::d)) N)):i.G m e (rg (T.at q (XE D (L::U)::d)) N):=
 Ch a7 a9 b3 b0 a6 a8 a4 b1 w a5 b2 (by simp_all) next
theorem fold_succ(d:E)(a:s):(Xq.range (d+1)).foldl (stepT rd x H) a=stepT rd x H ((Xq.range d).foldl (stepT rd x H) a) d:=by rw[Xq.range_succ,Xq.foldl_append];rfl
theorem HC.push(i:HC St a0 rd x look Y u a1 O rq H X cnt){a:s}{own b:E->Prop}(k:St a own b e)(n:e.heap.size<=w'.heap.size)(l:∀c,c<e.heap.size->w'.heap[c]?=e.heap[c]?):St a own b w':=i.sm a own b e w' (wM (i.lt a own b e k) n l) k
theorem gK.old{own i:E->Prop}{a w2:K}(b:gK own i e a)(n:a.heap.size<=w2.heap.size)(l:∀c,c<a.heap.size->w2.heap[c]?=a.heap[c]?):gK own i e w2:=b.trans ⟨n,λc k _=>Xr (l c k),λc b=>Xr b⟩
noncomputable abbrev KF(z:eA)(y:E)(g:PD)(h:E->Prop)(d:E):Goal TP al J h:=goalAt TP (C (y,g,d)) F z al h
theorem CP(o:HC St a0 rd x look Y u a1 O rq H X cnt)(G:Wo Y h u O X g S r R){i3:XR}{p4:Xq Item}(k4:(.block 0 (.loop i3):XR)=tl (hd (tl (tl (tl (tl (tl eQ)))))))
 (last:∀a4 e6 m e c q,Lt cnt St rd x H rq h u [] S r R Z W O a4 e6 m e c q->(goalAt TP F F z al h).G m e (rg ((base 31).at q p4) N))
 {m:Ren}{e:K}{c q:XF}(a:Lt cnt St rd x H rq h u [(15,.chan (C g.rc))] S r R Z W 0 [] W m e c q):(KF z y g h 0).G m e (rg ((base 31).at q (.code (.block 0 (.loop i3))::p4)) N):=by
 obtain rfl:i3=(match tl (hd (tl (tl (tl (tl (tl eQ))))))with|.block _ (.loop i3)=>i3|_=>.skip):=by rw[<-k4]
 clear k4;show(KF z y g h 0).G m e (rg ((base 31).at q (.code (.block 0 (.loop (.seq _ _)))::p4)) N);refine ik ?_;refine qD (c:=KF z y g h) (λj d m e q=>d+j=O/\∃a4 e6 c,Lt cnt St rd x H rq h u [(15,.chan (C g.rc))] S r R Z W d a4 e6 m e c q) ?_ ?_ O (a:=0) ⟨by omega,_,_,_,a⟩
 .clear a m e c q;rintro j f6 d m e q⟨u1,a4,e6,c,a⟩;have f4:d<O:=by omega
  obtain⟨own,k1,v6,k2,d3,⟨a9,f9⟩,a5,d9⟩:=a.st;obtain⟨v3,o0⟩:=c;obtain⟨v4,b0,b7,b8,c9,d2,n,m1,j9,k0,b1,b2,b3,b4,b5,b6,v5,p7,m0,j4,j5,j6,j7,j8,i1,e7,e8,e9,f0,f7,f5,f1,d6,d7,d8,b9,c0,c6,c7,c8,d0,d1,rfl⟩:=Hi a.size;have hd:o0=[]:=a.defs;subst hd;have l2:=a.VV;simp only[Yy,YI,YB,Yr]at l2 k2;subst l2 k2;obtain⟨i0,e4⟩:∃i0,X d=i0:=⟨_,A⟩;have hrel:=a.rel;have e3:=a.inv;refine bu (eE ?_);show ti TP (C (y,g,d)) F z al h m e (rg ((base 31).at q (XE _ (0::[1])::_)) N);have e1:q.tmps[15]?=C (.chan (C g.rc)):=hrel.kn (15,_) (by simp);refine CM (l:=.nilIface) (Hj (j:=16) (i:=15) (by decide) ⟨_,A,A,A,A⟩ e1 lz) (λ_ h8 g0=>?_) (λp=>absurd p (by rw[G.dn];omega));rw[zk ⟨_,_,A,A,A,A⟩];rw[G.dt,e4]at g0
  have d5:ar al m ⟨[],[(15,.chan (C g.rc))]⟩ ⟨#[pt u 0,b0,b7,b8,c9,d2,n,m1,j9,k0,b1,b2,b3,b4,b5,b6,.tuple #[i0,.bool J],p7,m0,j4,j5,j6,j7,j8,i1,e7,e8,e9,f0,f7,f5,f1,d6,d7,d8,b9,c0,c6,c7,c8,d0,d1],[]⟩ (q.put (C 16) (.tuple #[h8,.bool J])):=by
   refine hrel.put (C 16) A (v:=.tuple #[i0,.bool J]) (.tuple A ?_);intro L w v7 a3 i6;rcases(by grind:L=0\/L=1)with rfl|rfl
   .simp_all
   simp at a3 i6;subst a3 i6;exact .bool _
  generalize q.put (C 16) (.tuple #[h8,.bool J])=s8 at d5⊢
  show(KF z y g h (d+1)).G m e _;refine vN aC (by decide) (by decide) (H:=C 17) (S:=.extract (.tmp 16) 1) ⟨_,A,A,A,A⟩ (W:=[15]) A (by rfl) (by decide) e3 d5 (λi f2=>i=⟨#[pt u 0,b0,b7,b8,c9,d2,n,m1,j9,k0,b1,b2,b3,b4,b5,b6,.tuple #[i0,.bool J],.bool J,m0,j4,j5,j6,j7,j8,i1,e7,e8,e9,f0,f7,f5,f1,d6,d7,d8,b9,c0,c6,c7,c8,d0,d1],[]⟩/\f2.heap=e.heap) (λw' v _ _ _ h7 y p=>?_) (λi f2 a w _=>by rw[a.2]) ?_
  .clear f6 a last a5 d3 a9 d9 hrel e3 e1 d5 f4 g0 o G e4
   go_wp2
  rintro s1 _ s9 f2 e0 f3 e5⟨rfl,e2⟩;refine bO (bu (iT (k:=J) (iU e0.base e5 (by decide) A) (sI (ik (bu ?_)))));refine bW aC (by decide) (by decide) (z:=[15]) A (by rfl) e0 e5 (λi a8=>i=⟨#[pt u 0,b0,b7,b8,c9,d2,n,i0,j9,k0,b1,b2,b3,b4,b5,b6,.tuple #[i0,.bool J],.bool J,i0,j4,j5,j6,j7,j8,i1,e7,e8,e9,f0,f7,f5,f1,d6,d7,d8,b9,c0,c6,c7,c8,d0,d1],[]⟩/\a8.heap=f2.heap) (λw' v _ _ _=>?_) (λi f2 a w _=>by rw[a.2]) ?_
  .clear f6 a last a5 d3 a9 d9 hrel e3 e1 d5 f4 g0 o G e4 e5 e0 f3 e2
   go_wp2
   exact⟨A,v⟩
  rintro z5 _ w9 a6 g1 g2 g4⟨rfl,h1⟩;have g3:a6.heap=e.heap:=h1.trans e2;refine bu (bu ?_);cases o9:H d with
  |true=>
   have s0:=o.yes d f4 o9;rw[e4]at s0;subst s0;obtain⟨⟨l3,l4,l5,l6,l7,l8,l9,l0,k9,l1⟩,k8⟩:∃v2,rq d=v2:=⟨_,A⟩;refine bW aC (by decide) (by decide) (z:=[15]) A (by rfl) g1 g4 (λi a8=>i=⟨#[pt u 0,b0,b7,b8,c9,d2,n,.iface 107 (.agg (aP d (rq d))),pt a6.heap.size 0,.bool J,b1,b2,b3,b4,b5,b6,.tuple #[.iface 107 (.agg (aP d (rq d))),.bool J],.bool J,.iface 107 (.agg (aP d (rq d))),.tuple #[.agg (aP d (rq d)),.bool J],.iface 107 (.agg (aP d (rq d))),.tuple #[.agg (aP d (rq d)),.bool J],.agg (aP d (rq d)),.bool J,i1,e7,e8,e9,f0,f7,f5,f1,d6,d7,d8,b9,c0,c6,c7,c8,d0,d1],[]⟩/\a8.heap=a6.heap.push (.cells (aP d (rq d)) 107 (0,0))) (λw' v _ _ _=>?_) ?_ ?_
   .rw[k8];unfold aP;rw[<-v];clear f6 a last a5 d3 a9 d9 hrel e3 e1 d5 f4 g0 o G e4 e5 e0 f3 e2 g4 g1 g2 h1 g3 k8 v
    go_wp2
    rename_i t8;refine t8 _ _ ?_
    go_wp2
    exact⟨A,A⟩
   .grind [zf]
   rintro v9 _ t0 q0 g8 h0 g5⟨rfl,h4⟩;obtain⟨b,j0⟩:∃t,aP d (rq d)=t:=⟨_,A⟩;rw[j0]at h4 g5;refine bu (bW aC (by decide) (by decide) (z:=[15]) A (by rfl) g8 g5 (λi a8=>i=⟨#[pt u 0,b0,b7,b8,c9,d2,n,.iface 107 (.agg b),pt a6.heap.size 0,.bool J,b1,b2,b3,b4,b5,b6,.tuple #[.iface 107 (.agg b),.bool J],.bool J,.iface 107 (.agg b),.tuple #[.agg b,.bool J],.iface 107 (.agg b),.tuple #[.agg b,.bool J],.agg b,.bool J,.bool J,e7,e8,e9,f0,f7,f5,f1,d6,d7,d8,b9,c0,c6,c7,c8,d0,d1],[]⟩/\a8.heap=q0.heap) (λw' v _ _ _=>?_) (λi f2 a w _=>by rw[a.2]) ?_)
   .clear f6 a last a5 d3 a9 d9 hrel e3 e1 d5 f4 g0 o G e4 e5 e0 f3 e2 g4 g1 g2 h1 g3 k8 g5 g8 h0 h4 j0
    go_wp2
    exact⟨A,v⟩
   rintro w0 _ t1 f8 g9 h9 h2⟨rfl,i9⟩;refine iT (k:=J) (iU g9.base h2 (by decide) A) (bu ?_);have j1:a6.heap.size=e.heap.size:=by rw[g3]
   have u7:f8.heap.size=a6.heap.size+1:=by simp_all
   have q6:f8.heap[a6.heap.size]?=C (Xx (aP d (rq d)) 107 (0,0)):=by simp_all
   have i4:∀c,c<e.heap.size->f8.heap[c]?=e.heap[c]?:=λc a7=>by grind
   have r9:∀a2,n.ownBlock=C a2->a2<e.heap.size:=λa2 d4=>by
    rcases a5 with⟨rfl,_⟩|⟨x8,x5,x6,rfl,_,x9,_⟩
    .cases d4
    cases d4;grind
   have r6:om r.heap.size rq a4 n f8:=a5.kept λa2 d4=>i4 a2 (r9 a2 d4);have j3:r.heap.size<=e.heap.size:=a.grow.size;have u6:=o.small;have u0:=a.len;refine bW aC (by decide) (by decide) (z:=[15]) A (by rfl) g9 h2 (Hb r.heap.size rq a4 d (λg7=>⟨#[pt u 0,b0,b7,b8,c9,d2,g7,.iface 107 (.agg b),pt a6.heap.size 0,.bool J,b1,b2,b3,b4,b5,b6,.tuple #[.iface 107 (.agg b),.bool J],.bool J,.iface 107 (.agg b),.tuple #[.agg b,.bool J],.iface 107 (.agg b),.tuple #[.agg b,.bool J],.agg b,.bool J,.bool J,n,.agg b,Xw (C ⟨f8.heap.size,0,F⟩) 1 1,g7,f7,f5,f1,d6,d7,d8,b9,c0,c6,c7,c8,d0,d1],[]⟩) f8 n) (λw' v _ _ _=>?_) ?_ ?_
   .have p0:b=#[Xo M d,Xo M l3,Xo M l4,.string l5,.string l6,Xo M l7,Xo M l8,.bool l9,.slice l0 k9 l1]:=by rw[<-j0,k8];rfl
    have r5:∀Q,om r.heap.size rq a4 n (w'.alloc Q):=λQ=>r6.kept λa2 d4=>by
     show(w'.heap.push Q)[a2]?=_
     grind
    have r1:(w'.alloc (.cells #[Xo M d,Xo M l3,Xo M l4,.string l5,.string l6,Xo M l7,Xo M l8,.bool l9,.slice l0 k9 l1] 107)).heap[w'.heap.size]?=C (Xx (aP d (rq d)) 107 (0,0)):=by rw[j0,p0];show(w'.heap.push _)[_]?=_;simp
    have q7:∀h8 m2,om r.heap.size rq (a4++[d]) h8 m2->(w'.alloc (.cells #[Xo M d,Xo M l3,Xo M l4,.string l5,.string l6,Xo M l7,Xo M l8,.bool l9,.slice l0 k9 l1] 107)).grownBy m2 n.ownBlock->(∀a2,h8.ownBlock=C a2->n.ownBlock=C a2\/(w'.alloc (.cells #[Xo M d,Xo M l3,Xo M l4,.string l5,.string l6,Xo M l7,Xo M l8,.bool l9,.slice l0 k9 l1] 107)).heap.size<=a2)->Hb r.heap.size rq a4 d (λg7=>⟨#[pt u 0,b0,b7,b8,c9,d2,g7,.iface 107 (.agg b),pt a6.heap.size 0,.bool J,b1,b2,b3,b4,b5,b6,.tuple #[.iface 107 (.agg b),.bool J],.bool J,.iface 107 (.agg b),.tuple #[.agg b,.bool J],.iface 107 (.agg b),.tuple #[.agg b,.bool J],.agg b,.bool J,.bool J,n,.agg b,Xw (C ⟨f8.heap.size,0,F⟩) 1 1,g7,f7,f5,f1,d6,d7,d8,b9,c0,c6,c7,c8,d0,d1],[]⟩) f8 n ((λg7=>⟨#[pt u 0,b0,b7,b8,c9,d2,g7,.iface 107 (.agg b),pt a6.heap.size 0,.bool J,b1,b2,b3,b4,b5,b6,.tuple #[.iface 107 (.agg b),.bool J],.bool J,.iface 107 (.agg b),.tuple #[.agg b,.bool J],.iface 107 (.agg b),.tuple #[.agg b,.bool J],.agg b,.bool J,.bool J,n,.agg b,Xw (C ⟨w'.heap.size,0,F⟩) 1 1,g7,f7,f5,f1,d6,d7,d8,b9,c0,c6,c7,c8,d0,d1],[]⟩) h8) m2:=λh8 m2 q1 h5 h6=>⟨h8,by rw[v],q1,by
     have:=h5.size
     grind,λa2 d4 r0=>by
     have y1:a2<w'.heap.size:=by rw[v];exact d4
     rw[h5.block a2 (by show a2<(w'.heap.push _).size;simp;omega) (by intro p;exact r0 p.symm)];show(w'.heap.push _)[a2]?=_
     grind,λa2 d4=>(h6 a2 d4).imp id λa=>by
     grind⟩
    have s3:=Xv q7;have s6:=Xv r5;have s4:=Xv r1;have k4:=q6;rw[<-v,j0,p0]at k4;have cell:∀j t,#[Xn.int M d,Xo M l3,Xo M l4,.string l5,.string l6,Xo M l7,Xo M l8,.bool l9,.slice l0 k9 l1][j]?=C t->w'.cell? ⟨a6.heap.size,j,F⟩=C t:=λj t y8=>by simp_all [K.cell?]
    have x1:=cell 0 _ A;have c1:=cell 1 _ A;have c2:=cell 2 _ A;have c3:=cell 3 _ A;have c4:=cell 4 _ A;have c5:=cell 5 _ A;have x2:=cell 6 _ A;have x3:=cell 7 _ A;have x4:=cell 8 _ A;have y4:r.heap.size<=w'.heap.size+1:=by grind
    have t9:a4.length<2^30:=by omega
    clear q7 r5 r1 cell k4;subst p0;clear f6 a last a5 d3 a9 f9 d9 hrel e3 e1 d5 f4 g0 o G e4 e5 e0 f3 e2 g4 g1 g2 h1 g3 k8 g5 g8 h0 h4 j0 r6 i4 q6 u7 j1 h2 g9 h9 i9 r9 j3 u6 u0 v
    go_wp2_with (at_builtin;refine oy A _ _ A rfl rfl (s6.out _) s4.out t9 (by simp_all) ?_;intro h8 m2 q1 h5 h6)
    exact s3.out _ _ q1 h5 h6
   .rintro i a8⟨g7,_,_,y6,d4,_⟩ w a3;have t6:=(G.Ol w a3).1;refine d4 w (by omega) λp=>?_;have:=a5.low p;omega
   rintro w1 _ t2 n6 i7 i8 j2⟨g7,rfl,u5,y7,y2,y0⟩;refine sH (id:=1) A ?_;have r3:∀c,c<e.heap.size->n.ownBlock≠C c->n6.heap[c]?=e.heap[c]?:=λc a7 r0=>by grind
   have u2:=o.lt e6 own k1 e d3;refine f6 (d+1) _ _ _ ⟨by omega,a4++[d],e6,_,⟨i7,((((a.grow.trans f3).trans g2).trans h0).trans h9).trans i8,j2,A,A,A,⟨own,k1,g7,A,?_,⟨?_,f9⟩,u5,?_⟩,?_,?_,?_,?_⟩⟩
   .refine o.sm e6 own k1 e n6 ⟨by omega,λc a7=>r3 c (u2 c (Xr a7)) λp=>(d9 c p).1 a7,λc a7=>by grind⟩ d3
   .exact⟨by omega,λc a7 u3=>(a9.keep c a7 u3).trans (Xr (r3 c (by omega) λp=>by have:=(a5.low p).1;omega)),a9.more⟩
   .grind
   .rw[Xq.foldl_append,a.Vo,fold_succ];simp_all [stepT]
   .intro w a3;rcases YC.1 a3 with a3|a3
    .exact⟨by have:=(a.mem w a3).1;omega,(a.mem w a3).2⟩
    simp_all
   .simp;omega
   intro m9 m6;rw[YA]at m6;simp only[Yv,Zp]at m6;by_cases p:m9<a4.length
   .have:=a.Sh m9 p;simp_all
   obtain rfl:m9=a4.length:=by omega
   simp_all
  |false=>
   obtain⟨l,k,r2,i5⟩:=o.no d f4 o9;rw[e4]at r2;subst r2;refine bW aC (by decide) (by decide) (z:=[15]) A (by rfl) g1 g4 (λi a8=>i=⟨#[pt u 0,b0,b7,b8,c9,d2,n,.iface l k,pt a6.heap.size 0,.bool Xp,b1,b2,b3,b4,b5,b6,.tuple #[.iface l k,.bool J],.bool J,.iface l k,.tuple #[.agg #[Xo M 0,Xo M 0,Xo M 0,.string XM.empty,.string XM.empty,Xo M 0,Xo M 0,.bool Xp,Xw F 0 0],.bool Xp],.iface l k,.tuple #[.agg #[Xo M 0,Xo M 0,Xo M 0,.string XM.empty,.string XM.empty,Xo M 0,Xo M 0,.bool Xp,Xw F 0 0],.bool Xp],.agg #[Xo M 0,Xo M 0,Xo M 0,.string XM.empty,.string XM.empty,Xo M 0,Xo M 0,.bool Xp,Xw F 0 0],.bool Xp,i1,e7,e8,e9,f0,f7,f5,f1,d6,d7,d8,b9,c0,c6,c7,c8,d0,d1],[]⟩/\a8.heap=a6.heap.push (.cells #[Xo M 0,Xo M 0,Xo M 0,.string XM.empty,.string XM.empty,Xo M 0,Xo M 0,.bool Xp,Xw F 0 0] 107 (0,0))) (λw' v _ _ _=>?_) ?_ ?_
   .rw[<-v];have y5:=Jo (t:=k) i5 w';clear f6 a last a5 d3 a9 f9 d9 hrel e3 e1 d5 f4 g0 o G e4 e5 e0 f3 e2 g4 g1 g2 h1 g3 v i5
    go_wp2
    exact⟨A,A⟩
   .grind [zf]
   rintro v9 _ t0 q0 g8 h0 g5⟨rfl,h4⟩;refine bu (bW aC (by decide) (by decide) (z:=[15]) A (by rfl) g8 g5 (λi a8=>i=⟨#[pt u 0,b0,b7,b8,c9,d2,n,.iface l k,pt a6.heap.size 0,.bool Xp,b1,b2,b3,b4,b5,b6,.tuple #[.iface l k,.bool J],.bool J,.iface l k,.tuple #[.agg #[Xo M 0,Xo M 0,Xo M 0,.string XM.empty,.string XM.empty,Xo M 0,Xo M 0,.bool Xp,Xw F 0 0],.bool Xp],.iface l k,.tuple #[.agg #[Xo M 0,Xo M 0,Xo M 0,.string XM.empty,.string XM.empty,Xo M 0,Xo M 0,.bool Xp,Xw F 0 0],.bool Xp],.agg #[Xo M 0,Xo M 0,Xo M 0,.string XM.empty,.string XM.empty,Xo M 0,Xo M 0,.bool Xp,Xw F 0 0],.bool Xp,.bool Xp,e7,e8,e9,f0,f7,f5,f1,d6,d7,d8,b9,c0,c6,c7,c8,d0,d1],[]⟩/\a8.heap=q0.heap) (λw' v _ _ _=>?_) (λi f2 a w _=>by rw[a.2]) ?_)
   .clear f6 a last a5 d3 a9 f9 d9 hrel e3 e1 d5 f4 g0 o G e4 e5 e0 f3 e2 g4 g1 g2 h1 g3 g5 g8 h0 h4 i5
    go_wp2
    exact⟨A,v⟩
   rintro w0 _ t1 f8 g9 h9 h2⟨rfl,i9⟩;refine iT (k:=Xp) (iU g9.base h2 (by decide) A) (sI (bu (eE ?_)));have j1:a6.heap.size=e.heap.size:=by rw[g3]
   have m8:f8.heap.size=e.heap.size+1:=by simp_all
   have i4:∀c,c<e.heap.size->f8.heap[c]?=e.heap[c]?:=λc a7=>by grind
   have j3:r.heap.size<=e.heap.size:=a.grow.size;refine vN aC (by decide) (by decide) (H:=C 29) (S:=.move (.tmp 0)) ⟨_,A,A,A,A⟩ (W:=[15]) A (by rfl) (by decide) g9 h2 (λi a8=>i=⟨#[pt u 0,b0,b7,b8,c9,d2,n,.iface l k,pt a6.heap.size 0,.bool Xp,b1,b2,b3,b4,b5,b6,.tuple #[.iface l k,.bool J],.bool J,.iface l k,.tuple #[.agg #[Xo M 0,Xo M 0,Xo M 0,.string XM.empty,.string XM.empty,Xo M 0,Xo M 0,.bool Xp,Xw F 0 0],.bool Xp],.iface l k,.tuple #[.agg #[Xo M 0,Xo M 0,Xo M 0,.string XM.empty,.string XM.empty,Xo M 0,Xo M 0,.bool Xp,Xw F 0 0],.bool Xp],.agg #[Xo M 0,Xo M 0,Xo M 0,.string XM.empty,.string XM.empty,Xo M 0,Xo M 0,.bool Xp,Xw F 0 0],.bool Xp,.bool Xp,e7,e8,e9,f0,pt u 0,f5,f1,d6,d7,d8,b9,c0,c6,c7,c8,d0,d1],[]⟩/\a8.heap=f8.heap) (λw' v _ _ _ h7 y p=>?_) (λi f2 a w _=>by rw[a.2]) ?_
   .clear f6 a last a5 d3 a9 f9 d9 hrel e3 e1 d5 f4 g0 o G e4 e5 e0 f3 e2 g4 g1 g2 h1 g3 g5 g8 h0 h4 i5 h2 g9 h9 i9 i4 m8 j1 j3
    go_wp2
   rintro w1 _ t2 n6 i7 i8 j2⟨rfl,m5⟩;refine vN aC (by decide) (by decide) (H:=C 30) (S:=.move (.tmp 6)) ⟨_,A,A,A,A⟩ (W:=[15]) A (by rfl) (by decide) i7 j2 (λi a8=>i=⟨#[pt u 0,b0,b7,b8,c9,d2,n,.iface l k,pt a6.heap.size 0,.bool Xp,b1,b2,b3,b4,b5,b6,.tuple #[.iface l k,.bool J],.bool J,.iface l k,.tuple #[.agg #[Xo M 0,Xo M 0,Xo M 0,.string XM.empty,.string XM.empty,Xo M 0,Xo M 0,.bool Xp,Xw F 0 0],.bool Xp],.iface l k,.tuple #[.agg #[Xo M 0,Xo M 0,Xo M 0,.string XM.empty,.string XM.empty,Xo M 0,Xo M 0,.bool Xp,Xw F 0 0],.bool Xp],.agg #[Xo M 0,Xo M 0,Xo M 0,.string XM.empty,.string XM.empty,Xo M 0,Xo M 0,.bool Xp,Xw F 0 0],.bool Xp,.bool Xp,e7,e8,e9,f0,pt u 0,n,f1,d6,d7,d8,b9,c0,c6,c7,c8,d0,d1],[]⟩/\a8.heap=n6.heap) (λw' v _ _ _ h7 y p=>?_) (λi f2 a w _=>by rw[a.2]) ?_
   .clear f6 a last a5 d3 a9 f9 d9 hrel e3 e1 d5 f4 g0 o G e4 e5 e0 f3 e2 g4 g1 g2 h1 g3 g5 g8 h0 h4 i5 h2 g9 h9 i9 i4 m8 j1 j3 j2 i7 i8 m5
    go_wp2
   rintro q2 _ x0 i2 m3 o1 p2⟨rfl,o8⟩;have q8:i2.heap=f8.heap:=o8.trans m5;have k6:∀c,c<e.heap.size->i2.heap[c]?=e.heap[c]?:=λc a7=>by simp_all
   have r7:i2.heap.size=e.heap.size+1:=by simp_all
   have o4:St e6 own k1 i2:=o.push d3 (by omega) k6;have h3:cX h S r q2 i2:=(((((a.grow.trans f3).trans g2).trans h0).trans h9).trans i8).trans o1;have o3:gK R own r i2:=a9.old (by omega) k6;have k7:∀c,h c->¬own c:=λc a7=>a9.free (G.Ol c a7).1 (G.Ol c a7).2
   obtain⟨p9,k5,o7⟩:=DV (a:=i2) o (b3:=C (y,g,d+1)) (z:=z) (h:=h) (λz0 w2 y9 p=>by cases p;exact⟨G.only,G.sh⟩) o4 (a5.kept λa2 d4=>k6 a2 (a5.low d4).2) (λa2 d4=>(d9 a2 d4).1) (λw a3=>⟨by have:=(a.mem w a3).1;omega,(a.mem w a3).2⟩) a.Sh (by have:=a.len;omega) G.xl k7
    (λc a7=>by
      obtain⟨i3,h7,v0,v1⟩:=G.Ll c a7
      exact⟨i3,h7,by rw[h3.keep c a7];exact v0,v1⟩) G.IB
   have m7:∀c,h c->p9.heap[c]?=i2.heap[c]?:=λc a7=>by
    rcases k5.blk c with p|⟨p,_⟩
    .exact p
    simp_all
   refine CI k5 k7 ?_;have n7:Inv TP al h q2 p9:=m3.keep m3.base m7;refine yA (l:=#[.tmp 29,.tmp 30]) (a2:=#[76,103]) (by decide) A rfl rfl Tryz.func39 (by decide) A (by decide) n7 A p2 (by simp[Act.eval]) o7 λs2 t3 z1 n5 n8 o2 p3⟨u9,n1,n3,o5,k3,o6⟩=>?_;subst u9;have p1:ar al s2 ⟨[],[(15,.chan (C g.rc))]⟩ ⟨#[pt u 0,b0,b7,b8,c9,d2,n,.iface l k,pt a6.heap.size 0,.bool Xp,b1,b2,b3,b4,b5,b6,.tuple #[.iface l k,.bool J],.bool J,.iface l k,.tuple #[.agg #[Xo M 0,Xo M 0,Xo M 0,.string XM.empty,.string XM.empty,Xo M 0,Xo M 0,.bool Xp,Xw F 0 0],.bool Xp],.iface l k,.tuple #[.agg #[Xo M 0,Xo M 0,Xo M 0,.string XM.empty,.string XM.empty,Xo M 0,Xo M 0,.bool Xp,Xw F 0 0],.bool Xp],.agg #[Xo M 0,Xo M 0,Xo M 0,.string XM.empty,.string XM.empty,Xo M 0,Xo M 0,.bool Xp,Xw F 0 0],.bool Xp,.bool Xp,e7,e8,e9,f0,pt u 0,n,.tuple #[],d6,d7,d8,b9,c0,c6,c7,c8,d0,d1],[]⟩ t3:=p3;have q9:e.heap.size+1<=n5.heap.size:=by have:=k3.size;omega
   refine bO (bu (bW aC (by decide) (by decide) (z:=[15]) A (by rfl) n8 p1 (λi a8=>i=⟨#[pt u 0,b0,b7,b8,c9,d2,Xw F 0 0,.iface l k,pt a6.heap.size 0,.bool Xp,b1,b2,b3,b4,b5,b6,.tuple #[.iface l k,.bool J],.bool J,.iface l k,.tuple #[.agg #[Xo M 0,Xo M 0,Xo M 0,.string XM.empty,.string XM.empty,Xo M 0,Xo M 0,.bool Xp,Xw F 0 0],.bool Xp],.iface l k,.tuple #[.agg #[Xo M 0,Xo M 0,Xo M 0,.string XM.empty,.string XM.empty,Xo M 0,Xo M 0,.bool Xp,Xw F 0 0],.bool Xp],.agg #[Xo M 0,Xo M 0,Xo M 0,.string XM.empty,.string XM.empty,Xo M 0,Xo M 0,.bool Xp,Xw F 0 0],.bool Xp,.bool Xp,e7,e8,e9,f0,pt u 0,n,.tuple #[],d6,d7,d8,b9,c0,c6,c7,c8,d0,d1],[]⟩/\a8.heap=n5.heap) (λw' v _ _ _=>?_) (λi f2 a w _=>by rw[a.2]) ?_))
   .clear f6 a last a5 d3 a9 f9 d9 hrel e3 e1 d5 f4 g0 o G e4 e5 e0 f3 e2 g4 g1 g2 h1 g3 g5 g8 h0 h4 i5 h2 g9 h9 i9 i4 m8 j1 j3 j2 i7 i8 m5 p2 m3 o1 o8 q8 k6 r7 o4 h3 o3 k7 k5 o7 m7 n7 p3 n8 o2 p1 o5 k3 o6 q9
    go_wp2
    exact⟨A,v⟩
   rintro z3 _ w7 n4 q3 q4 r8⟨rfl,m4⟩;have q5:St (a4.foldl rd e6) n1 n3 n4:=o.push o5 (by simp_all) (λc _=>by rw[m4]);refine bW aC (by decide) (by decide) (z:=[15]) A (by rfl) q3 r8 (λi a8=>i=⟨#[pt u 0,b0,b7,b8,c9,d2,Xw F 0 0,.iface l k,pt a6.heap.size 0,.bool Xp,b1,b2,b3,b4,b5,b6,.tuple #[.iface l k,.bool J],.bool J,.iface l k,.tuple #[.agg #[Xo M 0,Xo M 0,Xo M 0,.string XM.empty,.string XM.empty,Xo M 0,Xo M 0,.bool Xp,Xw F 0 0],.bool Xp],.iface l k,.tuple #[.agg #[Xo M 0,Xo M 0,Xo M 0,.string XM.empty,.string XM.empty,Xo M 0,Xo M 0,.bool Xp,Xw F 0 0],.bool Xp],.agg #[Xo M 0,Xo M 0,Xo M 0,.string XM.empty,.string XM.empty,Xo M 0,Xo M 0,.bool Xp,Xw F 0 0],.bool Xp,.bool Xp,e7,e8,e9,f0,pt u 0,n,.tuple #[],pt u 0,.iface l k,.tuple #[],b9,c0,c6,c7,c8,d0,d1],[]⟩/\BS St (x (a4.foldl rd e6) d) n1 n3 n4 a8) (λw' v _ _ _=>?_) ?_ ?_
   .have r4:Calls TP 40 #[pt u 0,.iface l k] w' λp p8=>p=XB (.tuple #[])/\BS St (x (a4.foldl rd e6) d) n1 n3 n4 p8:=by
     have:=o.one (a4.foldl rd e6) d f4 o9 (by rw[qp o.Vl];exact a.len) n1 n3 w' (o.push q5 (by simp_all) (λc _=>by rw[v]));rw[e4]at this;exact this.mono λp p8⟨n0,n2,q1,h5,h6,p6⟩=>⟨q1,n0,n2,h5,h6.heap v.symm,by simp_all⟩
    have s5:=Xv r4;clear r4;clear f6 a last a5 d3 a9 f9 d9 hrel e3 e1 d5 f4 g0 o G e4 e5 e0 f3 e2 g4 g1 g2 h1 g3 g5 g8 h0 h4 i5 h2 g9 h9 i9 i4 m8 j1 j3 j2 i7 i8 m5 p2 m3 o1 o8 q8 k6 r7 o4 h3 o3 k7 k5 o7 m7 n7 p3 n8 o2 p1 o5 k3 o6 q9 r8 q3 q4 m4 q5 v
    go_wp2_with (go_at_call 40;refine s5.out.mono ?_;rintro p p8⟨rfl,u4⟩)
    exact⟨A,u4⟩
   .rintro i a8⟨_,n0,n2,h5,h6,p6⟩ w a3;have t6:=G.Ol w a3;have t7:=h3.size;refine h6.keep w (by grind) ?_;exact k3.free (by omega) (k7 w a3)
   rintro z4 _ w8 z2 s7 t5 u8⟨rfl,n0,n2,h5,h6,p6⟩;have t7:=h3.size;have y3:n4.heap.size=n5.heap.size:=by rw[m4]
   refine CL (f6 (d+1) _ _ _ ⟨by omega,[],x (a4.foldl rd e6) d,_,⟨s7,?_,u8,A,A,A,⟨n0,n2,_,A,h5,⟨?_,?_⟩,Xr ⟨A,A⟩,(λa2 d4=>by cases d4)⟩,?_,(λw a3=>by cases a3),by rw[o.Sh,qp o.Vl,a.len];rfl,(λm9 m6=>by cases m6)⟩⟩)
   .refine cX.trans (cX.trans (β₁:=s2) (w₁:=n5) ?_ q4) t5;have t4:cX h S r q2 p9:=⟨h3.le,h3.fresh,by rw[k5.size];exact h3.size,λc a7=>by rw[m7 c a7];exact h3.keep c a7⟩;exact t4.trans o2
   .exact((o3.trans k3).old (by omega) (λc _=>by rw[m4])).trans h6.qX
   .exact(f9.trans o6 (by omega)).trans p6 (by omega)
   rw[fold_succ,<-a.Vo]
   grind [stepT]
 clear a m e c q;rintro d m e q⟨u1,a4,e6,c,a⟩;obtain rfl:d=O:=by omega
 obtain⟨own,k1,v6,k2,d3,⟨a9,f9⟩,a5,d9⟩:=a.st;obtain⟨v3,o0⟩:=c;obtain⟨v4,b0,b7,b8,c9,d2,n,m1,j9,k0,b1,b2,b3,b4,b5,b6,v5,p7,m0,j4,j5,j6,j7,j8,i1,e7,e8,e9,f0,f7,f5,f1,d6,d7,d8,b9,c0,c6,c7,c8,d0,d1,rfl⟩:=Hi a.size;have hd:o0=[]:=a.defs;subst hd;have l2:=a.VV;simp only[Yy,YI,YB,Yr]at l2 k2;subst l2 k2;have hrel:=a.rel;have e3:=a.inv;refine bu (eE ?_);show ti TP (C (y,g,d)) F z al h m e (rg ((base 31).at q (XE _ (0::[1])::_)) N);have e1:q.tmps[15]?=C (.chan (C g.rc)):=hrel.kn (15,_) (by simp);refine CM (l:=.nilIface) (Hj (j:=16) (i:=15) (by decide) ⟨_,A,A,A,A⟩ e1 lz) (λp=>absurd p (by rw[G.dn];omega)) (λ_=>?_);rw[zk ⟨_,_,A,A,A,A⟩]
 have d5:ar al m ⟨[],[]⟩ ⟨#[pt u 0,b0,b7,b8,c9,d2,n,m1,j9,k0,b1,b2,b3,b4,b5,b6,.tuple #[.nilIface,.bool Xp],p7,m0,j4,j5,j6,j7,j8,i1,e7,e8,e9,f0,f7,f5,f1,d6,d7,d8,b9,c0,c6,c7,c8,d0,d1],[]⟩ (q.put (C 16) (.tuple #[.nilIface,.bool Xp])):=by
  refine ar.less (d1:=⟨[],[(15,.chan (C g.rc))]⟩) ?_ A (by simp);refine hrel.put (C 16) A (v:=.tuple #[.nilIface,.bool Xp]) (.tuple A ?_);intro L w v7 a3 i6;rcases(by grind:L=0\/L=1)with rfl|rfl
  .simp at a3 i6;subst a3 i6;exact .nilIface
  simp at a3 i6;subst a3 i6;exact .bool _
 generalize q.put (C 16) (.tuple #[.nilIface,.bool Xp])=s8 at d5⊢
 show(goalAt TP F F z al h).G m e _;refine vN aC (by decide) (by decide) (H:=C 17) (S:=.extract (.tmp 16) 1) ⟨_,A,A,A,A⟩ (W:=[]) A (by rfl) (by decide) e3 d5 (λi f2=>i=⟨#[pt u 0,b0,b7,b8,c9,d2,n,m1,j9,k0,b1,b2,b3,b4,b5,b6,.tuple #[.nilIface,.bool Xp],.bool Xp,m0,j4,j5,j6,j7,j8,i1,e7,e8,e9,f0,f7,f5,f1,d6,d7,d8,b9,c0,c6,c7,c8,d0,d1],[]⟩/\f2.heap=e.heap) (λw' v _ _ _ h7 y p=>?_) (λi f2 a w _=>by rw[a.2]) ?_
 .clear a last a5 d3 a9 f9 d9 hrel e3 e1 d5 o G
  go_wp2
 rintro s1 _ s9 f2 e0 f3 e5⟨rfl,e2⟩;refine bO (bu (iT (k:=Xp) (iU e0.base e5 (by decide) A) (sH (id:=0) A ?_)));refine last a4 e6 _ _ _ _ ⟨e0,a.grow.trans f3,e5,A,A,A,⟨own,k1,_,A,o.push d3 (by simp_all) (λc _=>by rw[e2]),⟨a9.old (by simp_all) (λc _=>by rw[e2]),f9⟩,a5.kept (λa2 _=>by rw[e2]),d9⟩,a.Vo,a.mem,a.len,a.Sh⟩
end
variable{d:Xn}{e:E}{a:K}{O:Xz XG}
theorem results31{b:Xu Xn}(c:b[4]?=C d)(a:K):(results Tryz.f31 b).run TP a=.ok d a:=by simp_all [results]
structure Lx(b:E->Prop)(own s:E->Prop)(a r:K):Prop where
 size:a.heap.size<=r.heap.size
 keep:∀n,n<a.heap.size->¬own n->¬b n->gw a r n
 list:∀n,b n->r.heap[n]?=(a.heap[n]?).map Obj.whole
 more:∀n,s n->own n\/a.heap.size<=n
section
variable{f:Type}{St:f->(E->Prop)->(E->Prop)->K->Prop}{p:f->E->Xn->(E->Prop)->(E->Prop)->K->Prop}{rd m:f->E->f}{look:f->E->LR}{b:E->Prop}{q:E}{rq:E->RV}{k:E->Xy}{o:E->Xn}{cnt:f->E}
variable{c i:E->Prop}{g:f}
theorem JQ(N:HC St p rd m look b u q e rq k o cnt)(n7:cnt g=0){f9:E}{W:Xu Xn}{g1:XA}{Y:E×E}(S:LG b a O e f9 rq o)(i9:a.heap[u]?=C (Xx W g1 Y))(n2:8<W.size)(n9:Y.1=Y.2)(j7:¬b u)(t2:c u)(k5:∀l,h l->b l)(k2:∀l,IA l->h l)
 (k1:∀l,c l->l<a.heap.size/\¬b l)(k8:∀f3,EU a f3 u e f9 O W g1 Y->St g c i (jX (uJ b a.heap.size) f3))(out:∀h7 own x a,St h7 own x a->∃W g1 Y d,a.heap[u]?=C (Xx W g1 Y)/\W[8]?=C d):
 Co (goalAt TP F F z al h) 31 #[pt u 0,.slice O e f9] a λd s=>∃own x,St ((Xq.range e).foldl (stepT rd m k) g) own x s/\s.cell? ⟨u,8,F⟩=C d/\Lx b c own a s/\iw i x a.heap.size:=by
 intro q7 r7 f5 i4 d9 r next
 refine Nb S i9 n2 n9 j7 k5 k2 d9 r λf4 f3 g7 g0 g5 m3 i5 m4 X j5 g6 Q j6 e5=>?_;have k0:∀l,b l->l<a.heap.size:=λl r=>by obtain⟨_,_,_,n,_⟩:=S.closed l r;grind
 obtain⟨T,e4⟩:∃T,(LO u a.heap.size e f9 O).tmps=T:=by simp
 have o7:T.size=42:=by rw[<-e4];rfl
 have e6:T[0]?=C (pt u 0):=by rw[<-e4];rfl
 have l0:T[5]?=C (pt (a.heap.size+1) 0):=by rw[<-e4];rfl
 replace e5:ar al f4 ⟨[],[]⟩ ⟨T,[]⟩ g7:=by rw[<-e4];exact e5
 clear e4;obtain⟨p9,a2,b3,c9,e9,f2,H,d5,d6,d7,a3,a4,a5,a6,a7,a8,a9,b0,b1,b2,b4,b5,b6,b7,b8,b9,c0,c6,c7,c8,d0,d1,d2,d3,d4,l1,h8,g2,e7,e8,f0,f1,rfl⟩:=Hi o7;simp only[Yy,YI,YB,Yr]at e6 l0;subst e6 l0;show(KF z g0 g5 (uJ b a.heap.size) 0).G f4 _ (rg ((base 31).at g7 [.code (.seq _ _)]) (f5::i4));obtain⟨w,D⟩:∃w,w=jX (uJ b a.heap.size) f3:=by simp
 rw[<-D]at g6 Q⊢
 have Z:=k8 f3 X;rw[<-D]at Z;have t3:w.heap.size=a.heap.size+2:=by rw[D,qF,X.size]
 refine bu (bW aC (by decide) (by decide) (z:=[]) A (by rfl) g6 e5 (λv L=>v=⟨#[pt u 0,a2,b3,c9,e9,pt (a.heap.size+1) 0,Xw F 0 0,d5,d6,d7,a3,a4,a5,a6,a7,a8,a9,b0,b1,b2,b4,b5,b6,b7,b8,b9,c0,c6,c7,c8,d0,d1,d2,d3,d4,l1,h8,g2,e7,e8,f0,f1],[]⟩/\L.heap=w.heap) (λs e0 _ _ _=>?_) (λv h9 n t _=>by rw[n.2]) ?_)
 .clear e5 Z next N S i9 k8 out d9 g6 Q r X j5 D j6
  go_wp2
  exact⟨A,e0⟩
 rintro u9 _ s0 L i1 g8 k6⟨rfl,h1⟩;refine bu (bu (eE ?_));refine SP (j:=15) (i:=5) (k:=a.heap.size+1) (by decide) (by decide) ⟨_,A,A,A,A⟩ A i1 k6 A (g8.le _ _ j6) ⟨99,_,by rw[h1,D,iS (.inr (.inr A)),X.h5];rfl⟩ (by simp) λq8 s1 q4 i2 i7 j9 k7=>?_;show(KF z g0 g5 (uJ b a.heap.size) 0).G q8 q4 _;refine bO ?_;have h0:=j9.trans h1
 have G:Wo b (uJ b a.heap.size) u e o g5 f4 w c:={
  dn:=m3
  dt:=i5
  only:=λp6=>by rw[i5,m4];exact S.only p6
  sh:=λl n=>Xr (by simp_all)
  xl:=λl n=>Xr n
  Ol:=λt a0=>by
   rcases a0 with a0|rfl|rfl
   .exact⟨by have:=k0 t a0;omega,λh3=>(k1 t h3).2 a0⟩
   .exact⟨by omega,λh3=>by have:=(k1 _ h3).1;omega⟩
   grind
  Ll:=λl r=>by obtain⟨m1,a1,s8,h4,h5,t6,p7⟩:=j5 l r;exact⟨m1,a1,by rw[D,iS r,h4];rfl,h5,p7⟩
  IB:=λe1 R n1=>Xr (S.bC e1 R n1)}
 refine CP (R:=c) (Z:=i) (W:=g) N G A ?_ ⟨i2,g8.trans i7,k7,A,A,A,⟨c,i,_,A,N.push Z (by simp_all) (λl _=>by rw[h0]),⟨(gK.refl _ _).old (by simp_all) (λl _=>by rw[h0]),λl n=>Xr n⟩,Xr ⟨A,A⟩,(λe1 f6=>by cases f6)⟩,A,(λt a0=>by cases a0),by rw[n7];rfl,(λt7 o2=>by cases o2)⟩;clear e5 k6 k7 i1 g8 h1 i2 i7 j9 h0 Z;intro r4 h7 u7 s l g7 n;obtain⟨own,x,u4,i8,Z,⟨j1,n6⟩,o6,h2⟩:=n.st;obtain⟨T,s6⟩:=l;obtain⟨p9,a2,b3,c9,e9,f2,H,d5,d6,d7,a3,a4,a5,a6,a7,a8,a9,b0,b1,b2,b4,b5,b6,b7,b8,b9,c0,c6,c7,c8,d0,d1,d2,d3,d4,l1,h8,g2,e7,e8,f0,f1,rfl⟩:=Hi n.size;have hd:=n.defs;subst hd;have e6:=n.VV;simp only[Yy,YI,YB,Yr]at e6 i8;subst e6 i8;refine bu (eE ?_);refine vN aC (by decide) (by decide) (H:=C 35) (S:=.move (.tmp 0)) ⟨_,A,A,A,A⟩ (W:=[]) A (by rfl) (by decide) n.inv n.rel (λv L=>v=⟨#[pt u 0,a2,b3,c9,e9,f2,H,d5,d6,d7,a3,a4,a5,a6,a7,a8,a9,b0,b1,b2,b4,b5,b6,b7,b8,b9,c0,c6,c7,c8,d0,d1,d2,d3,d4,pt u 0,h8,g2,e7,e8,f0,f1],[]⟩/\L.heap=s.heap) (λs e0 _ _ _ a1 g0 y=>?_) (λv h9 n t _=>by rw[n.2]) ?_
 .go_wp2
 rintro v0 _ s2 q6 l6 m8 p0⟨rfl,o0⟩;refine vN aC (by decide) (by decide) (H:=C 36) (S:=.move (.tmp 6)) ⟨_,A,A,A,A⟩ (W:=[]) A (by rfl) (by decide) l6 p0 (λv L=>v=⟨#[pt u 0,a2,b3,c9,e9,f2,H,d5,d6,d7,a3,a4,a5,a6,a7,a8,a9,b0,b1,b2,b4,b5,b6,b7,b8,b9,c0,c6,c7,c8,d0,d1,d2,d3,d4,pt u 0,H,g2,e7,e8,f0,f1],[]⟩/\L.heap=q6.heap) (λs e0 _ _ _ a1 g0 y=>?_) (λv h9 n t _=>by rw[n.2]) ?_
 .go_wp2
 rintro q9 _ s3 g4 i3 m9 p1⟨rfl,o1⟩;have f7:=o1.trans o0;have n4:St h7 own x g4:=N.push Z (by simp_all) (λl _=>by rw[f7]);have e2:=(n.grow.trans m8).trans m9;have k4:=λl r=>j1.free (G.Ol l r).1 (G.Ol l r).2
 obtain⟨l2,g9,n8⟩:=DV (a:=g4) N (b3:=F) (z:=z) (h:=uJ b a.heap.size) (λt9 r2 t5 y=>by cases y) n4 (o6.kept λe1 f6=>by rw[f7]) (λe1 f6=>(h2 e1 f6).1) n.mem n.Sh (by have:=n.len;omega) G.xl k4
  (λl r=>by
    obtain⟨f5,a1,h4,h5⟩:=G.Ll l r
    exact⟨f5,a1,by rw[e2.keep l r];exact h4,h5⟩) G.IB
 have k3:∀l,uJ b a.heap.size l->l2.heap[l]?=g4.heap[l]?:=λl r=>by
  rcases g9.blk l with y|⟨y,_⟩
  .exact y
  simp_all
 refine CI g9 k4 ?_;have l7:=i3.keep i3.base k3;refine yA (l:=#[.tmp 35,.tmp 36]) (a2:=#[76,103]) (by decide) A rfl rfl Tryz.func39 (by decide) A (by decide) l7 A p1 (by simp[Act.eval]) n8 λr0 m0 u3 q3 l8 n0 p2⟨p4,k9,q0,j4,n3,n5⟩=>?_;subst p4;have o8:ar al r0 ⟨[],[]⟩ ⟨#[pt u 0,a2,b3,c9,e9,f2,H,d5,d6,d7,a3,a4,a5,a6,a7,a8,a9,b0,b1,b2,b4,b5,b6,b7,b8,b9,c0,c6,c7,c8,d0,d1,d2,d3,d4,pt u 0,H,.tuple #[],e7,e8,f0,f1],[]⟩ m0:=p2;obtain⟨r1,u2,s9,g3,t0,t4⟩:=out _ _ _ _ j4;refine bO (bu (bW aC (by decide) (by decide) (z:=[]) A (by rfl) l8 o8 (λv L=>v=⟨#[pt u 0,a2,b3,c9,g3,f2,H,d5,d6,d7,a3,a4,a5,a6,a7,a8,a9,b0,b1,b2,b4,b5,b6,b7,b8,b9,c0,c6,c7,c8,d0,d1,d2,d3,d4,pt u 0,H,.tuple #[],pt u 0,pt u 0,pt u 8,g3],[]⟩/\L.heap=q3.heap) (λs e0 _ _ _=>?_) (λv h9 n t _=>by rw[n.2]) ?_))
 .have t1:s.cell? ⟨u,8,F⟩=C g3:=by grind [World.cell?]
  go_wp2
  exact⟨A,e0⟩
 rintro d8 _ l9 U l4 m6 o9⟨rfl,j8⟩;have j3:=N.push j4 (w':=U) (by simp_all) (λl _=>by rw[j8]);rw[n.Vo]at j3;have j0:gK c k9 w U:=((j1.old (w2:=g4) (by simp_all) (λl _=>by rw[f7])).trans n3).old (by simp_all) (λl _=>by rw[j8]);refine Goal.pure _ A rfl (g₁:=rg {(base 31).at l9 [.code .ret]with mode:=.returning} (f5::i4)) (λr6=>by rfl) ?_
 have e3:cX (uJ b a.heap.size) f4 w d8 U:=by have m5:cX (uJ b a.heap.size) f4 w q9 l2:=⟨e2.le,e2.fresh,by rw[g9.size];exact e2.size,λl r=>by rw[k3 l r];exact e2.keep l r⟩;exact(m5.trans n0).trans m6
 have f8:=λl r=>(e3.keep l (Xr (k5 l r))).trans (Q.keep l r);refine PL (r:=d8) (k:=U) (t:=h) (λ_ _ n=>n) id (λ_ n=>n) (d9.cQ.keep f8) k2 ?_;have l3:Inv TP al h d8 U:=⟨l4.base,d9.cQ.keep f8,d9.iW.keep f8⟩
 have i6:cX h q7 a d8 U:=⟨λt i0 n=>e3.le _ _ (Q.le _ _ n),λt i0 p5=>by
  rcases e3.fresh t i0 p5 with R|R
  .exact Q.fresh t i0 R
  omega,Yi Q.size e3.size,f8⟩
 show(goalAt TP F F z al h).G d8 U _;refine qs (S:=λd s=>∃own x,St ((Xq.range e).foldl (stepT rd m k) g) own x s/\s.cell? ⟨u,8,F⟩=C d/\Lx b c own a s/\iw i x a.heap.size) aC (by decide) A (fn:=Tryz.f31) Tryz.func31 l3 A o9 A (Tp.all λa1=>⟨g3,results31 A _,k9,q0,?_,?_,?_,?_⟩) λd q2 q5 l5 m7 p3 S=>next d8 d q2 q5 l5 (i6.trans m7) p3 S
 .exact N.push j3 (Ye _) (λ_ _=>rfl)
 .grind [World.cell?]
 .refine⟨i6.size,λl r h2 o5=>?_,λl r=>?_,λl r=>?_⟩
  .have o3:¬uJ b a.heap.size l:=by
    rintro(n|n|n)
    .exact o5 n
    .omega
    omega
   have o4:l≠u:=by grind
   have j2:w.heap[l]?=a.heap[l]?:=by rw[D,uD o3,X.old l r o4]
   exact gw.trans (Xr j2) (j0.keep l (by omega) h2)
  .have j2:w.heap[l]?=(a.heap[l]?).map Obj.whole:=by rw[D,iS (.inl r),X.old l (k0 l r) (λy=>j7 (y▸r))]
   have:=e3.keep l (Xr r);simp_all
  rcases j0.more l r with R|R
  .exact Xr R
  omega
 exactλl r=>(n6.trans n5 (by rw[f7];exact n.grow.size) l r).imp id λn=>by omega
end
variable{c:K}{d:XC}{e:Xq XC}{Q:Exit->XF->K->Prop}{p:XF}{t:K}{R:E}{H:XD}{r:Xq Item}{S:Xq E}{u:XF}{y:Xn}{q:K}{O:Oper}
section
variable{main:Xy}{l:Goal P f main h}
variable{s:Rt}
def sq(h:E->Prop)(c t:K):Prop:=∀a,h a->t.heap[a]?=c.heap[a]?
theorem GY(a:Xq Oper):∀r,(∀j,j<a.length->a[j]?=D[r+j]?)->wpOps P D Q (Xq.range' r a.length)=wpList P D Q a:=by
 induction a with
 |nil=>simp[wpOps,wpList]
 |cons O a d=>
  intro r b;have e:D[r]?=C O:=by simpa using(b 0 (by simp)).symm
  have f:=d (r+1) λj c=>by have:=b (j+1) (by simpa using c);simpa[abw,aby 1]using this
  simp_all [Xq.range'_succ,wpOps,wpList]
theorem kp(b:t.heap=c.heap){a:Prop}(d:a):sq h c t/\a:=⟨λe _=>by rw[b],d⟩
theorem BL(b:t.heap=c.heap){a:XR}(f:CW l d s e a Q p t):sq h c t/\CW l d s e a Q p t:=kp b f
theorem Uy(b:t.heap=c.heap){a:Xq E}(f:CO l d s e D a Q p t):sq h c t/\CO l d s e D a Q p t:=kp b f
theorem Xe(b:t.heap=c.heap){a:XR}(f:CW l d s e a Q p t):sq h c t/\CO l d s e D [] (Exit.then (CW l d s e a Q) Q) p t:=kp b (df f)
theorem Pz(k:Good P f)(o:f.fr d.fn=J)(q:d.kind≠.early){a:Xq Oper}{g:Xq E}(r:s.kn.map (·.1)=g)(u:nl P f g a.toArray=J){id:E}
 (n:∀t:K,t.heap=c.heap->t.os=c.os->t.output=c.output->wpList P a.toArray (eB λm i=>sq h c i/\Q .normal m i) a p t):CW l d s e (.region id a.toArray Xp) Q p c:=
 mP k o q (rm r u) (λv=>n _ A rfl rfl) (λ_ _ b=>b.1) λ_ _ b=>b.2
theorem ej{id:E}(b:D.size=R)(a:CO l d s e D (Xq.range' 0 R) Q p c):CW l d s e (.region id D Xp) Q p c:=
 yB (by simp_all [aah])
def OZ(l:Goal P f main h)(d:XC)(s x:Rt)(e:Xq XC)(D:Xu Oper)(a:Xq E)(Q:Exit->XF->K->Prop)(p:XF)(c:K):Prop:=
 ∀(m:Ren)(r:Xq Item)(u:XF),Inv P f h m c->ar f m x p u->mI P f main h l d s e r Q m c->l.G m c (rg (d.at u (XE D a::r)) e)
theorem nN{a:Xq E}(b:OZ l d s s e D a Q p c):CO l d s e D a Q p c:=b
theorem zR{x:Rt}{a:Xq E}(hd:x.d0=s.d0)(h:∀k∈s.kn,k∈x.kn)(f:CO l d s e D a Q p c):OZ l d s x e D a Q p c:=
 λm r u b i g=>f m r u b (i.less hd h) g
theorem zS{x:Rt}{more:Xq E}{g:Xz Tmp}{i:Op}(o:Good P f)(a2:f.fr d.fn=J)(a3:d.kind≠.early)(a5:bM D L g i){n:Xq E}(a4:x.kn.map (·.1)=n)(a6:jj P f.fn f.bi f.cj i=J)(a1:(n.all λr=>g !=C r)=J)
 (Z:∀t:K,t.heap=c.heap->t.os=c.os->t.output=c.output->∀b0 a9 U,(⟨g,i,b0,a9,U,F⟩:Oper).wp P p t (λb a=>sq h c a/\OZ l d s x e D more Q b a) (eB λ_ _=>False)):OZ l d s x e D (L::more) Q p c:=
 λm r u v a7 a0=>vN o a2 a3 a5 a4 a6 a1 v a7 (λb a=>sq h c a/\OZ l d s x e D more Q b a) (λt W b2 X Y=>Z t W X Y) (λ_ _ k=>k.1)
  λb1 b T a w N a8 k=>k.2 b1 r T w a8 (a0.grow N)
end
section
variable{N:XD}{l:dc}
theorem PN(b2:H.status=.running)(a1:∀q,RP q->∃i:Xu XQ,stepG P J H q=.go N q i/\∀a∈i,a.write=Xp/\∃g,a.loc=.cell g/\g.block<dE.heap.size)(next:ti P l F z f h m c N):ti P l F z f h m c H:=by
 intro a a0 q sl T w b;refine la (s:=aj P l) b2 (λa a0 q sl T w b=>?_) a a0 q sl T w b;have jV:=b.bC.jV;obtain⟨i,a2,a3⟩:=a1 q ⟨jV.heap,jV.size,jV.os,jV.out⟩;refine⟨_,_,_,iY (P:=P) b.me a2,?_⟩
 have a8:∀o∈XP 0 H.frame.fn H.frame.place i,∀g,o.act.touch?=C g->∃d,az g.loc d/\d<dE.heap.size/\g.write=Xp:=λo n g Y=>by
  obtain⟨a,k,rfl⟩:=Go.Conc.mem_ofEvents n;obtain⟨q1,a9,b4,b5⟩:=a3 a k;rcases xe Y with⟨a7,b6,_⟩|⟨a6,a7⟩
  .exact⟨a9.block,Xs ⟨a9,by rw[a7,b4],A⟩,b5,by rw[b6,q1]⟩
  simp_all
 have Z:∀a∈i,∀a6,a.loc≠.mark a6:=by grind
 have X:kg T q q w w 0 (XP 0 H.frame.fn H.frame.place i):={
  size:=Ye _
  os:=A
  out:=A
  heap:=λd _=>Xs (Xs (Xr A))
  old:=λ_ _ _ _=>rfl
  new:=λb8 d _ a2 a3=>by omega
  touch:=λo n g Y b1=>by obtain⟨d,a5,W,b3⟩:=a8 o n g Y;have a4:=jV.ro g.loc d a5 W;refine⟨tN _ _ _ _ o n,d,a5,Yk W jV.size,Xs ⟨Yk W jV.size,Xs (Xr ⟨a4,b3,b.bC.row g.loc b1 a4⟩)⟩⟩
  norel:=dX λa k p v=>Z a k _ v
  kF:=Xs ⟨b.hears,λo n=>by
   obtain⟨a,k,rfl⟩:=Go.Conc.mem_ofEvents n
   exact⟨A,λv=>Z a k _ (fI v),λv=>Z a k _ (fI v)⟩⟩}
 have hd:Deaf (T++XP 0 H.frame.fn H.frame.place i) 0=0:=by rw[a_,b.hears];simp_all [aaQ]
 exact next _ _ _ _ _ _ ⟨AD b X (tN _ _ _ _) A (Ren.le_refl _) (λ_ _ _ _ _ _ _ _ _=>rfl) (λb0 U=>by cases U) (λc6 a1 b0 U=>by cases U),b.bC.step X,b.bf.stay X (λ_ _ _=>rfl),by rw[Yh (by simpa using(XZ.1 b.me).1)],hd⟩
end
section
variable{s x:Rt}
theorem Ef{main:Xy}{c:Xz Tmp}{l:Op}{k:K}{new:Xu XQ}(o:d.kind≠.early)(v:bM D L c l)(t:∀fn,P.funcs[d.fn]?=C fn->fn.norace=Xp)(b:∀i h a,(execOp u.eval ⟨c,l,i,h,a,F⟩).runT P q #[]=(.ok (.value y) k,new))(s:∀a∈new,∀w,a.loc≠.mark w):
 stepG P main (rg (d.at u (XE D (L::S)::r)) e) q=.go (rg (d.at (u.put c y) (XE D S::r)) e) k new:=by
 obtain⟨⟨x,z,i,h,a,H⟩,m,f,g,n⟩:=v;subst f g n;have b:=b i h a;rw[D_]at b;have f:=(E_ b).1;have g:=(E_ b).2;have:=Go.Conc.stepG_value (P:=P) (main:=main) (a:=u) (b:=d) (k:=r) (cs:=e) (rest:=S) m A o f;refine abC this ?_;rw[listed,g,seen_cells t s];rfl
theorem jr(a4:∀fn,P.funcs[d.fn]?=C fn->fn.norace=Xp)(a3:d.kind≠.early){more:Xq E}{o:Op}(a5:bM D L (C j) o){v V:Xn}(a1:x.free (C j)=J)(a2:j<p.tmps.size)
 (a7:∀q,RP q->∀i:XV->Xn,(∀a y,(a,y)∈x.kn->i (.tmp a)=y)->(∀k,i (.const k)=k)->(∀(a:E) r R,p.tmps[a]?=C (.int r R)->i (.tmp a)=.int r R)->∃new:Xu XQ,(∀b0 a9 b,(execOp i ⟨C j,o,b0,a9,b,F⟩).runT P q #[]=(.ok (.value V) q,new))/\∀b∈new,b.write=Xp/\∃w,b.loc=.cell w/\w.block<dE.heap.size)
 (a8:∀m:Ren,an f m v V)(next:OZ (goalAt P F F z f h) d s ⟨x.d0,(j,V)::x.kn⟩ e D more Q (p.put (C j) v) c):OZ (goalAt P F F z f h) d s x e D (L::more) Q p c:=by
 intro m r u T g a0;have b2:j<u.tmps.size:=by rw[<-g.tmps.1];exact a2
 have a6:(u.put (C j) V).tmps[j]?=C V:=by grind [Act.put]
 refine PN (N:=rg (d.at (u.put (C j) V) (XE D more::r)) e) A (λq Z=>?_) (next m r _ T ((g.put (C j) a1 (a8 m)).more a6) a0)
 obtain⟨new,U,W⟩:=a7 q Z u.eval (λa y n=>by have:=g.kn (a,y) n;simp[Act.eval,YG,this]) (λk=>rfl) (λa r R n=>by
  obtain⟨b5,X,Y⟩:=g.tmps.get n;cases Y
  simp[Act.eval,YG,X])
 exact⟨new,Ef a3 a5 a4 U (λb b1 b4 b3=>by grind),W⟩
end
section
variable{l:Goal P f J h}
variable{s x:Rt}
def Vf(l:Goal P f J h)(p:XU)(q:Xq (E×Xn))(o:Xu Xn)(c:K)(n:Xn->K->Prop):Prop:=
 ∀(m:Ren)(d:Xu Xn)(g:XC)(e:Xq XC),Inv P f h m c->aw f m o d->(∀i∈q,d[i.1]?=C i.2)->
  (∀b y k a,Inv P f h b a->cX h m c b a->an f b y k->n y a->l.G b a (rg (g.finish k) e))->l.G m c (rg (Frame.enter P p d .normal) (g::e))
theorem Mw(v:Good P f){a:XU}{r:Xq (E×Xn)}{i:Xu Xn}{fn:Func}{n:XR}(X:f.fr a=J)(W:P.funcs[a]?=C fn)(a4:fn.body=C n){g:Xn->K->Prop}
 (R:∀h e,CW l (base a) ⟨[],r⟩ (h::e) n Q ⟨i++Array.replicate (fn.ntmps-i.size) I,[]⟩ c)
 (S:∀b p c,Q b p c->(b=.normal\/b=.ret)/\p.defers=[]/\∀d,∃y,(results fn p.tmps).run P {c with tape:=d}=.ok y {c with tape:=d}/\g y {c with tape:=d}):Vf l a r i c g:=by
 intro m k h e w o a5 next
 have L:Frame.enter P a k .normal=(base a).at ⟨k++Array.replicate (fn.ntmps-k.size) I,[]⟩ [.code n]:=by simp_all [Frame.enter,Frame.at,base]
 rw[L];refine R h e m [] _ w ⟨by rw[<-o.1];exact o.append (aw.replicate _ aX),⟨[],A,.nil⟩,λa8 a6=>?_⟩ λb u D H t x N Z a1=>?_
 .grind
 obtain⟨U,hd,Y⟩:=S b D t a1
 have fin:∀s,l.G u t (rg {(base a).at H s with mode:=.returning} (h::e)):=λs=>qs v X A W x A Z hd (S:=g) (Tp.all λd=>Y d) λy a2 a3 z O a0 T=>next u y a2 a3 z (N.trans O) a0 T
 rcases U with rfl|rfl
 .exact l.pure A rfl (λq=>by rfl) (fin [])
 exact fin
theorem Mx{more:Xq E}{b:XU}{Z:Xq (E×Xn)}{a:Xu XV}{a1:Xu XA}{fn:Func}{a2:XR}(b1:d.kind≠.early)(a8:x.free O.dst=J)(Y:D[L]?=C O)(b9:Region.wanted O (yielded D p.tmps)=J)(b5:O.op=.call {callee:=.value (.func b),args:=a,argTypes:=a1})
 (a9:P.funcs[b]?=C fn)(b3:(fn.name== "runtime.NumGoroutine")=Xp)(a5:fn.body=C a2)(d1:a.toList.all (dy P f.fn)=J)(b2:∀g∈Z,∃k,a[g.1]?=C (.tmp k)/\(k,g.2)∈x.kn){W:Xn->K->Prop}{o:Xu Xn}(v:a.map p.eval=o)(a7:Vf l b Z o c W)
 (next:∀y n,W y n->OZ l d s x e D more Q (p.put O.dst y) n):OZ l d s x e D (L::more) Q p c:=by
 subst v;intro m r u U i a6;have c0:Region.wanted O (yielded D u.tmps)=J:=by rw[<-gu i.tmps];exact b9
 have b4:(D[L]?).bind (·.dst)=O.dst:=by rw[Y];rfl
 have b7:∀q,stepG P J (rg (d.at u (XE D (L::more)::r)) e) q=.go (rg (Frame.enter P b (a.map u.eval) .normal) (d.at u (XE D (L::more)::r)::e)) q:=by
  intro q
  have:=goes_call (P:=P) (main:=J) (w:=q) (cs:=e) (k:=r) (rest:=more) (K:=λH c X=>H=rg (Frame.enter P b (a.map u.eval) .normal) (d.at u (XE D (L::more)::r)::e)/\c=q/\X=#[]) Y c0 b1 b5 a9 b3 a5 ⟨by simp_all [G,rg,Frame.enter,Frame.at,base],A,A⟩
  obtain⟨H,c,X,a3,rfl,rfl,rfl⟩:=aaR this;exact a3
 have v:aw f m (a.map p.eval) (a.map u.eval):=by
  refine⟨by simp,λj d3 d4 w T=>?_⟩;rw[Yu]at w T;cases b0:a[j]? with
  |none=>simp_all
  |some c7=>
   rw[b0]at w T;cases w;cases T;refine lK U.base i.tmps p.defers u.defers c7 ?_
   grind
 refine l.pure A rfl b7 (a7 m _ _ _ U v (λg b6=>?_) λc8 y d2 n a0 N b8 a4=>?_)
 .obtain⟨k,q1,c6⟩:=b2 g b6;have:=i.kn (k,g.2) c6;simp_all [Act.eval]
 rw[YV,b4];exact next y n a4 c8 r _ a0 ((i.mono N.le).put O.dst a8 b8) (a6.grow N)
end
end
end Go.Sim
namespace Go.Sv
open Go.MapKept Go.Proofs Go.RowKit Go.Lib Go.WideShapes Go.Sort Go.Sim Wt
theorem Jp(a:K)(c:Obj):Below a.heap.size a (a.alloc c):=⟨A,A,A,by simp,λd b=>Yc _ _ _ b⟩
noncomputable abbrev KP:XI:=Go.Proofs.Tryz.prog
theorem ma{a b:Xt}(m:-2^63<=a/\a<2^63)(d:0<b/\b<2^31)(f:K):Calls KP 21 #[Xo M a,Xo M b] f λg i=>∃e:E,(e:Xt)<b/\g=XB (Xo M e)/\i=f:=by
 go_enter Tryz.func21,Tryz.ntmps21
 go_wp2
 all_goals go_ret
 .have c:=Xt.lt_tmod_of_pos (a+1) d.1
  have h:(a+1).tmod b<=0:=by
   have:(a+1).tmod b=-((-(a+1)).tmod b):=by simp
   have l:=Xt.tmod_nonneg b (a:=-(a+1)) (by omega);omega
  exact⟨(-((a+1).tmod b)).toNat,by omega,by rw[Xt.toNat_of_nonneg (by omega)];rfl,A⟩
 have c:=Xt.emod_nonneg a (by omega:b≠0);have h:=Xt.emod_lt_of_pos a d.1;exact⟨(a%b).toNat,by omega,by rw[Xt.toNat_of_nonneg c];rfl,A⟩
def AL:Xq (Xq UInt8):=[[47,97],[47,98],[47,97,47,120],[47,97,47,121],[47,98,47,120],[47,97,47,120,47,122],[47,99]]
theorem Qp{c:Xt}(e:-2^63<=c/\c<2^63)(b:K):Calls KP 35 #[Xo M c] b λd g=>(∃f∈AL,d=XB (.string ⟨f.toArray⟩))/\Below b.heap.size b g:=by
 go_enter Tryz.func35,Tryz.ntmps35
 go_wp2_with (go_at_call 21;refine(ma e (by decide) _).mono ?_;rintro _ _⟨a,h,rfl,rfl⟩;obtain rfl|rfl|rfl|rfl|rfl|rfl|rfl:a=0\/a=1\/a=2\/a=3\/a=4\/a=5\/a=6:=(by omega))
 all_goals go_ret
 all_goals refine⟨?_,Jp b _⟩
 .exact⟨[47,97],by decide,A⟩
 .exact⟨[47,98],by decide,A⟩
 .exact⟨[47,97,47,120],by decide,A⟩
 .exact⟨[47,97,47,121],by decide,A⟩
 .exact⟨[47,98,47,120],by decide,A⟩
 .exact⟨[47,97,47,120,47,122],by decide,A⟩
 exact⟨[47,99],by decide,A⟩
end Go.Sv
