/- Proved here: parts of the proof of the claimed theorem, no conditions; the last text states it -/
import Derived.Test.YtfgpkeppjomkmaaGreatDoorR5
set_option linter.all false
set_option maxRecDepth 100000
set_option maxHeartbeats 16000000
open _root_ renaming rfl->A,Nat->E,Int->VB,List->VD,Array->VE,Bool->VI,if_neg->VK,Option->VL,congrArg->VU,if_pos->VV,ByteArray->VX
open Option renaming some->C,none->I
open Go renaming undef->F,World->K,Value->Vx,TypeId->VJ,Frame->VM,Goroutine->VO,Act->VQ,Sem->VR,Program->VS,Addr->VT,Trace->VY,Event->Wa,MapEntry->Wb,FuncId->Wc,Operand->Wd
open Bool renaming true->J,false->Vz
open Go.Lib renaming hid->VF
open Go.MemOp renaming ofEvents->VZ
open Go.Op renaming operands->We
open Go.MemAct renaming ofEvent->Wf
open Go.IntKind renaming i64->M
open Go.Value renaming int->Vy,slice->VG,pointer->VW
open Or renaming inl->VA,inr->VC
open Go.Obj renaming cells->VH
open Go.Ending renaming returned->VN
open Go.Item renaming inRegion->VP
namespace Go.Sv
open Go.MapKept Go.Proofs Go.RowKit Go.Lib Go.WideShapes Go.Sort Go.Sim Wt
variable{N:E}{d:K}{w':K}{a:Tree}{c:Path}{f:E}
def nP(a:Tree)(b e:Path->E)(N d:E):Prop:=d=N\/∃c,(Wt.find a c).isSome=J/\(d=b c\/d=e c)
def vF(d:K)(N b:E):Prop:=∃c e a,d.heap[N]?=C (VH #[c,e,a] 195 (0,0))/\a.ownBlock=C b
def gq(N:E)(d:K):VD Vx->VD Un->Prop
 |[],[]=>True
 |a::b,c::i=>uo N d a c/\gq N d b i
 |_,_=>False
theorem gq.stay(l:∀(k:E)(n:VE Vx)(a:VJ),d.heap[k]?=C (Obj.cells n a (0,0))->a=190\/a=187\/a=94->w'.heap[k]?=d.heap[k]?):∀{m:VD Vx}{i:VD Un},gq N d m i->gq N w' m i
 |[],[],_=>trivial
 |_::_,_::_,g=>⟨g.1.stay l,gq.stay l g.2⟩
 |[],_::_,g=>g.elim
 |_::_,[],g=>g.elim
theorem gq.app:∀{b c:VD Vx}{i e:VD Un},gq N d b i->gq N d c e->gq N d (b++c) (i++e)
 |[],_,[],_,_,a=>a
 |_::_,_,_::_,_,a,f=>⟨a.1,gq.app a.2 f⟩
 |[],_,_::_,_,a,_=>a.elim
 |_::_,_,[],_,a,_=>a.elim
theorem gq.len:∀{b:VD Vx}{i:VD Un},gq N d b i->b.length=i.length
 |[],[],_=>rfl
 |_::_,_::_,a=>by rw[WO,WO,gq.len a.2]
 |[],_::_,a=>a.elim
 |_::_,[],a=>a.elim
structure pF(a:Tree)(b e:Path->E)(N:E)(i:VD Un)(d:K):Prop where
 kS:bS a b e d
 top:∃k g,d.heap[N]?=C (VH #[pt (b []) 0,Vy M a.length,k] 195 (0,0))/\bV NB d 1 1 k g.length g/\gq N d g i
structure xm(N:E)(a:Tree)(b e:Path->E)(h:Tree)(m k:Path->E)(d w':K):Prop where
 size:d.heap.size<=w'.heap.size
 kept:∀g,g<d.heap.size->¬nP a b e N g->¬vF d N g->w'.heap[g]?=d.heap[g]?
 news:∀g,nP h m k N g->nP a b e N g\/d.heap.size<=g
 row:∀g,vF w' N g->vF d N g\/d.heap.size<=g
theorem xm.trans{u v:Tree}{b e s q t r:Path->E}{w x:K}(l:xm N a b e u s q d w)(n:xm N u s q v t r w x):xm N a b e v t r d x where
 size:=Wu l.size n.size
 kept:=λk m o p=>by
  rw[n.kept k (Ws m l.size) (λg=>?_) (λg=>?_),l.kept k m o p]
  .rcases l.news k g with g|g
   .exact o g
   omega
  rcases l.row k g with g|g
  .exact p g
  omega
 news:=λk m=>by
  rcases n.news k m with g|g
  .exact l.news k g
  exact VC (Wu l.size g)
 row:=λk m=>by
  rcases n.row k m with g|g
  .exact l.row k g
  exact VC (Wu l.size g)
section
variable{h:Tree}{b e:Path->E}{i:VD Un}
theorem bS.lt(g:bS a b e d)(i:(Wt.find a c).isSome=J):b c<d.heap.size/\e c<d.heap.size:=by obtain⟨f,h⟩:=Wn.1 i;obtain⟨m,l,k,_⟩:=g.kd c f h;exact⟨(Wh.1 (g.nd c f h)).1,(Wh.1 k).1⟩
theorem bS.ne(h:bS a b e d){g:Path}(n:(Wt.find a c).isSome=J)(o:(Wt.find a g).isSome=J):b c≠e g:=λi=>by obtain⟨f,l⟩:=Wn.1 n;obtain⟨p,m⟩:=Wn.1 o;obtain⟨r,q,k,_⟩:=h.kd g p m;have:=h.nd c f l;rw[i,k]at this;cases this
theorem bS.stay(k:bS a b e d)(l:∀c,(Wt.find a c).isSome=J->w'.heap[b c]?=d.heap[b c]?/\w'.heap[e c]?=d.heap[e c]?):bS a b e w' where
 nd:=λc f g=>by rw[(l c (by rw[g];rfl)).1];exact k.nd c f g
 kd:=λc f g=>by obtain⟨n,m,o,p⟩:=k.kd c f g;exact⟨n,m,by rw[(l c (by rw[g];rfl)).2];exact o,p⟩
 inj:=k.inj
 Bz:=k.Bz
theorem bS.old(g:bS a b e d)(l:∀k,k<d.heap.size->w'.heap[k]?=d.heap[k]?):bS a b e w':=g.stay λc m=>⟨l _ (g.lt m).1,l _ (g.lt m).2⟩
theorem Bj(d:∀c,(Wt.find h c).isSome=(Wt.find a c).isSome)(b:Path->E)(c:Path):cz h b c=cz a b c:=by funext e;unfold cz;rw[d]
theorem bS.upd(k:bS a b e d){f x:Nd}(u:Wt.find a c=C f)(w:∀g,Wt.find h g=if g=c then C x else Wt.find a g)
 (N:w'.heap[b c]?=C (VH (cV c x (b c.dropLast) (e c)) 192 (0,0)))(t:∀i,i<d.heap.size->i≠b c->(∃g,(Wt.find a g).isSome=J/\(i=b g\/i=e g))->w'.heap[i]?=d.heap[i]?):bS h b e w':=by
 have v:(Wt.find a c).isSome=J:=by rw[u];rfl
 have n:∀g,(Wt.find h g).isSome=(Wt.find a g).isSome:=λg=>by
  rw[w];by_cases o:g=c
  .subst o;rw[VV A,u];rfl
  rw[VK o]
 refine⟨λg y m=>?_,λg y m=>?_,λi p r s=>k.inj i p (n i▸r) (n p▸s),λi p r s=>k.Bz i p (n i▸r) (n p▸s)⟩
 .have l:(Wt.find a g).isSome=J:=by rw[<-n,m];rfl
  rw[w]at m;by_cases o:g=c
  .subst o;rw[VV A]at m;cases m;exact N
  rw[VK o]at m;rw[t _ (k.lt l).1 (λq=>o (k.inj g c l v q)) ⟨g,l,.inl A⟩];exact k.nd g y m
 have l:(Wt.find a g).isSome=J:=by rw[<-n,m];rfl
 obtain⟨P,O⟩:=Wn.1 l;obtain⟨D,z,H,L⟩:=k.kd g P O;refine⟨D,z,?_,by rw[Bj n];exact L⟩;rw[t _ (k.lt l).2 (λq=>k.ne v l q.symm) ⟨g,l,.inr A⟩];exact H
def vO(b:Path->E)(a:Path)(f:E):Path->E:=λc=>if c=a then f else b c
theorem dy{b:Path->E}{a:Path}:vO b a f a=f:=VV A
theorem bA{b:Path->E}{a:Path}(d:c≠a):vO b a f c=b c:=VK d
theorem oF(a:Path)(c:B):a≠a++[c]:=λb=>by have:=VU List.length b;simp at this
theorem tO{e f:Path}{d g:B}(a:f++[g]=e++[d]):f=e/\g=d:=by have b:=VU VD.dropLast a;have c:=VU VD.getLast? a;simp only[Zd,VD.getLast?_concat,Wz]at b c;exact⟨b,c⟩
theorem bS.add(v:bS a b e d){i:Path}{l:B}{b0 Z a0:Nd}{R:E}(Y:Wt.find a i=C b0)(a1:Wt.find a (i++[l])=I)(a4:∀n,Wt.find a (i++[l]++[n])=I)
 (a9:∀c,c≠[]->(Wt.find a c).isSome=J->(Wt.find a c.dropLast).isSome=J)
 (O:∀g,Wt.find h g=if g=i++[l]then C a0 else if g=i then C Z else Wt.find a g)
 (a8:w'.heap[b i]?=C (VH (cV i Z (b i.dropLast) (e i)) 192 (0,0)))
 (a6:∃y u,w'.heap[e i]?=C (.map y u)/\Kids y u λn=>if n=l then C f else cz a b i n)
 (a7:w'.heap[f]?=C (VH (cV (i++[l]) a0 (b i) R) 192 (0,0)))(a5:∃u,w'.heap[R]?=C (.map #[] u)/\Stamped #[] u)
 (P:∀g,(Wt.find a g).isSome=J->b g≠f/\e g≠R)
 (X:∀m,m<d.heap.size->m≠b i->m≠e i->(∃g,(Wt.find a g).isSome=J/\(m=b g\/m=e g))->w'.heap[m]?=d.heap[m]?):bS h (vO b (i++[l]) f) (vO e (i++[l]) R) w':=by
 have Q:(Wt.find a i).isSome=J:=by rw[Y];rfl
 have t:∀g,g≠i++[l]->(Wt.find h g).isSome=(Wt.find a g).isSome:=λg o=>by
  rw[O,VK o];by_cases k:g=i
  .subst k;rw[VV A,Y];rfl
  rw[VK k]
 have a2:∀g,(Wt.find a g).isSome=J->g≠i++[l]:=λg o k=>by rw[k,a1]at o;cases o
 have a3:∀g,(Wt.find a g).isSome=J->vO b (i++[l]) f g.dropLast=b g.dropLast:=λg o=>by
  by_cases k:g=[]
  .subst k;exact bA (by simp)
  exact bA (a2 _ (a9 g k o))
 refine⟨λg n r=>?_,λg n r=>?_,λm q H L k=>?_,λm q H L k=>?_⟩
 .by_cases k:g=i++[l]
  .subst k;rw[O,VV A]at r;cases r;rw[dy,dy,Zd,bA (oF i l)];exact a7
  have o:(Wt.find a g).isSome=J:=by rw[<-t g k,r];rfl
  rw[bA k,bA k,a3 g o];rw[O,VK k]at r;by_cases x:g=i
  .subst x;rw[VV A]at r;cases r;exact a8
  rw[VK x]at r;rw[X _ (v.lt o).1 (λw=>x (v.inj g i o Q w)) (v.ne o Q) ⟨g,o,.inl A⟩];exact v.nd g n r
 .by_cases k:g=i++[l]
  .subst k;obtain⟨u,z,D⟩:=a5;rw[dy];refine⟨#[],u,z,D,by simp,λn q r=>?_⟩;unfold cz at r
   have W:Wt.find h (i++[l]++[n])=I:=by rw[O,VK (λS=>(oF (i++[l]) n) S.symm),VK (λS=>by have:=VU List.length S;simp at this),a4 n]
   rw[W]at r;cases r
  have o:(Wt.find a g).isSome=J:=by rw[<-t g k,r];rfl
  rw[bA k];by_cases x:g=i
  .subst x;obtain⟨y,u,z,D⟩:=a6;refine⟨y,u,z,?_⟩
   have U:cz h (vO b (g++[l]) f) g=λn=>if n=l then C f else cz a b g n:=by
    funext n
    unfold cz;by_cases T:n=l
    .subst T;rw[O,VV A,VV A,dy];rfl
    have N:g++[n]≠g++[l]:=λw=>T (tO w).2;rw[t _ N,bA N,VK T]
   rw[U];exact D
  obtain⟨b1,W⟩:=Wn.1 o;obtain⟨y,u,z,D⟩:=v.kd g b1 W;refine⟨y,u,?_,?_⟩
  .rw[X _ (v.lt o).2 (λw=>v.ne Q o w.symm) (λw=>x (v.Bz g i o Q w)) ⟨g,o,.inr A⟩];exact z
  have U:cz h (vO b (i++[l]) f) g=cz a b g:=by
   funext n
   unfold cz;have N:g++[n]≠i++[l]:=λw=>x (tO w).1;rw[t _ N,bA N]
  rw[U];exact D
 .by_cases s:m=i++[l]
  .by_cases p:q=i++[l]
   .rw[s,p]
   rw[s,dy,bA p]at k;exact absurd k.symm (P q (by rw[<-t q p];exact L)).1
  by_cases p:q=i++[l]
  .rw[p,dy,bA s]at k;exact absurd k (P m (by rw[<-t m s];exact H)).1
  rw[bA s,bA p]at k;exact v.inj m q (by rw[<-t m s];exact H) (by rw[<-t q p];exact L) k
 by_cases s:m=i++[l]
 .by_cases p:q=i++[l]
  .rw[s,p]
  rw[s,dy,bA p]at k;exact absurd k.symm (P q (by rw[<-t q p];exact L)).2
 by_cases p:q=i++[l]
 .rw[p,dy,bA s]at k;exact absurd k (P m (by rw[<-t m s];exact H)).2
 rw[bA s,bA p]at k;exact v.Bz m q (by rw[<-t m s];exact H) (by rw[<-t q p];exact L) k
theorem bS.del(p:bS a b e d){l:Path}{u:B}{a0 W:Nd}(U:Wt.find a l=C a0)
 (z:∀k,Wt.find h k=if k=l++[u]then I else if k=l then C W else Wt.find a k)
 (Y:w'.heap[b l]?=C (VH (cV l W (b l.dropLast) (e l)) 192 (0,0)))
 (X:∃w v,w'.heap[e l]?=C (.map w v)/\Kids w v λo=>if o=u then I else cz a b l o)
 (T:∀n,n<d.heap.size->n≠b l->n≠e l->(∃k,(Wt.find a k).isSome=J/\(n=b k\/n=e k))->w'.heap[n]?=d.heap[n]?):bS h b e w':=by
 have D:(Wt.find a l).isSome=J:=by rw[U];rfl
 have S:∀k,k≠l++[u]->(Wt.find h k).isSome=(Wt.find a k).isSome:=λk m=>by
  rw[z,VK m];by_cases s:k=l
  .subst s;rw[VV A,U];rfl
  rw[VK s]
 have x:∀k,(Wt.find h k).isSome=J->k≠l++[u]/\(Wt.find a k).isSome=J:=λk m=>by
  have:k≠l++[u]:=λs=>by rw[s,z,VV A]at m;cases m
  exact⟨this,by rw[<-S k this];exact m⟩
 refine⟨λk o r=>?_,λk o r=>?_,λn y P Q=>p.inj n y (x n P).2 (x y Q).2,λn y P Q=>p.Bz n y (x n P).2 (x y Q).2⟩
 .obtain⟨s,m⟩:=x k (by rw[r];rfl);rw[z,VK s]at r;by_cases t:k=l
  .subst t;rw[VV A]at r;cases r;exact Y
  rw[VK t]at r;rw[T _ (p.lt m).1 (λq=>t (p.inj k l m D q)) (p.ne m D) ⟨k,m,.inl A⟩];exact p.nd k o r
 obtain⟨s,m⟩:=x k (by rw[r];rfl);by_cases t:k=l
 .subst t;obtain⟨w,v,L,O⟩:=X;refine⟨w,v,L,?_⟩
  have R:cz h b k=λo=>if o=u then I else cz a b k o:=by
   funext o
   unfold cz;by_cases H:o=u
   .subst H;rw[z,VV A,VV A];rfl
   rw[S _ (λq=>H (tO q).2),VK H]
  rw[R];exact O
 obtain⟨a1,Z⟩:=Wn.1 m;obtain⟨w,v,L,O⟩:=p.kd k a1 Z;refine⟨w,v,?_,?_⟩
 .rw[T _ (p.lt m).2 (λq=>p.ne D m q.symm) (λq=>t (p.Bz k l m D q)) ⟨k,m,.inr A⟩];exact L
 have R:cz h b k=cz a b k:=by
  funext o
  unfold cz;rw[S _ (λq=>t (tO q).1)]
 rw[R];exact O
end
variable{a:K}{b:E}
def yB(a:K):Prop:=TabIs TP a "internal/strconv.uint64pow10" .u64 pow10Tab
theorem py:TP.globalNamed "internal/strconv.uint64pow10"=C 4:=by rfl
theorem yB.stay(c:yB a)(d:(w'.heap[4]?).map Sim.Obj.whole=(a.heap[4]?).map Sim.Obj.whole):yB w':=by
 unfold yB TabIs K.var? at c⊢
 rw[py]at c⊢
 simp only[XS]at c⊢
 cases e:a.heap[4]? with
 |none=>simp_all
 |some g=>
  rw[e]at c d;cases g with
  |cells i n l=>
   cases f:w'.heap[4]? with
   |none=>simp_all
   |some h=>
    rw[f]at d;cases h with
    |cells k o m=>simp_all [Sim.Obj.whole]
    |_=>simp[Sim.Obj.whole]at d
  |_=>cases c
theorem dd(a:E)(b:10<=a):decDigits a=decDigits (a/10)++[UInt8.ofNat (48+a%10)]:=by rw[decDigits,dif_neg (by omega)]
theorem Vl(a:E)(b:a<10):decDigits a=[UInt8.ofNat (48+a)]:=by rw[decDigits,X' b]
theorem DV{a:VB}(c:0<=a)(h:a<=999):itoa (1000+a)=49::Wt.three a:=by
 obtain⟨b,rfl⟩:=VB.eq_ofNat_of_zero_le c;unfold itoa;rw[VK (by omega),show(1000+(b:VB)).toNat=1000+b by omega,dd _ (by omega),dd _ (by omega),dd _ (by omega),Vl _ (by omega)];have d:(1000+b)/10/10/10=1:=by omega
 have e:(1000+b)/10/10%10=b/100:=by omega
 have f:(1000+b)/10%10=b/10%10:=by omega
 have g:(1000+b)%10=b%10:=by omega
 simp_all [Wt.three]
theorem Df{d:VE Obj}:Below a.heap.size a (grow (a.drewN b) d):=
 ⟨A,A,A,by simp[grow],λe c=>by simp[grow,N_,c]⟩
def FH(d:VX)(c:VB)(a:K)(b:Ending)(w':K):Prop:=b=VN (.string (d++bs (Wt.three c)))/\Below a.heap.size a w'
theorem Mx(g:yB a)(f:VX){c:VB}(l:0<=c)(m:c<=999)(q:f.size<2^30):Calls TP 186 #[.string f,Vy M c] a (FH f c a):=by
 have e:=Tryz.strconv_Itoa (1000+c) (by omega) (by omega) a g;rw[DV l m]at e;obtain⟨d,hd⟩:∃d,(⟨(49::Wt.three c).toArray⟩:VX)=d:=⟨_,A⟩;rw[hd]at e;have p:d.size=4:=by rw[<-hd];rfl
 have h:d.extract 1 4=bs (Wt.three c):=by rw[<-hd];rfl
 have i:=VF e;have k:=VF h;have n:(bs (Wt.three c)).size=3:=A;clear e g hd h n;go_enter Tryz.func186,Tryz.ntmps186
 go_wp2_with (go_at_call 216;refine i.out.mono ?_;rintro o w'⟨rfl,b,r,rfl⟩)
 go_ret;exact⟨zO (by rw[k.out];rfl),Df⟩
variable{n:VS}{k:Vx}{o:E}{u:E}{d:E}{m:E}{Q:E}{j:E}{e:Tree}{h:K}
theorem px{fn:Func}{d f:Tmp}{e:VJ}(h:fn.results=#[.cell d e,.tmp f]){c:VE Vx}{b:VT}(i:c.getD d F=VW (C b))(m:(loadVar e b).run n a=.ok k a):
 (results fn c).run n a=.ok (.tuple #[k,c.getD f F]) a:=by
 have g:(asAddr (VW (C b))).run n a=.ok b a:=A;have l:c[d]?.getD F=VW (C b):=by simpa using i
 simp[results,h,l,m,g,Result.andThen]
theorem zq{b:VE Vx}{c:E×E}(d:a.heap[o]?=C (VH b 154 c))(e:b.size=9):(loadVar 154 ⟨o,0,I⟩).run TP a=.ok (.agg b) a:=
 run_loadVar_row a o 154 154 b c _ d A rfl (by rw[e];rfl)
def Vp(a:Wt.Stat):VD VB:=[a.made,a.set,a.aF,a.fj,a.own,a.size,a.kids]
def nN:CZ->LR
 |.no b=>⟨⟨#[]⟩,[0,0,0,0,0,0,0],[],.iface 32 (Vy M b)⟩
 |.yes a=>⟨bs a.data,Vp a.stat,a.names.map bs,.nilIface⟩
def mf(b:LR)(a:K)(d:Ending)(h:K):Prop:=∃c,d=VN (.tuple #[.agg c,b.ev])/\ck b a.heap.size c h/\Below a.heap.size a h
def ig:VE Vx:=#[.string ⟨#[]⟩,Vy M 0,Vy M 0,Vy M 0,Vy M 0,Vy M 0,Vy M 0,Vy M 0,VG I 0 0]
theorem fM(a:K)(c:Obj):Below a.heap.size a (a.alloc c):=⟨A,A,A,by simp,λd b=>Wk _ _ _ b⟩
theorem gM(a:K)(c:Obj):Below a.heap.size a (a.drew.alloc c):=⟨A,A,A,by simp,λd b=>Wk a.drew _ _ b⟩
theorem alloc_drew(a:K)(b:Obj):(a.alloc b).drew=a.drew.alloc b:=A
theorem Ia(a:K):a.drew.heap.size=a.heap.size:=A
theorem GG{b:VB}:ck (nN (.no b)) u ig a:=⟨A,VG I 0 0,A,VA ⟨A,A⟩⟩
abbrev rS(a:K)(d:E)(b c e f g h i k l:Vx):K:=((((((((a.setCell ⟨d,0,I⟩ b).setCell ⟨d,1,I⟩ c).setCell ⟨d,2,I⟩ e).setCell ⟨d,3,I⟩ f).setCell ⟨d,4,I⟩ g).setCell ⟨d,5,I⟩ h).setCell ⟨d,6,I⟩ i).setCell ⟨d,7,I⟩ k).setCell ⟨d,8,I⟩ l
theorem zL{w x y z D H L O P b g i p q r s t v:Vx}{e:VJ}(R:a.heap[d]?=C (VH #[w,x,y,z,D,H,L,O,P] e (0,0))):
 (rS a d b g i p q r s t v).heap[d]?=C (VH #[b,g,i,p,q,r,s,t,v] e (0,0)):=by
 simp[K.setCell,XH,R]
theorem eY{b:E}(c:b<=d):Below b a (a.setCell ⟨d,m,I⟩ k):=
 ⟨A,A,A,YF aI.symm,λf e=>ah (by omega)⟩
theorem po{c:E}{e f g h i k l m n:Vx}(b:c<=d):Below c a (rS a d e f g h i k l m n):=
 ((((((((eY b).trans (eY b)).trans (eY b)).trans (eY b)).trans (eY b)).trans (eY b)).trans (eY b)).trans (eY b)).trans (eY b)
theorem cq(b:Q≠d):(a.setCell ⟨d,m,I⟩ k).cell? ⟨Q,j,I⟩=a.cell? ⟨Q,j,I⟩:=by simp only[K.cell?,ah b]
theorem IZ{c e f g h i k l m:Vx}(b:Q≠d):(rS a d c e f g h i k l m).cell? ⟨Q,j,I⟩=a.cell? ⟨Q,j,I⟩:=by rw[cq b,cq b,cq b,cq b,cq b,cq b,cq b,cq b,cq b]
section
variable{f l:Path->E}
theorem ON(f:VX){u:VB}(d:a.cell? ⟨1,0,I⟩=C (Vy M u))(o:f.size<2^31)(m:Wt.split f.data.toList=I):Calls TP 58 #[pt N 0,.string f] a (mf (nN (.no 4)) a):=by
 have l:1<a.heap.size:=by
  unfold K.cell? at d;cases g:a.heap[1]? with
  |none=>simp[g]at d
  |some y=>exact(Wh.1 g).1
 have e:=nH f u (a.alloc (.cells ig 154)) o (by rw[WZ _ _ _ l];exact d);unfold cF at e;rw[m]at e;have i:=VF e;clear e d;go_enter Tryz.func58,Tryz.ntmps58
 go_wp2_with (go_at_call 95;refine i.out.mono ?_;rintro w q⟨c,rfl⟩;have b:q.heap[a.heap.size]?=C (VH ig 154 (0,0)):=(c.block _ (by simp)).trans (Xz a _);have r:=aa b 0 A;have c1:=aa b 1 A;have c2:=aa b 2 A;have c3:=aa b 3 A;have c4:=aa b 4 A;have c5:=aa b 5 A;have s:=aa b 6 A;have t:=aa b 7 A;have v:=aa b 8 A;have x:=frozenAt b;have k:=VF b;have h:=VF c;clear b c)
 have n:=zL (b:=.string ⟨#[]⟩) (g:=Vy M 0) (i:=Vy M 0) (p:=Vy M 0) (q:=Vy M 0) (r:=Vy M 0) (s:=Vy M 0) (t:=Vy M 0) (v:=VG I 0 0) k.out;refine XP (px A rfl (zq n A)) A ?_;have c:=h.out;have p:(a.alloc (.cells ig 154)).heap.size=a.heap.size+1:=by simp
 rw[p]at c;exact⟨_,A,GG,((fM a _).trans (c.mono (by omega))).trans (po (Wl _))⟩
theorem Ss.row{g:E}(e:Ss k c g a):Row k c a:=by
 rcases e with⟨rfl,rfl⟩|⟨d,rfl,_,_,b⟩
 .exact VA ⟨A,A⟩
 refine VC ⟨d,_,A,Wl _,(Wh.1 b).1,λh i f=>?_⟩;simp only[K.cell?,b];simp[f]
theorem Ss.slice{g:E}(f:Ss k c g a):∃b u e,k=.slice b u e:=by
 rcases f with⟨rfl,rfl⟩|⟨d,rfl,_,_,h⟩
 .exact⟨_,_,_,A⟩
 exact⟨_,_,_,A⟩
theorem sb{b:VX}(a:Wt.split b.data.toList=C c):c.length<2^31:=by have:=(qN a).1;omega
theorem xR(w:lS e f l a)(q:a.cell? ⟨N,0,I⟩=C (pt (f []) 0))(D:(Wt.find e []).isSome=J)(P:∀c,c≠[]->(Wt.find e c).isSome=J->(Wt.find e c.dropLast).isSome=J)
 (m:VX){u:VB}(r:a.cell? ⟨1,0,I⟩=C (Vy M u))(H:m.size<2^31)(v:Wt.split m.data.toList=C c)(d:Obj):
 Calls TP 95 #[.string m] (a.alloc d) λg n=>∃o s p,g=VN (.tuple #[.slice o s p,.bool J])/\Below (a.heap.size+1) (a.alloc d) n/\Calls TP 96 #[pt N 0,.slice o s p] n λg h=>g=VN (gP (if(Wt.find e c).isSome then C (f c)else I))/\n=h:=by
 have y:1<a.heap.size:=by
  unfold K.cell? at r;cases b:a.heap[1]? with
  |none=>simp[b]at r
  |some d=>exact(Wh.1 b).1
 have O:N<a.heap.size:=by
  unfold K.cell? at q;cases b:a.heap[N]? with
  |none=>simp[b]at q
  |some d=>exact(Wh.1 b).1
 refine(nH m u (a.alloc d) H (by rw[WZ _ _ _ y];exact r)).mono ?_;intro g n b;unfold cF at b;rw[v]at b;obtain⟨i,k,rfl,t⟩:=b;obtain⟨o,s,p,rfl⟩:=t.slice;have L:(a.alloc d).heap.size=a.heap.size+1:=by simp
 rw[L]at i;refine⟨_,_,_,A,i,yY (w.old λx z=>by rw[i.block x (by omega)];exact Wk _ _ _ z) ?_ D P t.row (sb v)⟩;rw[i.cell (p:=⟨N,0,I⟩) (by show N<_;omega),WZ _ _ _ O];exact q
theorem Eb(n:lS e f l a)(o:a.cell? ⟨N,0,I⟩=C (pt (f []) 0))(q:(Wt.find e []).isSome=J)(s:∀c,c≠[]->(Wt.find e c).isSome=J->(Wt.find e c.dropLast).isSome=J)
 (i:VX){u:VB}(p:a.cell? ⟨1,0,I⟩=C (Vy M u))(r:i.size<2^31)(g:Wt.split i.data.toList=C c)(d:Wt.find e c=I):Calls TP 58 #[pt N 0,.string i] a (mf (nN (.no 7)) a):=by
 have m:=xR n o q s i p r g (.cells ig 154);simp only[d,gP,VL.isSome_none,WC,Wy,VL.map_none]at m;have w:=VF m;clear m n o q s p r g;go_enter Tryz.func58,Tryz.ntmps58
 go_wp2_with (first
  |(go_at_call 95;refine w.out.mono ?_;rintro y z⟨D,S,Q,rfl,k,d⟩;have v:=VF d;clear d;have b:z.heap[a.heap.size]?=C (VH ig 154 (0,0)):=(k.block _ (by omega)).trans (Xz a _);have H:=aa b 0 A;have c1:=aa b 1 A;have c2:=aa b 2 A;have c3:=aa b 3 A;have c4:=aa b 4 A;have c5:=aa b 5 A;have L:=aa b 6 A;have O:=aa b 7 A;have P:=aa b 8 A;have R:=frozenAt b;have x:=VF b;have t:=VF k;clear b k)
  |(go_at_call 96;refine v.out.mono ?_;rintro y h⟨rfl,rfl⟩))
 have g:=zL (b:=.string ⟨#[]⟩) (g:=Vy M 0) (i:=Vy M 0) (p:=Vy M 0) (q:=Vy M 0) (r:=Vy M 0) (s:=Vy M 0) (t:=Vy M 0) (v:=VG I 0 0) x.out;refine XP (px A rfl (zq g A)) A ?_;exact⟨_,A,GG,((fM a _).trans (t.out.mono (by omega))).trans (po (Wl _))⟩
theorem Ki.slice{f:VD B}{e:E}(d:Ki k f e a):∃b u c,k=.slice b u c:=by
 rcases d with⟨rfl,_⟩|⟨_,_,_,rfl,_⟩
 .exact⟨_,_,_,A⟩
 exact⟨_,_,_,A⟩
theorem Ml{g:VD B}{b f:E}(n:Ki k g b a)(s:f<=b)(r:∀d,b<=d->h.heap[d]?=a.heap[d]?):gf (g.map bs) f k h:=by
 rcases n with⟨rfl,rfl⟩|⟨d,l,i,rfl,c,v,o,p,w,q⟩
 .exact VA ⟨A,A⟩
 refine VC ⟨d,l,i,9,(0,0),by simp,Wu s c,by rw[r d c];exact o,A,by simpa using p,by omega,λm x e=>?_⟩;rw[XI]at e;obtain⟨u,t,rfl⟩:=Xf.1 e;exact q m u t
theorem IE(a0:lS e f l a)(b3:a.cell? ⟨N,0,I⟩=C (pt (f []) 0))(c8:(Wt.find e []).isSome=J)(d2:∀c,c≠[]->(Wt.find e c).isSome=J->(Wt.find e c.dropLast).isSome=J)
 (H:VX){u:VB}(b9:a.cell? ⟨1,0,I⟩=C (Vy M u))(c9:H.size<2^31)(Y:Wt.split H.data.toList=C c){b:Nd}(L:Wt.find e c=C b)
 (f7:Wt.Ord e)(b7:∀d4,(Wt.find e d4).isSome=J->∀g4∈d4,g4.length<=maxLen)(d1:∀S U,Kids S U (cz e f c)->S.size<=2^20):Calls TP 58 #[pt N 0,.string H] a (mf (nN (.yes ⟨b.data,b.stat,bW e c⟩)) a):=by
 have a7:=xR a0 b3 c8 d2 H b9 c9 Y (.cells ig 154);simp only[L,gP,VL.isSome_some,Wv,Xp]at a7;have b0:=VF a7;have O:=VF a0;clear a7 a0 b3 c8 d2 b9 c9 Y;go_enter Tryz.func58,Tryz.ntmps58
 go_wp2_with (first
  |(go_at_call 95;refine b0.out.mono ?_;rintro m g⟨a1,a8,a2,rfl,D,L⟩;have d7:=VF L;clear L;have n:g.heap[a.heap.size]?=C (VH ig 154 (0,0)):=(D.block _ (by omega)).trans (Xz a _);have d9:=VF n;have Z:=VF D;clear n D)
  |(go_at_call 96;refine d7.out.mono ?_;rintro m h⟨rfl,rfl⟩))
 have a6:(Wt.find e c).isSome=J:=by rw[L];rfl
 have a4:∀R,R<a.heap.size->g.heap[R]?=a.heap[R]?:=λR f2=>by rw[Z.out.block R (by omega)];exact Wk _ _ _ f2
 obtain⟨e5,f3⟩:=O.out.nd c b L;have y:g.heap[f c]?=C (VH (cV c b (f c.dropLast) (l c)) 192 e5):=by rw[a4 _ (O.out.lt a6).1];exact f3
 obtain⟨S,U,c0,T⟩:=O.out.kd c b L;have c6:g.heap[l c]?=C (.map S U):=by rw[a4 _ (O.out.lt a6).2];exact c0
 have i6:f c<a.heap.size:=(O.out.lt a6).1;have f8:=Z.out.size
 have f4:a.heap.size<g.heap.size:=by have:(a.alloc (.cells ig 154)).heap.size=a.heap.size+1:=by simp
                                     omega
 have d0:=λ(h:K)(e6:h.heap[l c]?=C (.map S U))=>Nf (c:=h) e6 T (d1 _ _ T) (λH d D=>b7 (c++[H]) (by
  unfold cz at D;split at D
  .assumption
  .cases D) H (by simp)) (b:=bW e c) (λH=>by
  rw[gU];unfold cz;split<;>simp_all) (nX f7)
 have b1:=VF d0;clear d0;obtain⟨d3,a5⟩:∃g2,bW e c=g2:=⟨_,A⟩;rw[a5]at b1;have d8:=VF a5;have h7:g.cell? ⟨f c,1,I⟩=C (.string (bs b.data)):=aa y 1 A;have h9:g.cell? ⟨f c,2,I⟩=C (Vy M b.stat.made):=aa y 2 A;have i0:g.cell? ⟨f c,3,I⟩=C (Vy M b.stat.set):=aa y 3 A;have i1:g.cell? ⟨f c,4,I⟩=C (Vy M b.stat.aF):=aa y 4 A;have i2:g.cell? ⟨f c,5,I⟩=C (Vy M b.stat.fj):=aa y 5 A;have i3:g.cell? ⟨f c,6,I⟩=C (Vy M b.stat.own):=aa y 6 A;have i4:g.cell? ⟨f c,7,I⟩=C (Vy M b.stat.size):=aa y 7 A;have i5:g.cell? ⟨f c,8,I⟩=C (Vy M b.stat.kids):=aa y 8 A;have h8:g.cell? ⟨f c,11,I⟩=C (.map (C (l c))):=aa y 11 A;have a9:=VF c6;have g6:=VF y;have g5:=VF T;clear a4 y c0 T c6 a5 d1 b7 O b0 f8;generalize l c=u at*
 generalize f c=Q at*
 have g0:Q<g.heap.size:=by omega
 have h6:u<g.heap.size:=(Wh.1 a9.out).1;generalize b6:bs b.data=W at*
 have d6:=VF b6;clear b6
 have P:∀i,Below g.heap.size g i->i.cell? ⟨Q,1,I⟩=C (.string W)/\i.cell? ⟨Q,2,I⟩=C (Vy M b.stat.made)/\i.cell? ⟨Q,3,I⟩=C (Vy M b.stat.set)/\i.cell? ⟨Q,4,I⟩=C (Vy M b.stat.aF)/\i.cell? ⟨Q,5,I⟩=C (Vy M b.stat.fj)/\i.cell? ⟨Q,6,I⟩=C (Vy M b.stat.own)/\i.cell? ⟨Q,7,I⟩=C (Vy M b.stat.size)/\i.cell? ⟨Q,8,I⟩=C (Vy M b.stat.kids)/\i.cell? ⟨Q,11,I⟩=C (.map (C u)):=λi a3=>by refine⟨?_,?_,?_,?_,?_,?_,?_,?_,?_⟩<;>(rw[a3.cell (p:=⟨Q,_,I⟩) g0];assumption)
 have b2:Calls TP 97 #[.func (.func 132) #[] #[pt g.heap.size 0]] (g.alloc (.cells #[.map (C u)] 188)).drew λm h=>∃a1 a8 a2,m=VN (.slice a1 a8 a2)/\Ki (.slice a1 a8 a2) d3 (g.heap.size+1) h/\Below g.heap.size g h:=by rw[alloc_drew];have c7:=b1.out g.drew a9.out;rw[Ia]at c7;refine c7.mono ?_;rintro m h⟨k,rfl,b4,e7⟩;obtain⟨g8,g9,h0,rfl⟩:=b4.slice;exact⟨_,_,_,A,b4,(gM g _).trans (e7.mono (YC _))⟩
 have e9:Below g.heap.size g (g.alloc (.cells #[.map (C u)] 188)).drew:=by rw[alloc_drew];exact gM g _
 have f0:Below g.heap.size g (g.drew.alloc (.cells #[.map (C u)] 188)):=gM g _;have d5:=VF b2;clear b2;have f9:Q≠a.heap.size:=by omega
 have e1:∀i o p q r s t v w x,Below g.heap.size g i->(rS i a.heap.size o p q r s t v w x).cell? ⟨Q,1,I⟩=C (.string W)/\(rS i a.heap.size o p q r s t v w x).cell? ⟨Q,2,I⟩=C (Vy M b.stat.made)/\(rS i a.heap.size o p q r s t v w x).cell? ⟨Q,3,I⟩=C (Vy M b.stat.set)/\(rS i a.heap.size o p q r s t v w x).cell? ⟨Q,4,I⟩=C (Vy M b.stat.aF)/\(rS i a.heap.size o p q r s t v w x).cell? ⟨Q,5,I⟩=C (Vy M b.stat.fj)/\(rS i a.heap.size o p q r s t v w x).cell? ⟨Q,6,I⟩=C (Vy M b.stat.own)/\(rS i a.heap.size o p q r s t v w x).cell? ⟨Q,7,I⟩=C (Vy M b.stat.size)/\(rS i a.heap.size o p q r s t v w x).cell? ⟨Q,8,I⟩=C (Vy M b.stat.kids)/\(rS i a.heap.size o p q r s t v w x).cell? ⟨Q,11,I⟩=C (.map (C u)):=λi o p q r s t v w x a3=>by have g1:=P i a3;have m:∀j,(rS i a.heap.size o p q r s t v w x).cell? ⟨Q,j,I⟩=i.cell? ⟨Q,j,I⟩:=λj=>IZ f9;rw[m,m,m,m,m,m,m,m,m];exact g1
 have e8:Below g.heap.size g g.drew:=⟨A,A,A,Wl _,λ_ _=>rfl⟩
 go_region_held3 (λi=>i.cell? ⟨Q,1,I⟩=C (.string W)/\i.cell? ⟨Q,2,I⟩=C (Vy M b.stat.made)/\i.cell? ⟨Q,3,I⟩=C (Vy M b.stat.set)/\i.cell? ⟨Q,4,I⟩=C (Vy M b.stat.aF)/\i.cell? ⟨Q,5,I⟩=C (Vy M b.stat.fj)/\i.cell? ⟨Q,6,I⟩=C (Vy M b.stat.own)/\i.cell? ⟨Q,7,I⟩=C (Vy M b.stat.size)/\i.cell? ⟨Q,8,I⟩=C (Vy M b.stat.kids)/\i.cell? ⟨Q,11,I⟩=C (.map (C u)))
  (first|with_reducible exact P _ e8|with_reducible exact P _ e9|with_reducible exact P _ f0|with_reducible exact P _ X|with_reducible exact e1 _ _ _ _ _ _ _ _ _ _ X)
  (first
    |(go_at_call 98;refine(Re _).mono ?_;rintro m g7⟨rfl,f1⟩;subst f1)
    |(go_at_call 97;refine d5.out.mono ?_;rintro m e2⟨e3,g3,e4,rfl,f6,X⟩;have n:e2.heap[a.heap.size]?=C (VH ig 154 (0,0)):=(X.block _ f4).trans d9.out;have h1:=aa n 0 A;have c1:=aa n 1 A;have c2:=aa n 2 A;have c3:=aa n 3 A;have c4:=aa n 4 A;have c5:=aa n 5 A;have h2:=aa n 6 A;have h3:=aa n 7 A;have h4:=aa n 8 A;have h5:=frozenAt n;have e0:=VF n;clear n))
 go_wp2
 have Y:=zL (b:=.string W) (g:=Vy M b.stat.made) (i:=Vy M b.stat.set) (p:=Vy M b.stat.aF) (q:=Vy M b.stat.fj) (r:=Vy M b.stat.own) (s:=Vy M b.stat.size) (t:=Vy M b.stat.kids) (v:=.slice e3 g3 e4) e0.out;refine XP (px A rfl (zq Y A)) A ?_;rw[d8.out];have b5:Below a.heap.size a g:=(fM a _).trans (Z.out.mono (YC _));have b8:a.heap.size<=g.heap.size:=b5.size;have f5:a.heap.size<=g.heap.size+1:=E.le_succ_of_le b8;refine⟨_,A,⟨A,_,?_,Ml f6 f5 λd D=>?_⟩,b5.trans ((X.mono b8).trans (po (Wl _)))⟩
 .show _=Value.string (bs b.data)::_;rw[d6.out];rfl
 have z:d≠a.heap.size:=by omega
 rw[ah z,ah z,ah z,ah z,ah z,ah z,ah z,ah z,ah z]
end
variable{a:Tree}{O:VE Wb}{b:K}
theorem Eh{a:B}(b:cK a=J):a.length<=12:=by simp_all [cK]
theorem Ny(d:WF a){b:Path}(e:(Wt.find a b).isSome=J):∀c∈b,c.length<=maxLen:=λc g=>by
 obtain⟨h,f⟩:=Wn.1 e;have:=Eh ((d.names b h f).2 c g)
 grind [maxLen]
theorem xM{i:E}{g:Path->E}(h:Kids O i (cz a g c))(e:WF a):O.size=(bW a c).length:=by
 have l:∀d f,cz a g c d=C f->d.length<=maxLen:=λd f b=>by
  unfold cz at b;split at b
  .rename_i k;exact Ny e k d (by simp)
  cases b
 have b:=(h.strKeys l (names:=bW a c) (λd=>by rw[gU];unfold cz;split<;>simp_all) (nX e.ord)).length_eq;rw[b];show _=(VD.map _ _).length;simp[length_sorted]
theorem rM(a:Tree)(c:Path):(bW a c).length<=a.length:=VD.length_filterMap_le _ _
theorem Gl{n s:Path->E}(f:lS a n s b)(g:b.cell? ⟨N,0,I⟩=C (pt (n []) 0))(d:WF a)(e:VX){r:VB}(i:b.cell? ⟨1,0,I⟩=C (Vy M r))(m:e.size<2^31):
 Calls TP 58 #[pt N 0,.string e] b (mf (nN (Wt.look a e.data.toList)) b):=by
 obtain⟨v,q,_⟩:=d.root;have l:(Wt.find a []).isSome=J:=by rw[q];rfl
 unfold Wt.look;cases k:Wt.split e.data.toList with
 |none=>simp_all [ON]
 |some c=>
  simp only;cases h:Wt.find a c with
  |none=>exact Eb f g l d.up e i m k h
  |some u=>
   exact IE f g l d.up e i m k h d.ord (λw p=>Ny d p) (λO t o=>by
    rw[xM o d];have:=rM a c;have:=d.len
    omega)
theorem Rf{d l:Path->E}(e:bS a d l b)(g:b.cell? ⟨N,0,I⟩=C (pt (d []) 0))(f:WF a)(c:VX){k:VB}(h:b.cell? ⟨1,0,I⟩=C (Vy M k))(i:c.size<2^31):
 Calls TP 58 #[pt N 0,.string c] b (mf (nN (Wt.look a c.data.toList)) b):=
 Gl e.Ux g f c h i
variable{c:Tree}{a:K}{d:K}
def SZ(b:Path)(a:Nd):VE Vx:=OF (bs (tF b)) (bs a.data) a.stat.made a.stat.set a.stat.aF a.stat.fj a.stat.own a.stat.size a.stat.kids a.next
theorem Mr(a:Path)(y:B):tF (a++[y])=y:=by simp[tF]
theorem If(w:Wt.Ord c){t:Path}{y:B}{u:Nd}(H:Wt.find c t=C u)(l:Path):Wt.find (Wt.drop c (t++[y])) l=if l=t++[y]then I else if l=t then C (rF u)else Wt.find c l:=by simp_all [Wt.drop,mE,dK,bu]
structure ld(N b Q u:E)(k i z:Vx)(f:VB)(e:VD Vx)(m n:VX)(o p q g r s h v:VB)(x:B->VL E)(y:B)(a d:K):Prop where
 size:a.heap.size<=d.heap.size
 kept:∀t,t<a.heap.size->t≠N->t≠b->t≠u->i.ownBlock≠C t->d.heap[t]?=a.heap[t]?
 tree:∃w L P,d.heap[N]?=C (VH #[k,Vy M (f-1),w] 195 (0,0))/\bV NB d 1 1 w (e.length+2) (e++[L,P])/\kL a i w/\uo N d L (.head b (OF m n o p q g r s h v))/\uo N d P (.drop b Q)
 nd:d.heap[b]?=C (VH (NH m n o p q (g+1) r s (h-1) v z (.map (C u))) 192 (0,0))
 kd:∃O H,d.heap[u]?=C (.map O H)/\Kids O H λR=>if R=y then I else x R
section
variable{b:E}{k i z:Vx}{f:VB}{e:VD Vx}{m n:VX}{o p q g r s h v:VB}{x:B->VL E}{y:B}{D:K}
theorem ld.later(t:ld N b Q u k i z f e m n o p q g r s h v x y a d)(a1:d.heap.size<=D.heap.size)(H:∀l,l<d.heap.size->D.heap[l]?=d.heap[l]?):ld N b Q u k i z f e m n o p q g r s h v x y a D where
 size:=Wu t.size a1
 kept:=λl P w L Y Z=>by rw[H l (Ws P t.size)];exact t.kept l P w L Y Z
 tree:=by obtain⟨a5,W,X,a7,T,a2,a3,a4⟩:=t.tree;have R:=λ(l:E)(U:VE Vx)(c:VJ)(w:d.heap[l]?=C (Obj.cells U c (0,0)))(_:c=190\/c=187\/c=94)=>H l (Wh.1 w).1;exact⟨a5,W,X,by grind,T.stay λS a0=>H S (T.lt S a0),a2,a3.stay R,a4.stay R⟩
 nd:=by rw[H _ (Wh.1 t.nd).1];exact t.nd
 kd:=by
  obtain⟨O,a6,w,L⟩:=t.kd
  grind
def NN(N b Q u:E)(k i z:Vx)(f:VB)(e:VD Vx)(m n:VX)(o p q g r s h v:VB)(x:B->VL E)(y:B)(l t:VX)(a:K)(w:Ending)(d:K):Prop:=
 ld N b Q u k i z f e m n o p q g r s h v x y a d/\∃c,w=VN (VG (C ⟨c,0,I⟩) 2 2)/\a.heap.size<=c/\d.heap[c]?=C (VH #[Vy M 2,.string l,Vy M 4,.string t] 269 (0,0))
theorem Lr{f3 f4:VX}(e1:a.heap[N]?=C (VH #[k,Vy M f,i] 195 (0,0)))(d9:bV NB a 1 1 i e.length e)(o5:e.length<2^19)
 (d6:a.heap[b]?=C (VH (NH m n o p q g r s h v z (.map (C u))) 192 (0,0)))
 {d0:E}(g5:a.heap[u]?=C (.map O d0))(h9:Kids O d0 x)(j5:x y=C Q){e6:VE Vx}(d8:a.heap[Q]?=C (VH e6 192 (0,0)))(i4:e6[0]?=C (.string (bs y)))(i5:e6[10]?=C (pt b 0))
 (o3:0<=g/\g<2^62)(o4:0<=h/\h<2^62)(o8:0<=f/\f<2^62)(p1:Q≠b)
 (i6:∀w,w.heap.size=a.heap.size+3->(∀l,l<a.heap.size->w.heap[l]?=a.heap[l]?)->Calls TP 156 #[pt Q 0] w λt d=>t=VN (.string f3)/\Below w.heap.size w d)
 (i7:∀w,ld N b Q u k i z f e m n o p q g r s h v x y a w->Calls TP 156 #[pt b 0] w λt d=>t=VN (.string f4)/\Below w.heap.size w d):
 Calls TP 153 #[pt N 0,pt Q 0] a (NN N b Q u k i z f e m n o p q g r s h v x y f3 f4 a):=by
 have m7:=(Wh.1 e1).1;have i9:=(Wh.1 d6).1;have m9:=(Wh.1 d8).1;have m8:=(Wh.1 g5).1;have d1:∀e3 n0 n1,(((a.alloc e3).alloc n0).alloc n1).heap.size=a.heap.size+3:=λ_ _ _=>by simp
 have h5:=VF (i6 (((a.alloc (.cells #[pt N 0] 94)).alloc (.cells #[pt Q 0] 187)).alloc (.cells #[pt b 0] 187)) (d1 _ _ _) λl a0=>qx _ _ _ _ a0);have h8:=VF λ(w:K)(a6:Below (a.heap.size+3) (((a.alloc (.cells #[pt N 0] 94)).alloc (.cells #[pt Q 0] 187)).alloc (.cells #[pt b 0] 187)) w)=>Ad (w:=w) (N:=N) (f:=b) (O:=k) (P:=Vy M f) (i:=e) (by rw[a6.block _ (by omega),qx _ _ _ _ m7];exact e1) (d9.stay λH P=>by have:=d9.lt H P;rw[a6.block _ (by omega),qx _ _ _ _ this]) (by omega) (by rw[a6.block _ (by omega),qx _ _ _ _ i9];exact d6);have l0:=VF i7;have n6:=aa d8 10 i5;have b8:=VF e1;have c8:=VF d9;have b7:=VF d6;have e9:=VF d8;have b6:=VF g5;have k6:=VF h9;have l2:=VF j5;have HC:=VF i4;clear e1 d9 d6 d8 g5 h9 j5 i4 i5 i6 i7;rw[d1]at h5
 have i1:∀w,Below (a.heap.size+3) (((a.alloc (.cells #[pt N 0] 94)).alloc (.cells #[pt Q 0] 187)).alloc (.cells #[pt b 0] 187)) w->w.heap[a.heap.size]?=C (VH #[pt N 0] 94 (0,0))/\w.heap[a.heap.size+1]?=C (VH #[pt Q 0] 187 (0,0))/\w.heap[a.heap.size+1+1]?=C (VH #[pt b 0] 187 (0,0)):=λw a6=>by
  refine⟨?_,?_,?_⟩
  .rw[a6.block _ (by omega),Wk _ _ _ (by simp;omega)];exact Mo _ _ _
  .rw[a6.block _ (by omega),Wk _ _ _ (by simp)];exact vq _ _ _
  rw[a6.block _ (by omega)];have:=vq (a.alloc (.cells #[pt N 0] 94)) (.cells #[pt Q 0] 187) (.cells #[pt b 0] 187);simpa using this
 have k5:=VF i1;clear i1;go_enter Tryz.func153,Tryz.ntmps153
 go_wp2_with (first
  |(go_at_call 156;refine h5.out.mono ?_;rintro t g9⟨rfl,b2⟩;have b5:=VF b2;clear b2;obtain⟨f5,f6,f7⟩:=k5.out _ b5.out;have l8:=aa f5 0 A;have l9:=aa f6 0 A;have m0:=aa f7 0 A;have k2:=VF f5;have k3:=VF f6;have k4:=VF f7;clear f5 f6 f7)
  |(go_at_call 157;refine(h8.out _ b5.out).mono ?_;rintro t w⟨rfl,p0,g4,a1,d2,j8,j4,j2,a2⟩))
 have o9:a.heap.size+3<=g9.heap.size:=by have:=b5.out.size;rw[d1]at this;exact this
 have d7:=c8.out.lt
 have a9:∀l a5,l≠N->i.ownBlock≠C l->g9.heap[l]?=C a5->w.heap[l]?=C a5:=λl a5 L U b1=>by rw[g4 l (Wh.1 b1).1 L U,b1]
 have c0:∀l a5,l<a.heap.size->a.heap[l]?=C a5->g9.heap[l]?=C a5:=λl a5 a0 R=>by rw[b5.out.block _ (by omega),qx _ _ _ _ a0,R]
 have b2:=a9 _ _ (by omega) (λt=>by have:=d7 _ t;omega) k2.out;have f9:=a9 _ _ (by omega) (λt=>by have:=d7 _ t;omega) k3.out;have g1:=a9 _ _ (by omega) (λt=>by have:=d7 _ t;omega) k4.out
 have g6:=a9 _ _ (λt=>by have:=b7.out;rw[t,b8.out]at this;cases this) (λt=>by
  obtain⟨c9,a3,_⟩:=c8.out.blk _ t
  rw[b7.out]at a3;cases a3) (c0 _ _ i9 b7.out)
 have j3:=a9 _ _ (λt=>by have:=e9.out;rw[t,b8.out]at this;cases this) (λt=>by
  obtain⟨c9,a3,_⟩:=c8.out.blk _ t
  rw[e9.out]at a3;cases a3) (c0 _ _ m9 e9.out)
 have d4:=a9 _ _ (λt=>by have:=b6.out;rw[t,b8.out]at this;cases this) (λt=>by
  obtain⟨c9,a3,_⟩:=c8.out.blk _ t
  rw[b6.out]at a3;cases a3) (c0 _ _ m8 b6.out)
 have n8:=aa b2 0 A;have n9:=aa f9 0 A;have o0:=aa g1 0 A;have o1:=aa g6 11 A;have o2:=aa j3 0 HC.out;obtain⟨i3,m5,i0⟩:=Pk (c:=w.drew) d4 k6.out l2.out 0;obtain⟨X,c6⟩:∃X,tH w.drew u (.map i3 d0)=X:=⟨_,A⟩;rw[c6]at m5;have b9:u≠N:=λt=>by have:=b6.out;rw[t,b8.out]at this;cases this
 have d5:u≠b:=λt=>by have:=b6.out;rw[t,b7.out]at this;cases this
 have e2:N≠b:=λt=>by have:=b8.out;rw[t,b7.out]at this;cases this
 have a7:∀l,l≠u->X.heap[l]?=w.heap[l]?:=λl a0=>by rw[<-c6];exact vN a0
 have j0:X.heap[u]?=C (.map i3 d0):=by rw[<-c6];exact GH (Wh.1 d4).1
 have j6:X.heap.size=w.heap.size:=by rw[<-c6];simp[tH]
 have b3:=(a7 b (Xu d5)).trans g6;have e0:=(a7 N (Xu b9)).trans j8;have f8:=(a7 a.heap.size (by omega)).trans b2;have g0:=(a7 (a.heap.size+1) (by omega)).trans f9;have g2:=(a7 (a.heap.size+1+1) (by omega)).trans g1;have p4:=aa f8 0 A;have p5:=aa g0 0 A;have p6:=aa g2 0 A;have p7:=aa b3 5 A;have p8:=aa b3 8 A;have p9:=aa e0 1 A;have q0:=frozenAt b3 5;have q2:=frozenAt b3 8;have q3:=frozenAt e0 1;have h1:=VF f8;have h2:=VF g0;have e7:=VF g2;have f1:=VF b3;have f2:=VF e0;have k9:=VF j0;have h3:=VF d4;have k8:=VF i0;have k7:=VF g4;have S:=VF a7;have f0:=VF j4;have l5:=VF a2;have h4:=VF j2;have l3:=VF j6;have n2:=VF c0;clear b2 f9 g1 g6 j3 d4 i0 g4 j4 j8 a2 j2 a9 d7 d1 h8 f8 g0 g2 b3 e0 j0 a7 c6 j6 c0 l8 l9 m0
 have q1:(((X.setCell ⟨b,5,I⟩ (Vy M (g+1))).setCell ⟨b,8,I⟩ (Vy M (h-1))).setCell ⟨N,1,I⟩ (Vy M (f-1))).heap[N]?=C (VH #[k,Vy M (f-1),a1] 195 (0,0)):=by have:=aB (l:=1) (g:=Vy M (f-1)) (a:=(X.setCell ⟨b,5,I⟩ (Vy M (g+1))).setCell ⟨b,8,I⟩ (Vy M (h-1))) (i:=N) (by rw[ah e2,ah e2];exact f2.out);simpa using this
 have j9:(((X.setCell ⟨b,5,I⟩ (Vy M (g+1))).setCell ⟨b,8,I⟩ (Vy M (h-1))).setCell ⟨N,1,I⟩ (Vy M (f-1))).heap[b]?=C (VH (NH m n o p q (g+1) r s (h-1) v z (.map (C u))) 192 (0,0)):=by rw[ah (Xu e2)];have:=aB (l:=8) (g:=Vy M (h-1)) (aB (l:=5) (g:=Vy M (g+1)) f1.out);simpa using this
 have g8:∀l,l≠N->l≠b->(((X.setCell ⟨b,5,I⟩ (Vy M (g+1))).setCell ⟨b,8,I⟩ (Vy M (h-1))).setCell ⟨N,1,I⟩ (Vy M (f-1))).heap[l]?=X.heap[l]?:=λl L U=>by rw[ah L,ah U,ah U]
 have k0:(((X.setCell ⟨b,5,I⟩ (Vy M (g+1))).setCell ⟨b,8,I⟩ (Vy M (h-1))).setCell ⟨N,1,I⟩ (Vy M (f-1))).heap.size=w.heap.size:=by rw[aI,aI,aI,l3.out]
 have a2:∀H,a1.ownBlock=C H->H≠N/\H≠b/\H≠u/\H≠a.heap.size/\H≠a.heap.size+1/\H≠a.heap.size+1+1:=λH P=>by
  obtain⟨c9,W,_⟩:=f0.out.blk H P;refine⟨?_,?_,?_,?_,?_,?_⟩<;>rintro rfl
  .rw[<-S.out _ (Xu b9),f2.out]at W;cases W
  .rw[<-S.out _ (Xu d5),f1.out]at W;cases W
  .rw[h3.out]at W;cases W
  .rw[<-S.out _ (by omega),h1.out]at W;cases W
  .rw[<-S.out _ (by omega),h2.out]at W;cases W
  rw[<-S.out _ (by omega),e7.out]at W;cases W
 have l4:=VF (Fx (n:=e++[d2]) (.func 184) #[] #[pt (a.heap.size+1) 0,pt (a.heap.size+1+1) 0,pt a.heap.size 0] q1 (by
  rw[WI]
  exact f0.out.stay λH P=>by rw[g8 _ (a2 H P).1 (a2 H P).2.1,S.out _ (a2 H P).2.2.1]) (by simp;omega))
 have l1:=VF j9;have h6:=VF g8;have h7:=VF k0;have a4:=a2;have b0:∀l,(∀H,a1.ownBlock=C H->H≠l)->a1.ownBlock≠C l:=λl R t=>R l t A
 have Te:∀Y Z,w.heap.size<=Y.heap.size->(∀l,l<w.heap.size->l≠N->a1.ownBlock≠C l->Y.heap[l]?=(((X.setCell ⟨b,5,I⟩ (Vy M (g+1))).setCell ⟨b,8,I⟩ (Vy M (h-1))).setCell ⟨N,1,I⟩ (Vy M (f-1))).heap[l]?)->Y.heap[N]?=C (VH #[k,Vy M (f-1),Z] 195 (0,0))->
  bV NB Y 1 1 Z ((e++[d2]).length+1) (e++[d2]++[.func (.func 184) #[] #[pt (a.heap.size+1) 0,pt (a.heap.size+1+1) 0,pt a.heap.size 0]])->(∀T,Z.ownBlock=C T->a1.ownBlock=C T\/w.heap.size<=T)->
  ld N b Q u k i z f e m n o p q g r s h v x y a Y/\Y.heap[a.heap.size+1+1]?=C (VH #[pt b 0] 187 (0,0)):=λY Z g7 a8 e4 c7 e5=>by
  have b4:∀l,l≠N->l≠b->l≠u->a1.ownBlock≠C l->l<w.heap.size->Y.heap[l]?=w.heap[l]?:=λl L U b1 d3 m1=>by rw[a8 l m1 L d3,h6.out l L U,S.out l b1]
  refine⟨?_,by rw[b4 _ (by omega) (by omega) (by omega) (b0 _ λH P=>(a4 H P).2.2.2.2.2) (by omega),<-S.out _ (by omega)];exact e7.out⟩;refine⟨by omega,λl a0 L U b1 d3=>?_,⟨Z,d2,.func (.func 184) #[] #[pt (a.heap.size+1) 0,pt (a.heap.size+1+1) 0,pt a.heap.size 0],e4,?_,λT g3=>?_,?_,?_⟩,?_,?_⟩
  .rw[b4 l L U b1 (λt=>?_) (by omega),k7.out l (by omega) L d3,b5.out.block _ (by omega),qx _ _ _ _ a0];rcases h4.out l t with R|R
   .exact d3 R
   omega
  .rw[WI,XQ]at c7;exact c7
  .rcases e5 T g3 with R|R
   .rcases h4.out T R with R|R
    .exact VA R
    exact VC (by omega)
   exact VC (by omega)
  .refine l5.out.stay λl c9 c L U=>?_;have m6:=(Wh.1 L).1;refine b4 l ?_ ?_ ?_ (λt=>?_) m6
   .rintro rfl;rw[<-S.out _ (Xu b9),f2.out]at L;cases L;revert U;decide
   .rintro rfl;rw[<-S.out _ (Xu d5),f1.out]at L;cases L;revert U;decide
   .rintro rfl;rw[h3.out]at L;cases L
   obtain⟨n5,m4,_⟩:=f0.out.blk l t;rw[m4]at L;cases L;revert U;decide
  .exact⟨_,_,_,A,by
    rw[b4 _ (by omega) (by omega) (by omega) (b0 _ λH P=>(a4 H P).2.2.2.2.1) (by omega),<-S.out _ (by omega)];exact h2.out,by
    rw[b4 _ (by omega) (by omega) (by omega) (b0 _ λH P=>(a4 H P).2.2.2.2.2) (by omega),<-S.out _ (by omega)];exact e7.out,by
    rw[b4 _ (by omega) (by omega) (by omega) (b0 _ λH P=>(a4 H P).2.2.2.1) (by omega),<-S.out _ (by omega)];exact h1.out⟩
  .rw[a8 b (by omega) (Xu e2) (b0 _ λH P=>(a4 H P).2.1)];exact l1.out
  refine⟨_,_,?_,k8.out⟩;rw[a8 u (by omega) b9 (b0 _ λH P=>(a4 H P).2.2.1),h6.out u b9 d5];exact k9.out
 have l6:=VF Te;have m3:∀Y:K,w.heap.size<=Y.heap.size->True:=λ_ _=>trivial;clear q1 j9 g8 k0 a2 Te a4 b0 m3;generalize j7:bs y=p3 at*
 have n3:=VF j7;clear j7
 go_still_tail 9,(by kernel_rfl)
 change wpList _ _ _ _ _ w.drew
 have l7:=VF λ(Z:Vx)(R:kL _ a1 Z)=>(λT g3=>by have:=R T g3;rw[h7.out]at this;exact this:∀T,Z.ownBlock=C T->a1.ownBlock=C T\/w.heap.size<=T)
 go_wp2_with (first
  |(go_at_call 183;refine l4.out.mono ?_;rintro t Y⟨rfl,g7,a8,Z,e4,c7,e5⟩;(rw[h7.out]at g7 a8);obtain⟨j1,i2⟩:=l6.out Y Z g7 a8 e4 c7 (l7.out _ e5);have n7:=aa i2 0 A;have e8:=VF j1;clear j1 i2 a8 e4 c7 e5)
  |(go_at_call 156;refine(l0.out _ e8.out).mono ?_;rintro t h0⟨rfl,i8⟩))
 have o7:=i8.size;have o6:=e8.out.size;have a0:(h0.alloc (.cells #[Vy M 2,.string f3,Vy M 4,.string f4] 269)).heap.size=h0.heap.size+1:=by simp
 go_ret;exact⟨e8.out.later (by rw[a0];omega) λl m2=>by rw[Wk _ _ _ (by omega),i8.block l m2],h0.heap.size,A,by omega,Xz _ _⟩
end
structure ud(c:Tree)(t H:Path->E)(N:E)(P:VD Un)(l:Path)(y:B)(u:Nd)(a:K)(L:Ending)(d:K):Prop where
 tree:pF (Wt.drop c (l++[y])) t H N (P++[.head (t l) (SZ l u),.drop (t l) (t (l++[y]))]) d
 op:xm N c t H (Wt.drop c (l++[y])) t H a d
 la:∃w,L=VN (VG (C ⟨w,0,I⟩) 2 2)/\a.heap.size<=w/\d.heap[w]?=C (VH #[Vy M 2,.string (bs (Wt.join (l++[y]))),Vy M 4,.string (bs (Wt.join l))] 269 (0,0))
theorem fA(h:WF c){b:Path}{g:Nd}(l:Wt.find c b=C g):b.length<2^30/\([47].intercalate b).length<2^31:=by
 have p:=(h.names b g l).1;have q:=λd f=>Eh ((h.names b g l).2 d f);refine⟨by omega,?_⟩
 have:∀(a:VD B),(∀d∈a,d.length<=12)->([47].intercalate a).length<=a.length*13:=λa e=>by
  induction a with
  |nil=>simp[VD.intercalate]
  |cons i k m=>
   cases k with
   |nil=>simp[VD.intercalate];have:=e i (by simp);omega
   |cons o k=>
    have n:=m (λd f=>e d (WU _ f));have:=e i (by simp);simp[VD.intercalate]at n⊢
    omega
 grind
theorem QJ{g r:Path->E}{S:VD Un}(U:pF c g r N S a)(l:WF c){f:Path}{y:B}{z u:Nd}(v:Wt.find c (f++[y])=C z)(s:Wt.find c f=C u)(b0:z.stat.kids=0)(e9:S.length<2^18)(e0:0<=u.stat.fj/\u.stat.fj<2^61):
 Calls TP 153 #[pt N 0,pt (g (f++[y])) 0] a (ud c g r N S f y u a):=by
 obtain⟨i,e,x,P,X⟩:=U.top;have e8:=X.len;have Q:(Wt.find c (f++[y])).isSome=J:=by rw[v];rfl
 have w:(Wt.find c f).isSome=J:=by rw[s];rfl
 have p:=U.kS;have b3:=p.nd _ _ s;have b4:=p.nd _ _ v;obtain⟨O,d6,b1,a0⟩:=p.kd _ _ s;have b9:cz c g f y=C (g (f++[y])):=by simp_all [cz]
 have e3:=(Wh.1 x).1;have e6:=(p.lt w).1;have e5:=(p.lt Q).1;have e4:=(p.lt w).2;have e1:0<=u.stat.kids/\u.stat.kids<2^61:=by rw[l.kids f u s];have:=rM c f;have:=l.len;omega
 have e7:(c.length:VB)<2^61:=by have:=l.len;omega
 have a3:(cV (f++[y]) z (g (f++[y]).dropLast) (r (f++[y])))[10]?=C (pt (g f) 0):=by show C (Vx.pointer (if f++[y]=[]then I else C ⟨g (f++[y]).dropLast,0,I⟩))=_;simp
 have a2:(cV (f++[y]) z (g (f++[y]).dropLast) (r (f++[y])))[0]?=C (.string (bs y)):=by show C (Value.string (bs (tF (f++[y]))))=_;rw[Mr]
 have c7:g (f++[y])≠g f:=λh=>oF f y (p.inj _ _ w Q h.symm);have c0:=If l.ord s (y:=y);have a6:=l.gone (by simp) v b0;have c6:Wt.find (Wt.drop c (f++[y])) f=C (rF u):=by simp_all
 have b8:∀k,(Wt.find c k).isSome=J->i.ownBlock≠C (g k)/\i.ownBlock≠C (r k)/\g k≠N/\r k≠N:=λk H=>by
  obtain⟨f5,Y⟩:=Wn.1 H;obtain⟨d8,d7,b2,_⟩:=p.kd _ _ Y;have R:=p.nd _ _ Y;refine⟨λh=>?_,λh=>?_,λh=>?_,λh=>?_⟩
  .obtain⟨W,k,_⟩:=P.blk _ h;rw[R]at k;cases k
  .obtain⟨W,k,_⟩:=P.blk _ h;rw[b2]at k;cases k
  .rw[h,x]at R;cases R
  simp_all
 have kS:∀T,ld N (g f) (g (f++[y])) (r f) (pt (g []) 0) i (.pointer (if f=[]then I else C ⟨g f.dropLast,0,I⟩)) c.length e (bs (tF f)) (bs u.data) u.stat.made u.stat.set u.stat.aF u.stat.fj u.stat.own u.stat.size u.stat.kids u.next (cz c g f) y a T->bS (Wt.drop c (f++[y])) g r T:=λT o=>
  p.del s c0 o.nd o.kd λm D n t⟨k,H,b7⟩=>by
   have L:=b8 k H;rcases b7 with rfl|rfl
   .exact o.kept _ D L.2.2.1 n t L.1
   exact o.kept _ D L.2.2.2 n t L.2.1
 have hd:=Lr (f3:=bs (Wt.join (f++[y]))) (f4:=bs (Wt.join f)) x P (by omega) b3 b1 a0 b9 b4 a2 a3 (by omega) (by omega) (by omega) c7
  (λZ _ b5=>vz (p.old b5) l.up Q (fA l v).1 (fA l v).2)
  (λZ o=>vz (kS Z o) a6.up (by rw[c6];rfl) (fA l s).1 (fA l s).2)
 refine hd.mono ?_;rintro h d⟨o,a1,a9,a7,a8⟩;obtain⟨d2,a4,a5,c8,f0,c9,d0,d1⟩:=o.tree
 have e2:((Wt.drop c (f++[y])).length:VB)=c.length-1:=by
  have n:=oP (dK l.ord (b:=f) (c:=rF u)) (b:=f++[y]) (by rw[bu l.ord,VK (oF f y).symm,v];rfl);rw[bY l.ord w]at n
  grind [Wt.drop]
 have b6:∀m,nP (Wt.drop c (f++[y])) g r N m->nP c g r N m:=λm q=>by
  rcases q with rfl|⟨k,H,q⟩
  .exact VA A
  refine VC ⟨k,?_,q⟩
  grind
 refine⟨⟨kS d o,d2,e++[a4,a5],by simp_all,by simp_all,?_⟩,⟨o.size,λm D n t=>?_,λm q=>VA (b6 m q),λm q=>?_⟩,a1,a9,a7,a8⟩
 .refine gq.app (gq.stay (λm W f3 n t=>?_) X) ⟨d0,d1,trivial⟩;refine o.kept m (Wh.1 n).1 ?_ ?_ ?_ ?_
  .grind
  .grind
  .grind
  intro h;obtain⟨d5,d9,_⟩:=P.blk m h
  grind
 .exact o.kept m D (λh=>n (VA h)) (λh=>n (VC ⟨f,w,VA h⟩)) (λh=>n (VC ⟨f,w,VC h⟩)) (λh=>t ⟨_,_,i,x,h⟩)
 obtain⟨f1,f2,f4,n,t⟩:=q;rw[c8]at n;cases n;rcases c9 m t with q|q
 .exact VA ⟨_,_,i,x,q⟩
 omega
variable{n:K}{al:VB}
abbrev gG(i:VB)(e f:VX)(aF d:VB):VE Vx:=#[Vy M i,.string e,.string f,Vy M aF,Vy M d]
def ez(a:K)(N:E)(i:VE Vx)(e h:VX)(b c:E)(o:Vx):Prop:=
 Calls TP 95 #[.string e] (a.alloc (.cells i 28)) λg d=>∃f,g=VN (.tuple #[VG (C ⟨f,0,I⟩) b b,.bool J])/\Below (a.heap.size+1) (a.alloc (.cells i 28)) d/\d.cell? ⟨f,c,I⟩=C (.string h)/\
  Calls TP 96 #[pt N 0,VG (C ⟨f,0,I⟩) c b] d λg n=>g=VN o/\d=n
def qY(b:VB)(a:K)(c:Ending)(n:K):Prop:=c=VN (.tuple #[VW I,VG I 0 0,.iface 32 (Vy M b)])/\Below a.heap.size a n
structure qX(a:K)(N g:E)(ow nx sz:VB)(u:E):Prop where
 ow:a.cell? ⟨g,6,I⟩=C (Vy M ow)
 nx:a.cell? ⟨g,9,I⟩=C (Vy M nx)
 mp:a.cell? ⟨g,11,I⟩=C (.map (C u))
 sz:a.cell? ⟨N,1,I⟩=C (Vy M sz)
theorem qX.old{g:E}{k l m:VB}(p:qX a N g k l m u)(t:N<a.heap.size)(s:g<a.heap.size)(r:∀q,q<a.heap.size->n.heap[q]?=a.heap[q]?):qX n N g k l m u:=by
 refine⟨?_,?_,?_,?_⟩<;>simp only[K.cell?,r _ t,r _ s]
 .exact p.ow
 .exact p.nx
 .exact p.mp
 exact p.sz
theorem bH{c:K}{f:Obj}(e:Below (a.heap.size+1) (a.alloc f) c):∀b,b<a.heap.size->c.heap[b]?=a.heap[b]?:=λb d=>by rw[e.block b (by omega)];exact Wk _ _ _ d
theorem bd{c:K}{b:Obj}(d:Below (a.heap.size+1) (a.alloc b) c):Below a.heap.size a c:=(fM a b).trans (d.mono (YC _))
theorem cT{c:K}{b:VE Vx}(d:Below (a.heap.size+1) (a.alloc (.cells b 28)) c):c.heap[a.heap.size]?=C (VH b 28 (0,0)):=(d.block _ (by omega)).trans (Xz a _)
section
variable{g b c:E}{i aF d aE k l m:VB}{e f h W:VX}{o:Vx}
theorem QH(w:((b:VB)==0)=Vz)(x:wrap64 ((b:VB)-1)=c)(u:(c:VB)<b)(n:ez a N (gG i e f aF d) e h b c o)(t:8<(h.size:VB)):
 Calls TP 155 #[pt N 0,.agg (gG i e f aF d),Vy M al,Vy M aE] a (qY 4 a):=by
 have l:=VF n;have v:(0:VB)<=c:=by omega
 unfold ez at l;clear n;go_enter Tryz.func155,Tryz.ntmps155
 go_wp2_with (first
  |(go_at_call 95;refine l.out.mono ?_;rintro s L⟨r,rfl,k,y,m⟩;have g:=cT k;have z:=aa g 1 A;have D:=aa g 2 A;have H:=aa g 4 A;have p:=VF k;have q:=VF m;clear k m g))
 go_ret3;exact⟨A,bd p.out⟩
theorem Oj(x:((b:VB)==0)=Vz)(y:wrap64 ((b:VB)-1)=c)(v:(c:VB)<b)(n:ez a N (gG i e f aF d) e h b c o)(u:¬8<(h.size:VB))(t:16<(f.size:VB)):
 Calls TP 155 #[pt N 0,.agg (gG i e f aF d),Vy M al,Vy M aE] a (qY 5 a):=by
 have l:=VF n;have w:(0:VB)<=c:=by omega
 unfold ez at l;clear n;go_enter Tryz.func155,Tryz.ntmps155
 go_wp2_with (first
  |(go_at_call 95;refine l.out.mono ?_;rintro s O⟨r,rfl,k,z,m⟩;have g:=cT k;have D:=aa g 1 A;have H:=aa g 2 A;have L:=aa g 4 A;have p:=VF k;have q:=VF m;clear k m g))
 go_ret3;exact⟨A,bd p.out⟩
theorem Lk(y:((b:VB)==0)=Vz)(z:wrap64 ((b:VB)-1)=c)(w:(c:VB)<b)(n:ez a N (gG i e f aF d) e h b c o)(v:¬8<(h.size:VB))(t:¬16<(f.size:VB))(u:(bits .andNot M d 3 !=0)=J):
 Calls TP 155 #[pt N 0,.agg (gG i e f aF d),Vy M al,Vy M aE] a (qY 6 a):=by
 have l:=VF n;have x:(0:VB)<=c:=by omega
 unfold ez at l;clear n;go_enter Tryz.func155,Tryz.ntmps155
 go_wp2_with (first
  |(go_at_call 95;refine l.out.mono ?_;rintro s P⟨r,rfl,k,D,m⟩;have g:=cT k;have H:=aa g 1 A;have L:=aa g 2 A;have O:=aa g 4 A;have p:=VF k;have q:=VF m;clear k m g))
 go_ret3;exact⟨A,bd p.out⟩
theorem Ol(x:((b:VB)==0)=Vz)(y:wrap64 ((b:VB)-1)=c)(v:(c:VB)<b)(n:ez a N (gG i e f aF d) e h b c (VW I))(u:¬8<(h.size:VB))(s:¬16<(f.size:VB))(t:(bits .andNot M d 3 !=0)=Vz):
 Calls TP 155 #[pt N 0,.agg (gG i e f aF d),Vy M al,Vy M aE] a (qY 7 a):=by
 have l:=VF n;have w:(0:VB)<=c:=by omega
 unfold ez at l;clear n;go_enter Tryz.func155,Tryz.ntmps155
 go_wp2_with (first
  |(go_at_call 95;refine l.out.mono ?_;rintro q O⟨r,rfl,k,z,m⟩;have g:=cT k;have D:=aa g 1 A;have H:=aa g 2 A;have L:=aa g 4 A;have o:=VF k;have p:=VF m;clear k m g)
  |(go_at_call 96;refine p.out.mono ?_;rintro q P⟨rfl,rfl⟩))
 go_ret3;exact⟨A,bd o.out⟩
theorem QI(X:((b:VB)==0)=Vz)(Z:wrap64 ((b:VB)-1)=c)(U:(c:VB)<b)(t:ez a N (gG i e f aF d) e h b c (pt g 0))(T:¬8<(h.size:VB))(R:¬16<(f.size:VB))(S:(bits .andNot M d 3 !=0)=Vz)(D:N<a.heap.size)(z:g<a.heap.size)(r:qX a N g k l m u)(Y:(k !=0)=J):
 Calls TP 155 #[pt N 0,.agg (gG i e f aF d),Vy M al,Vy M aE] a (qY 11 a):=by
 have q:=VF t;have W:(0:VB)<=c:=by omega
 have w:=VF r;clear r;unfold ez at q;clear t;go_enter Tryz.func155,Tryz.ntmps155
 go_wp2_with (first
  |(go_at_call 95;refine q.out.mono ?_;rintro y a4⟨Q,rfl,o,a0,s⟩;have n:=cT o;have a1:=aa n 1 A;have a2:=aa n 2 A;have a3:=aa n 4 A;have p:=VF o;have x:=VF s;clear o s n)
  |(go_at_call 96;refine x.out.mono ?_;rintro y a5⟨rfl,rfl⟩;have v:=w.out.old D z (bH p.out);obtain⟨H,L,O,P⟩:=v))
 go_ret3;exact⟨A,bd p.out⟩
theorem Lj(Y:((b:VB)==0)=Vz)(a1:wrap64 ((b:VB)-1)=c)(W:(c:VB)<b)(t:ez a N (gG i e f aF d) e h b c (pt g 0))(U:¬8<(h.size:VB))(R:¬16<(f.size:VB))(T:(bits .andNot M d 3 !=0)=Vz)(D:N<a.heap.size)(z:g<a.heap.size)(r:qX a N g k l m u)(a0:(k !=0)=Vz)(S:(bits .and M d 2 !=0)=J)(Z:(l==1000)=J):
 Calls TP 155 #[pt N 0,.agg (gG i e f aF d),Vy M al,Vy M aE] a (qY 12 a):=by
 have q:=VF t;have X:(0:VB)<=c:=by omega
 have w:=VF r;clear r;unfold ez at q;clear t;go_enter Tryz.func155,Tryz.ntmps155
 go_wp2_with (first
  |(go_at_call 95;refine q.out.mono ?_;rintro y a6⟨Q,rfl,o,a2,s⟩;have n:=cT o;have a3:=aa n 1 A;have a4:=aa n 2 A;have a5:=aa n 4 A;have p:=VF o;have x:=VF s;clear o s n)
  |(go_at_call 96;refine x.out.mono ?_;rintro y a7⟨rfl,rfl⟩;have v:=w.out.old D z (bH p.out);obtain⟨H,L,O,P⟩:=v))
 go_ret3;exact⟨A,bd p.out⟩
theorem Dq(a4:((b:VB)==0)=Vz)(a6:wrap64 ((b:VB)-1)=c)(a2:(c:VB)<b)(x:ez a N (gG i e f aF d) e h b c (pt g 0))(a1:¬8<(h.size:VB))(Y:¬16<(f.size:VB))(a0:(bits .andNot M d 3 !=0)=Vz)(P:N<a.heap.size)(O:g<a.heap.size)(t:qX a N g k l m u)(a5:(k !=0)=Vz)(Z:(bits .and M d 2 !=0)=Vz)(v:∀o:K,(∀q,q<a.heap.size->o.heap[q]?=a.heap[q]?)->(Instr.lookup 188 (.map (C u)) (.string h) Vz).run TP o=.ok (pt Q 0) o):
 Calls TP 155 #[pt N 0,.agg (gG i e f aF d),Vy M al,Vy M aE] a (qY 8 a):=by
 have s:=VF x;have a3:(0:VB)<=c:=by omega
 have z:=VF t;clear t;have H:=VF v;clear v;unfold ez at s;clear x;go_enter Tryz.func155,Tryz.ntmps155
 go_wp2_with (first
  |(go_at_call 95;refine s.out.mono ?_;rintro L R⟨X,rfl,r,a7,w⟩;have n:=cT r;have a9:=aa n 1 A;have b0:=aa n 2 A;have b1:=aa n 4 A;have p:=VF r;have D:=VF w;clear r w n)
  |(go_at_call 96;refine D.out.mono ?_;rintro L o⟨rfl,rfl⟩;have y:=z.out.old P O (bH p.out);obtain⟨S,T,U,W⟩:=y;have a8:=H.out R (bH p.out)))
 go_ret3;exact⟨A,bd p.out⟩
theorem Dr(b7:((b:VB)==0)=Vz)(c0:wrap64 ((b:VB)-1)=c)(b5:(c:VB)<b)(S:ez a N (gG i e f aF d) e h b c (pt g 0))(b4:¬8<(h.size:VB))(b1:¬16<(f.size:VB))(b3:(bits .andNot M d 3 !=0)=Vz)(T:N<a.heap.size)(R:g<a.heap.size)(z:qX a N g k l m u)(b9:(k !=0)=Vz)(b2:(bits .and M d 2 !=0)=J)(b8:(l==1000)=Vz)(H:∀q:K,(∀o,o<a.heap.size->q.heap[o]?=a.heap[o]?)->Calls TP 186 #[.string h,Vy M l] q λr n=>r=VN (.string W)/\Below q.heap.size q n)(D:∀t:K,(∀o,o<a.heap.size->t.heap[o]?=a.heap[o]?)->(Instr.lookup 188 (.map (C u)) (.string W) Vz).run TP t=.ok (pt Q 0) t):
 Calls TP 155 #[pt N 0,.agg (gG i e f aF d),Vy M al,Vy M aE] a (qY 8 a):=by
 have y:=VF S;have b6:(0:VB)<=c:=by omega
 have w:=VF z;clear z;have x:=VF D;clear D;have a1:=VF H;clear H;unfold ez at y;clear S;go_enter Tryz.func155,Tryz.ntmps155
 go_wp2_with (first
  |(go_at_call 95;refine y.out.mono ?_;rintro r q⟨a6,rfl,v,c6,P⟩;have s:=cT v;have c9:=aa s 1 A;have d0:=aa s 2 A;have d1:=aa s 4 A;have p:=VF v;have a0:=VF P;clear v P s)
  |(go_at_call 96;refine a0.out.mono ?_;rintro r t⟨rfl,rfl⟩;have Y:=w.out.old T R (bH p.out);obtain⟨a2,a3,a4,a5⟩:=Y;have c7:=x.out q (bH p.out))
  |(go_at_call 186;refine(a1.out q (bH p.out)).mono ?_;rintro r X⟨rfl,O⟩;have U:∀o,o<a.heap.size->X.heap[o]?=a.heap[o]?:=λo L=>(O.block o (Ws L (bd p.out).size)).trans (bH p.out o L);have Z:=w.out.old T R U;obtain⟨a7,a8,a9,b0⟩:=Z;have c8:=x.out X U))
 go_ret3;exact⟨A,(bd p.out).trans (O.mono (bd p.out).size)⟩
theorem Ll(a3:((b:VB)==0)=Vz)(a5:wrap64 ((b:VB)-1)=c)(a1:(c:VB)<b)(x:ez a N (gG i e f aF d) e h b c (pt g 0))(a0:¬8<(h.size:VB))(X:¬16<(f.size:VB))(Z:(bits .andNot M d 3 !=0)=Vz)(P:N<a.heap.size)(O:g<a.heap.size)(t:qX a N g k l m u)(a4:(k !=0)=Vz)(Y:(bits .and M d 2 !=0)=Vz)(v:∀o:K,(∀q,q<a.heap.size->o.heap[q]?=a.heap[q]?)->(Instr.lookup 188 (.map (C u)) (.string h) Vz).run TP o=.ok (VW I) o)(a7:(m==60)=J):
 Calls TP 155 #[pt N 0,.agg (gG i e f aF d),Vy M al,Vy M aE] a (qY 13 a):=by
 have s:=VF x;have a2:(0:VB)<=c:=by omega
 have z:=VF t;clear t;have H:=VF v;clear v;unfold ez at s;clear x;go_enter Tryz.func155,Tryz.ntmps155
 go_wp2_with (first
  |(go_at_call 95;refine s.out.mono ?_;rintro L Q⟨W,rfl,r,a6,w⟩;have n:=cT r;have a9:=aa n 1 A;have b0:=aa n 2 A;have b1:=aa n 4 A;have p:=VF r;have D:=VF w;clear r w n)
  |(go_at_call 96;refine D.out.mono ?_;rintro L o⟨rfl,rfl⟩;have y:=z.out.old P O (bH p.out);obtain⟨R,S,T,U⟩:=y;have a8:=H.out Q (bH p.out)))
 go_ret3;exact⟨A,bd p.out⟩
theorem Lm(b6:((b:VB)==0)=Vz)(b9:wrap64 ((b:VB)-1)=c)(b4:(c:VB)<b)(R:ez a N (gG i e f aF d) e h b c (pt g 0))(b3:¬8<(h.size:VB))(b0:¬16<(f.size:VB))(b2:(bits .andNot M d 3 !=0)=Vz)(S:N<a.heap.size)(Q:g<a.heap.size)(z:qX a N g k l m u)(b8:(k !=0)=Vz)(b1:(bits .and M d 2 !=0)=J)(b7:(l==1000)=Vz)(H:∀q:K,(∀o,o<a.heap.size->q.heap[o]?=a.heap[o]?)->Calls TP 186 #[.string h,Vy M l] q λr n=>r=VN (.string W)/\Below q.heap.size q n)(D:∀t:K,(∀o,o<a.heap.size->t.heap[o]?=a.heap[o]?)->(Instr.lookup 188 (.map (C u)) (.string W) Vz).run TP t=.ok (VW I) t)(c6:(m==60)=J):
 Calls TP 155 #[pt N 0,.agg (gG i e f aF d),Vy M al,Vy M aE] a (qY 13 a):=by
 have y:=VF R;have b5:(0:VB)<=c:=by omega
 have w:=VF z;clear z;have x:=VF D;clear D;have a0:=VF H;clear H;unfold ez at y;clear R;go_enter Tryz.func155,Tryz.ntmps155
 go_wp2_with (first
  |(go_at_call 95;refine y.out.mono ?_;rintro r q⟨a5,rfl,v,c0,P⟩;have s:=cT v;have c9:=aa s 1 A;have d0:=aa s 2 A;have d1:=aa s 4 A;have p:=VF v;have Z:=VF P;clear v P s)
  |(go_at_call 96;refine Z.out.mono ?_;rintro r t⟨rfl,rfl⟩;have X:=w.out.old S Q (bH p.out);obtain⟨a1,a2,a3,a4⟩:=X;have c7:=x.out q (bH p.out))
  |(go_at_call 186;refine(a0.out q (bH p.out)).mono ?_;rintro r U⟨rfl,O⟩;have T:∀o,o<a.heap.size->U.heap[o]?=a.heap[o]?:=λo L=>(O.block o (Ws L (bd p.out).size)).trans (bH p.out o L);have Y:=w.out.old S Q T;obtain⟨a6,a7,a8,a9⟩:=Y;have c8:=x.out U T))
 go_ret3;exact⟨A,(bd p.out).trans (O.mono (bd p.out).size)⟩
end
variable{e:E}
structure sF(N c u e o:E)(H k L:Vx)(i:VB)(f:VD Vx)(q r:VX)(s t v g x z h D P:VB)(d:VE Vx)(m:B->VL E)(y:B)(a b:K):Prop where
 size:a.heap.size<=b.heap.size
 lo:a.heap.size<=e/\a.heap.size<=o/\e≠o
 kept:∀n,n<a.heap.size->n≠N->n≠c->n≠u->k.ownBlock≠C n->b.heap[n]?=a.heap[n]?
 tree:∃w S T,b.heap[N]?=C (VH #[H,Vy M (i+1),w] 195 (0,0))/\bV NB b 1 1 w (f.length+2) (f++[S,T])/\kL a k w/\uo N b S (.head c (OF q r s t v g x z h D))/\uo N b T (.add c e)
 nd:b.heap[c]?=C (VH (NH q r s t v (g+1) x z (h+1) P L (.map (C u))) 192 (0,0))
 kd:∃O R,b.heap[u]?=C (.map O R)/\Kids O R λU=>if U=y then C e else m U
 new:b.heap[e]?=C (VH d 192 (0,0))/\b.heap[o]?=C (.map #[] 0)
section
variable{c o:E}{H k L:Vx}{i:VB}{f:VD Vx}{q r:VX}{s t v g x z h D P:VB}{d:VE Vx}{m:B->VL E}{y:B}{Q p:K}
theorem sF.later(l:sF N c u e o H k L i f q r s t v g x z h D P d m y a b)(a6:b.heap.size<=Q.heap.size)(p:∀n,n<b.heap.size->Q.heap[n]?=b.heap[n]?):sF N c u e o H k L i f q r s t v g x z h D P d m y a Q where
 size:=Wu l.size a6
 lo:=l.lo
 kept:=λn T w S a3 a4=>by rw[p n (Ws T l.size)];exact l.kept n T w S a3 a4
 tree:=by obtain⟨b0,a1,a2,X,Y,a7,a8,a9⟩:=l.tree;have U:=λ(n:E)(Z:VE Vx)(R:VJ)(w:b.heap[n]?=C (Obj.cells Z R (0,0)))(_:R=190\/R=187\/R=94)=>p n (Wh.1 w).1;exact⟨b0,a1,a2,by rw[p _ (Wh.1 X).1];exact X,Y.stay λW a5=>p W (Y.lt W a5),a7,a8.stay U,a9.stay U⟩
 nd:=by rw[p _ (Wh.1 l.nd).1];exact l.nd
 kd:=by obtain⟨O,a0,w,S⟩:=l.kd;exact⟨O,a0,by rw[p _ (Wh.1 w).1];exact w,S⟩
 new:=⟨by rw[p _ (Wh.1 l.new.1).1];exact l.new.1,by rw[p _ (Wh.1 l.new.2).1];exact l.new.2⟩
theorem sF.next(n:sF N c u e o H k L i f q r s t v g x z h D P d m y a b)(b4:c<a.heap.size)(U:VB):sF N c u e o H k L i f q r s t v g x z h D U d m y a (b.setCell ⟨c,9,I⟩ (Vy M U)):=by
 have Q:∀l,l≠c->(b.setCell ⟨c,9,I⟩ (Vy M U)).heap[l]?=b.heap[l]?:=λl W=>ah W;obtain⟨b3,a7,a8,a1,a2,b0,b1,b2⟩:=n.tree;obtain⟨O,a6,w,T⟩:=n.kd
 have X:∀(l:E)(R:VE Vx)(p:VJ),b.heap[l]?=C (Obj.cells R p (0,0))->p≠192->l≠c:=λl R p w T S=>by rw[S,n.nd]at w;cases w;exact T A
 have Z:=λ(l:E)(R:VE Vx)(p:VJ)(w:b.heap[l]?=C (Obj.cells R p (0,0)))(T:p=190\/p=187\/p=94)=>Q l (X l R p w (by rintro rfl;revert T;decide));refine⟨by rw[aI];exact n.size,n.lo,λl W a3 Y a4 a5=>by rw[Q l Y];exact n.kept l W a3 Y a4 a5,⟨b3,a7,a8,by rw[Q _ (X _ _ _ a1 (by decide))];exact a1,a2.stay λa0 S=>?_,b0,b1.stay Z,b2.stay Z⟩,?_,⟨O,a6,?_,T⟩,?_,?_⟩
 .obtain⟨R,a9,_⟩:=a2.blk a0 S;exact Q a0 (X _ _ _ a9 (by decide))
 .have:=aB (l:=9) (g:=Vy M U) n.nd;simpa using this
 .rw[Q u λS=>by rw[S,n.nd]at w;cases w];exact w
 .rw[Q e (by have:=n.lo.1;omega)];exact n.new.1
 rw[Q o (by have:=n.lo.2.1;omega)];exact n.new.2
theorem QG(a0:a.heap[N]?=C (VH #[H,Vy M i,k] 195 (0,0)))(T:bV NB a 1 1 k f.length f)(b9:f.length<2^19)
 (Z:a.heap[c]?=C (VH (NH q r s t v g x z h D L (.map (C u))) 192 (0,0)))
 {X:E}(Y:a.heap[u]?=C (.map O X))(a3:Kids O X m)(c6:m y=I)(b1:0<=g/\g<2^62)(b2:0<=h/\h<2^62)(c7:0<=i/\i<2^62)
 (b3:d[0]?=C (.string (bs y)))(c0:∀l,l<a.heap.size->p.heap[l]?=a.heap[l]?)(d5:a.heap.size<=p.heap.size):
 Calls TP 187 #[pt N 0,pt c 0,pt (p.heap.size+1) 0] ((p.alloc (.map #[] 0)).alloc (.cells d 192)) λw a2=>w=VN (.tuple #[])/\sF N c u (p.heap.size+1) p.heap.size H k L i f q r s t v g x z h D D d m y a a2:=by
 have S:∀l,l<a.heap.size->((p.alloc (.map #[] 0)).alloc (.cells d 192)).heap[l]?=a.heap[l]?:=λl W=>by rw[Ek _ _ _ (by omega),c0 l W]
 have R:((p.alloc (.map #[] 0)).alloc (.cells d 192)).heap.size=p.heap.size+2:=by simp
 have b6:N<a.heap.size:=(Wh.1 a0).1;have b8:c<a.heap.size:=(Wh.1 Z).1;have b7:u<a.heap.size:=(Wh.1 Y).1;refine(SC (by rw[S _ b6];exact a0) (T.stay λa1 b5=>S a1 (T.lt a1 b5)) b9 (by rw[S _ b8];exact Z) (by rw[S _ b7];exact Y) a3 c6 (vq _ _ _) b3 b1 b2 c7).mono ?_;intro w a2 n;obtain⟨d4,a8,a9,c9,d0,d1,d2,d3⟩:=n.tree;have c8:=n.size;rw[R]at c8;refine⟨n.end_,by omega,⟨by omega,by omega,by omega⟩,λl W a4 a5 a6 a7=>?_,⟨d4,a8,a9,c9,d0,λb0 b4=>?_,d2,d3⟩,n.nd,n.kd,?_,?_⟩
 .rw[n.kept l (by rw[R];omega) a4 a5 a6 a7,S l W]
 .rcases d1 b0 b4 with U|U
  .exact VA U
  rw[R]at U;exact VC (by omega)
 .rw[n.kept _ (by rw[R];omega) (by omega) (by omega) (by omega) (λw=>by have:=T.lt _ w;omega)];exact vq _ _ _
 rw[n.kept _ (by rw[R];omega) (by omega) (by omega) (by omega) (λw=>by have:=T.lt _ w;omega)];exact Mo _ _ _
end
abbrev TK(e c:VX)(aE own:VB)(b a:E):VE Vx:=NH e c aE aE 0 0 own c.size 0 0 (pt b 0) (.map (C a))
def JY(g:E->E->K->Prop)(k l:VX)(f:Ending)(d:K):Prop:=∃e h a c,g e h a/\a.heap.size<=d.heap.size/\(∀b,b<a.heap.size->d.heap[b]?=a.heap[b]?)/\f=VN (.tuple #[pt e 0,VG (C ⟨c,0,I⟩) 2 2,.nilIface])/\a.heap.size<=c/\d.heap[c]?=C (VH #[Vy M 1,.string k,Vy M 4,.string l] 269 (0,0))
section
variable{b h f:E}{o aF d aE p i q:VB}{m c e W k l:VX}{g n:E->E->K->Prop}
theorem FT{P:VI}{R:VB}(e3:((h:VB)==0)=Vz)(e7:wrap64 ((h:VB)-1)=f)(e1:(f:VB)<h)(a7:ez a N (gG o m c aF d) m e h f (pt b 0))(e0:¬8<(e.size:VB))(d7:¬16<(c.size:VB))(d9:(bits .andNot M d 3 !=0)=Vz)(c7:N<a.heap.size)(c6:b<a.heap.size)(a0:qX a N b p i q u)(e6:(p !=0)=Vz)(d8:(bits .and M d 2 !=0)=Vz)(a2:∀D:K,(∀r,r<a.heap.size->D.heap[r]?=a.heap[r]?)->(Instr.lookup 188 (.map (C u)) (.string e) Vz).run TP D=.ok (VW I) D)(e9:(q==60)=Vz)(d6:(bits .and M d 1 !=0)=P)(c0:Vz=P/\0=R\/J=P/\al=R)(a1:∀n:K,(∀r,r<a.heap.size->n.heap[r]?=a.heap[r]?)->a.heap.size<=n.heap.size->Calls TP 187 #[pt N 0,pt b 0,pt (n.heap.size+1) 0] ((n.alloc (.map #[] 0)).alloc (.cells (TK e c aE R b n.heap.size) 192)) λs a8=>s=VN (.tuple #[])/\g (n.heap.size+1) n.heap.size a8)(a3:∀z Q t,g z Q t->Calls TP 156 #[pt z 0] t λs S=>s=VN (.string k)/\Below t.heap.size t S)(a4:∀z Q t x,g z Q t->Below t.heap.size t x->Calls TP 156 #[pt b 0] x λs S=>s=VN (.string l)/\Below x.heap.size x S):
 Calls TP 155 #[pt N 0,.agg (gG o m c aF d),Vy M al,Vy M aE] a (JY g k l):=by
 rcases c0 with⟨rfl,rfl⟩|⟨rfl,rfl⟩
 all_goals
  have Z:=VF a7;have e2:(0:VB)<=f:=by omega
  have e5:∀w,(Instr.makeMap 188 I).run TP w=.ok (.map (C w.heap.size)) (w.alloc (.map #[] 0)):=λw=>k_ (P:=TP) 188 w;have b0:=VF a0;have b3:=VF a2;have b1:=VF a1;have b4:=VF a3;have b5:=VF a4;clear a0 a2 a1 a3 a4;unfold ez at Z;clear a7;go_enter Tryz.func155,Tryz.ntmps155
  go_wp2_with (first
   |(go_at_call 95;refine Z.out.mono ?_;rintro s n⟨d5,rfl,H,e8,a6⟩;have v:=cT H;have f1:=aa v 1 A;have f2:=aa v 2 A;have f3:=aa v 4 A;have c9:=VF v;have e4:a.heap.size<n.heap.size:=(Wh.1 v).1;have y:=VF H;have b2:=VF a6;clear H a6 v)
   |(go_at_call 96;refine b2.out.mono ?_;rintro s D⟨rfl,rfl⟩;have a9:=b0.out.old c7 c6 (bH y.out);obtain⟨d1,d2,d3,d4⟩:=a9;have f0:=b3.out n (bH y.out);have q1:=VF (b1.out n (bH y.out) (bd y.out).size))
   |(go_at_call 187;refine q1.out.mono ?_;rintro s a8⟨rfl,O⟩;have X:=b4.out _ _ _ O;have W:=VF O;have Y:=VF X;clear O X)
   |(go_at_call 156;refine Y.out.mono ?_;rintro s x⟨rfl,L⟩;have T:=VF L;have b6:=VF (b5.out _ _ _ _ W.out L);clear L Y)
   |(go_at_call 156;refine b6.out.mono ?_;rintro s c8⟨rfl,a5⟩;have U:=VF a5;clear a5))
  have b7:=T.out.size;have b8:=U.out.size;go_ret3;exact⟨_,_,_,c8.heap.size,W.out,Wu b7 (Wu b8 (by simp)),λr b9=>by rw[Wk _ _ _ (by omega),U.out.block r (by omega),T.out.block r b9],A,by omega,Xz _ _⟩
theorem FU{Z:VI}{a0:VB}(g2:((h:VB)==0)=Vz)(g8:wrap64 ((h:VB)-1)=f)(g0:(f:VB)<h)(c8:ez a N (gG o m c aF d) m e h f (pt b 0))(f9:¬8<(e.size:VB))(f6:¬16<(c.size:VB))(f8:(bits .andNot M d 3 !=0)=Vz)(c9:N<a.heap.size)(c7:b<a.heap.size)(b1:qX a N b p i q u)(g7:(p !=0)=Vz)(f7:(bits .and M d 2 !=0)=J)(g3:(i==1000)=Vz)(b7:∀s:K,(∀r,r<a.heap.size->s.heap[r]?=a.heap[r]?)->Calls TP 186 #[.string e,Vy M i] s λt O=>t=VN (.string W)/\Below s.heap.size s O)(g6:0<=i/\i<2^62)(b3:∀S:K,(∀r,r<a.heap.size->S.heap[r]?=a.heap[r]?)->(Instr.lookup 188 (.map (C u)) (.string W) Vz).run TP S=.ok (VW I) S)(h0:(q==60)=Vz)(f5:(bits .and M d 1 !=0)=Z)(e1:Vz=Z/\0=a0\/J=Z/\al=a0)(b2:∀s:K,(∀r,r<a.heap.size->s.heap[r]?=a.heap[r]?)->a.heap.size<=s.heap.size->Calls TP 187 #[pt N 0,pt b 0,pt (s.heap.size+1) 0] ((s.alloc (.map #[] 0)).alloc (.cells (TK W c aE a0 b s.heap.size) 192)) λt y=>t=VN (.tuple #[])/\g (s.heap.size+1) s.heap.size y)(b4:∀x H y,g x H y->y.cell? ⟨b,9,I⟩=C (Vy M i)/\y.frozen? ⟨b,9,I⟩=Vz/\n x H (y.setCell ⟨b,9,I⟩ (Vy M (i+1))))(b5:∀x H w,n x H w->Calls TP 156 #[pt x 0] w λt O=>t=VN (.string k)/\Below w.heap.size w O)(b6:∀x H w P,n x H w->Below w.heap.size w P->Calls TP 156 #[pt b 0] P λt O=>t=VN (.string l)/\Below P.heap.size P O):
 Calls TP 155 #[pt N 0,.agg (gG o m c aF d),Vy M al,Vy M aE] a (JY n k l):=by
 rcases e1 with⟨rfl,rfl⟩|⟨rfl,rfl⟩
 all_goals
  have b0:=VF c8;have g1:(0:VB)<=f:=by omega
  have g5:∀L,(Instr.makeMap 188 I).run TP L=.ok (.map (C L.heap.size)) (L.alloc (.map #[] 0)):=λL=>k_ (P:=TP) 188 L;have a2:=VF b1;have a6:=VF b3;have a3:=VF b2;have d6:=VF b5;have d7:=VF b6;have d4:=VF b7;have d5:=VF b4;clear b7 b4;clear b1 b3 b2 b5 b6;unfold ez at b0;clear c8;go_enter Tryz.func155,Tryz.ntmps155
  go_wp2_with (first
   |(go_at_call 95;refine b0.out.mono ?_;rintro t s⟨f0,rfl,T,g9,b9⟩;have D:=cT T;have h4:=aa D 1 A;have h5:=aa D 2 A;have h6:=aa D 4 A;have d2:=VF D;have c0:a.heap.size<s.heap.size:=(Wh.1 D).1;have v:=VF T;have d3:=VF b9;clear T b9 D)
   |(go_at_call 96;refine d3.out.mono ?_;rintro t S⟨rfl,rfl⟩;have d0:=a2.out.old c9 c7 (bH v.out);obtain⟨e6,e7,e8,e9⟩:=d0;have h1:=a6.out s (bH v.out);have q1:=VF (a3.out s (bH v.out) (bd v.out).size))
   |(go_at_call 186;refine(d4.out s (bH v.out)).mono ?_;rintro t a1⟨rfl,z⟩;have g4:=Ws c0 z.size;have R:∀r,r<a.heap.size->a1.heap[r]?=a.heap[r]?:=λr Q=>(z.block r (Ws Q (bd v.out).size)).trans (bH v.out r Q);have d1:=a2.out.old c9 c7 R;obtain⟨f1,f2,f3,f4⟩:=d1;have h2:=a6.out a1 R;have X:=(z.block _ c0).trans d2.out;have h7:=aa X 2 A;have h8:=aa X 4 A;have e2:=VF (a3.out a1 R (Wu (bd v.out).size z.size));have e4:=VF z;clear X R z)
   |(go_at_call 187;refine e2.out.mono ?_;rintro t y⟨rfl,c6⟩;obtain⟨h3,h9,Y⟩:=d5.out _ _ _ c6;have a8:=d6.out _ _ _ Y;have a7:=VF Y;have a9:=VF a8;clear c6 Y a8)
   |(go_at_call 156;refine a9.out.mono ?_;rintro t P⟨rfl,U⟩;have a4:=VF U;have d8:=VF (d7.out _ _ _ _ a7.out U);clear U a9)
   |(go_at_call 156;refine d8.out.mono ?_;rintro t e3⟨rfl,b8⟩;have a5:=VF b8;clear b8))
  have d9:=a4.out.size;have e0:=a5.out.size;go_ret3;exact⟨_,_,_,e3.heap.size,a7.out,Wu d9 (Wu e0 (by simp)),λr Q=>by rw[Wk _ _ _ (by omega),a5.out.block r (by omega),a4.out.block r Q],A,by omega,Xz _ _⟩
end
variable{a:E}
theorem Ot{a:VB}(b:0<=a)(c:a<=3):(bits .and M a 2 !=0)=decide (2<=a):=by rcases(by omega:a=0\/a=1\/a=2\/a=3)with rfl|rfl|rfl|rfl<;>decide
theorem TJ{a:VB}(b:0<=a)(c:a<=3):(bits .and M a 1 !=0)=decide (a%2=1):=by rcases(by omega:a=0\/a=1\/a=2\/a=3)with rfl|rfl|rfl|rfl<;>decide
theorem LB{a:VB}(b:0<=a)(c:a<=3):(bits .andNot M a 3 !=0)=Vz:=by rcases(by omega:a=0\/a=1\/a=2\/a=3)with rfl|rfl|rfl|rfl<;>decide
theorem NT(b:BitVec 64):b&&& ~~~3#64=(b >>> 2) <<< 2:=by
 apply BitVec.eq_of_getLsbD_eq;intro a e;simp only[BitVec.getLsbD_and,BitVec.getLsbD_not,BitVec.getLsbD_shiftLeft,BitVec.getLsbD_ushiftRight];rcases(by omega:a=0\/a=1\/2<=a)with rfl|rfl|c
 .simp
 .simp
 have d:(3#64).getLsbD a=Vz:=by rw[BitVec.getLsbD_ofNat];have:=E.testBit_lt_two_pow (Ws (by decide:3<2^2) (E.pow_le_pow_right (by decide) c));simp[this]
 simp_all
theorem PF(b:0<a)(c:a<2^64):IntKind.i64.wrap (a:VB)≠0:=by have d:((a:VB)%(2^IntKind.i64.bits:VB))=a:=VB.emod_eq_of_lt (by omega) (by show(a:VB)<18446744073709551616;omega);show(if(IntKind.i64.signed&&decide ((a:VB)%(2^IntKind.i64.bits:VB)>=(2^(IntKind.i64.bits-1):VB)))=J then(a:VB)%(2^IntKind.i64.bits:VB)-(2^IntKind.i64.bits:VB)else(a:VB)%(2^IntKind.i64.bits:VB))≠0;omega
theorem Ud{a:VB}(h:-2^63<=a)(k:a<2^63)(c:a<0\/3<a):(bits .andNot M a 3 !=0)=J:=by
 have d:bits .andNot M a 3=IntKind.i64.wrap (((BitVec.ofInt 64 a)&&& ~~~(3#64)).toNat:VB):=A;rw[d,NT];have i:(BitVec.ofInt 64 a).toNat=(a%2^64).toNat:=BitVec.toNat_ofInt ..
 have e:4<=(BitVec.ofInt 64 a).toNat:=by
  rcases c with c|c
  .omega
  omega
 have f:=(BitVec.ofInt 64 a).isLt;generalize BitVec.ofInt 64 a=b at e f
 have g:(b >>> 2 <<< 2).toNat=b.toNat/4*4:=by
  rw[BitVec.toNat_shiftLeft,BitVec.toNat_ushiftRight,E.shiftRight_eq_div_pow,E.shiftLeft_eq];have:b.toNat/2^2*2^2<2^64:=by omega
  rw[ZH this]
 grind [PF]
variable{a:Path}
theorem Ln{p R:Path->E}(w:bS c p R b)(q:WF c)(m:b.cell? ⟨N,0,I⟩=C (pt (p []) 0))(l:VE Vx)(k:VX){u:VB}(n:b.cell? ⟨1,0,I⟩=C (Vy M u))(O:k.size<2^31)(t:Wt.split k.data.toList=C a)(o:a≠[]):
 ez b N l k (bs (a.getLast o)) a.length (a.length-1) (gP (if(Wt.find c a.dropLast).isSome then C (p a.dropLast)else I)):=by
 have y:1<b.heap.size:=by
  unfold K.cell? at n;cases d:b.heap[1]? with
  |none=>simp[d]at n
  |some S=>exact(Wh.1 d).1
 have Q:N<b.heap.size:=by
  unfold K.cell? at m;cases d:b.heap[N]? with
  |none=>simp[d]at m
  |some S=>exact(Wh.1 d).1
 obtain⟨X,H,_⟩:=q.root;have W:0<a.length:=Zh.2 o;refine(nH k u (b.alloc (.cells l 28)) O (by rw[WZ _ _ _ y];exact n)).mono ?_;intro T v d;unfold cF at d;rw[t]at d;obtain⟨i,Y,rfl,D⟩:=d;have P:(b.alloc (.cells l 28)).heap.size=b.heap.size+1:=by simp
 rw[P]at i;rcases D with⟨rfl,_⟩|⟨h,rfl,U,_,r⟩
 .exact absurd A o
 have s:∀(f:E) g,a[f]?=C g->v.cell? ⟨h,f,I⟩=C (.string (bs g)):=λf g e=>by simp only[K.cell?,r];simp[e]
 refine⟨h,A,i,s _ _ (by rw[VD.getLast_eq_getElem,Xb (by omega)]),?_⟩
 have L:Row (VG (C ⟨h,0,I⟩) (a.length-1) a.length) a.dropLast v:=VC ⟨h,a.length,by rw[YX],by rw[YX];omega,(Wh.1 r).1,λf g e=>s f g (by
  rw[Zy,XA]at e;split at e
  .exact e
  cases e)⟩
 exact yY (w.old λx z=>by rw[i.block x (by omega)];exact Wk _ _ _ z).Ux (by
  rw[i.cell (p:=⟨N,0,I⟩) (by show N<_;omega),WZ _ _ _ Q]
  exact m) (by rw[H];rfl) q.up L (by rw[YX];have:=sb t;omega)
def Qk(c:Tree):Prop:=∀a b,Wt.find c a=C b->(0<=b.stat.fj/\b.stat.fj<2^61)/\0<=b.stat.aF/\b.stat.aF<2^61
structure oE(d:Wt.Op):Prop where
 path:d.path.length<2^30
 data:d.data.length<2^30
 Vn:-2^63<=d.flags
 Vm:d.flags<2^63
abbrev tG(a:Wt.Op):VE Vx:=gG a.kind (bs a.path) (bs a.data) a.aF a.flags
theorem SI(d:a.length<=4)(c:a≠[]):(((a.length:VB)==0)=Vz)/\wrap64 ((a.length:VB)-1)=(a.length-1:E)/\((a.length-1:E):VB)<a.length:=by have e:0<a.length:=Zh.2 c;rcases(by omega:a.length=1\/a.length=2\/a.length=3\/a.length=4)with b|b|b|b<;>rw[b]<;>exact⟨by decide,by unfold wrap64;omega,by decide⟩
theorem kP{k g:Path->E}(n:bS c k g b){d:Path}{m:Nd}(u:Wt.find c d=C m)(h:B){l:VL E}(t:cz c k d h=l):∀e:K,(∀f,f<b.heap.size->e.heap[f]?=b.heap[f]?)->(Instr.lookup 188 (.map (C (g d))) (.string (bs h)) Vz).run TP e=.ok (gP l) e:=λe r=>by
 obtain⟨q,p,i,o⟩:=n.kd d m u;have s:e.heap[g d]?=C (.map q p):=by rw[r _ (Wh.1 i).1];exact i
 rw[vH s o h,t]
theorem Ds(n:yB b)(m:4<b.heap.size){d:B}(o:d.length<2^29){c:VB}(k:0<=c)(l:c<=999):∀a:K,(∀e,e<b.heap.size->a.heap[e]?=b.heap[e]?)->Calls TP 186 #[.string (bs d),Vy M c] a λg h=>g=VN (.string (bs (d++Wt.three c)))/\Below a.heap.size a h:=λa i=>(Mx (n.stay (by rw[i 4 m])) (bs d) k l (by rw[cS];omega)).mono λg h f=>by unfold FH at f;rw[KQ]at f;exact f
theorem fi{a b:VB}(c:a≠b):(a==b)=Vz:=by simpa using c
theorem yH{a b:VB}(c:a=b):(a !=b)=Vz:=by simpa using c
theorem tP{a b:VB}(c:a≠b):(a !=b)=J:=by simpa using c
theorem rC{a7 a6:Path->E}{b5:VD Un}(X:pF c a7 a6 N b5 b)(P:WF c){f:Wt.Op}(S:oE f){aE:VB}{b4:VB}(b0:b.cell? ⟨1,0,I⟩=C (Vy M b4))(a4:yB b)(Z:4<b.heap.size){W:VB}(e:Wt.create c f al aE=.no W)
 (b1:∀a,Wt.split f.path=C a->a≠[])(b2:(Wt.split f.path).isSome=J):Calls TP 155 #[pt N 0,.agg (tG f),Vy M al,Vy M aE] b (qY W b):=by
 obtain⟨c0,b9,T,b7,b8⟩:=X.top;obtain⟨a,O⟩:=Wn.1 b2;have i:=b1 a O;have t:=X.kS;have d:=SI (qN O).1 i;have o:=Ln t P (aa T 0 A) (tG f) (bs f.path) b0 (by rw[cS];have:=S.path;omega) (a:=a) O i;have y:N<b.heap.size:=(Wh.1 T).1;unfold Wt.create at e;rw[O]at e;cases a with
 |nil=>exact absurd A i
 |cons g h=>
  simp only at e;have a9:((bs ((g::h).getLast i)).size:VB)=((g::h).getLast i).length:=by rw[cS]
  have a8:((bs f.data).size:VB)=f.data.length:=by rw[cS]
  by_cases a0:8<((g::h).getLast i).length
  .rw[VV a0]at e;cases e;exact QH d.1 d.2.1 d.2.2 o (by rw[a9];omega)
  rw[VK a0]at e;have r:¬8<((bs ((g::h).getLast i)).size:VB):=by rw[a9];omega
  by_cases Y:16<f.data.length
  .rw[VV Y]at e;cases e;exact Oj d.1 d.2.1 d.2.2 o r (by rw[a8];omega)
  rw[VK Y]at e;have s:¬16<((bs f.data).size:VB):=by rw[a8];omega
  by_cases Q:f.flags<0\/3<f.flags
  .rw[VV Q]at e;cases e;exact Lk d.1 d.2.1 d.2.2 o r s (Ud S.Vn S.Vm Q)
  rw[VK Q]at e;have m:0<=f.flags:=by omega
  have n:f.flags<=3:=by omega
  cases p:Wt.find c (g::h).dropLast with
  |none=>rw[p]at e o;cases e;exact Ol d.1 d.2.1 d.2.2 o r s (LB m n)
  |some k=>
   rw[p]at e o;simp only at e;have b3:(Wt.find c (g::h).dropLast).isSome=J:=by rw[p];rfl
   have R:=t.nd _ _ p;have x:qX b N (a7 (g::h).dropLast) k.stat.own k.next c.length (a6 (g::h).dropLast):=⟨aa R 6 A,aa R 9 A,aa R 11 A,aa T 1 A⟩;have z:=(t.lt b3).1;by_cases L:k.stat.own≠0
   .rw[VV L]at e;cases e;exact QI d.1 d.2.1 d.2.2 o r s (LB m n) y z x (tP L)
   rw[VK L]at e;have H:(k.stat.own !=0)=Vz:=yH (by simpa using L);by_cases u:2<=f.flags/\k.next=1000
   .rw[VV u]at e;cases e;exact Lj d.1 d.2.1 d.2.2 o r s (LB m n) y z x H (by rw[Ot m n];simpa using u.1) (by simpa using u.2)
   rw[VK u]at e
   have a1:2<=f.flags->k.next<=999:=λl=>by have b6:k.next≠1000:=λD=>u ⟨l,D⟩;have:=(P.next _ _ p).2;omega
   have a3:=P.next _ _ p;have a2:((g::h).getLast i).length<2^29:=by omega
   by_cases q:(Wt.find c ((g::h).dropLast++[Wt.nameOf f.flags ((g::h).getLast i) k.next])).isSome=J
   .rw[VV q]at e;cases e;by_cases l:2<=f.flags
    .have w:Wt.nameOf f.flags ((g::h).getLast i) k.next=(g::h).getLast i++Wt.three k.next:=VV l;rw[w]at q;have v:=kP t p ((g::h).getLast i++Wt.three k.next) (l:=C _) (VV q);exact Dr d.1 d.2.1 d.2.2 o r s (LB m n) y z x H (by rw[Ot m n];simpa using l) (fi λD=>u ⟨l,D⟩) (Ds a4 Z a2 a3.1 (a1 l)) v
    have w:Wt.nameOf f.flags ((g::h).getLast i) k.next=(g::h).getLast i:=VK l;rw[w]at q;have v:=kP t p ((g::h).getLast i) (l:=C _) (VV q);exact Dq d.1 d.2.1 d.2.2 o r s (LB m n) y z x H (by rw[Ot m n];simpa using l) v
   rw[VK q]at e;by_cases U:c.length=60
   .rw[VV U]at e;cases e;have a5:((c.length:VB)==60)=J:=by rw[U];rfl
    by_cases l:2<=f.flags
    .have w:Wt.nameOf f.flags ((g::h).getLast i) k.next=(g::h).getLast i++Wt.three k.next:=VV l;rw[w]at q;have v:=kP t p ((g::h).getLast i++Wt.three k.next) (l:=I) (VK q);exact Lm d.1 d.2.1 d.2.2 o r s (LB m n) y z x H (by rw[Ot m n];simpa using l) (fi λD=>u ⟨l,D⟩) (Ds a4 Z a2 a3.1 (a1 l)) v a5
    have w:Wt.nameOf f.flags ((g::h).getLast i) k.next=(g::h).getLast i:=VK l;rw[w]at q;have v:=kP t p ((g::h).getLast i) (l:=I) (VK q);exact Ll d.1 d.2.1 d.2.2 o r s (LB m n) y z x H (by rw[Ot m n];simpa using l) v a5
   rw[VK U]at e;cases e
variable{b:Tree}{f:K}{l:E}{o:K}
def hZ(b:VD Wt.Ev):VE Vx:=(b.flatMap λa=>[Vx.int M a.1,.string (bs a.2)]).toArray
def qZ(b:Tree)(e h:Path->E)(N:E)(q:VD Un)(g:Tree)(l:VD Wt.Ev)(m:B)(f:K)(k:Ending)(o:K):Prop:=∃c i n p d a,k=VN (.tuple #[pt (c d) 0,VG (C ⟨a,0,I⟩) 2 2,.nilIface])/\pF g c i N (q++[n,p]) o/\xm N b e h g c i f o/\f.heap.size<=a/\o.heap[a]?=C (VH (hZ l) 269 (0,0))/\m=Wt.join d/\(Wt.find g d).isSome=J
abbrev Vt(c:Path)(e:Path->E):Vx:=.pointer (if c=[]then I else C ⟨e c.dropLast,0,I⟩)
abbrev uh(b:Tree)(e h:Path->E)(N:E)(g:Vx)(i:VD Vx)(a:Path)(c:Nd)(y:B)(d:Wt.Op)(aE own p:VB)(f:K)(l k:E)(o:K):Prop:=
 sF N (e a) (h a) l k (pt (e []) 0) g (Vt a e) b.length i (bs (tF a)) (bs c.data) c.stat.made c.stat.set c.stat.aF c.stat.fj c.stat.own c.stat.size c.stat.kids c.next p (TK (bs y) (bs d.data) aE own (e a) k) (cz b e a) y f o
section
variable{e h:Path->E}{g:Vx}{i:VD Vx}{a:Path}{c:Nd}{y:B}{d:Wt.Op}{aE own p:VB}{m:K}{k:E}{q:VD Un}
theorem Cz(l:bS b e h f)(n:f.heap[N]?=C (VH #[pt (e []) 0,Vy M b.length,g] 195 (0,0)))(m:bV NB f 1 1 g i.length i){a:Path}(q:(Wt.find b a).isSome=J):g.ownBlock≠C (e a)/\g.ownBlock≠C (h a)/\e a≠N/\h a≠N:=by
 obtain⟨t,o⟩:=Wn.1 q;obtain⟨s,r,d,_⟩:=l.kd _ _ o;have k:=l.nd _ _ o;refine⟨λc=>?_,λc=>?_,λc=>?_,λc=>?_⟩
 .obtain⟨p,a,_⟩:=m.blk _ c;rw[k]at a;cases a
 .obtain⟨p,a,_⟩:=m.blk _ c;rw[d]at a;cases a
 .rw[c,n]at k;cases k
 rw[c,n]at d;cases d
theorem iq(d:Wt.Ord b){e f:Nd}(c:Path):Wt.find (Wt.put (Wt.put b a e) (a++[y]) f) c=if c=a++[y]then C f else if c=a then C e else Wt.find b c:=by rw[bu (dK d),bu d]
theorem yT(u:bS b e h f)(v:WF b)(T:f.heap[N]?=C (VH #[pt (e []) 0,Vy M b.length,g] 195 (0,0)))(S:bV NB f 1 1 g i.length i)(D:Wt.find b a=C c)(z:Wt.find b (a++[y])=I)
 (P:p=(iN c d.flags).next)(Q:own=(cP d al aE).stat.own)(n:uh b e h N g i a c y d aE own p f l k m):
 bS (Wt.put (Wt.put b a (iN c d.flags)) (a++[y]) (cP d al aE)) (vO e (a++[y]) l) (vO h (a++[y]) k) m:=by
 have X:(Wt.find b a).isSome=J:=by rw[D];rfl
 refine u.add D z (λH=>?_) v.up (iq v.ord) ?_ n.kd ?_ ⟨0,n.new.2,Go.MapKept.stamped_empty 0⟩ (λU w=>?_) λW x r s⟨U,w,R⟩=>?_
 .cases L:Wt.find b (a++[y]++[H])with
  |none=>rfl
  |some Y=>have:=v.up (a++[y]++[H]) (by simp) (by rw[L];rfl);rw[Zd,z]at this;cases this
 .rw[n.nd,P];rfl
 .rw[n.new.1];have r:tF (a++[y])=y:=Mr a y;have s:(if a++[y]=[]then I else C (⟨e a,0,I⟩:VT))=C ⟨e a,0,I⟩:=VK (by simp);have O:(cP d al aE).stat.size=((bs d.data).size:VB):=by rw[cS];rfl
  unfold cV;rw[r,s,Q,O];rfl
 .have r:=u.lt w;have s:=n.lo;omega
 have t:=Cz u T S w;rcases R with rfl|rfl
 .exact n.kept _ x t.2.2.1 r s t.1
 exact n.kept _ x t.2.2.2 r s t.2.1
theorem yS(X:pF b e h N q f)(w:WF b)(z:f.heap[N]?=C (VH #[pt (e []) 0,Vy M b.length,g] 195 (0,0)))(T:bV NB f 1 1 g i.length i)(b4:gq N f i q)(D:Wt.find b a=C c)(S:Wt.find b (a++[y])=I)
 (a1:p=(iN c d.flags).next)(b1:own=(cP d al aE).stat.own){s:Ending}
 (r:JY (λl k m=>uh b e h N g i a c y d aE own p f l k m) (bs (Wt.join (a++[y]))) (bs (Wt.join a)) s o):
 qZ b e h N q (Wt.put (Wt.put b a (iN c d.flags)) (a++[y]) (cP d al aE)) [(1,Wt.join (a++[y])),(4,Wt.join a)] (Wt.join (a++[y])) f s o:=by
 obtain⟨l,k,m,Y,O,b3,a6,rfl,a3,a4⟩:=r;have H:(Wt.find b a).isSome=J:=by rw[D];rfl
 have L:=X.kS;have v:uh b e h N g i a c y d aE own p f l k o:=O.later b3 a6;have W:=yT (al:=al) L w z T D S a1 b1 v;obtain⟨b9,Z,a0,U,b5,b6,b7,b8⟩:=v.tree;have b0:=L.nd _ _ D;obtain⟨c8,c7,a8,_⟩:=L.kd _ _ D;have a9:Wt.find (Wt.put b a (iN c d.flags)) (a++[y])=I:=by rw[bu w.ord,VK (oF a y).symm];exact S
 have a7:((Wt.put (Wt.put b a (iN c d.flags)) (a++[y]) (cP d al aE)).length:VB)=b.length+1:=by rw[gx a9,bY w.ord H];rfl
 have b2:(Wt.find (Wt.put (Wt.put b a (iN c d.flags)) (a++[y]) (cP d al aE)) (a++[y])).isSome=J:=by rw[iq w.ord,VV A];rfl
 refine⟨vO e (a++[y]) l,vO h (a++[y]) k,_,_,a++[y],Y,by rw[dy],⟨W,b9,i++[Z,a0],?_,by rw[WI];exact b5,gq.app (gq.stay (λt c0 d1 n u=>?_) b4) ⟨b7,b8,trivial⟩⟩,⟨v.size,λt a2 n u=>?_,λt r=>?_,λt r=>?_⟩,Wu O.size a3,a4,A,b2⟩
 .rw[a7,bA (by simp:([]:Path)≠a++[y])];exact U
 .refine v.kept t (Wh.1 n).1 ?_ ?_ ?_ ?_
  .rintro rfl;rw[z]at n;cases n;revert u;decide
  .rintro rfl;rw[b0]at n;cases n;revert u;decide
  .rintro rfl;rw[a8]at n;cases n
  intro s;obtain⟨c6,a5,_⟩:=T.blk t s;rw[a5]at n;cases n;revert u;decide
 .exact v.kept t a2 (λs=>n (VA s)) (λs=>n (VC ⟨a,H,VA s⟩)) (λs=>n (VC ⟨a,H,VC s⟩)) (λs=>u ⟨_,_,g,z,s⟩)
 .rcases r with rfl|⟨Q,P,r⟩
  .exact VA (VA A)
  by_cases x:Q=a++[y]
  .subst x;rw[dy,dy]at r;have:=O.lo;right;omega
  rw[bA x,bA x]at r;rw[iq w.ord,VK x]at P;refine VA (VC ⟨Q,?_,r⟩);by_cases R:Q=a
  .rw[R];exact H
  rw[VK R]at P;exact P
 obtain⟨c9,d0,d2,n,u⟩:=r;rw[U]at n;cases n;rcases b6 t u with r|r
 .exact VA ⟨_,_,g,z,r⟩
 exact VC r
theorem pR(z:pF b e h N q f)(s:WF b)(P:f.heap[N]?=C (VH #[pt (e []) 0,Vy M b.length,g] 195 (0,0)))(O:bV NB f 1 1 g i.length i)(Q:Wt.find b a=C c)(H:Wt.find b (a++[y])=I)
 (n:WF (Wt.put (Wt.put b a (iN c d.flags)) (a++[y]) (cP d al aE)))(D:p=(iN c d.flags).next)(L:own=(cP d al aE).stat.own):
 (∀l k m,uh b e h N g i a c y d aE own p f l k m->Calls TP 156 #[pt l 0] m λv o=>v=VN (.string (bs (Wt.join (a++[y]))))/\Below m.heap.size m o)/\
 (∀l k m r,uh b e h N g i a c y d aE own p f l k m->Below m.heap.size m r->Calls TP 156 #[pt (e a) 0] r λv o=>v=VN (.string (bs (Wt.join a)))/\Below r.heap.size r o):=by
 have w:Wt.find (Wt.put (Wt.put b a (iN c d.flags)) (a++[y]) (cP d al aE)) (a++[y])=C (cP d al aE):=by rw[iq s.ord,VV A]
 have x:Wt.find (Wt.put (Wt.put b a (iN c d.flags)) (a++[y]) (cP d al aE)) a=C (iN c d.flags):=by rw[iq s.ord,VK (oF a y),VV A]
 refine⟨λl k m u=>?_,λl k m r u T=>?_⟩
 .have t:=yT (al:=al) z.kS s P O Q H D L u;have:=vz t n.up (by rw[w];rfl) (fA n w).1 (fA n w).2;rw[dy]at this;exact this
 have t:=(yT (al:=al) z.kS s P O Q H D L u).old λR S=>T.block R S;have:=vz t n.up (by rw[x];rfl) (fA n x).1 (fA n x).2;rw[bA (oF a y)]at this;exact this
end
variable{a:Tree}{b:K}
theorem yU{r O:Path->E}{a3:VD Un}(p:pF a r O N a3 b)(h:WF a)(c7:Qk a){f:Wt.Op}(d5:oE f){aE:VB}{d9:VB}(d0:b.cell? ⟨1,0,I⟩=C (Vy M d9))(d7:yB b)(c6:4<b.heap.size)(e7:a3.length<2^18)
 {b7:Tree}{b6:B}{a6:VD Wt.Ev}(a7:Wt.create a f al aE=.yes b7 b6 a6):
 Calls TP 155 #[pt N 0,.agg (tG f),Vy M al,Vy M aE] b (qZ a r O N a3 b7 a6 b6 b):=by
 have R:=gN h a7;obtain⟨c,d,e,x,b1,e3,e2,k,l,g,d3,b0,b2,u,e5,rfl,rfl,rfl⟩:=fH a7;obtain⟨b9,b8,m,v,L⟩:=p.top;have z:=p.kS;have i:=SI (qN b1).1 (Yw c d);have y:=Ln z h (aa m 0 A) (tG f) (bs f.path) d0 (by rw[cS];have:=d5.path;omega) (a:=c::d) b1 (Yw c d);have T:N<b.heap.size:=(Wh.1 m).1;have b3:(Wt.find a (c::d).dropLast).isSome=J:=by rw[g];rfl
 rw[VV b3]at y;have D:¬8<((bs ((c::d).getLast (Yw c d))).size:VB):=by rw[cS];omega
 have P:¬16<((bs f.data).size:VB):=by rw[cS];omega
 have U:=z.nd _ _ g;obtain⟨em,e1,d1,c0⟩:=z.kd _ _ g;have Q:qX b N (r (c::d).dropLast) e.stat.own e.next a.length (O (c::d).dropLast):=⟨aa U 6 A,aa U 9 A,aa U 11 A,aa m 1 A⟩;have H:=(z.lt b3).1;have X:((a.length:VB)==60)=Vz:=fi (by omega);have a9:cz a r (c::d).dropLast x=I:=by unfold cz;rw[u];rfl
 have S:=kP z g x a9;have e4:=(c7 _ _ g).1;have c8:0<=e.stat.kids/\e.stat.kids<2^62:=by rw[h.kids _ e g];have:=rM a (c::d).dropLast;have:=h.len;omega
 have d8:(0:VB)<=a.length/\(a.length:VB)<2^62:=by have:=h.len;omega
 have e6:=L.len;have c9:((c::d).getLast (Yw c d)).length<2^29:=by omega
 have d2:=h.next _ _ g;have add:=λ(own:VB)(a5:K) d4 d6=>QG (d:=TK (bs x) (bs f.data) aE own (r (c::d).dropLast) a5.heap.size) (p:=a5) m v (by omega) U d1 c0 a9 (by omega) c8 d8 A d4 d6;have W:(e.stat.own !=0)=Vz:=yH d3;by_cases q:2<=f.flags
 .have a1:x=(c::d).getLast (Yw c d)++Wt.three e.next:=b2.trans (VV q);have t:e.next+1=(iN e f.flags).next:=by unfold iN;simp[q]
  have a2:=Ds d7 c6 c9 d2.1 (by have:=b0 q;omega);rw[<-a1]at a2;have kI:=λ(own:VB) b5 b4 Y(Z:uh a r O N b9 b8 (c::d).dropLast e x f aE own e.next b b5 b4 Y)=>(⟨aa Z.nd 9 A,frozenAt Z.nd 9,Z.next H (e.next+1)⟩:Y.cell? ⟨r (c::d).dropLast,9,I⟩=C (Vy M e.next)/\Y.frozen? ⟨r (c::d).dropLast,9,I⟩=Vz/\uh a r O N b9 b8 (c::d).dropLast e x f aE own (e.next+1) b b5 b4 (Y.setCell ⟨r (c::d).dropLast,9,I⟩ (Vy M (e.next+1))));have a8:(e.next==1000)=Vz:=fi (b0 q);by_cases s:f.flags%2=1
  .have o:al=(cP f al aE).stat.own:=by unfold cP;simp[s]
   have n:=pR p h m v g u R t o;exact(FU i.1 i.2.1 i.2.2 y D P (LB k l) T H Q W (by rw[Ot k l];simpa using q) a8 a2 (by omega) S X (by rw[TJ k l];simpa using s) (VC ⟨A,A⟩) (add al) (kI al) n.1 n.2).mono λa0 a4 w=>yS p h m v L g u t o w
  have o:(0:VB)=(cP f al aE).stat.own:=by unfold cP;simp[s]
  have n:=pR p h m v g u R t o;exact(FU i.1 i.2.1 i.2.2 y D P (LB k l) T H Q W (by rw[Ot k l];simpa using q) a8 a2 (by omega) S X (by rw[TJ k l];simpa using s) (VA ⟨A,A⟩) (add 0) (kI 0) n.1 n.2).mono λa0 a4 w=>yS p h m v L g u t o w
 have a1:x=(c::d).getLast (Yw c d):=b2.trans (VK q);have t:e.next=(iN e f.flags).next:=by unfold iN;simp[q]
 rw[<-a1]at y D;by_cases s:f.flags%2=1
 .have o:al=(cP f al aE).stat.own:=by unfold cP;simp[s]
  have n:=pR p h m v g u R t o;exact(FT i.1 i.2.1 i.2.2 y D P (LB k l) T H Q W (by rw[Ot k l];simpa using q) S X (by rw[TJ k l];simpa using s) (VC ⟨A,A⟩) (add al) n.1 n.2).mono λa0 a4 w=>yS p h m v L g u t o w
 have o:(0:VB)=(cP f al aE).stat.own:=by unfold cP;simp[s]
 have n:=pR p h m v g u R t o;exact(FT i.1 i.2.1 i.2.2 y D P (LB k l) T H Q W (by rw[Ot k l];simpa using q) S X (by rw[TJ k l];simpa using s) (VA ⟨A,A⟩) (add 0) n.1 n.2).mono λa0 a4 w=>yS p h m v L g u t o w
variable{a:K}{b:Tree}
theorem Li{f aF e aE:VB}{c d:VX}{o:VB}(g:VI)(i:a.cell? ⟨1,0,I⟩=C (Vy M o))(u:c.size<2^31)(m:Wt.split c.data.toList=if g then C []else I):
 Calls TP 155 #[pt N 0,.agg (gG f c d aF e),Vy M al,Vy M aE] a (qY 4 a):=by
 have s:1<a.heap.size:=by
  unfold K.cell? at i;cases b:a.heap[1]? with
  |none=>simp[b]at i
  |some w=>exact(Wh.1 b).1
 have n:Calls TP 95 #[.string c] (a.alloc (.cells (gG f c d aF e) 28)) λk l=>k=VN (.tuple #[VG I 0 0,.bool g])/\Below (a.heap.size+1) (a.alloc (.cells (gG f c d aF e) 28)) l:=by
  refine(nH c o (a.alloc (.cells (gG f c d aF e) 28)) u (by rw[WZ _ _ _ s];exact i)).mono ?_;intro k l b;unfold cF at b;rw[m]at b;have v:(a.alloc (.cells (gG f c d aF e) 28)).heap.size=a.heap.size+1:=by simp
  rw[v]at b;cases g with
  |false=>exact⟨b.2,b.1⟩
  |true=>
   obtain⟨h,x,rfl,t⟩:=b;rcases t with⟨_,rfl⟩|⟨_,_,_,r,_⟩
   .exact⟨A,h⟩
   simp at r
 have q:=VF n;clear n m i;cases g<;>
 .go_enter Tryz.func155,Tryz.ntmps155
  go_wp2_with (go_at_call 95;refine q.out.mono ?_;rintro k l⟨rfl,h⟩;have p:=VF h;clear h)
  go_ret3;exact⟨A,bd p.out⟩
def uc(b:Tree)(i h:Path->E)(N:E)(m:VD Un)(a:K)(f:TF)(c:Ending)(d:K):Prop:=match f with
 |.no e=>qY e a c d
 |.yes l k g=>qZ b i h N m l g k a c d
theorem Lp{r q:Path->E}{h:VD Un}(k:pF b r q N h a)(l:WF b)(s:Qk b){e:Wt.Op}(g:oE e){aE:VB}{u:VB}(f:a.cell? ⟨1,0,I⟩=C (Vy M u))(p:yB a)(n:4<a.heap.size)(t:h.length<2^18):
 Calls TP 155 #[pt N 0,.agg (tG e),Vy M al,Vy M aE] a (uc b r q N h a (Wt.create b e al aE)):=by
 cases c:Wt.create b e al aE with
 |yes H z x=>exact yU k l s g f p n t c
 |no i=>
  have o:(bs e.path).size<2^31:=by rw[cS];have:=g.path;omega
  cases d:Wt.split e.path with
  |none=>
   have:i=4:=by unfold Wt.create at c;rw[d]at c;cases c;rfl
   subst this;exact Li Vz f o d
  |some v=>
   cases v with
   |nil=>
    have:i=4:=by unfold Wt.create at c;rw[d]at c;cases c;rfl
    subst this;exact Li J f o d
   |cons w D=>exact rC k l g f p n c (λy m=>by rw[d]at m;cases m;exact Yw _ _) (by rw[d];rfl)
variable{d:Tree}{b:K}{e:K}{c:E}
def ub(a:VB)(b:K)(c:Ending)(e:K):Prop:=c=VN (.tuple #[.string ⟨#[]⟩,VG I 0 0,.iface 32 (Vy M a)])/\Below b.heap.size b e
def Qo(a:VD Wt.Ev)(d:Vx)(e:E)(b:K):Prop:=(a=[]/\d=VG I 0 0)\/∃c,d=VG (C ⟨c,0,I⟩) a.length a.length/\0<a.length/\e<=c/\b.heap[c]?=C (VH (hZ a) 269 (0,0))
def Sq(d:Tree)(g f:Path->E)(N:E)(h:VD Un)(i:Tree)(n:VD Wt.Ev)(o:B)(b:K)(m:Ending)(e:K):Prop:=∃c a k l,m=VN (.tuple #[.string (bs o),l,.nilIface])/\pF i c a N (h++k) e/\k.length<=2/\xm N d g f i c a b e/\Qo n l b.heap.size e
def gI(d:Tree)(g f:Path->E)(N:E)(h:VD Un)(b:K)(i:TF)(a:Ending)(e:K):Prop:=match i with
 |.no c=>ub c b a e
 |.yes m l k=>Sq d g f N h m k l b a e
section
variable{g f:Path->E}{h:VD Un}
theorem pF.old(i:pF d g f N h b)(a:∀c,c<b.heap.size->e.heap[c]?=b.heap[c]?):pF d g f N h e:=by obtain⟨r,q,l,k,p⟩:=i.top;exact⟨i.kS.old a,r,q,by rw[a _ (Wh.1 l).1];exact l,k.stay λm o=>a m (k.lt m o),p.stay λc s t n _=>a c (Wh.1 n).1⟩
theorem Ca(a:pF d g f N h b)(i:∀c,c<b.heap.size->e.heap[c]?=b.heap[c]?):vF e N c↔vF b N c:=by obtain⟨o,n,k,l,m⟩:=a.top;unfold vF;rw[i _ (Wh.1 k).1]
theorem xm.same(k:pF d g f N h b)(m:b.heap.size<=e.heap.size)(i:∀c,c<b.heap.size->e.heap[c]?=b.heap[c]?):xm N d g f d g f b e:=
 ⟨m,λc l _ _=>i c l,λc a=>VA a,λc a=>VA ((Ca k i).1 a)⟩
theorem wy(T:pF d g f N h b)(W:WF d)(b2:Qk d){a:Wt.Op}(a0:oE a){aE:VB}{b6:VB}(P:b.cell? ⟨1,0,I⟩=C (Vy M b6))(b4:yB b)(b1:4<b.heap.size)(b5:h.length<2^18)(Z:a.kind=3):
 Calls TP 113 #[pt N 0,.agg (tG a),Vy M al,Vy M aE] b (gI d g f N h b (Wt.create d a al aE)):=by
 obtain⟨c0,b7,a8,aF,a9⟩:=a;simp only at Z;subst Z;obtain⟨a,Q⟩:∃a:Wt.Op,a=⟨3,b7,a8,aF,a9⟩:=⟨_,A⟩;rw[<-Q]at a0⊢
 have u:∀c,c<b.heap.size->(b.alloc (.cells (tG a) 28)).heap[c]?=b.heap[c]?:=λc t=>Wk _ _ _ t;have b0:1<b.heap.size:=by
  unfold K.cell? at P;cases m:b.heap[1]? with
  |none=>simp[m]at P
  |some a=>exact(Wh.1 m).1
 have H:(b.alloc (.cells (tG a) 28)).heap.size=b.heap.size+1:=by simp
 have p:=Lp (T.old u) W b2 a0 (al:=al) (aE:=aE) (by rw[WZ _ _ _ b0];exact P) (b4.stay (by rw[u 4 b1])) (by omega) b5;cases s:Wt.create d a al aE with
 |no b9=>
  rw[s]at p;have HC:=VF p;clear p u;subst Q;go_enter Tryz.func113,Tryz.ntmps113
  go_wp2_with (go_at_call 155;refine HC.out.mono ?_;rintro k i⟨rfl,o⟩;have x:=VF o;clear o)
  go_ret3;refine⟨A,?_⟩;have m:=x.out;rw[H]at m;exact bd m
 |yes S a4 L=>
  rw[s]at p;have O:=gN W s
  have X:∀k i,uc d g f N h (b.alloc (.cells (tG a) 28)) (.yes S a4 L) k i->∃n q v w R l,k=VN (.tuple #[pt R 0,VG (C ⟨l,0,I⟩) 2 2,.nilIface])/\pF S n q N (h++[v,w]) i/\xm N d g f S n q b i/\b.heap.size<=l/\i.heap[l]?=C (VH (hZ L) 269 (0,0))/\Calls TP 156 #[pt R 0] i λk e=>k=VN (.string (bs a4))/\Below i.heap.size i e:=λk i m=>by obtain⟨n,q,v,w,b8,l,rfl,r,y,o,D,rfl,a2⟩:=m;obtain⟨d0,a3⟩:=Wn.1 a2;exact⟨n,q,v,w,n b8,l,A,r,(xm.same T (by rw[H];omega) u).trans y,by rw[H]at o;omega,D,vz r.kS O.up a2 (fA O a3).1 (fA O a3).2⟩
  have b3:L.length=2:=by obtain⟨c,c6,c8,c7,_,_,_,_,_,_,_,_,_,_,_,_,_,rfl⟩:=fH s;rfl
  have HC:=VF p;have a5:=VF X;clear p u X s;subst Q;go_enter Tryz.func113,Tryz.ntmps113
  go_wp2_with (first
   |(go_at_call 155;refine HC.out.mono ?_;intro k i Y;obtain⟨n,q,v,w,R,l,rfl,r,y,o,D,a1⟩:=a5.out _ _ Y;have a6:=VF a1;have U:=VF r;have a7:=VF y;have x:=VF D;clear a1 r y Y D)
   |(go_at_call 156;refine a6.out.mono ?_;rintro k c9⟨rfl,z⟩))
  go_ret3;refine⟨n,q,[v,w],_,A,U.out.old λc t=>z.block c t,by simp,a7.out.trans (xm.same U.out z.size λc t=>z.block c t),VC ⟨l,?_,by omega,o,?_⟩⟩
  .rw[b3];rfl
  rw[z.block _ (Wh.1 x.out).1];exact x.out
end
def dA(a:K)(N:E)(f:VE Vx)(b:VX)(ok:VI)(e:E)(g:Vx):Prop:=
 Calls TP 95 #[.string b] (a.alloc (.cells f 28)) λc d=>∃h i,c=VN (.tuple #[.slice h e i,.bool ok])/\Below (a.heap.size+1) (a.alloc (.cells f 28)) d/\
  (ok=J->Calls TP 96 #[pt N 0,.slice h e i] d λc k=>c=VN g/\d=k)
section
variable{f aF d aE:VB}{b c:VX}{e:E}{g:Vx}
theorem KZ(p:(f==3)=Vz)(k:dA a N (gG f b c aF d) b Vz e g):Calls TP 113 #[pt N 0,.agg (gG f b c aF d),Vy M al,Vy M aE] a (ub 4 a):=by
 have h:=VF k;unfold dA at h;clear k;go_enter Tryz.func113,Tryz.ntmps113
 go_wp2_with (go_at_call 95;refine h.out.mono ?_;rintro o q⟨m,n,rfl,i,-⟩;have l:=VF i;clear i)
 go_ret3;exact⟨A,bd l.out⟩
theorem Oe(i:dA a N (gG 4 b c aF d) b J 0 g):Calls TP 113 #[pt N 0,.agg (gG 4 b c aF d),Vy M al,Vy M aE] a (ub 4 a):=by
 have f:=VF i;unfold dA at f;clear i;go_enter Tryz.func113,Tryz.ntmps113
 go_wp2_with (go_at_call 95;refine f.out.mono ?_;rintro n p⟨l,m,rfl,e,-⟩;have h:=cT e;have o:=aa h 0 A;have k:=VF e;clear e h)
 go_ret3;exact⟨A,bd k.out⟩
theorem Oc(k:dA a N (gG 5 b c aF d) b J e g)(p:16<(c.size:VB)):Calls TP 113 #[pt N 0,.agg (gG 5 b c aF d),Vy M al,Vy M aE] a (ub 5 a):=by
 have i:=VF k;unfold dA at i;clear k;go_enter Tryz.func113,Tryz.ntmps113
 go_wp2_with (go_at_call 95;refine i.out.mono ?_;rintro o s⟨m,n,rfl,f,-⟩;have h:=cT f;have q:=aa h 0 A;have r:=aa h 2 A;have l:=VF f;clear f h)
 go_ret3;exact⟨A,bd l.out⟩
theorem cf{c:K}{b:VL Vx}(d:c.heap[Q]?=a.heap[Q]?)(e:a.cell? ⟨Q,j,I⟩=b):c.cell? ⟨Q,j,I⟩=b:=by simp only[K.cell?,d];exact e
theorem below_drewN(a:K)(b:E):Below a.heap.size a (a.drewN b):=⟨A,A,A,Wl _,λ_ _=>rfl⟩
theorem uH{b:K}{e:Obj}(c:Below (a.heap.size+1) (a.alloc e) b)(d:E):Below a.heap.size a (b.drewN d):=(bd c).trans ((below_drewN b d).mono (bd c).size)
theorem KV(q:((e:VB)==0)=Vz)(k:dA a N (gG 4 b c aF d) b J e (VW I)):Calls TP 113 #[pt N 0,.agg (gG 4 b c aF d),Vy M al,Vy M aE] a (ub 7 a):=by
 have h:=VF k;unfold dA at h;clear k;go_enter Tryz.func113,Tryz.ntmps113
 go_wp2_with (first
  |(go_at_call 95;refine h.out.mono ?_;rintro n u⟨o,p,rfl,g,i⟩;have f:=cT g;have r:=aa f 0 A;have s:=aa f 2 A;have t:=aa f 3 A;have m:=VF (i A);have l:=VF g;clear g f i)
  |(go_at_call 96;refine m.out.mono ?_;rintro n v⟨rfl,rfl⟩))
 go_ret3;exact⟨A,bd l.out⟩
theorem KW(q:¬16<(c.size:VB))(k:dA a N (gG 5 b c aF d) b J e (VW I)):Calls TP 113 #[pt N 0,.agg (gG 5 b c aF d),Vy M al,Vy M aE] a (ub 7 a):=by
 have h:=VF k;unfold dA at h;clear k;go_enter Tryz.func113,Tryz.ntmps113
 go_wp2_with (first
  |(go_at_call 95;refine h.out.mono ?_;rintro n u⟨o,p,rfl,g,i⟩;have f:=cT g;have r:=aa f 0 A;have s:=aa f 2 A;have t:=aa f 3 A;have m:=VF (i A);have l:=VF g;clear g f i)
  |(go_at_call 96;refine m.out.mono ?_;rintro n v⟨rfl,rfl⟩))
 go_ret3;exact⟨A,bd l.out⟩
theorem KX(r:(f==3)=Vz)(s:(f==4)=Vz)(t:(f==5)=Vz)(l:dA a N (gG f b c aF d) b J e (VW I)):Calls TP 113 #[pt N 0,.agg (gG f b c aF d),Vy M al,Vy M aE] a (ub 7 a):=by
 have i:=VF l;unfold dA at i;clear l;go_enter Tryz.func113,Tryz.ntmps113
 go_wp2_with (first
  |(go_at_call 95;refine i.out.mono ?_;rintro o x⟨p,q,rfl,h,k⟩;have g:=cT h;have u:=aa g 0 A;have v:=aa g 2 A;have w:=aa g 3 A;have n:=VF (k A);have m:=VF h;clear h g k)
  |(go_at_call 96;refine n.out.mono ?_;rintro o y⟨rfl,rfl⟩))
 go_ret3;exact⟨A,bd m.out⟩
theorem Of(v:((e:VB)==0)=Vz)(l:dA a N (gG 4 b c aF d) b J e (pt Q 0)){m:VB}(r:Q<a.heap.size)(i:a.cell? ⟨Q,4,I⟩=C (Vy M m))(w:(aF !=-1)=J)(x:(aF !=m)=J):Calls TP 113 #[pt N 0,.agg (gG 4 b c aF d),Vy M al,Vy M aE] a (ub 9 a):=by
 have h:=VF l;unfold dA at h;clear l;have o:=VF i;clear i;go_enter Tryz.func113,Tryz.ntmps113
 go_wp2_with (first
  |(go_at_call 95;refine h.out.mono ?_;rintro q H⟨s,t,rfl,f,k⟩;have g:=cT f;have y:=aa g 0 A;have z:=aa g 2 A;have D:=aa g 3 A;have u:=cf (bH f Q r) o.out;have p:=VF (k A);have n:=VF f;clear f g k)
  |(go_at_call 96;refine p.out.mono ?_;rintro q L⟨rfl,rfl⟩))
 go_quiet (fail)
 go_wp2
 go_ret3;exact⟨A,uH n.out _⟩
theorem Og(v:¬16<(c.size:VB))(l:dA a N (gG 5 b c aF d) b J e (pt Q 0)){m:VB}(r:Q<a.heap.size)(i:a.cell? ⟨Q,4,I⟩=C (Vy M m))(w:(aF !=-1)=J)(x:(aF !=m)=J):Calls TP 113 #[pt N 0,.agg (gG 5 b c aF d),Vy M al,Vy M aE] a (ub 9 a):=by
 have h:=VF l;unfold dA at h;clear l;have o:=VF i;clear i;go_enter Tryz.func113,Tryz.ntmps113
 go_wp2_with (first
  |(go_at_call 95;refine h.out.mono ?_;rintro q H⟨s,t,rfl,f,k⟩;have g:=cT f;have y:=aa g 0 A;have z:=aa g 2 A;have D:=aa g 3 A;have u:=cf (bH f Q r) o.out;have p:=VF (k A);have n:=VF f;clear f g k)
  |(go_at_call 96;refine p.out.mono ?_;rintro q L⟨rfl,rfl⟩))
 go_quiet (fail)
 go_wp2
 go_ret3;exact⟨A,uH n.out _⟩
theorem Oh(w:(f==3)=Vz)(x:(f==4)=Vz)(y:(f==5)=Vz)(m:dA a N (gG f b c aF d) b J e (pt Q 0)){n:VB}(s:Q<a.heap.size)(k:a.cell? ⟨Q,4,I⟩=C (Vy M n))(z:(aF !=-1)=J)(D:(aF !=n)=J):Calls TP 113 #[pt N 0,.agg (gG f b c aF d),Vy M al,Vy M aE] a (ub 9 a):=by
 have i:=VF m;unfold dA at i;clear m;have p:=VF k;clear k;go_enter Tryz.func113,Tryz.ntmps113
 go_wp2_with (first
  |(go_at_call 95;refine i.out.mono ?_;rintro r P⟨t,u,rfl,g,l⟩;have h:=cT g;have H:=aa h 0 A;have L:=aa h 2 A;have O:=aa h 3 A;have v:=cf (bH g Q s) p.out;have q:=VF (l A);have o:=VF g;clear g h l)
  |(go_at_call 96;refine q.out.mono ?_;rintro r R⟨rfl,rfl⟩))
 go_quiet (fail)
 go_wp2
 go_ret3;exact⟨A,uH o.out _⟩
end
structure CU(a:K)(Q u:E)(d c:VB):Prop where
 lt:Q<a.heap.size
 aF:a.cell? ⟨Q,4,I⟩=C (Vy M d)
 mp:a.cell? ⟨Q,11,I⟩=C (.map (C u))
 len:∀l:K,(∀k,k<a.heap.size->l.heap[k]?=a.heap[k]?)->(Builtin.len_ #[188] 3 #[.map (C u)]).run TP l=.ok (Vy M c) l
theorem CU.lens{e:K}{k:Obj}{d c:VB}(g:CU a Q u d c)(i:Below (a.heap.size+1) (a.alloc k) e):∀b,(Builtin.len_ #[188] 3 #[.map (C u)]).run TP (e.drewN b)=.ok (Vy M c) (e.drewN b):=λb=>g.len (e.drewN b) λf h=>bH i f h
def JX(b:VX)(a:K)(c:Ending)(d:K):Prop:=c=VN (.tuple #[.string b,VG I 0 0,.nilIface])/\Below a.heap.size a d
section
variable{e aF g aE d c:VB}{b f:VX}{h:E}{i:Vx}
theorem FN(x:((h:VB)==0)=Vz)(p:dA a N (gG 4 b f aF g) b J h (pt Q 0))(n:CU a Q u d c)(l:(aF !=-1)=Vz\/(aF !=-1)=J/\(aF !=d)=Vz)(D:0<c):Calls TP 113 #[pt N 0,.agg (gG 4 b f aF g),Vy M al,Vy M aE] a (ub 10 a):=by
 rcases l with l|⟨l,z⟩
 all_goals
  have m:=VF p;have i:=VF n;unfold dA at m;clear p n;go_enter Tryz.func113,Tryz.ntmps113
  go_wp2_with (first
   |(go_at_call 95;refine m.out.mono ?_;rintro s R⟨t,v,rfl,e,o⟩;have k:=cT e;have H:=aa k 0 A;have L:=aa k 1 A;have O:=aa k 2 A;have P:=aa k 3 A;have c4:=cf (bH e Q i.out.lt) i.out.aF;have w:=cf (bH e Q i.out.lt) i.out.mp;have y:=i.out.lens e;have r:=VF (o A);have q:=VF e;clear e k o)
   |(go_at_call 96;refine r.out.mono ?_;rintro s S⟨rfl,rfl⟩))
  go_quiet (fail)
  go_wp2
  go_ret3;exact⟨A,uH q.out _⟩
theorem FO(y:(e==3)=Vz)(z:(e==4)=Vz)(D:(e==5)=Vz)(q:dA a N (gG e b f aF g) b J h (pt Q 0))(o:CU a Q u d c)(m:(aF !=-1)=Vz\/(aF !=-1)=J/\(aF !=d)=Vz):Calls TP 113 #[pt N 0,.agg (gG e b f aF g),Vy M al,Vy M aE] a (JX b a):=by
 rcases m with m|⟨m,L⟩
 all_goals
  have n:=VF q;have k:=VF o;unfold dA at n;clear q o;go_enter Tryz.func113,Tryz.ntmps113
  go_wp2_with (first
   |(go_at_call 95;refine n.out.mono ?_;rintro t T⟨v,w,rfl,i,p⟩;have l:=cT i;have O:=aa l 0 A;have P:=aa l 1 A;have R:=aa l 2 A;have S:=aa l 3 A;have c4:=cf (bH i Q k.out.lt) k.out.aF;have x:=cf (bH i Q k.out.lt) k.out.mp;have H:=k.out.lens i;have s:=VF (p A);have r:=VF i;clear i l p)
   |(go_at_call 96;refine s.out.mono ?_;rintro t U⟨rfl,rfl⟩))
  go_quiet (fail)
  go_wp2
  go_ret3;exact⟨A,uH r.out _⟩
end
def PM(b:VX)(c:K->E->K->Prop)(a:K)(g:Ending)(h:K):Prop:=∃f e,a.heap.size<=e.heap.size/\(∀d,d<a.heap.size->e.heap[d]?=a.heap[d]?)/\g=VN (.tuple #[.string b,VG (C ⟨f,0,I⟩) 2 2,.nilIface])/\c e f h
section
variable{i aF f aE h g:VB}{b e:VX}{d:E}{c:K->E->K->Prop}
theorem KU(Y:((d:VB)==0)=Vz)(L:dA a N (gG 4 b e aF f) b J d (pt Q 0))(x:CU a Q u h g)(t:(aF !=-1)=Vz\/(aF !=-1)=J/\(aF !=h)=Vz)(a4:¬0<g)
 (y:∀k:K,(∀i,i<a.heap.size->k.heap[i]?=a.heap[i]?)->a.heap.size<k.heap.size->Calls TP 153 #[pt N 0,pt Q 0] k λp q=>∃l,p=VN (VG (C ⟨l,0,I⟩) 2 2)/\k.heap.size<=l/\l<q.heap.size/\k.heap.size<=q.heap.size/\q.heap[a.heap.size]?=k.heap[a.heap.size]?/\c k l q):
 Calls TP 113 #[pt N 0,.agg (gG 4 b e aF f),Vy M al,Vy M aE] a (PM b c a):=by
 rcases t with t|⟨t,a3⟩
 all_goals
  have v:=VF L;have o:=VF x;have R:=VF y;unfold dA at v;clear L x y;go_enter Tryz.func113,Tryz.ntmps113
  go_wp2_with (first
   |(go_at_call 95;refine v.out.mono ?_;rintro p P⟨i,W,rfl,m,H⟩;have n:=cT m;have a5:=aa n 0 A;have a6:=aa n 1 A;have a8:=aa n 2 A;have a9:=aa n 3 A;have c4:=cf (bH m Q o.out.lt) o.out.aF;have X:=cf (bH m Q o.out.lt) o.out.mp;have a2:=o.out.lens m;have T:=VF (H A);have r:=VF m;have w:=VF n;clear m n H)
   |(go_at_call 96;refine T.out.mono ?_;rintro p k⟨rfl,rfl⟩))
  go_quiet (fail)
  have U:=VF (R.out (P.drewN nq) (λi s=>bH r.out i s) (Wh.1 w.out).1)
  go_wp2_with (go_at_call 153;refine U.out.mono ?_;rintro p b0⟨l,rfl,Z,a0,a1,z,D⟩;have O:=z.trans w.out;have a7:=aa O 1 A;clear O;have S:=VF D;clear z D)
  go_ret3;exact⟨l,P.drewN nq,(bd r.out).size,λi s=>bH r.out i s,A,S.out⟩
end
variable{w:K}{f:E}{g:E}{v:Vx}
abbrev fF(w:K)(a:VI)(b:VX):K:=w.alloc (.cells #[.bool a,.string b] 253)
abbrev JU(B d b:E)(c:VI)(e:VX)(a:K):Prop:=a.cell? ⟨d,0,I⟩=C (.map (C b))/\a.cell? ⟨B,0,I⟩=C (.bool c)/\a.cell? ⟨B,1,I⟩=C (.string e)
theorem KA{d b q:E}{o:VL VT}{a:VI}{h:VX}{Q:VB}{y:K->Prop}(D:w.cell? ⟨d,0,I⟩=C (.map (C b)))(a0:d<w.heap.size)
 (Z:∀l,(Instr.lookup 196 (.map (C b)) (.agg #[.bool a,.string h]) Vz).run TP ((fF w a h).drewN l)=.ok (.slice o f q) ((fF w a h).drewN l))
 (N:∀l,Calls TP 134 #[.slice o f q,Vy M al] ((fF w a h).drewN l) λk w'=>k=VN (.tuple #[Vy M Q,.bool Vz])/\∃a1,w'=(fF w a h).drewN a1)
 (P:∀l,Calls TP 135 #[.slice o f q,Vy M Q,VG (C ⟨w.heap.size+1,0,I⟩) 1 1] (((fF w a h).drewN l).alloc (.cells #[Vy M al] 3)) λk w'=>∃p u r,k=VN (.slice p u r)/\JU w.heap.size d b a h w'/\∃x,(Instr.mapUpdate 196 (.map (C b)) (.agg #[.bool a,.string h]) (.slice p u r)).run TP w'=.ok () x/\JU w.heap.size d b a h x/\y x):
 Calls TP 105 #[pt d 0,Vy M al,.bool a,.string h] w λk w'=>k=VN (.tuple #[])/\y w':=by
 have s:(fF w a h).cell? ⟨d,0,I⟩=C (.map (C b)):=by rw[WZ _ _ _ a0];exact D
 have R:=VF N;have S:=VF P;clear N P D;go_enter Tryz.func105,Tryz.ntmps105
 go_wp2
 go_quiet (fail)
 go_wp2_with (go_at_call 134;refine(R.out nq).mono ?_;rintro k a4⟨rfl,i,rfl⟩)
 have m:((fF w a h).drewN (i+1)).heap[w.heap.size]?=C (VH #[.bool a,.string h] 253 (0,0)):=WS w _;have t:(((fF w a h).drewN (i+1)).alloc (.cells #[Vy M al] 3)).heap[w.heap.size]?=C (VH #[.bool a,.string h] 253 (0,0)):=by rw[Wk _ _ _ (Wh.1 m).1];exact m
 have H:((fF w a h).drewN (i+1)).cell? ⟨d,0,I⟩=C (.map (C b)):=s;have L:(((fF w a h).drewN (i+1)).alloc (.cells #[Vy M al] 3)).cell? ⟨d,0,I⟩=C (.map (C b)):=by rw[WZ _ _ _ (by show d<(w.heap.push _).size;simp;omega)];exact s
 have z:JU w.heap.size d b a h ((fF w a h).drewN (i+1)):=⟨H,aa m 0 A,aa m 1 A⟩;have T:JU w.heap.size d b a h (((fF w a h).drewN (i+1)).alloc (.cells #[Vy M al] 3)):=⟨L,aa t 0 A,aa t 1 A⟩;have X:JU w.heap.size d b a h (((fF w a h).drewN i).drew):=z;have Y:=VF (S.out (i+1));clear s H L m t Z
 go_region_held3 (λn=>n.cell? ⟨d,0,I⟩=C (.map (C b))/\n.cell? ⟨w.heap.size,0,I⟩=C (.bool a)/\n.cell? ⟨w.heap.size,1,I⟩=C (.string h))
  (first|with_reducible exact z|with_reducible exact X|with_reducible exact T|with_reducible exact U|with_reducible exact W)
  (first|(go_at_call 135;refine Y.out.mono ?_;rintro k a5⟨p,u,r,rfl,U,a6,a3,W,a2⟩))
 go_end0
 simp_all
theorem KB{d b k:E}{i:VL VT}{a:VI}{c:VX}{n:VB}(p:w.cell? ⟨d,0,I⟩=C (.map (C b)))(r:d<w.heap.size)
 (q:∀e,(Instr.lookup 196 (.map (C b)) (.agg #[.bool a,.string c]) Vz).run TP ((fF w a c).drewN e)=.ok (.slice i f k) ((fF w a c).drewN e))
 (m:∀e,Calls TP 134 #[.slice i f k,Vy M al] ((fF w a c).drewN e) λh w'=>h=VN (.tuple #[Vy M n,.bool J])/\∃o,w'=(fF w a c).drewN o):
 Calls TP 105 #[pt d 0,Vy M al,.bool a,.string c] w λh w'=>h=VN (.tuple #[])/\∃e,w'=(fF w a c).drewN e:=by
 have l:=VF m;go_enter Tryz.func105,Tryz.ntmps105
 go_wp2
 go_quiet (fail)
 go_wp2_with (go_at_call 134;refine(l.out nq).mono ?_;rintro h t⟨rfl,s,rfl⟩)
 go_end0
 grind
abbrev mc:Vx:=VG I 0 0
structure dM(bR:VI->B->VD VB)(d b:E)(e:Vx->VL Vx)(w:K):Prop where
 tb:w.heap[d]?=C (VH #[.map (C b)] 198 (0,0))
 mp:∃O i,w.heap[b]?=C (.map O i)/\Mp xj O i e
 row:∀a h,rn w ((e (spot a h)).getD mc) (bR a h)
 inj:∀a h k l g,rowOf ((e (spot a h)).getD mc)=C g->rowOf ((e (spot k l)).getD mc)=C g->a=k/\h=l
 wU:∀a h,qV (bR a h)
 nums:∀a h,∀m∈bR a h,0<m/\m<2^28
def ey(d b:E)(e:Vx->VL Vx)(c:E):Prop:=c=d\/c=b\/∃a f,rowOf ((e (spot a f)).getD mc)=C c
theorem qH:∀{b:VD VB}{c:VB},qV b->(∀d∈b,c<d)->∀a,(∀d∈b,d<a)->c<a->(b.length:VB)<a-c
 |[],c,_,_,a,_,e=>by simp;omega
 |h::b,c,e,i,a,f,n=>by
  obtain⟨l,m⟩:=Xq.1 e;have:=qH m l a (λd k=>f d (by simp[k])) (f h (by simp));have:=i h (by simp)
  grind
theorem rU{c:VD VB}(e:qV c)(d:∀a∈c,0<a/\a<2^28):c.length<2^28:=by have:=qH e (λa b=>(d a b).1) (2^28) (λa b=>(d a b).2) (by decide);omega
section
variable{bR:VI->B->VD VB}{d b:E}{e:Vx->VL Vx}
theorem dM.ne(a:dM bR d b e w):d≠b:=λf=>by obtain⟨O,h,c,_⟩:=a.mp;rw[<-f,a.tb]at c;cases c
theorem dM.zU(h:dM bR d b e w){l:VI}{m:B}(f:rowOf ((e (spot l m)).getD mc)=C g):∃i,w.heap[g]?=C (VH i 3 (0,0))/\g≠d/\g≠b:=by
 rcases h.row l m with⟨_,c,a⟩|⟨q,o,i,a,k,n,_⟩
 .rw[a]at f;cases c<;>cases f
 rw[a,iA n]at f;cases f;refine⟨i,k,λa=>?_,λa=>?_⟩
 .rw[a,h.tb]at k;cases k
 obtain⟨O,p,r,_⟩:=h.mp;simp_all
theorem dM.lt(f:dM bR d b e w)(a:ey d b e c):c<w.heap.size:=by
 rcases a with rfl|rfl|⟨h,i,a⟩
 .exact(Wh.1 f.tb).1
 .obtain⟨O,k,a,_⟩:=f.mp;exact(Wh.1 a).1
 exact(f.row h i).lt a
theorem dM.stay(a:dM bR d b e w)(h:∀c,ey d b e c->w'.heap[c]?=w.heap[c]?):dM bR d b e w' where
 tb:=by rw[h d (.inl A)];exact a.tb
 mp:=by rw[h b (.inr (.inl A))];exact a.mp
 row:=λi k=>(a.row i k).stay λg l=>h g (VC (VC ⟨i,k,l⟩))
 inj:=a.inj
 wU:=a.wU
 nums:=a.nums
theorem dM.get(m:dM bR d b e w)(n:w'.heap[b]?=w.heap[b]?)(k:VI)(a:B):(Instr.lookup 196 (.map (C b)) (spot k a) Vz).run TP w'=.ok ((e (spot k a)).getD mc) w':=by obtain⟨O,o,h,l⟩:=m.mp;rw[<-n]at h;exact l.get rL Fw (Sk w') h (Ng k a) Vz
open Classical in
noncomputable def qB(e:Vx->VL Vx)(b:VI)(c:B)(v:VL Vx):Vx->VL Vx:=λa=>if a=spot b c then v else e a
theorem jf{a:VI}{b:B}{v:VL Vx}:qB e a b v (spot a b)=v:=VV A
theorem pv{b:VI}{c:B}{v:VL Vx}{a:Vx}(d:a≠spot b c):qB e b c v a=e a:=VK d
theorem je{c a:VI}{d b:B}{v:VL Vx}(h:¬(a=c/\b=d)):qB e c d v (spot a b)=e (spot a b):=pv λf=>h (Nh f)
def eT(bR:VI->B->VD VB)(c:VI)(e:B)(d:VD VB):VI->B->VD VB:=λa b=>if a=c/\b=e then d else bR a b
theorem dM.put(h:dM bR d b e w){k:VI}{a:B}{v:VL Vx}{y:VD VB}{z:E}
 (S:w'.heap[d]?=C (VH #[.map (C b)] 198 (0,0)))(P:w'.heap[b]?=C (.map O z))(H:Mp xj O z (qB e k a v))(U:rn w' (v.getD mc) y)
 (N:∀c,c<w.heap.size->c≠b->rowOf ((e (spot k a)).getD mc)≠C c->ey d b e c->w'.heap[c]?=w.heap[c]?)
 (Q:∀g,rowOf (v.getD mc)=C g->rowOf ((e (spot k a)).getD mc)=C g\/w.heap.size<=g)(R:qV y)(T:∀D∈y,0<D/\D<2^28):dM (eT bR k a y) d b (qB e k a v) w' where
 tb:=S
 mp:=⟨O,z,P,H⟩
 row:=λi l=>by
  unfold eT;by_cases m:i=k/\l=a
  .simp_all [jf]
  rw[VK m,je m];refine(h.row i l).stay λg x=>N g ((h.row i l).lt x) ?_ (λL=>m (h.inj _ _ _ _ g x L)) (VC (VC ⟨i,l,x⟩));exact(h.zU x).choose_spec.2.2
 inj:=λs q1 p q g r n=>by
  have X:∀s q1 p q,(s=k/\q1=a)->¬(p=k/\q=a)->rowOf ((qB e k a v (spot s q1)).getD mc)=C g->rowOf ((qB e k a v (spot p q)).getD mc)=C g->False:=λs q1 p q t u r n=>by
   rw[t.1,t.2,jf]at r;rw[je u]at n;rcases Q g r with m|m
   .exact u (h.inj _ _ _ _ g n m)
   have:=(h.row p q).lt n;omega
  by_cases t:s=k/\q1=a
  .grind
  by_cases u:p=k/\q=a
  .grind
  rw[je t]at r;rw[je u]at n;exact h.inj _ _ _ _ g r n
 wU:=λi l=>by
  unfold eT;split
  .exact R
  exact h.wU i l
 nums:=λi l=>by
  unfold eT;split
  .exact T
  exact h.nums i l
theorem MB{h:VI}{i:B}{v:VL Vx}(n:∀g,rowOf (v.getD mc)=C g->rowOf ((e (spot h i)).getD mc)=C g\/f<=g)(a:ey d b (qB e h i v) c):ey d b e c\/f<=c:=by
 rcases a with rfl|rfl|⟨l,m,a⟩
 .exact VA (VA A)
 .exact VA (VC (VA A))
 by_cases k:l=h/\m=i
 .rw[k.1,k.2,jf]at a;rcases n c a with a|a
  .exact VA (VC (VC ⟨h,i,a⟩))
  omega
 rw[je k]at a;exact VA (VC (VC ⟨l,m,a⟩))
theorem IM(w:K)(a:Obj)(f:E):∀c,c<w.heap.size->((w.alloc a).drewN f).heap[c]?=w.heap[c]?:=λc b=>Wk w a c b
theorem MW{a:VD VB}(e:rn w v a)(n:qV a)(x:a.length<2^40)(d:VB):Calls TP 134 #[v,Vy M d] w λb w'=>b=VN (.tuple #[Vy M ((a.countP (·<d):E):VB),.bool (a.contains d)])/\∃p,w'=w.drewN p:=by
 rcases e with⟨rfl,c,rfl⟩|⟨g,k,l,rfl,h,i,q,r,s,m,t⟩
 .refine(Tryz.slices_BinarySearch_int_empty c 0 d w).mono λb w'⟨h,i⟩=>⟨h,0,i⟩
 have u:=Tryz.slices_BinarySearch_int g 0 a.length k a d w (Wl _) (by omega) (λj f=>?_) (by rw[ZD];exact n.imp λe=>VB.le_of_lt e)
 .simp_all
 have:l.toList[j]?=C (i64 (a.getD j 0)):=by have b:=VU (λo=>o[j]?) m;simp only[XA,VV f,XI,Xb f,Xp]at b;rw[b];simp[List.getD,f]
 simp_all [K.cell?]
theorem Qw(k:dM bR d b e w)(c6:0<al/\al<2^28)(a:VI)(h:B):
 Calls TP 105 #[pt d 0,Vy M al,.bool a,.string (bs h)] w λl w'=>l=VN (.tuple #[])/\∃y,dM (eT bR a h (dI al (bR a h))) d b y w'/\aJ (ey d b e) (ey d b y) w w':=by
 have q:=k.row a h;have H:=k.wU a h;have a8:(bR a h).length<2^40:=E.lt_trans (rU H (k.nums a h)) (by decide);have Z:=k.lt (VA A);have c7:=k.lt (VC (VA A));have a1:w.cell? ⟨d,0,I⟩=C (.map (C b)):=aa k.tb 0 A;obtain⟨v,P⟩:∃v,v=(e (spot a h)).getD mc:=⟨_,A⟩;rw[<-P]at q;obtain⟨o,f,p,rfl⟩:∃o f p,v=.slice o f p:=by
  rcases q with⟨_,c,rfl⟩|⟨g,b7,b9,rfl,_⟩
  .exact⟨_,_,_,A⟩
  simp
 have D:∀i,∀c,c<w.heap.size->((fF w a (bs h)).drewN i).heap[c]?=w.heap[c]?:=λi=>IM w _ i
 have a6:∀i,(Instr.lookup 196 (.map (C b)) (.agg #[.bool a,.string (bs h)]) Vz).run TP ((fF w a (bs h)).drewN i)=.ok (.slice o f p) ((fF w a (bs h)).drewN i):=λi=>by rw[P];exact k.get (D i b c7) a h
 have d0:=λi=>q.stay λg m=>D i g (q.lt m);have L:=λi=>MW (d0 i) H a8 al;by_cases r:al∈bR a h
 .have T:(bR a h).contains al=J:=by simp_all
  rw[T]at L;refine(KB a1 Z a6 λi=>(L i).mono λl w'⟨z,a0,a4⟩=>⟨z,i+a0,by simp_all⟩).mono λl w'⟨U,i,b1⟩=>⟨U,e,?_,?_⟩
  .have W:eT bR a h (dI al (bR a h))=bR:=by
    grind [eT,Bg]
   rw[W,b1];exact k.stay λc n=>D i c (k.lt n)
  rw[b1];exact⟨by simp,λc n _=>D i c n,λc c0=>VA c0⟩
 have T:(bR a h).contains al=Vz:=by simp_all
 rw[T]at L;refine(KA (y:=λw'=>∃y,dM (eT bR a h (dI al (bR a h))) d b y w'/\aJ (ey d b e) (ey d b y) w w') a1 Z a6 (λi=>(L i).mono λl w'⟨z,a0,a4⟩=>⟨z,i+a0,by simp_all⟩) λi=>?_);obtain⟨s,b2⟩:∃s,s=((fF w a (bs h)).drewN i).alloc (.cells #[Vy M al] 3):=⟨_,A⟩;have e0:((fF w a (bs h)).drewN i).heap.size=w.heap.size+1:=by simp
 have Y:∀c,c<w.heap.size->s.heap[c]?=w.heap[c]?:=λc n=>by grind [Below.heap_alloc]
 have d8:s.heap[w.heap.size]?=C (VH #[.bool a,.string (bs h)] 253 (0,0)):=by rw[b2,Wk _ _ _ (by omega)];exact WS w _
 have d4:s.heap[w.heap.size+1]?=C (VH #[Vy M al] 3 (0,0)):=by have:=WS ((fF w a (bs h)).drewN i) (.cells #[Vy M al] 3);simp_all
 have e1:s.heap.size=w.heap.size+2:=by simp_all
 rw[<-b2]
 have d1:∀g,rowOf (.slice o f p)=C g->g<w.heap.size/\g≠d/\g≠b:=λg m=>by refine⟨q.lt m,?_⟩;rw[P]at m;exact(k.zU m).choose_spec.2
 have W:=Tb (a:=s) (f:=.slice o f p) (c:=bR a h) (h:=al) (q.stay λg m=>Y g (q.lt m)) H r a8 d4 (λl=>by grind);refine W.mono λl Q⟨d6,U,b3,e3,b4,e4⟩=>?_;obtain⟨t,x,u,rfl⟩:∃o f p,d6=.slice o f p:=by
  rcases b3 with⟨_,c,rfl⟩|⟨g,b7,b9,rfl,_⟩
  .exact⟨_,_,_,A⟩
  simp
 have a9:Q.heap[d]?=C (VH #[.map (C b)] 198 (0,0)):=by rw[b4 d (by omega) (λl=>(d1 _ l).2.1 A),Y d Z];exact k.tb
 have S:Q.heap[w.heap.size]?=C (VH #[.bool a,.string (bs h)] 253 (0,0)):=by grind
 obtain⟨O,b8,d9,b5⟩:=k.mp
 have X:Q.heap[b]?=C (.map O b8):=by grind
 obtain⟨a3,a2,d3,b6⟩:=b5.put rL Fw X (Ng a h) (.slice t x u) (g:=qB e a h (C (.slice t x u))) jf (λR r=>pv r);have N:=λc(n:c≠b)=>(U_ (o':=.map a3 a2) X).2 c n;have d2:=(U_ (o':=.map a3 a2) X).1;have c8:=k.ne;have b0:=(N d c8).trans a9;have a5:=(N _ (by omega)).trans S
 have c9:∀g,rowOf (.slice t x u)=C g->g≠b:=λg m l=>by grind
 refine⟨t,x,u,U,⟨aa a9 0 A,aa S 0 A,aa S 1 A⟩,_,d3,⟨aa b0 0 A,aa a5 0 A,aa a5 1 A⟩,qB e a h (C (.slice t x u)),?_,?_⟩
 .refine k.put (v:=C (.slice t x u)) b0 d2 b6 (b3.stay λg m=>N g (c9 g m)) (λc n z a4 _=>?_) (λg m=>?_) (qG al H) (λR r=>?_)
  .grind
  .grind
  rcases(mM al R).1 r with rfl|r
  .exact c6
  exact k.nums a h R r
 refine⟨?_,λc n a7=>?_,λc n=>?_⟩
 .show _<=(Q.heap.setIfInBounds b _).size;simp;omega
 .rw[N c (λl=>a7 (.inr (.inl l))),b4 c (by omega) (λl=>?_),Y c n];rw[P]at l;exact a7 (VC (VC ⟨a,h,l⟩))
 grind [MB]
end
variable{z:VE Oper}{S:Exit->VQ->K->Prop}{c:Vx}
abbrev NO(b:Vx):Prop:=∃a,b=i64 a
theorem Up:∃a c,TP.underlying 61=C (.slice 3)/\(TP.info? 3=C a/\a.zero=C c/\a.size=1/\a.bytes<=1000/\c.cells.size=1/\0<1)/\∀b∈c.cells.toList,NO b:=by refine⟨_,_,A,⟨A,A,A,by decide,A,by decide⟩,?_⟩;intro b d;have:b∈[i64 0]:=d;simp at this;exact⟨0,this⟩
theorem wpList_append_run{g:VD Oper}{d:Oper}{e:VQ}{i k:Vx}(n:d.guard=I)(h l:Wd)(f:VJ)
 (o:d.op=.call {callee:=.builtin .append,args:=#[h,l],argTypes:=#[f,f]})(q:e.eval h=c)(r:e.eval l=i)(p:(Builtin.append_ #[f,f] d.type #[c,i]).run TP a=.ok k b)
 (next:wpList TP z S g (e.put d.dst k) b):wpList TP z S (d::g) e a:=by
 refine wpList_plain n λs m=>?_;unfold Oper.wp execOp;simp only[o,resolve,invoke,builtin,Xx,E',XJ,XB,XE,XO,q,r,p];exact m _ _ next
theorem zW{h:Vx}{g f:VD VB}(m:bV NO a 3 1 h g.length (g.map i64))(D:rn a c f)(Q:g.length+f.length<2^30)(p:VJ):
 ∃i b,(Builtin.append_ #[61,61] p #[h,c]).run TP a=.ok i b/\bV NO b 3 1 i (g.length+f.length) ((g++f).map i64)/\a.grownBy b h.ownBlock/\kL a h i:=by
 obtain⟨a3,a4,r,d,R⟩:=Up;rcases D with⟨rfl,t,rfl⟩|⟨l,q,w,rfl,x,Y,Z,a0,a1,y,a2⟩
 .refine⟨h,a,?_,by simpa using m,⟨A,A,A,Wl _,λ_ _ _=>rfl⟩,λl H=>VA H⟩;obtain⟨u,o,v,rfl⟩:=m.slice;have O:o<=v:=by
   rcases m.2 with⟨n,_⟩|⟨l,q,w,n,_,L,_⟩
   .cases n;exact Wl _
   cases n;exact L
  have N:∀s:VT,(loadCellsFrom s 0 0 #[]).run TP a=.ok #[] a:=λs=>rfl;cases t<;>cases u<;>simp[Builtin.append_,Xd r,sizeOf,typeInfo,d.1,storeCells,Builtin.lenOf,O,Result.andThen,Builtin.mayShare,Builtin.firstCells,loadCells,N]
 have P:∀j k,(f.map i64)[j]?=C k->a.cell? ((⟨l,0,I⟩:VT).add j)=C k:=λj k e=>by
  rw[pK];rw[<-y,XA]at e;split at e
  .simp only[K.cell?,x];simpa using e
  cases e
 obtain⟨i,b,T,U,W,X⟩:=lL (H:=p) m r d.1 d.2.1 d.2.2.1 d.2.2.2.1 d.2.2.2.2.1 d.2.2.2.2.2 R ⟨l,0,I⟩ f.length q (f.map i64) (by simp) P (λk e=>⟨ve k e,by obtain⟨o,_,rfl⟩:=WY.1 e;exact⟨o,A⟩⟩) Q;refine⟨i,b,T,?_,W,X⟩;rw[YQ];exact U
theorem Ih{t d l i p:E}{f:VI}{g:VX}{Q:Vx}{k:VL VT}{n m:E}{h:K}{T:K->Prop}
 (H:a.heap[t]?=C (VH #[.string g] 9 (0,0)))(D:a.heap[d]?=C (VH #[Q] 61 (0,0)))(L:a.heap[l]?=C (VH #[pt i 0] 95 (0,0)))(N:a.heap[i]?=C (VH #[.map (C p)] 198 (0,0)))
 (r:(Instr.lookup 196 (.map (C p)) (.agg #[.bool f,.string g]) Vz).run TP (fF a f g).drew=.ok c (fF a f g).drew)
 (o:(Builtin.append_ #[61,61] 61 #[Q,c]).run TP (fF a f g).drew=.ok (.slice k n m) h)
 (O:h.heap[d]?=C (VH #[Q] 61 (0,0)))(W:h.heap[l]?=C (VH #[pt i 0] 95 (0,0)))(X:h.heap[i]?=C (VH #[.map (C p)] 198 (0,0)))(P:h.heap[a.heap.size]?=C (VH #[.bool f,.string g] 253 (0,0)))
 (b1:l≠d)(b2:i≠d)(Y:a.heap.size≠d)
 (hd:∃R,(Builtin.delete_ #[196,253] 0 #[.map (C p),.agg #[.bool f,.string g]]).run TP (h.setCell ⟨d,0,I⟩ (.slice k n m)).drew=.ok (.tuple #[]) R/\T R):
 Calls TP 180 #[.bool f,pt t 0,pt d 0,pt l 0] a λa1 b=>a1=VN (.tuple #[])/\T b:=by
 obtain⟨R,a7,U⟩:=hd;have a9:t<a.heap.size/\d<a.heap.size/\l<a.heap.size/\i<a.heap.size:=⟨(Wh.1 H).1,(Wh.1 D).1,(Wh.1 L).1,(Wh.1 N).1⟩;obtain⟨b9,b4,b5,b6⟩:=a9;have c1:=aa H 0 A;have s:∀q,q<a.heap.size->(fF a f g).heap[q]?=a.heap[q]?:=λq o=>Wk a _ q o;have u:=aa ((s d b4).trans D) 0 A;have v:=aa ((s l b5).trans L) 0 A;have w:=aa ((s i b6).trans N) 0 A;have z:(fF a f g).heap[a.heap.size]?=C (VH #[.bool f,.string g] 253 (0,0)):=WS a _;have x:=aa z 0 A;have y:=aa z 1 A;have b8:=frozenAt O 0;have a2:(h.setCell ⟨d,0,I⟩ (.slice k n m)).cell? ⟨l,0,I⟩=C (pt i 0):=aa ((ah b1).trans W) 0 A;have a3:(h.setCell ⟨d,0,I⟩ (.slice k n m)).cell? ⟨i,0,I⟩=C (.map (C p)):=aa ((ah b2).trans X) 0 A;have a4:(h.setCell ⟨d,0,I⟩ (.slice k n m)).cell? ⟨a.heap.size,0,I⟩=C (.bool f):=aa ((ah Y).trans P) 0 A;have a5:(h.setCell ⟨d,0,I⟩ (.slice k n m)).cell? ⟨a.heap.size,1,I⟩=C (.string g):=aa ((ah Y).trans P) 1 A;have b7:=aa O 0 A;have Z:=VF U;clear H D L N O W X P U s z;obtain⟨S,b0⟩:∃S,h.setCell ⟨d,0,I⟩ (.slice k n m)=S:=⟨_,A⟩;rw[b0]at a2 a3 a4 a5 a7;obtain⟨e,a6⟩:∃e,a.alloc (Obj.cells #[Vx.bool f,Value.string g] 253)=e:=⟨_,A⟩;unfold fF at u v w x y r o;rw[a6]at u v w x y r o;go_enter Tryz.func180,Tryz.ntmps180
 go_wp2
 have a8:(Instr.lookup 196 (.map (C p)) (.agg #[.bool f,.string g]) Vz).run TP {heap:=e.heap,tape:=e.tape,drawn:=e.drawn+1,os:=e.os,output:=e.output}=.ok c {heap:=e.heap,tape:=e.tape,drawn:=e.drawn+1,os:=e.os,output:=e.output}:=r
 go_still_tail 7,(by kernel_rfl)
 change wpList _ _ _ _ _ e.drew
 refine wpList_append_run A _ _ 61 A rfl rfl o ?_;clear r a8 o u v w x y
 go_wp2
 go_still_tail 5,(by kernel_rfl)
 change wpList _ _ _ _ _ S.drew
 go_wp2
 go_end0
 exact⟨A,Z.out⟩
structure oA(bR:VI->B->VD VB)(e i:E)(g:Vx->VL Vx)(l k m:E)(n:B)(d:Vx)(f:VD VB)(a:K):Prop where
 tab:dM bR e i g a
 hp:a.heap[l]?=C (VH #[.string (bs n)] 9 (0,0))
 hl:a.heap[k]?=C (VH #[d] 61 (0,0))
 ht:a.heap[m]?=C (VH #[pt e 0] 95 (0,0))
 row:bV NO a 3 1 d f.length (f.map i64)
 free:∀h,d.ownBlock=C h->¬ey e i g h
def Hc(bR:VI->B->VD VB)(f d:E)(q:Vx->VL Vx)(n g o:E)(e:B)(k:Vx)(m:VD VB)(i:VI)(a:K)(p:Ending)(b:K):Prop:=p=VN (.tuple #[])/\∃l h,oA (eT bR i e []) f d h n g o e l (m++bR i e) b/\a.heap.size<=b.heap.size/\kL a k l/\(∀c,ey f d h c->ey f d q c)/\∀c,c<a.heap.size->c≠g->c≠d->k.ownBlock≠C c->b.heap[c]?=a.heap[c]?
theorem Oq{bR:VI->B->VD VB}{y l:E}{s:Vx->VL Vx}{D k x:E}{n:B}{q:Vx}{Y:VD VB}(g:oA bR y l s D k x n q Y a)(e9:Y.length<2^29)(m:VI):
 Calls TP 180 #[.bool m,pt D 0,pt k 0,pt x 0] a (Hc bR y l s D k x n q Y m a):=by
 have o:=g.tab;have d8:=o.wU m n;have f1:=rU d8 (o.nums m n);obtain⟨c,b4⟩:∃c,c=(s (spot m n)).getD mc:=⟨_,A⟩;have b3:=o.lt (VA A);have b1:=o.lt (VC (VA A));have d2:=(Wh.1 g.hl).1;have a7:=(Wh.1 g.ht).1;have d3:=(Wh.1 g.hp).1;obtain⟨z,P⟩:∃z,z=(fF a m (bs n)).drew:=⟨_,A⟩;have X:∀e,e<a.heap.size->z.heap[e]?=a.heap[e]?:=λe L=>by rw[P];exact Wk a _ e L
 have f0:z.heap.size=a.heap.size+1:=by rw[P];show(a.heap.push _).size=_;simp
 have d4:z.heap[a.heap.size]?=C (VH #[.bool m,.string (bs n)] 253 (0,0)):=by rw[P];exact WS a _
 have a9:=o.get (w':=z) (X l b1) m n;rw[<-b4]at a9;have a0:=o.row m n;rw[<-b4]at a0;obtain⟨f2,w,e6,c7,a4,a5⟩:=zW (a:=z) (g.row.stay λf i=>X f (g.row.lt f i)) (a0.stay λf i=>X f (a0.lt i)) (by omega) 61;obtain⟨r,u,c1,rfl⟩:=c7.slice
 have Z:∀f,q.ownBlock=C f->∃T,a.heap[f]?=C (VH T 3 (0,0)):=λf i=>by obtain⟨T,h,_⟩:=g.row.blk f i;exact⟨T,h⟩
 have R:∀e,e<a.heap.size->q.ownBlock≠C e->w.heap[e]?=a.heap[e]?:=λe L d7=>by rw[a4.block e (by omega) (λd=>d7 d.symm),X e L]
 have b6:q.ownBlock≠C k:=λd=>by obtain⟨a6,h⟩:=Z _ d;rw[g.hl]at h;cases h
 have b7:q.ownBlock≠C x:=λd=>by obtain⟨a6,h⟩:=Z _ d;rw[g.ht]at h;cases h
 have e1:q.ownBlock≠C D:=λd=>by obtain⟨a6,h⟩:=Z _ d;rw[g.hp]at h;cases h
 have b9:q.ownBlock≠C y:=λd=>g.free _ d (VA A);have b8:q.ownBlock≠C l:=λd=>g.free _ d (VC (VA A));have q1:x≠k:=λd=>by have:=g.ht;rw[d,g.hl]at this;cases this
 have a3:y≠k:=λd=>by have:=o.tb;rw[d,g.hl]at this;cases this
 have e2:D≠k:=λd=>by have:=g.hp;rw[d,g.hl]at this;cases this
 obtain⟨d0,H,S,c8⟩:=o.mp;have c6:l≠k:=λd=>by rw[d,g.hl]at S;cases S
 have e3:x≠l:=λd=>by have:=g.ht;rw[d,S]at this;cases this
 have e4:D≠l:=λd=>by have:=g.hp;rw[d,S]at this;cases this
 have e5:=o.ne;have b5:=(R k d2 b6).trans g.hl;have W:(w.setCell ⟨k,0,I⟩ (.slice r u c1)).drew.heap[l]?=C (.map d0 H):=(ah c6).trans ((R l b1 b8).trans S);obtain⟨N,d5,c9⟩:=c8.del rL Fw W (Ng m n) 0 (g:=qB s m n I) jf (λe7 a2=>pv a2)
 have b0:∀f,(Value.slice r u c1).ownBlock=C f->f≠k/\f≠l:=λf i=>by
  rcases a5 f i with h|h
  .exact⟨λd=>b6 (d▸h),λd=>b8 (d▸h)⟩
  exact⟨by omega,by omega⟩
 have a8:∀e,e≠k->e≠l->(rX (w.setCell ⟨k,0,I⟩ (.slice r u c1)).drew l (.map N H)).heap[e]?=w.heap[e]?:=λe O U=>by rw[(U_ (o':=.map N H) W).2 e U];exact ah O
 have d6:=(U_ (o':=.map N H) W).1
 have d9:∀t v f,rowOf ((qB s m n I (spot t v)).getD mc)=C f->rowOf ((s (spot t v)).getD mc)=C f/\¬(t=m/\v=n):=λt v f i=>by
  by_cases d:t=m/\v=n
  .rw[d.1,d.2,jf]at i;cases i
  rw[je d]at i;exact⟨i,d⟩
 have a1:∀e,ey y l (qB s m n I) e->ey y l s e:=λe L=>by
  rcases L with h|h|⟨t,v,h⟩
  .exact VA h
  .exact VC (VA h)
  exact VC (VC ⟨t,v,(d9 t v e h).1⟩)
 have Q:∀e,e<a.heap.size->e≠k->e≠l->q.ownBlock≠C e->(rX (w.setCell ⟨k,0,I⟩ (.slice r u c1)).drew l (.map N H)).heap[e]?=a.heap[e]?:=λe O U p d1=>(a8 e U p).trans (R e O d1)
 have e0:(rX (w.setCell ⟨k,0,I⟩ (.slice r u c1)).drew l (.map N H)).heap.size=w.heap.size:=by show((w.setCell ⟨k,0,I⟩ (.slice r u c1)).heap.setIfInBounds l _).size=_;rw[WQ,aI]
 have e8:=a4.size;refine Ih g.hp g.hl g.ht o.tb (by rw[<-P];exact a9) (by rw[<-P];exact e6) b5 ((R x a7 b7).trans g.ht) ((R y b3 b9).trans o.tb) ?_ q1 a3 (by omega) ⟨_,d5,(.slice r u c1),qB s m n I,⟨?_,(Q D d3 e2 e4 e1).trans g.hp,?_,(Q x a7 q1 e3 b7).trans g.ht,?_,?_⟩,?_,?_,a1,Q⟩
 .rw[a4.block _ (by omega) (λd=>by have:=g.row.lt _ d.symm;omega)];exact d4
 .refine o.put (v:=I) ((Q y b3 a3 e5 b9).trans o.tb) d6 c9 (NC _) (λe L O U p=>?_) (λf i=>by cases i) VD.Pairwise.nil (λe7 a2=>by cases a2);refine Q e L (λd=>?_) O (λd=>g.free e d p);rcases p with p|p|⟨t,v,p⟩
  .exact a3 (p.symm.trans d)
  .exact O p
  obtain⟨T,h,_⟩:=o.zU p;rw[d,g.hl]at h;cases h
 .rw[(U_ (o':=.map N H) W).2 k (Xu c6)];show(w.setCell ⟨k,0,I⟩ (.slice r u c1)).heap[k]?=_;have:=aB (l:=0) (g:=.slice r u c1) b5;simpa using this
 .rw[WI];exact c7.stay λf i=>a8 f (b0 f i).1 (b0 f i).2
 .intro f i b2;rcases a5 f i with h|h
  .exact g.free f h (a1 f b2)
  have:=o.lt (a1 f b2);omega
 .rw[e0];omega
 intro f i;rcases a5 f i with h|h
 .exact VA h
 exact VC (by omega)
abbrev sK(a:K)(d:E)(y:VX):K:=((a.alloc (.cells #[pt d 0] 95)).alloc (.cells #[.string y] 9)).alloc (.cells #[VG I 0 0] 61)
def pG(h:E)(c:Vx->K->Prop)(a:K):Prop:=∃b e d,a.cell? ⟨h,0,I⟩=C (.slice b e d)/\Calls TP 62 #[.slice b e d] a λf l=>f=VN (.tuple #[])/\l.cell? ⟨h,0,I⟩=C (.slice b e d)/\Calls TP 181 #[.slice b e d] l λf m=>∃g k i,f=VN (.slice g k i)/\c (.slice g k i) m
abbrev Cw(b:E)(e:VI)(a:K)(c:K->Prop):Prop:=Calls TP 180 #[.bool e,pt (b+1) 0,pt (b+1+1) 0,pt b 0] a λd f=>d=VN (.tuple #[])/\c f
def tM(c:Vx->K->Prop)(e:Ending)(f:K):Prop:=∃a d b,e=VN (.slice a d b)/\c (.slice a d b) f
section
variable{d:E}{b:VB}{y:VX}{c:Vx->K->Prop}{e f:K->Prop}
theorem Ii(w:(b !=4)=J)(x:(b==4)=Vz)(v:(b==2)=Vz)
 (h:Cw a.heap.size Vz (sK a d y) e)(k:∀m,e m->pG (a.heap.size+1+1) c m):
 Calls TP 150 #[pt d 0,Vy M b,.string y] a (tM c):=by
 have HC:=VF h;have o:=VF k;clear h k;go_enter Tryz.func150,Tryz.ntmps150
 go_wp2_with (first
  |(go_at_call 180;refine HC.out.mono ?_;rintro f r⟨rfl,g⟩;obtain⟨s,H,u,z,l⟩:=o.out r g;have p:=VF l;clear l g)
  |(go_at_call 62;refine p.out.mono ?_;rintro f N⟨rfl,D,i⟩;have n:=VF i;clear i)
  |(go_at_call 181;refine n.out.mono ?_;rintro f O⟨t,L,c3,rfl,q⟩))
 go_ret;exact⟨_,_,_,A,q⟩
theorem Ij(H:(b !=4)=J)(L:(b==4)=Vz)(D:(b==2)=J)
 (k:Cw a.heap.size Vz (sK a d y) e)(l:∀h,e h->Cw a.heap.size J h f)(n:∀h,f h->pG (a.heap.size+1+1) c h):
 Calls TP 150 #[pt d 0,Vy M b,.string y] a (tM c):=by
 have HC:=VF k;have q:=VF l;have s:=VF n;clear k n l;go_enter Tryz.func150,Tryz.ntmps150
 go_wp2_with (first
  |(go_at_call 180;refine(q.out _ t.out).mono ?_;rintro i p⟨rfl,g⟩;obtain⟨w,P,z,N,o⟩:=s.out p g;have u:=VF o;clear o g)
  |(go_at_call 180;refine HC.out.mono ?_;rintro i p⟨rfl,g⟩;have t:=VF g;clear g)
  |(go_at_call 62;refine u.out.mono ?_;rintro i R⟨rfl,O,m⟩;have r:=VF m;clear m)
  |(go_at_call 181;refine r.out.mono ?_;rintro i S⟨x,Q,c3,rfl,v⟩))
 go_ret;exact⟨_,_,_,A,v⟩
theorem Ik(v:(b !=4)=Vz)(w:(b==4)=J)
 (h:Cw a.heap.size J (sK a d y) e)(k:∀m,e m->pG (a.heap.size+1+1) c m):
 Calls TP 150 #[pt d 0,Vy M b,.string y] a (tM c):=by
 have HC:=VF h;have o:=VF k;clear h k;go_enter Tryz.func150,Tryz.ntmps150
 go_wp2_with (first
  |(go_at_call 180;refine HC.out.mono ?_;rintro f r⟨rfl,g⟩;obtain⟨s,D,u,x,l⟩:=o.out r g;have p:=VF l;clear l g)
  |(go_at_call 62;refine p.out.mono ?_;rintro f L⟨rfl,z,i⟩;have n:=VF i;clear i)
  |(go_at_call 181;refine n.out.mono ?_;rintro f N⟨t,H,c3,rfl,q⟩))
 go_ret;exact⟨_,_,_,A,q⟩
end
theorem pQ{d:VE VB}(hd:∀j i,j<=i->i<d.size->d[j]!<=d[i]!):∀a,a<=d.size->(∀e,e∈compactUpTo d a↔∃j,j<a/\d[j]! =e)/\qV (compactUpTo d a)
 |0,_=>⟨λe=>by simp[compactUpTo],by simp[compactUpTo,qV]⟩
 |a+1,s=>by
  obtain⟨g,k⟩:=pQ hd a (by omega);rw[compactUpTo_succ];by_cases b:keeps d a=J
  .rw[VV b];refine⟨λe=>?_,V_.2 ⟨k,by simp,λn o p l=>?_⟩⟩
   .rw[WL,g];constructor
    .rintro(⟨j,f,c⟩|m)
     .exact⟨j,by omega,c⟩
     simp at m;exact⟨a,by omega,m.symm⟩
    rintro⟨j,f,c⟩;by_cases h:j<a
    .exact VA ⟨j,h,c⟩
    obtain rfl:j=a:=by omega
    exact VC (by simp[c])
   simp at l;subst l;obtain⟨j,f,rfl⟩:=(g n).1 o;have q:=hd j (a-1) (by omega) (by omega);have r:=hd (a-1) a (by omega) (by omega);unfold keeps at b;simp only[Xs]at b;rcases b with b|b
   .omega
   omega
  rw[VK b,Yp];refine⟨λe=>?_,k⟩;rw[g];constructor
  .rintro⟨j,f,c⟩;exact⟨j,by omega,c⟩
  rintro⟨j,f,c⟩;by_cases h:j<a
  .exact⟨j,h,c⟩
  obtain rfl:j=a:=by omega
  unfold keeps at b;simp only[Xs,not_or,Decidable.not_not,ne_eq]at b;exact⟨j-1,by omega,by rw[<-b.2];exact c⟩
theorem uJ(b:VD VB):(∀a,a∈compact (b.mergeSort λa d=>decide (a<=d))↔a∈b)/\qV (compact (b.mergeSort λa d=>decide (a<=d))):=by
 have n:(b.mergeSort λa d=>decide (a<=d)).Pairwise (λf g=>decide (f<=g)=J):=VD.pairwise_mergeSort (λf g s i k=>by simp at i k⊢;omega) (λf g=>by simp;omega) b;obtain⟨ms,m⟩:∃ms,ms=b.mergeSort λa d=>decide (a<=d):=⟨_,A⟩;have q:∀a,a∈ms↔a∈b:=λa=>by rw[m];exact VD.mem_mergeSort
 rw[<-m]at n⊢
 unfold compact
 have hd:∀j c,j<=c->c<ms.toArray.size->ms.toArray[j]!<=ms.toArray[c]!:=λj c o l=>by
  have p:c<ms.length:=by simpa using l
  rw[ZW ms.toArray j (by simp;omega),ZW ms.toArray c l];rcases E.lt_or_eq_of_le o with h|h
  .have:=g_.1 n j c (by omega) p h;simpa using this
  subst h;exact Int.le_refl _
 obtain⟨i,k⟩:=pQ hd ms.length (by simp);refine⟨λa=>?_,k⟩;rw[i,<-q];constructor
 .rintro⟨j,e,rfl⟩;rw[ZW ms.toArray j (by simpa using e)];simp
 intro r;obtain⟨j,e,rfl⟩:=XM.1 r;exact⟨j,e,by rw[ZW ms.toArray j (by simpa using e)];simp⟩
def FJ(h:E)(a:K)(f:Vx)(b:VD VB):Prop:=(b=[]/\∃g c,f=.slice g 0 c)\/∃d c e,f=VG (C ⟨d,0,I⟩) b.length c/\h<=d/\a.heap[d]?=C (VH e 3 (0,0))/\e.toList.take b.length=b.map i64
def lO(bR:VI->B->VD VB)(d:VB)(b:B):VI->B->VD VB:=λa c=>if ir d a=J/\c=b then[]else bR a c
def qS(bR:VI->B->VD VB)(a:VB)(b:B):VD VB:=(if ir a J then bR J b else[]).foldr dI (if ir a Vz then bR Vz b else[])
def Ak(bR:VI->B->VD VB)(c d:E)(e:Vx->VL Vx)(l:VB)(b:B)(a:K)(m:Ending)(h:K):Prop:=∃f k i g,m=VN (.slice f k i)/\dM (lO bR l b) c d g h/\FJ a.heap.size h (.slice f k i) (qS bR l b)/\aJ (ey c d e) (ey c d g) a h/\∀f,ey c d g f->ey c d e f
section
variable{bR:VI->B->VD VB}{c d:E}{e:Vx->VL Vx}{f:K}{b:B}
theorem LA{a0 o a1:E}{O:Vx}{k l:VD VB}{Z:E}(i:oA bR c d e a0 o a1 b O k a)(d0:k.length<2^30)(b5:∀g,O.ownBlock=C g->Z<=g)(a9:qV l)(R:∀n,n∈l↔n∈k):
 pG o (λc0 r=>dM bR c d e r/\FJ Z r c0 l/\a.heap.size<=r.heap.size/\∀f,f<a.heap.size->O.ownBlock≠C f->r.heap[f]?=a.heap[f]?) a:=by
 have b2:=(Wh.1 i.hl).1;rcases i.row.2 with⟨rfl,a3⟩|⟨g,y,p,rfl,s,a4,c7,a5,P,c8⟩
 .have a8:k=[]:=XF a3;have b0:l=[]:=by
   cases l with
   |nil=>rfl
   |cons n l=>have:=(R n).1 (by simp);rw[a8]at this;cases this
  refine⟨I,0,0,aa i.hl 0 A,(Tryz.slices_Sort_int_none I 0 a).mono λh r⟨z,Y⟩=>⟨z,by rw[Y];exact aa i.hl 0 A,(Tryz.slices_Compact_int_empty I 0 r).mono λa2 x⟨D,q⟩=>⟨I,0,0,D,?_⟩⟩⟩;rw[q,Y];exact⟨i.tab,VA ⟨b0,I,0,A⟩,Wl _,λ_ _ _=>rfl⟩
 have Aj:=(Wh.1 s).1;have b4:o≠g:=λh=>by rw[<-h,i.hl]at s;cases s
 rw[E.mul_one]at a5 P;have a6:=holds_of_blockI s P;obtain⟨ms,L⟩:∃ms,ms=k.mergeSort λn c6=>decide (n<=c6):=⟨_,A⟩;have X:ms.length=k.length:=by rw[L,VD.length_mergeSort]
 have c9:k.length<=y:=a4;obtain⟨c1,c2⟩:=uJ k;rw[<-L]at c1 c2;have Q:l=compact ms:=GC a9 c2 λn=>by rw[R,c1]
 refine⟨_,_,_,aa i.hl 0 A,(Tryz.slices_Sort_int g 0 y k a a6 Aj (by omega)).mono λh t⟨z,d1,d2,w⟩=>⟨z,?_,?_⟩⟩
 .have:t.heap[o]?=a.heap[o]?:=by
   rw[w];exact(N' _).block o b2 (λh=>b4 (Xa h))
  exact aa (this.trans i.hl) 0 A
 rw[<-L]at w;have S:t.heap[g]?=C (VH (putCells (Vx.int M) 0 ms.toArray p) 3 (0,0)):=by rw[w];exact heap_sortedI _ s
 have b6:=take_putCellsI p ms (by omega);have a7:=holds_of_blockI S b6;have H:a.grownBy t (C g):=by rw[w];exact N' _
 have T:=Tryz.slices_Compact_int g 0 y ms t a7 (by omega) (by omega);rw[X]at T;refine T.mono λa2 x⟨D,d3,q⟩=>⟨_,_,_,D,?_⟩;rw[<-X]at q;obtain⟨u,N⟩:∃u,u=compact ms++List.replicate (ms.length-(compact ms).length) 0:=⟨_,A⟩;rw[<-N,<-grow_empty (putRow _ _ _ _ _)]at q;have b3:=compact_length_le ms;have b9:u.length=ms.length:=by rw[N];simp;omega
 have b1:x.heap[g]?=C (VH (putCells (Vx.int M) 0 u.toArray (putCells (Vx.int M) 0 ms.toArray p)) 3 (0,0)):=by rw[q];exact heap_sortedI _ S
 have U:t.grownBy x (C g):=by rw[q];exact N' _
 have b8:(putCells (Vx.int M) 0 ms.toArray p).size=p.size:=by simp[putCells]
 have b7:=take_putCellsI (putCells (Vx.int M) 0 ms.toArray p) u (by rw[b8];omega)
 have W:∀f,f<a.heap.size->g≠f->x.heap[f]?=a.heap[f]?:=λf m v=>by rw[U.block f (Ws m H.size) (λh=>v (Xa h).symm),H.block f m (λh=>v (Xa h).symm)]
 refine⟨i.tab.stay λf m=>W f (i.tab.lt m) (λh=>i.free g A (h▸m)),VC ⟨g,_,_,by rw[Q],b5 g A,b1,?_⟩,Wu H.size U.size,λf m v=>W f m (λh=>v (by rw[h];rfl))⟩;rw[Q];have:=VU (List.take (compact ms).length) b7;rw[YZ,b9,Zk b3]at this;rw[this,N,YQ,Yz (by simp)]
theorem sA{a:VB}{c:VB}:c∈qS bR a b↔(ir a J=J/\c∈bR J b)\/(ir a Vz=J/\c∈bR Vz b):=by unfold qS;rw[mL];by_cases d:ir a J=J<;>by_cases e:ir a Vz=J<;>simp[d,e]
theorem JH(f:dM bR c d e a)(g:VB):qV (qS bR g b):=by
 unfold qS;refine mS ?_ _;split
 .exact f.wU _ _
 exact VD.Pairwise.nil
theorem DF(i:dM bR c d e a):oA bR c d e (a.heap.size+1) (a.heap.size+1+1) a.heap.size b (VG I 0 0) [] (sK a c (bs b)):=by
 have l:∀g,g<a.heap.size->(sK a c (bs b)).heap[g]?=a.heap[g]?:=λg h=>qx _ _ _ _ h;refine⟨i.stay λg h=>l g (i.lt h),?_,?_,?_,bV.nil _ _ _ _,λm k=>by cases k⟩
 .rw[Wk _ _ _ (by simp)];exact vq _ _ _
 .have:=vq (a.alloc (.cells #[pt c 0] 95)) (.cells #[.string (bs b)] 9) (.cells #[VG I 0 0] 61);simpa using this
 rw[Wk _ _ _ (by simp;omega)];exact Mo _ _ _
theorem QM(L:dM bR c d e a)(m:VB)(b:B):Calls TP 150 #[pt c 0,Vy M m,.string (bs b)] a (Ak bR c d e m b a):=by
 have U:=DF L (b:=b);have c8:(sK a c (bs b)).heap.size=a.heap.size+3:=by simp
 have b7:∀f,f<a.heap.size->(sK a c (bs b)).heap[f]?=a.heap[f]?:=λf z=>qx _ _ _ _ z;have c7:=L.lt (VC (VA A));have P:∀i,(bR i b).length<2^28:=λi=>rU (L.wU i b) (L.nums i b)
 have one:∀(x:VI->B->VD VB)(v:Vx->VL Vx)(H:Vx)(s:VD VB)(h:K)(i:VI),oA x c d v (a.heap.size+1) (a.heap.size+1+1) a.heap.size b H s h->s.length<2^29->(∀n,H.ownBlock=C n->a.heap.size<=n)->a.heap.size+3<=h.heap.size->(∀f,f<a.heap.size->f≠d->h.heap[f]?=a.heap[f]?)->(∀f,ey c d v f->ey c d e f)->
  Cw a.heap.size i h λk=>∃q g,oA (eT x i b []) c d g (a.heap.size+1) (a.heap.size+1+1) a.heap.size b q (s++x i b) k/\(∀n,q.ownBlock=C n->a.heap.size<=n)/\a.heap.size+3<=k.heap.size/\(∀f,f<a.heap.size->f≠d->k.heap[f]?=a.heap[f]?)/\(∀f,ey c d g f->ey c d e f):=λx v H s h i W Y Q b8 a1 T=>by
  refine(Oq W Y i).mono λr k⟨O,q,g,o,l,p,t,u⟩=>⟨O,q,g,o,λn D=>?_,by omega,λf z S=>?_,λf z=>T f (t f z)⟩
  .rcases p n D with w|w
   .exact Q n w
   omega
  rw[u f (by omega) (by omega) S (λr=>by have:=Q f r;omega)];exact a1 f z S
 have last:∀(x:VI->B->VD VB)(v:Vx->VL Vx)(H:Vx)(s:VD VB)(h:K),oA x c d v (a.heap.size+1) (a.heap.size+1+1) a.heap.size b H s h->s.length<2^30->(∀n,H.ownBlock=C n->a.heap.size<=n)->a.heap.size+3<=h.heap.size->(∀f,f<a.heap.size->f≠d->h.heap[f]?=a.heap[f]?)->(∀f,ey c d v f->ey c d e f)->x=lO bR m b->(∀R,R∈qS bR m b↔R∈s)->
  pG (a.heap.size+1+1) (λa3 k=>∃g,dM (lO bR m b) c d g k/\FJ a.heap.size k a3 (qS bR m b)/\aJ (ey c d e) (ey c d g) a k/\∀f,ey c d g f->ey c d e f) h:=λx v H s h W Y Q b8 a1 T c0 S=>by
  obtain⟨f,a2,X,b2,b9⟩:=LA W Y Q (JH L m) S;refine⟨f,a2,X,b2,b9.mono λr a8⟨O,b3,b4⟩=>⟨O,b3,b4.mono λa6 c9⟨a9,c6,b0,b5,o,l,p,t⟩=>⟨a9,c6,b0,b5,v,by rw[<-c0];exact o,l,⟨by omega,λN Z b6=>?_,λN Z=>VA (T N Z)⟩,T⟩⟩⟩;rw[t N (by omega) (λr=>by have:=Q N r;omega)];exact a1 N Z (λr=>b6 (VC (VA r)))
 have fin:∀r k,tM (λa3 k=>∃g,dM (lO bR m b) c d g k/\FJ a.heap.size k a3 (qS bR m b)/\aJ (ey c d e) (ey c d g) a k/\∀f,ey c d g f->ey c d e f) r k->Ak bR c d e m b a r k:=λr k⟨f,a2,X,O,g,o,l,p⟩=>⟨f,a2,X,g,O,o,l,p⟩;have a0:∀f,f<a.heap.size->f≠d->(sK a c (bs b)).heap[f]?=a.heap[f]?:=λf z _=>b7 f z;by_cases t:m=4
 ·
  subst t;refine(Ik (by decide) (by decide) (one bR e _ [] _ J U (by decide) (λn D=>by cases D) (by omega) a0 (λf w=>w)) λh⟨q,g,o,l,p,u,y⟩=>last _ g q _ h o (by have:=P J;simp;omega) l p u y ?_ (λR=>?_)).mono fin
  .funext i a7
   unfold eT lO ir;cases i<;>simp
  rw[sA];simp[ir]
 have a4:(m !=4)=J:=by simp[t]
 have a5:(m==4)=Vz:=by simp[t]
 by_cases l:m=2
 .subst l;refine(Ij a4 a5 (by decide) (one bR e _ [] _ Vz U (by decide) (λn D=>by cases D) (by omega) a0 (λf w=>w)) (λh⟨q,g,o,l,p,u,y⟩=>one _ g q _ h J o (by have:=P Vz;simp;omega) l p u y) λa8⟨q,g,o,l,p,u,y⟩=>last _ g q _ a8 o (by have:=P Vz;have:=P J;simp[eT];omega) l p u y ?_ (λR=>?_)).mono fin
  .funext i a7
   unfold eT lO ir;cases i<;>simp
  rw[sA];simp[ir,eT];exact or_comm
 have a6:(m==2)=Vz:=by simp[l]
 refine(Ii a4 a5 a6 (one bR e _ [] _ Vz U (by decide) (λn D=>by cases D) (by omega) a0 (λf w=>w)) λh⟨q,g,o,b1,p,u,y⟩=>last _ g q _ h o (by have:=P Vz;simp;omega) b1 p u y ?_ (λR=>?_)).mono fin
 .funext i a7
  unfold eT lO ir;cases i<;>simp[t,l]
 rw[sA];simp[ir,t,l]
end
variable{c:K}{h:E}{n:Vx}{d:E}
structure Kt(a:K)(Q b:E)(f e i:VX)(r g s:VB):Prop where
 ne:Q≠b
 p0:a.cell? ⟨b,0,I⟩=C (Vy M 5)
 p1:a.cell? ⟨b,1,I⟩=C (.string f)
 p2:a.cell? ⟨b,2,I⟩=C (.string e)
 n1:a.cell? ⟨Q,1,I⟩=C (.string i)
 n3:a.cell? ⟨Q,3,I⟩=C (Vy M r)
 n4:a.cell? ⟨Q,4,I⟩=C (Vy M g)
 n7:a.cell? ⟨Q,7,I⟩=C (Vy M s)
 f1:a.frozen? ⟨Q,1,I⟩=Vz
 f3:a.frozen? ⟨Q,3,I⟩=Vz
 f4:a.frozen? ⟨Q,4,I⟩=Vz
 f7:a.frozen? ⟨Q,7,I⟩=Vz
abbrev setW(a:K)(Q:E)(e:VX)(aE aF:VB):K:=(((a.setCell ⟨Q,1,I⟩ (.string e)).setCell ⟨Q,3,I⟩ (Vy M aE)).setCell ⟨Q,4,I⟩ (Vy M (aF+1))).setCell ⟨Q,7,I⟩ (Vy M e.size)
theorem tQ{d:E}(a:c.cell? ⟨h,d,I⟩=C n):h<c.heap.size:=by
 unfold K.cell? at a;cases b:c.heap[h]? with
 |none=>simp[b]at a
 |some _=>exact(Wh.1 b).1
theorem Aw{b:E}(a:h≠d):(c.setCell ⟨h,b,I⟩ n).cell? ⟨d,m,I⟩=c.cell? ⟨d,m,I⟩:=by unfold K.cell?;rw[ah (Xu a)]
def PN(f e:VX)(aE g:VB)(Q:E)(k:K->K->Prop)(c:K)(h:Ending)(i:K):Prop:=∃a b,c.heap.size<=a.heap.size/\(∀d,d<c.heap.size->a.heap[d]?=c.heap[d]?)/\k a b/\h=VN (.tuple #[.string f,VG (C ⟨b.heap.size,0,I⟩) 1 1,.nilIface])/\i=(setW b Q e aE g).alloc (.cells #[Vy M 3,.string f] 269)
section
variable{q aF l aE g p:VB}{f e:VX}{o:E}{k:K->K->Prop}
theorem KY(c8:¬16<(e.size:VB))(T:dA c N (gG 5 f e aF l) f J o (pt Q 0))(H:CU c Q u g p)(w:(aF !=-1)=Vz\/(aF !=-1)=J/\(aF !=g)=Vz)(c9:0<=g/\g<2^62)
 (L:∀a:K,(∀d,d<c.heap.size->a.heap[d]?=c.heap[d]?)->c.heap.size<=a.heap.size->Calls TP 157 #[pt N 0,pt Q 0] a λq U=>q=VN (.tuple #[])/\(c.heap.size<a.heap.size->a.heap[c.heap.size]?=C (VH (gG 5 f e aF l) 28 (0,0))->∃W X Y,Kt U Q c.heap.size f e W X g Y)/\k a U):
 Calls TP 113 #[pt N 0,.agg (gG 5 f e aF l),Vy M al,Vy M aE] c (PN f e aE g Q k c):=by
 rcases w with w|⟨w,d1⟩
 all_goals
  have y:=VF T;have b:=VF H;have Z:=VF L;unfold dA at y;clear T H L;go_enter Tryz.func113,Tryz.ntmps113
  go_wp2_with (first
   |(go_at_call 95;refine y.out.mono ?_;rintro q x⟨d,c7,rfl,h,P⟩;have i:=cT h;have b8:=aa i 0 A;have b9:=aa i 1 A;have c0:=aa i 2 A;have c6:=aa i 3 A;have c4:=cf (bH h Q b.out.lt) b.out.aF;have a2:=cf (bH h Q b.out.lt) b.out.mp;have b5:=b.out.lens h;have a1:=VF (P A);have n:=VF h;have z:=VF i;clear h i P)
   |(go_at_call 96;refine a1.out.mono ?_;rintro q a⟨rfl,rfl⟩))
  go_quiet (fail)
  have b4:=VF (Z.out (x.drewN nq) (λd v=>bH n.out d v) (bd n.out).size);have d2:Q≠c.heap.size:=by have:=b.out.lt;omega
  have b6:c.heap.size<x.heap.size:=(Wh.1 z.out).1
  go_upto_region 24 with(go_at_call 157;refine b4.out.mono ?_;rintro q m⟨rfl,R,O⟩;obtain⟨W,X,Y,b3⟩:=R b6 z.out;obtain⟨r,a3,s,a6,a7,a8,a9,b0,b1,b2,a4,a5⟩:=b3;have a0:=VF O;clear R O c4 a2 b5 b8 b9 c0 c6)
  go_upto_region 25 with fail
  go_upto_region 26 with fail
  go_upto_region 27 with fail
  go_upto_region 28 with fail
  have S:=tQ s
  have b7:((setW m Q e aE g).alloc (.cells #[Vy M 3,.string f] 269)).cell? ⟨c.heap.size,1,I⟩=C (.string f):=by rw[WZ _ _ _ (by simp only[aI];exact S),setW,Aw r,Aw r,Aw r,Aw r];exact s
  have d0:(setW m Q e aE g).heap.size=m.heap.size:=by simp only[aI]
  clear a3 a6 a7 a8 a9 b0 b1 b2 a4 a5
  go_upto_region 29 with fail
  obtain⟨D,t⟩:∃D,((setW m Q e aE g).alloc (.cells #[Vy M 3,.string f] 269))=D:=⟨_,A⟩;rw[t]at b7;clear s S;unfold setW at t
  go_wp2
  go_ret3;exact⟨x.drewN nq,m,(bd n.out).size,λd v=>bH n.out d v,a0.out,A,t.symm⟩
end
variable{d:Tree}{a:Path}
section
variable{b f:Path->E}{g:VD Un}
theorem QB(t:bS d b f c)(m:WF d)(n:c.cell? ⟨N,0,I⟩=C (pt (b []) 0))(k:VE Vx)(i:VX){s:VB}(p:c.cell? ⟨1,0,I⟩=C (Vy M s))(z:i.size<2^31)(r:Wt.split i.data.toList=C a):
 dA c N k i J a.length (gP (if(Wt.find d a).isSome then C (b a)else I)):=by
 have v:=tQ p;have H:=tQ n;obtain⟨R,x,_⟩:=m.root;refine(nH i s (c.alloc (.cells k 28)) z (by rw[WZ _ _ _ v];exact p)).mono ?_;intro O T l;unfold cF at l;rw[r]at l;obtain⟨h,S,rfl,q⟩:=l;have D:(c.alloc (.cells k 28)).heap.size=c.heap.size+1:=by simp
 rw[D]at h;have y:=q.row;have o:=
  yY (t.old λu w=>by rw[h.block u (by omega)];exact Wk _ _ _ w).Ux (by
   rw[h.cell (p:=⟨N,0,I⟩) (by show N<_;omega),WZ _ _ _ H]
   exact n) (by rw[x];rfl) m.up y (by have:=sb r;omega)
 rcases q with⟨rfl,rfl⟩|⟨L,rfl,Q,_,P⟩
 .exact⟨I,0,A,h,λ_=>o⟩
 exact⟨_,_,A,h,λ_=>o⟩
theorem Od(b:VE Vx)(a:VX){h:VB}(g:c.cell? ⟨1,0,I⟩=C (Vy M h))(m:a.size<2^31)(l:Wt.split a.data.toList=I)(i:Vx):dA c N b a Vz 0 i:=by
 have k:=tQ g;refine(nH a h (c.alloc (.cells b 28)) m (by rw[WZ _ _ _ k];exact g)).mono ?_;intro e o d;unfold cF at d;rw[l]at d;obtain⟨f,rfl⟩:=d;have n:(c.alloc (.cells b 28)).heap.size=c.heap.size+1:=by simp
 rw[n]at f;exact⟨I,0,A,f,λe=>by cases e⟩
theorem SG(i:bS d b f c)(k:WF d){e:Nd}(g:Wt.find d a=C e):CU c (b a) (f a) e.stat.aF e.stat.kids:=by
 have h:=i.nd a e g;obtain⟨o,n,l,m⟩:=i.kd a e g;refine⟨(Wh.1 h).1,aa h 4 A,aa h 11 A,λr p=>?_⟩;have q:r.heap[f a]?=C (.map o n):=by rw[p _ (Wh.1 l).1];exact l
 have:=EW q 3;rw[xM m k,<-k.kids a e g]at this;exact this
theorem OY(b:a≠[]):∃d c,a=d++[c]:=⟨a.dropLast,a.getLast b,(ZQ b).symm⟩
theorem KO(h:pF d b f N g c){k:E}{p:VE Vx}(a:c.heap[k]?=C (VH p 28 (0,0))):¬nP d b f N k/\¬vF c N k:=by
 obtain⟨H,D,n,s,x⟩:=h.top;refine⟨?_,?_⟩
 .rintro(e|⟨o,m,e|e⟩)
  .rw[e,n]at a;cases a
  .obtain⟨t,i⟩:=Wn.1 m;rw[e,h.kS.nd _ _ i]at a;cases a
  obtain⟨t,i⟩:=Wn.1 m;obtain⟨w,v,r,_⟩:=h.kS.kd _ _ i;rw[e,r]at a;cases a
 rintro⟨y,z,L,l,q⟩;rw[n]at l;cases l;obtain⟨u,o,_⟩:=s.blk _ q;rw[o]at a;cases a
theorem Tv(U:pF d b f N g c)(a5:WF d){n:Nd}(P:Wt.find d a=C n)(e8:g.length<2^18){m:Wt.Op}(c7:m.kind=5)(aE:VB):
 Calls TP 157 #[pt N 0,pt (b a) 0] c λh e=>h=VN (.tuple #[])/\(∀L,c.heap[L]?=C (VH (tG m) 28 (0,0))->∃e0 e1 e2,Kt e (b a) L (bs m.path) (bs m.data) e0 e1 n.stat.aF e2)/\
  ∃d7,pF (Wt.put d a (gA n m aE)) b f N (g++[d7]) (setW e (b a) (bs m.data) aE n.stat.aF)/\xm N d b f (Wt.put d a (gA n m aE)) b f c (setW e (b a) (bs m.data) aE n.stat.aF):=by
 obtain⟨T,d8,u,z,b0⟩:=U.top;have e7:=b0.len;have x:=U.kS;have q:=x.nd a n P;have a0:(Wt.find d a).isSome=J:=by rw[P];rfl
 have d0:=x.lt a0;refine(Ad u z (by omega) q).mono ?_;rintro h a4⟨b7,e6,X,d9,b4,s,t,W,b6⟩;have a1:∀k,T.ownBlock=C k->vF c N k:=λk l=>⟨_,_,_,u,l⟩;have b3:b a≠N:=λh=>by rw[h,u]at q;cases q
 have d6:T.ownBlock≠C (b a):=λh=>by obtain⟨r,i,_⟩:=z.blk _ h;rw[q]at i;cases i
 have o:=(X _ d0.1 b3 d6).trans q;obtain⟨w,H⟩:∃w,w=setW a4 (b a) (bs m.data) aE n.stat.aF:=⟨_,A⟩
 have S:∀k,k≠b a->w.heap[k]?=a4.heap[k]?:=λk l=>by rw[H,setW,ah l,ah l,ah l,ah l]
 have f1:w.heap.size=a4.heap.size:=by rw[H];simp only[aI]
 have d1:w.heap[b a]?=C (VH (cV a (gA n m aE) (b a.dropLast) (f a)) 192 (0,0)):=by rw[H];have:=aB (l:=7) (g:=Vy M (bs m.data).size) (aB (l:=4) (g:=Vy M (n.stat.aF+1)) (aB (l:=3) (g:=Vy M aE) (aB (l:=1) (g:=.string (bs m.data)) o)));rw[setW,this];simp[cV,gA,cS]
 have a8:∀i,Wt.find (Wt.put d a (gA n m aE)) i=if i=a then C (gA n m aE)else Wt.find d i:=λi=>bu a5.ord
 have c6:∀i,(Wt.find (Wt.put d a (gA n m aE)) i).isSome=(Wt.find d i).isSome:=λi=>by
  rw[a8];split
  .rename_i h;rw[h,P];rfl
  rfl
 have d3:∀k,nP (Wt.put d a (gA n m aE)) b f N k->nP d b f N k:=λk p=>by
  rcases p with p|⟨i,y,p⟩
  .exact VA p
  exact VC ⟨i,by rw[<-c6 i];exact y,p⟩
 have O:=λk l s t W=>(S k t).trans (X k l s W)
 have d4:∀i,(Wt.find d i).isSome=J->T.ownBlock≠C (b i)/\T.ownBlock≠C (f i)/\b i≠N/\f i≠N:=λi y=>by
  obtain⟨f3,b1⟩:=Wn.1 y;obtain⟨e5,e4,Y,_⟩:=x.kd _ _ b1;have a2:=x.nd _ _ b1;refine⟨λh=>?_,λh=>?_,λh=>?_,λh=>?_⟩
  .obtain⟨r,i,_⟩:=z.blk _ h;rw[a2]at i;cases i
  .obtain⟨r,i,_⟩:=z.blk _ h;rw[Y]at i;cases i
  .rw[h,u]at a2;cases a2
  rw[h,u]at Y;cases Y
 have c9:=x.upd P a8 d1 λk l s⟨i,y,t⟩=>by
  have R:=d4 i y;rcases t with rfl|rfl
  .exact O _ l R.2.2.1 s R.1
  exact O _ l R.2.2.2 s R.2.1
 have a7:=(S N (Xu b3)).trans s;refine⟨b7,λL Q=>?_,.head (b a) (SZ a n),?_,?_⟩
 .obtain⟨b8,b9⟩:=KO U Q;have Z:=(X L (Wh.1 Q).1 (λh=>b8 (VA h)) (λh=>b9 (a1 _ h))).trans Q;have d2:b a≠L:=λh=>by rw[h,Q]at q;cases q
  refine⟨_,_,_,⟨d2,aa Z 0 ?_,aa Z 1 A,aa Z 2 A,aa o 1 A,aa o 3 A,aa o 4 A,aa o 7 A,frozenAt o 1,frozenAt o 3,frozenAt o 4,frozenAt o 7⟩⟩;show C (Vx.int M m.kind)=_;rw[c7]
 .rw[<-H];refine⟨c9,d9,d8++[b4],?_,?_,?_⟩
  .rw[bY a5.ord a0];exact a7
  .rw[WI];refine t.stay λb2 c8=>S b2 λh=>?_;obtain⟨r,i,_⟩:=t.blk b2 c8;rw[h,o]at i;cases i
  have d5:∀(k:E)(r:VE Vx)(v:VJ),c.heap[k]?=C (Obj.cells r v (0,0))->v=190\/v=187\/v=94->w.heap[k]?=c.heap[k]?:=λk r v l D=>by
   refine O k (Wh.1 l).1 (λh=>?_) (λh=>?_) (λh=>?_)
   .rw[h,u]at l;cases l;revert D;decide
   .rw[h,q]at l;cases l;revert D;decide
   obtain⟨e3,i,_⟩:=z.blk _ h;rw[i]at l;cases l;revert D;decide
  refine(b0.stay d5).app ⟨b6.stay λk r v l D=>S k λh=>?_,trivial⟩;rw[h,o]at l;cases l;revert D;decide
 rw[<-H];refine⟨by omega,λk l a6 b5=>?_,λk l=>VA (d3 k l),λk⟨e9,f0,f2,a9,c0⟩=>?_⟩
 .exact O k l (λh=>a6 (VA h)) (λh=>a6 (VC ⟨a,a0,VA h⟩)) (λh=>b5 (a1 k h))
 rw[a7]at a9;cases a9;rcases W k c0 with p|p
 .exact VA (a1 k p)
 exact VC p
theorem Lb(s:pF d b f N g c)(O:WF d)(a5:Qk d){h:Wt.Op}(b8:oE h){aE:VB}{e3:VB}(a7:c.cell? ⟨1,0,I⟩=C (Vy M e3))(e1:yB c)(d0:4<c.heap.size)(b0:g.length<2^18):
 Calls TP 113 #[pt N 0,.agg (tG h),Vy M al,Vy M aE] c (gI d b f N g c (Wt.change d h al aE)):=by
 by_cases a1:h.kind=3
 .have:=wy s O a5 b8 (al:=al) (aE:=aE) a7 e1 d0 b0 a1;unfold Wt.change;rw[VV a1];exact this
 obtain⟨f3,f2,a8,d8,e8⟩:=s.top;have c7:=aa a8 0 A;have b9:(bs h.path).size<2^31:=by rw[cS];have:=b8.path;omega
 have d7:(bs h.path).data.toList=h.path:=A;have T:=fi a1;unfold Wt.change;rw[VK a1];cases c6:Wt.split h.path with
 |none=>exact KZ T (Od _ _ a7 b9 (by exact c6) .nilIface)
 |some a=>
  simp only;have p:=QB (N:=N) s.kS O c7 (tG h) (bs h.path) a7 b9 (by rw[d7];exact c6);by_cases Z:h.kind=4/\a=[]
  .obtain⟨d1,rfl⟩:=Z;unfold tG at p⊢
   rw[d1]at p⊢
   exact Oe p
  rw[VK Z];by_cases a4:h.kind=5/\16<h.data.length
  .rw[VV a4];obtain⟨d2,Y⟩:=a4;unfold tG at p⊢
   rw[d2]at p⊢
   exact Oc p (by rw[cS];omega)
  rw[VK a4]
  have a0:h.kind=4->((a.length:VB)==0)=Vz:=λx=>fi (by
   have:=λi=>Z ⟨x,i⟩;have:=Zh.2 this
   omega)
  have Y:h.kind=5->¬16<((bs h.data).size:VB):=λx=>by rw[cS];omega
  cases D:Wt.find d a with
  |none=>
   rw[D]at p;by_cases o:h.kind=4
   .have:=a0 o;unfold tG at p⊢
    rw[o]at p⊢
    exact KV this p
   by_cases r:h.kind=5
   .have:=Y r;unfold tG at p⊢
    rw[r]at p⊢
    exact KW this p
   exact KX T (fi o) (fi r) p
  |some m=>
   rw[D]at p;simp only;have l:dA c N (tG h) (bs h.path) J a.length (pt (b a) 0):=p;have q:=SG s.kS O D;have d6:(Wt.find d a).isSome=J:=by rw[D];rfl
   by_cases U:h.aF≠-1/\h.aF≠m.stat.aF
   .rw[VV U];have n:=tP U.1;have v:=tP U.2;by_cases o:h.kind=4
    .have:=a0 o;unfold tG at l⊢
     rw[o]at l⊢
     exact Of this l q.lt q.aF n v
    by_cases r:h.kind=5
    .have:=Y r;unfold tG at l⊢
     rw[r]at l⊢
     exact Og this l q.lt q.aF n v
    exact Oh T (fi o) (fi r) l q.lt q.aF n v
   rw[VK U]
   have a3:(h.aF !=-1)=Vz\/((h.aF !=-1)=J/\(h.aF !=m.stat.aF)=Vz):=by
    by_cases i:h.aF=-1
    .exact VA (yH i)
    exact VC ⟨tP i,yH (Classical.byContradiction λx=>U ⟨i,x⟩)⟩
   by_cases a2:h.kind=4/\0<m.stat.kids
   .rw[VV a2];obtain⟨o,W⟩:=a2;have:=a0 o;unfold tG at l⊢
    rw[o]at l⊢
    rcases a3 with n|⟨n,v⟩
    .exact FN this l q (VA n) W
    exact FN this l q (VC ⟨n,v⟩) W
   rw[VK a2];by_cases o:h.kind=4
   ·
    have W:=λx=>a2 ⟨o,x⟩;have e2:m.stat.kids=0:=by have:=O.kids a m D;omega
    obtain⟨t,S,rfl⟩:=OY λi=>Z ⟨o,i⟩;obtain⟨b2,a9⟩:=Wn.1 (O.up (t++[S]) (by simp) d6);rw[Zd]at a9
    have P:∀k:K,(∀u,u<c.heap.size->k.heap[u]?=c.heap[u]?)->c.heap.size<k.heap.size->Calls TP 153 #[pt N 0,pt (b (t++[S])) 0] k λi e=>∃w,i=VN (VG (C ⟨w,0,I⟩) 2 2)/\k.heap.size<=w/\w<e.heap.size/\k.heap.size<=e.heap.size/\e.heap[c.heap.size]?=k.heap[c.heap.size]?/\ud d b f N g t S b2 k (VN (VG (C ⟨w,0,I⟩) 2 2)) e:=λk L R=>by
     refine(QJ (s.old L) O D a9 e2 b0 (a5 t b2 a9).1).mono ?_;intro i e y;obtain⟨w,rfl,z,a6⟩:=y.la;refine⟨w,A,z,(Wh.1 a6).1,y.op.size,?_,y⟩;refine y.op.kept _ R (λx=>?_) (λx=>?_)
     .rcases x with i|⟨e9,c0,i|i⟩
      .have:=(Wh.1 a8).1;omega
      .have:=(s.kS.lt c0).1;omega
      have:=(s.kS.lt c0).2;omega
     obtain⟨f0,f1,f4,b5,d5⟩:=(Ca s L).1 x;rw[a8]at b5;cases b5;have:=d8.lt _ d5;omega
    have H:∀i e,PM (bs h.path) (λk w e=>ud d b f N g t S b2 k (VN (VG (C ⟨w,0,I⟩) 2 2)) e) c i e->gI d b f N g c (.yes (Wt.drop d (t++[S])) h.path (jX (t++[S]))) i e:=λi e⟨w,k,R,L,Q,y⟩=>by obtain⟨e7,d4,z,a6⟩:=y.la;cases d4;refine⟨b,f,_,_,Q,y.tree,by simp,(xm.same s R L).trans y.op,VC ⟨w,A,by simp[jX],by omega,?_⟩⟩;rw[a6];simp[hZ,jX]
    have:=a0 o;unfold tG at l⊢
    rw[o]at l⊢
    rcases a3 with n|⟨n,v⟩
    .exact(KU this l q (VA n) W P).mono H
    exact(KU this l q (VC ⟨n,v⟩) W P).mono H
   rw[VK o];by_cases r:h.kind=5
   .have P:∀k:K,(∀u,u<c.heap.size->k.heap[u]?=c.heap[u]?)->c.heap.size<=k.heap.size->Calls TP 157 #[pt N 0,pt (b a) 0] k λi e=>i=VN (.tuple #[])/\(c.heap.size<k.heap.size->k.heap[c.heap.size]?=C (VH (tG h) 28 (0,0))->∃e4 e5 e6,Kt e (b a) c.heap.size (bs h.path) (bs h.data) e4 e5 m.stat.aF e6)/\∃t,pF (Wt.put d a (gA m h aE)) b f N (g++[t]) (setW e (b a) (bs h.data) aE m.stat.aF)/\xm N d b f (Wt.put d a (gA m h aE)) b f k (setW e (b a) (bs h.data) aE m.stat.aF):=λk L R=>
     (Tv (s.old L) O D b0 r aE).mono λi e⟨Q,c8,c9⟩=>⟨Q,λ_ z=>c8 _ z,c9⟩
    have H:∀i e,PN (bs h.path) (bs h.data) aE m.stat.aF (b a) (λk e=>∃t,pF (Wt.put d a (gA m h aE)) b f N (g++[t]) (setW e (b a) (bs h.data) aE m.stat.aF)/\xm N d b f (Wt.put d a (gA m h aE)) b f k (setW e (b a) (bs h.data) aE m.stat.aF)) c i e->gI d b f N g c (.yes (Wt.put d a (gA m h aE)) h.path [(3,h.path)]) i e:=λi e⟨k,X,R,L,⟨t,b4,b3⟩,Q,b1⟩=>by
     have d9:(setW X (b a) (bs h.data) aE m.stat.aF).heap.size=X.heap.size:=by simp only[aI]
     have b7:∀u,u<(setW X (b a) (bs h.data) aE m.stat.aF).heap.size->e.heap[u]?=(setW X (b a) (bs h.data) aE m.stat.aF).heap[u]?:=λu d3=>by rw[b1];exact Wk _ _ _ d3
     have e0:(setW X (b a) (bs h.data) aE m.stat.aF).heap.size<=e.heap.size:=by rw[b1];simp
     refine⟨b,f,[t],_,Q,b4.old b7,by simp,((xm.same s R L).trans b3).trans (xm.same b4 e0 b7),VC ⟨_,A,by simp,?_,?_⟩⟩
     .have:=b3.size;omega
     rw[b1,<-d9];exact Xz _ _
    have b6:=(a5 a m D).2;have:=Y r;unfold tG at l P⊢
    rw[r]at l P⊢
    rcases a3 with n|⟨n,v⟩
    .exact(KY this l q (VA n) ⟨b6.1,by omega⟩ P).mono H
    exact(KY this l q (VC ⟨n,v⟩) ⟨b6.1,by omega⟩ P).mono H
   rw[VK r]
   have H:∀i e,JX (bs h.path) c i e->gI d b f N g c (.yes d h.path []) i e:=λi e⟨Q,z⟩=>⟨b,f,[],_,Q,by rw[Yp];exact s.old z.block,by simp,xm.same s z.size z.block,VA ⟨A,A⟩⟩
   rcases a3 with n|⟨n,v⟩
   .exact(FO T (fi o) (fi r) l q (VA n)).mono H
   exact(FO T (fi o) (fi r) l q (VC ⟨n,v⟩)).mono H
end
variable{a:K}{s:E}
abbrev Dm(f d:VB)(N g b:E)(now aE kI:VB)(e c:Vx):VE Vx:=#[i64 f,i64 d,pt N 0,pt g 0,.map (C b),i64 now,i64 aE,i64 kI,e,c]
section
variable{g b:E}{f d now aE kI id h:VB}{e c:Vx}
theorem IA(tC:a.heap[s]?=C (VH (Dm f d N g b now aE kI e c) 98 (0,0)))(m:(Instr.lookup 96 (.map (C b)) (Vy M id) J).run TP a=.ok (.tuple #[Vy M h,.bool J]) a)
 {i:K}(n:(Instr.mapUpdate 96 (.map (C b)) (Vy M id) (Vy M now)).run TP a.drew=.ok () i):
 Calls TP 64 #[pt s 0,Vy M id] a λk l=>k=VN (.bool J)/\l=i:=by
 have c4:=aa tC 4 A;have c5:=aa tC 5 A;go_enter Tryz.func64,Tryz.ntmps64
 go_wp2
 go_still_tail 9,(by kernel_rfl)
 go_wp2
 go_ret;simp
theorem LX(tC:a.heap[s]?=C (VH (Dm f d N g b now aE kI e c) 98 (0,0)))(l:(Instr.lookup 96 (.map (C b)) (Vy M id) J).run TP a=.ok (.tuple #[Vy M h,.bool Vz]) a):
 Calls TP 64 #[pt s 0,Vy M id] a λi k=>i=VN (.bool Vz)/\k=a:=by
 have c4:=aa tC 4 A;go_enter Tryz.func64,Tryz.ntmps64
 go_wp2
 go_ret;simp
theorem Dw(a:K):Calls TP 104 #[.nilIface] a λb c=>b=VN (Vy M 0)/\c=a:=by
 go_enter Tryz.func104,Tryz.ntmps104
 go_wp2
 go_ret;simp
theorem KI(b:VB)(a:K):(Instr.typeAssert (.iface 32 (Vy M b)) 65 32 J).run TP a=.ok (.tuple #[Vy M b,.bool J]) a:=by rfl
theorem Dy(a:K)(b:VB):Calls TP 104 #[.iface 32 (Vy M b)] a λc d=>c=VN (Vy M b)/\d=a:=by
 have e:=KI b a;go_enter Tryz.func104,Tryz.ntmps104
 go_wp2
 go_ret;simp
end
variable{P:Vx}{r:VX}
abbrev oV(b c e f:VB)(q r:VX)(p:VI)(g h i k l m o:VB)(a d:Vx):VE Vx:=#[i64 b,i64 c,i64 e,i64 f,.string q,.string r,.bool p,i64 g,i64 h,i64 i,i64 k,i64 l,i64 m,i64 o,a,d]
theorem Ts:∃a b,TP.underlying 43=C (.slice 38)/\(TP.info? 38=C a/\a.zero=C b/\a.size=16/\a.bytes<=1000/\b.cells.size=16/\0<16)/\∀c∈b.cells.toList,NB c:=by refine⟨_,_,A,⟨A,A,A,by decide,A,by decide⟩,?_⟩;intro c e u d;subst d;have:Vx.int .u8 u∈(oV 0 0 0 0 ⟨#[]⟩ ⟨#[]⟩ Vz 0 0 0 0 0 0 0 (VG I 0 0) (VG I 0 0)).toList:=e;simp at this
theorem wZ{L:Vx->Prop}{i:VJ}{size:E}{O:VD Vx}{b:Oper}{c:VQ}{p:VQ->K->Prop}{s:Prop}(D:b.guard=I)(r l:Wd)(n:VJ)
 (T:b.op=.call {callee:=.builtin .append,args:=#[r,l],argTypes:=#[n,n]})(W:c.eval r=P)(t:bV L a i size P N O){k:TypeInfo}{o:Vx}(X:TP.underlying n=C (.slice i))(d:TP.info? i=C k/\k.zero=C o/\k.size=size/\k.bytes<=1000/\o.cells.size=size/\0<size)(a0:∀l∈o.cells.toList,L l)
 {m:VT}{q:E}(Z:c.eval l=VG (C m) u q)(e:VD Vx)(H:e.length=u*size)(R:∀j f,e[j]?=C f->a.cell? (m.add j)=C f)(v:∀f∈e,f.oneCell'=J/\L f)(Q:N+u<2^30)
 (next:∀g h,bV L h i size g (N+u) (O++e)->a.grownBy h P.ownBlock->kL a P g->p (c.put b.dst g) h):if Region.wanted b (yielded z c.tmps)=J then Oper.wp TP b c a p S else s:=by
 have Y:Region.wanted b (yielded z c.tmps)=J:=by simp[Region.wanted,D]
 rw[VV Y];obtain⟨g,h,U,w,x,y⟩:=lL (H:=b.type) t X d.1 d.2.1 d.2.2.1 d.2.2.2.1 d.2.2.2.2.1 d.2.2.2.2.2 a0 m u q e H R v Q;unfold Oper.wp execOp;simp only[T,resolve,invoke,builtin,Xx,E',XJ,XB,XE,XO,W,Z,U];exact next g h w x y
theorem IK(a:K)(V:VE Vx)(c:VJ):∀(j:E) b,V.toList[j]?=C b->(a.alloc (.cells V c)).cell? ((⟨a.heap.size,0,I⟩:VT).add j)=C b:=λj b e=>by rw[pK];have d:=WS a (.cells V c);simp only[K.cell?,d];simpa using e
theorem Qc{b c e f:VB}{q:VX}{p:VI}{g h i k l m o:VB}{D H:VL VT}{x c1 y c2:E}:∀a∈(oV b c e f q r p g h i k l m o (.slice D x c1) (.slice H y c2)).toList,a.oneCell'=J/\NB a:=by intro a d;simp only[oV,Wo,Wx,Xo]at d;rcases d with rfl|rfl|rfl|rfl|rfl|rfl|rfl|rfl|rfl|rfl|rfl|rfl|rfl|rfl|rfl|rfl<;>exact⟨A,λu n=>by cases n⟩
def Ks(s:E)(L:VE Vx)(t:Vx)(N:E)(O jF:VD Vx)(a:K)(e:Ending)(c:K):Prop:=e=VN (.tuple #[])/\a.heap.size<=c.heap.size/\(∀b,b<a.heap.size->b≠s->t.ownBlock≠C b->c.heap[b]?=a.heap[b]?)/\
 ∃d,c.heap[s]?=C (VH (L.setIfInBounds 8 d) 98 (0,0))/\bV NB c 38 16 d (N+1) (O++jF)/\kL a t d
section
variable{L:VE Vx}{t:Vx}{O:VD Vx}{b c e f:VB}{q:VX}{p:VI}{g h i k l m o:VB}{D H:VL VT}{x c1 y c2:E}
theorem MY(tC:a.heap[s]?=C (VH L 98 (0,0)))(a6:L[8]?=C t)(S:bV NB a 38 16 t N O)(f7:N<2^20):
 Calls TP 60 #[pt s 0,.agg (oV b c e f q r p g h i k l m o (.slice D x c1) (.slice H y c2))] a (Ks s L t N O (oV b c e f q r p g h i k l m o (.slice D x c1) (.slice H y c2)).toList a):=by
 obtain⟨f8,g2,c9,c0,d0⟩:=Ts;obtain⟨V,f5⟩:∃V,V=oV b c e f q r p g h i k l m o (.slice D x c1) (.slice H y c2):=⟨_,A⟩;have a9:s<a.heap.size:=(Wh.1 tC).1
 have b0:t.ownBlock≠C s:=λP=>by obtain⟨b7,v,_⟩:=S.blk s P;rw[tC]at v;cases v
 obtain⟨u,W⟩:∃u,a.alloc (.cells (oV b c e f q r p g h i k l m o (.slice D x c1) (.slice H y c2)) 38)=u:=⟨_,A⟩;have R:∀d,d<a.heap.size->u.heap[d]?=a.heap[d]?:=λd Q=>by rw[<-W];exact Wk a _ d Q
 have n:u.heap[a.heap.size]?=C (VH (oV b c e f q r p g h i k l m o (.slice D x c1) (.slice H y c2)) 38 (0,0)):=by rw[<-W];exact WS a _
 have b2:u.heap.size=a.heap.size+1:=by rw[<-W];simp
 have w:=(R s a9).trans tC;have b8:u.cell? ⟨s,8,I⟩=C t:=aa w 8 a6;have d7:=aa n 0 A;have d8:=aa n 1 A;have e5:=aa n 2 A;have e6:=aa n 3 A;have e7:=aa n 4 A;have e8:=aa n 5 A;have e9:=aa n 6 A;have f0:=aa n 7 A;have f1:=aa n 8 A;have f2:=aa n 9 A;have d9:=aa n 10 A;have e0:=aa n 11 A;have e1:=aa n 12 A;have e2:=aa n 13 A;have e3:=aa n 14 A;have e4:=aa n 15 A;have c8:∀a1,bV NB (u.drew.alloc a1) 38 16 t N O:=λa1=>(S.stay (w':=u.drew) λT Z=>R T (S.lt T Z)).alloc a1
 have a8:∀z,(u.drew.alloc (.cells (oV b c e f q r p g h i k l m o (.slice D x c1) (.slice H y c2)) 38)).grownBy z t.ownBlock->∀d,d<a.heap.size->t.ownBlock≠C d->z.heap[d]?=a.heap[d]?:=λz X d Q c7=>by rw[X.block d (by show d<(u.heap.push _).size;simp;omega) (λP=>c7 P.symm),Wk _ _ _ (by show d<u.heap.size;omega)];exact R d Q
 have KP:=VF a8;have b3:=VF tC;have d2:=VF R;have b4:=VF b0;have d1:=VF S.lt;have b6:=VF b2;have HC:=VF a9;have c6:s<u.heap.size:=by omega
 have d4:(u.alloc (.cells (oV b c e f q r p g h i k l m o (.slice D x c1) (.slice H y c2)) 38)).cell? ⟨s,8,I⟩=C t:=by rw[WZ _ _ _ c6];exact b8
 clear tC S b0 R n w b2 a8;go_enter Tryz.func60,Tryz.ntmps60
 go_wp2
 go_region_law (first|(refine wZ rfl _ _ 43 rfl rfl (c8 _) c9 c0 d0 rfl (oV b c e f q r p g h i k l m o (.slice D x c1) (.slice H y c2)).toList rfl (IK u.drew _ _) Qc (by omega) ?_;intro g0 z a0 Y b1;obtain⟨d3,f9,d6,rfl⟩:=a0.slice;have w:=(KP.out z Y s HC.out b4.out).trans b3.out;have d5:=aa w 8 a6;have f3:=frozenAt w 8;have a2:=VF w;have a3:=VF Y;have b5:=VF b1;have a4:=VF a0;clear w b1 a0 Y))
 all_goals
  go_end0
  have a7:(u.drew.alloc (.cells (oV b c e f q r p g h i k l m o (.slice D x c1) (.slice H y c2)) 38)).heap.size=a.heap.size+2:=by show(u.heap.push _).size=_;simp;exact b6.out
  have f6:a.heap.size+2<=z.heap.size:=by rw[<-a7];exact a3.out.size
  refine⟨A,by rw[aI];omega,λd Q v b9=>?_,_,aB a2.out,?_,λa5 X=>?_⟩
  .rw[ah v];exact KP.out z a3.out d Q b9
  .refine a4.out.stay λT Z=>ah λP=>?_;obtain⟨b7,v,_⟩:=a4.out.blk T Z;rw[P,a2.out]at v;cases v
  rcases b5.out a5 X with U|U
  .exact VA U
  have f4:a.heap.size+2<=a5:=by rw[<-a7];exact U
  exact VC (by omega)
end
end Go.Sv
namespace Go.Sim
open Go.Conc Go.Proofs Go.RowKit
open Go.ConcN (PermW PermW.app PermW.of fork_knows WgLive RelBy sumTo)
open Go.ConcR (KK wgBlock WgAt stA smA rd wr mk DC0)
variable{c:Vx}{b:K}{d:K}{z:VE Oper}{f:Oper}{e:VQ}{S:Exit->VQ->K->Prop}
section
variable[Inhabited aV]
def dD(rq:E->RV)(b:VD E):VD Vx:=b.flatMap λa:E=>(aQ (a:VB) (rq a)).toList
theorem eV(rq:E->RV):∀a:VD E,(dD rq a).length=a.length*9
 |[]=>rfl
 |b::a=>by
  have:=eV rq a;unfold dD at this⊢
  rw[YW,WI,this];simp[aQ];omega
theorem mT(rq:E->RV)(b:VD E)(a:E):dD rq (b++[a])=dD rq b++(aQ a (rq a)).toList:=by simp[dD]
theorem vG(rq:E->RV):∀(b:VD E)(a j:E),j<9->a<b.length->(dD rq b)[a*9+j]?=(aQ (b.getD a 0) (rq (b.getD a 0)))[j]?
 |[],a,j,_,c=>by simp at c
 |d::b,0,j,e,_=>by
  unfold dD;rw[YW,Yc (by simp[aQ];omega)];simp
 |d::b,a+1,j,e,c=>by
  have f:=vG rq b a j e (by simpa using c);unfold dD at f⊢
  rw[YW,XC (by simp[aQ];omega)];have g:(a+1)*9+j-(aQ (↑d) (rq d)).toList.length=a*9+j:=by simp[aQ];omega
  rw[g,f];simp
def nL(g:E)(rq:E->RV)(a:VD E)(c:Vx)(b:K):Prop:=
 (c=VG I 0 0/\a=[])\/
 ∃f d e,c=VG (C ⟨f,0,I⟩) a.length d/\g<=f/\b.heap[f]?=C (VH e 107 (0,0))/\0<a.length/\a.length<=d/\d<=maxLen/\e.size=d*9/\e.toList.take (a.length*9)=dD rq a/\∀h∈e.toList,Calm h
theorem nL.kept{h:E}{rq:E->RV}{f:VD E}(e:nL h rq f c b)(o:∀a,c.ownBlock=C a->d.heap[a]?=b.heap[a]?):nL h rq f c d:=by
 rcases e with e|⟨a,i,k,g,l,m,n⟩
 .exact VA e
 exact VC ⟨a,i,k,g,l,by rw[o a (by rw[g];rfl)];exact m,n⟩
theorem yL(l:VB)(g:RV):∀h∈(aQ l g).toList,Calm h:=by
 intro h f;have c:∀d,aR (λ_=>False) d->(∀b,d≠.int .u8 b)->Calm d:=λd i k=>⟨VA i,k⟩;simp only[aQ,Wo,Wx,Xo]at f;rcases f with rfl|rfl|rfl|rfl|rfl|rfl|rfl|rfl|rfl
 .exact c _ (.int _ _) (by intro b a;cases a)
 .exact c _ (.int _ _) (by intro b a;cases a)
 .exact c _ (.int _ _) (by intro b a;cases a)
 .exact c _ (.string _) (by intro b a;cases a)
 .exact c _ (.string _) (by intro b a;cases a)
 .exact c _ (.int _ _) (by intro b a;cases a)
 .exact c _ (.int _ _) (by intro b a;cases a)
 .exact c _ (.bool _) (by intro b a;cases a)
 cases a:g.oa with
 |none=>exact c _ (.aP _ _) (by intro b a;cases a)
 |some e=>exact⟨VC trivial,by intro b a;cases a⟩
theorem Fv:TP.underlying 103=C (.slice 107):=A
theorem OG:∃a b,TP.info? 107=C a/\a.zero=C b/\a.size=9/\a.bytes<=1000/\b.cells=#[Vy M 0,Vy M 0,Vy M 0,.string VX.empty,.string VX.empty,Vy M 0,Vy M 0,.bool Vz,VG I 0 0]:=by refine⟨_,_,A,A,A,by decide,A⟩
theorem Hv:∀b,∀h∈(Builtin.zeroCells #[Vy M 0,Vy M 0,Vy M 0,.string VX.empty,.string VX.empty,Vy M 0,Vy M 0,.bool Vz,VG I 0 0] b).toList,Calm h:=by
 intro b h g;have c:∀f,aR (λ_=>False) f->(∀b,f≠.int .u8 b)->Calm f:=λf i k=>⟨VA i,k⟩;unfold Builtin.zeroCells at g;simp only[YJ,WY]at g;obtain⟨e,_,rfl⟩:=g;have l:e%9<9:=ZZ _ (by decide);have:e%(#[Vx.int M 0,Vy M 0,Vy M 0,.string VX.empty,.string VX.empty,Vy M 0,Vy M 0,.bool Vz,VG I 0 0]:VE Vx).size=e%9:=A;rw[this];generalize e%9=d at l;rcases(by omega:d=0\/d=1\/d=2\/d=3\/d=4\/d=5\/d=6\/d=7\/d=8)with rfl|rfl|rfl|rfl|rfl|rfl|rfl|rfl|rfl
 .exact c _ (.int _ _) (by intro b a;cases a)
 .exact c _ (.int _ _) (by intro b a;cases a)
 .exact c _ (.int _ _) (by intro b a;cases a)
 .exact c _ (.string _) (by intro b a;cases a)
 .exact c _ (.string _) (by intro b a;cases a)
 .exact c _ (.int _ _) (by intro b a;cases a)
 .exact c _ (.int _ _) (by intro b a;cases a)
 .exact c _ (.bool _) (by intro b a;cases a)
 exact c _ (.aP _ _) (by intro b a;cases a)
theorem rW{s:E}{rq:E->RV}{a:VD E}{f n:E}{X:E×E}(t:VJ)(Y:nL s rq a c b)(g:b.heap[n]?=C (VH (aQ f (rq f)) 107 X))(b1:a.length<2^30)(a6:s<=b.heap.size):
 ∃L d,(Builtin.append_ #[103,103] t #[c,VG (C ⟨n,0,I⟩) 1 1]).run TP b=.ok L d/\nL s rq (a++[f]) L d/\b.grownBy d c.ownBlock/\∀h,L.ownBlock=C h->c.ownBlock=C h\/b.heap.size<=h:=by
 obtain⟨q,u,z,U,r,a2,W⟩:=OG
 have H:∀j m,(aQ f (rq f)).toList[j]?=C m->b.cell? ((⟨n,0,I⟩:VT).add j)=C m:=λj m k=>by
  have:(⟨n,0,I⟩:VT).add j=⟨n,j,I⟩:=by unfold Addr.add;split<;>simp_all
  rw[this];simp only[K.cell?,g];simpa using k
 have y:(aQ f (rq f)).toList.length=1*q.size:=by rw[r];rfl
 have O:∀(old:E),old<a.length+1->∀row:VL E,
  nL s rq (a++[f]) (VG (C ⟨b.heap.size,0,I⟩) (a.length+1) (grownCap b (a.length+1) old 107)) (b.drew.alloc (.cells ((dD rq a).toArray++(aQ f (rq f))++Builtin.zeroCells u.cells (grownCap b (a.length+1) old 107-(a.length+1))) 107))/\
  b.grownBy (b.drew.alloc (.cells ((dD rq a).toArray++(aQ f (rq f))++Builtin.zeroCells u.cells (grownCap b (a.length+1) old 107-(a.length+1))) 107)) row:=by
  intro old b2 row;have b0:=j_ b (a.length+1) old 107;have a3:grownCap b (a.length+1) old 107<=maxLen:=Zl b (a.length+1) old 107 (by unfold maxLen;omega);have a5:(a++[f]).length=a.length+1:=by simp
  refine⟨VC ⟨b.heap.size,_,_,by rw[a5],a6,WS b.drew _,by omega,by omega,a3,?_,?_,?_⟩,⟨A,A,A,by simp,λf D _=>a_ b.drew _ D⟩⟩
  .rw[W];simp only[YD,Xc,Q',eV];have:(aQ f (rq f)).size=9:=A;rw[this];simp;omega
  .have w:(dD rq a).toArray.toList++(aQ f (rq f)).toList=dD rq (a++[f]):=by rw[mT]
   rw[Xj,Xj,w,Yz (by rw[eV])]
  intro p g;simp only[Xj,WL]at g;rcases g with(g|g)|g
  .simp only[dD,VD.mem_flatMap]at g;obtain⟨e,_,g⟩:=g;exact yL _ _ p g
  .exact yL _ _ p g
  rw[W]at g;exact Hv _ p g
 have S:(aQ f (rq f)).toList.toArray=aQ f (rq f):=A;rcases Y with⟨rfl,rfl⟩|⟨h,o,v,rfl,Z,x,a8,a9,a0,P,Q,R⟩
 .have l:=run_append_nil (P:=TP) b 103 t 107 q u Fv z U ⟨n,0,I⟩ 1 1 _ y H (by omega) (by omega) (by omega);have i:=O 0 (by omega) (Vx.ownBlock (VG I 0 0));simp only[XG,Xr,dD,VD.flatMap_nil,Yf]at i;rw[S]at l;exact⟨_,_,l,i.1,i.2,λh i=>by cases i;exact VC (Wl _)⟩
 by_cases T:a.length+1<=o
 .have a4:a.length*q.size+(aQ f (rq f)).toList.length<=v.size:=by
   rw[r,P];show a.length*9+9<=o*9;omega
  have l:=run_append_room (P:=TP) b 103 t 107 q Fv z h a.length o v x ⟨n,0,I⟩ 1 1 _ y H (by
   intro m k;simp only[aQ,Wo,Wx,Xo]at k
   rcases k with rfl|rfl|rfl|rfl|rfl|rfl|rfl|rfl|rfl<;>rfl) T a4
  rw[r]at l;refine⟨_,_,l,VC ⟨h,o,_,by simp,Z,YE b h v _ 107 _ x,by simp,by simpa using T,a0,?_,?_,?_⟩,⟨A,A,A,by simp,λf _ D=>XX b h f _ (λw=>D (by simp[Vx.ownBlock,w]))⟩,λh i=>VA i⟩
  .have a1:(aQ f (rq f)).toList.length=9:=A;simp only[Xc,WI,Ye,p_,Yq,P,a1];omega
  .rw[Q,<-mT];exact Yz (by rw[eV])
  intro p g;simp only[WL]at g;rcases g with(g|g)|g
  .exact R p (Za g)
  .exact yL _ _ p g
  exact R p (Yi g)
 have a7:∀j m,(dD rq a)[j]?=C m->b.cell? ((⟨h,0,I⟩:VT).add j)=C m:=λj m k=>by
  have:(⟨h,0,I⟩:VT).add j=⟨h,j,I⟩:=by unfold Addr.add;split<;>simp_all
  rw[this];simp only[K.cell?,x];rw[<-Q,XA]at k;split at k
  .simpa using k
  cases k
 have l:=run_append_grow (P:=TP) b 103 t 107 q u Fv z U ⟨h,0,I⟩ a.length o (dD rq a) (by rw[eV,r]) a7 ⟨n,0,I⟩ 1 1 _ y H (by omega) (by omega) (growslice_fits (by omega) (by
  have:(a.length+1)*q.bytes<=1073741824*1000:=Q_ (by omega) a2
  omega))
 have i:=O o (by omega) (Vx.ownBlock (VG (C ⟨h,0,I⟩) a.length o));rw[S]at l;exact⟨_,_,l,i.1,i.2,λh i=>by cases i;exact VC (Wl _)⟩
theorem nR{l:VD Oper}{k:E}{rq:E->RV}{g:VD E}{i o:E}{p:E×E}(w:f.guard=I)(m n:Wd)
 (D:f.op=.call {callee:=.builtin .append,args:=#[m,n],argTypes:=#[103,103]})(L:e.eval m=c)(N:e.eval n=VG (C ⟨o,0,I⟩) 1 1)
 (q:nL k rq g c b)(v:b.heap[o]?=C (VH (aQ i (rq i)) 107 p))(y:g.length<2^30)(x:k<=b.heap.size)
 (next:∀a d,nL k rq (g++[i]) a d->b.grownBy d c.ownBlock->(∀h,a.ownBlock=C h->c.ownBlock=C h\/b.heap.size<=h)->wpList TP z S l (e.put f.dst a) d):wpList TP z S (f::l) e b:=by
 refine wpList_plain w λO u=>?_;obtain⟨a,d,H,r,s,t⟩:=rW f.type q v y x;unfold Oper.wp execOp;simp only[D,resolve,invoke,builtin,Xx,E',XJ,XB,XE,XO,L,N,H];exact u _ _ (next a d r s t)
end
variable{a:K}{f:Set}{h:Ren}{q:K}{i:VS}{D:eX}{m:E->Prop}{d:VO}{u:E}{s:E}{e:E}
section
variable[Inhabited aV]
def fK(a b:K)(c:E):Prop:=b.heap[c]?=a.heap[c]?\/∃d e f g,aT d/\a.heap[c]?=C (Obj.cells d e f)/\b.heap[c]?=C (Obj.cells d e g)
theorem fK.trans{y z:K}{p:E}(t:fK a y p)(g:fK y z p):fK a z p:=by
 rcases t with t|⟨k,o,l,r,n,v,w⟩
 .rcases g with g|⟨k,o,l,r,n,v,w⟩
  .exact VA (g.trans t)
  exact VC ⟨k,o,l,r,n,by simp_all,w⟩
 rcases g with g|⟨c2,P,N,H,O,x,L⟩
 .exact VC ⟨k,o,l,r,n,v,by simp_all⟩
 rw[w]at x;cases x;exact VC ⟨k,o,l,H,n,v,L⟩
theorem fK.whole{c:E}(d:fK a b c):(b.heap[c]?).map Obj.whole=(a.heap[c]?).map Obj.whole:=by
 rcases d with d|⟨g,l,h,i,k,e,f⟩
 .rw[d]
 rw[e,f];rfl
structure gH(own k:E->Prop)(a b:K):Prop where
 size:a.heap.size<=b.heap.size
 keep:∀g,g<a.heap.size->¬own g->fK a b g
 more:∀g,k g->own g\/a.heap.size<=g
theorem gH.refl(own:E->Prop)(a:K):gH own own a a:=⟨Wl _,λ_ _ _=>VA A,λ_ b=>VA b⟩
theorem gH.trans{own t v:E->Prop}{w x:K}(k:gH own t a w)(o:gH t v w x):gH own v a x where
 size:=Wu k.size o.size
 keep:=λg n r=>(k.keep g n r).trans (o.keep g (Ws n k.size) λl=>by
  rcases k.more g l with p|p
  .exact r p
  omega)
 more:=λg n=>by
  rcases o.more g n with l|l
  .exact k.more g l
  exact VC (Wu k.size l)
theorem gH.free{own e:E->Prop}(f:gH own e a b){c:E}(i:c<a.heap.size)(h:¬own c):¬e c:=λg=>by
 rcases f.more c g with d|d
 .exact h d
 omega
theorem aJ.qq{own d:E->Prop}(c:aJ own d a b):gH own d a b:=⟨c.size,λe f g=>VA (c.keep e f g),c.more⟩
structure NR(own use:E->Prop)(a b:K):Prop where
 size:a.heap.size<=b.heap.size
 own:∀g,own g->b.heap[g]?=a.heap[g]?
 use:∀g,use g->(b.heap[g]?).map Obj.whole=(a.heap[g]?).map Obj.whole
theorem vI{own e:E->Prop}(g:∀c,own c\/e c->c<a.heap.size)(h:a.heap.size<=b.heap.size)(f:∀c,c<a.heap.size->b.heap[c]?=a.heap[c]?):NR own e a b:=⟨h,λc d=>f c (g c (VA d)),λc d=>by simp_all⟩
def ij(c d:E->Prop)(b:E):Prop:=∀a,d a->c a\/b<=a
theorem ij.trans{o p r:E->Prop}{g n:E}(t:ij o p g)(v:ij p r n)(x:g<=n):ij o r g:=λk w=>by
 rcases v k w with l|l
 .exact t k l
 omega
structure nh(own:E->Prop)(a b:K):Prop where
 size:b.heap.size=a.heap.size
 os:b.os=a.os
 blk:∀g,b.heap[g]?=a.heap[g]?\/own g/\∃k n t p,a.heap[g]?=C (Obj.cells k t p)/\b.heap[g]?=C (Obj.cells n t p)/\n.size=k.size/\∀(r:E) c o,k[r]?=C c->n[r]?=C o->o=c\/(o=.tuple #[]/\bN c)
theorem zl{b:Vx}(d:an f h c b)(a:bN c):bN b:=by
 cases d with
 |bU=>exact a.elim
 |ptr=>trivial
 |slice=>trivial
 |map=>trivial
 |chan=>trivial
 |func e=>cases e with
  |func=>trivial
  |yield=>trivial
 |int=>exact a
 |_=>exact a.elim
theorem aU.forget{own:E->Prop}(g:aU f h a q)(m:nh own a b):aU f h b q where
 inj:=g.inj
 obj:=λi p x=>by
  obtain⟨S,T,k,v,w⟩:=g.obj i p x;rcases m.blk i with P|⟨_,e,O,L,Q,r,s,t,u⟩
  .simp_all
  rw[r]at k;cases k;cases w with
  |cells _ l H=>
  refine⟨_,_,s,v,.cells L ⟨t.trans l.1,λd c N z D=>?_⟩ H⟩;have n:d<e.size:=by grind
  have o:=l.2 d e[d] N (Wj n) D;rcases u d e[d] c (Wj n) z with rfl|⟨rfl,y⟩
  .exact o
  exact .bU (zl o y)
 os:=m.os.trans g.os
theorem AV{k:dc}{n:VL dm}{own:E->Prop}(l:nh own a b)(y:∀c,m c->¬own c)(next:(goalAt i k n D f m).G h b d):(goalAt i k n D f m).G h a d:=by
 intro g p q v w o e;refine next g p q v w o ⟨e.ok.bg A rfl rfl,e.bF,?_,e.me,e.hears⟩
 have:=e.bg;refine⟨this.base,this.rel.forget l,λc t=>?_,this.dv,this.dY,this.low⟩;obtain⟨u,r,s⟩:=this.cY c t;rcases l.blk c with g|⟨x,_⟩
 .exact⟨u,by rw[g];exact r,s⟩
 simp_all
structure Kv(z l:E->Prop)(look:E->LR)(w s H e:E)(rq:E->RV)(a:K):Prop where
 xt:∀g,l g->(∃p L r,a.heap[g]?=C (VH p L r)/\0<p.size/\r.2<=p.size/\¬aT p/\∀(v:E) c,p[v]?=C c->aR l c)\/∃x n,a.heap[g]?=C (.map x n)/\∀t∈x.toList,aR l t.key/\aR l t.val
 Sj:l w
 hc:∃k N r,a.heap[s]?=C (VH k N r)/\r.2<=k.size/\k[1]?=C (Vy M H)/\k[2]?=C (pt w 0)/\¬aT k/\∀(v:E) c,k[v]?=C c->Hb c
 look:∀n,n<e->∀o:K,(∀g,l g\/z g->o.heap[g]?=(a.heap[g]?).map Obj.whole)->a.heap.size<=o.heap.size->Calls TP 58 #[pt w 0,.string (rq n).path] o λt b=>∃y,t=VN (.tuple #[.agg y,(look n).ev])/\ck (look n) o.heap.size y b/\Below o.heap.size o b
structure HC{t:Type}(St:t->(E->Prop)->(E->Prop)->K->Prop)(x:t->E->Vx->(E->Prop)->(E->Prop)->K->Prop)(rd P:t->E->t)(look:t->E->LR)(R:E->Prop)(s y e:E)(rq:E->RV)(w:E->VI)(H:E->Vx)(cnt:t->E):Prop where
 TI:∀k g,cnt (rd k g)=cnt k+1
 QF:∀k g,cnt (P k g)=cnt k+1
 sm:∀k own l a b,NR own l a b->St k own l a->St k own l b
 lt:∀k own l a,St k own l a->∀n,own n\/l n->n<a.heap.size
 Ei:∀k own l a,St k own l a->∀n,own n->∀N T S,a.heap[n]?=C (VH N T S)->¬aT N
 pre:∀k own l a,St k own l a->∃b L U,nh own a b/\St k own l b/\(∀n,L n->own n)/\Kv R L (look k) U s y e rq b
 ev:∀k g,Plain (look k g).ev
 US:∀k g j,look (rd k g) j=look k j
 mh:∀k g o own l(a b:K),b.heap=a.heap->x k g o own l a->x k g o own l b
 Qf:∀k g,g<e->w g=J->cnt k=g->∀own l a O z,St k own l a->ck (look k g) O z a->ni own z->Calls TP 61 #[pt s 0,.agg (aQ g (rq g)),.agg (z.push (look k g).ev)] a λv b=>∃o p r,v=VN o/\x k g o p r b/\aJ own p a b/\ij l r (min O a.heap.size)
 snd:∀k g,g<e->w g=J->cnt k=g->∀o own l a,x k g o own l a->Calls TP 60 #[pt s 0,o] a λv b=>∃p r,v=VN (.tuple #[])/\St (rd k g) p r b/\aJ own p a b/\ij l r a.heap.size
 one:∀k g,g<e->w g=Vz->cnt k=g->∀own l a,St k own l a->Calls TP 40 #[pt s 0,H g] a λv b=>∃p r,v=VN (.tuple #[])/\St (P k g) p r b/\aJ own p a b/\ij l r a.heap.size
 yes:∀g,g<e->w g=J->H g=.iface 107 (.agg (aQ g (rq g)))
 no:∀g,g<e->w g=Vz->∃Q W,H g=.iface Q W/\Q≠107
 Gt:1<=y/\y<2^16
 small:e<2^20
theorem xQ{b:Type}{rd:b->E->b}{look:b->E->LR}(d:∀a e j,look (rd a e) j=look a j)(j:E):∀(c:VD E)(a:b),look (c.foldl rd a) j=look a j
 |[],_=>rfl
 |e::c,a=>by rw[Yo,xQ d j c,d]
theorem ng.same{own k:E->Prop}(g:ng a b)(l:∀c,own c\/k c->c<a.heap.size)(q:∀c,own c->∀d i f,a.heap[c]?=C (Obj.cells d i f)->¬aT d):NR own k a b where
 size:=g.1
 own:=λc h=>by
  rcases g.2 c (l c (VA h))with e|⟨d,i,f,n,o,m,_⟩
  .exact e
  grind
 use:=λc h=>by
  rcases g.2 c (l c (VC h))with e|⟨d,i,f,n,o,m,p⟩
  .rw[e]
  rw[m,p];rfl
theorem mH{a:VD E}(b:u<a.length):a.getD u 0∈a:=by simp_all
theorem pO{c:Type}{rd:c->E->c}{cnt:c->E}(d:∀a e,cnt (rd a e)=cnt a+1):∀(b:VD E)(a:c),cnt (b.foldl rd a)=cnt a+b.length
 |[],_=>rfl
 |e::b,a=>by rw[Yo,pO d b,d,WO];omega
theorem Ch{S:Type}{St:S->(E->Prop)->(E->Prop)->K->Prop}{b4:S->E->Vx->(E->Prop)->(E->Prop)->K->Prop}{rd f9:S->E->S}{look:S->E->LR}{b5:E->Prop}{c7:E}{rq:E->RV}{c6:E->VI}{g7:E->Vx}{cnt:S->E}
 (r:HC St b4 rd f9 look b5 s c7 e rq c6 g7 cnt){b3:dc}(e1:jS b3 m){own w:E->Prop}{p:S}{g:VD E}{a5:Vx}{f7:E}(e2:St p own w a)(f0:nL f7 rq g a5 a)(e8:∀d,a5.ownBlock=C d->¬own d)
 (Y:∀c∈g,c<e/\c6 c=J)(e4:∀u,u<g.length->g.getD u 0=cnt p+u)(h5:g.length<=e)(f4:∀k,b5 k->m k)(e9:∀k,m k->¬own k)
 (JR:∀k,m k->∃t b1,a.heap[k]?=C (VH t b1 (0,t.size))/\0<t.size/\(∀(a4:E) c,t[a4]?=C c->aR m c)/\¬aT t)(GF:∀d,(0<d\/d=TP.globals.size)->d<=TP.globals.size->m d):
 ∃b,nh own a b/\Co (goalAt TP b3 I D ar m) 39 #[pt s 0,a5] b λb2 c9=>b2=.tuple #[]/\∃U W,St (g.foldl rd p) U W c9/\gH own U a c9/\ij w W a.heap.size:=by
 obtain⟨b,d3,g1,Z,a2,h7,a1⟩:=r.pre p own w a e2
 have e3:∀k,¬own k->b.heap[k]?=a.heap[k]?:=λk x=>by
  rcases Z.blk k with L|⟨N,_⟩
  .exact L
  simp_all
 refine⟨b,Z,?_⟩
 obtain⟨X,a8,rfl,b8⟩:∃X a8,a5=.slice X g.length a8/\(X=I/\g.length=0\/∃a6 c8 t g2 b6,X=C ⟨a6,c8,I⟩/\b.heap[a6]?=C (VH t g2 b6)/\0<t.size/\b6.2<=t.size/\(∀(a4:E) c,t[a4]?=C c->Calm c)/\¬own a6/\∀H,H<g.length->∀j,j<9->t[c8+H*9+j]?=(aQ (g.getD H 0:E) (rq (g.getD H 0)))[j]?):=by
  rcases f0 with⟨rfl,rfl⟩|⟨d,d5,d7,rfl,O,T,b7,g9,h0,h1,h2,h3⟩
  .simp
  have e5:=e8 d A;refine⟨_,d5,A,VC ⟨d,0,d7,107,(0,0),A,by simp_all,by omega,Xg _,λa4 c h6=>?_,e5,λH a7 j e6=>?_⟩⟩
  .grind
  have L:=vG rq g H j e6 a7
  grind
 have f1:∀u,u<g.length->(g.take (u+1)).foldl rd p=rd ((g.take u).foldl rd p) (g.getD u 0):=λu v=>by simp_all [Zu]
 have c0:∀u,u<g.length->cnt ((g.take u).foldl rd p)=g.getD u 0:=λu v=>by rw[pO r.TI,e4 u v,Ye];omega
 have i:PU (λu o n=>∃l,(St ((g.take u).foldl rd p) o l n/\a.heap.size<=n.heap.size)/\ij w l a.heap.size) m d3 b (λu=>look p (g.getD u 0)) (λu=>(g.getD u 0:E)) (λu=>rq (g.getD u 0)) own s g1 g.length a8 c7 X:={
  JR:=λk x=>by simp_all
  GF:=GF
  xt:=a1.xt
  Sj:=a1.Sj
  hc:=a1.hc
  hA:=b8
  small:=by have:=r.small;omega
  Gt:=r.Gt
  ev:=λH=>r.ev _ _
  look:=λH a7 n f3 y=>a1.look (g.getD H 0) (Y _ (mH a7)).1 n (λk x=>f3 k (x.imp id (f4 k))) y
  init:=λR b9=>⟨w,⟨r.sm p own w b R (b9.same (r.lt p own w b a2) (r.Ei p own w b a2)) a2,by rw[<-Z.size];exact b9.1⟩,λk N=>VA N⟩
  UU:=λk x=>r.lt p own w b a2 k (VA x)
  UW:=e9}
 have d0:Ku (λu o n=>∃l,(St ((g.take u).foldl rd p) o l n/\a.heap.size<=n.heap.size)/\ij w l a.heap.size) (λu Q o n=>∃l,(b4 ((g.take u).foldl rd p) (g.getD u 0) Q o l n/\a.heap.size<=n.heap.size)/\ij w l a.heap.size) s g.length b.heap.size (λu=>(g.getD u 0:E)) (λu=>rq (g.getD u 0)) (λu=>look p (g.getD u 0)):={
  Qf:=λu v o n g0⟨l,⟨P,y⟩,z⟩ O T=>by have a3:=r.Qf ((g.take u).foldl rd p) (g.getD u 0) (Y _ (mH v)).1 (Y _ (mH v)).2 (c0 u v) o l n b.heap.size g0 P;rw[xQ r.US]at a3;exact(a3 O T).mono λL R⟨Q,U,W,q1,a9,a0,b0⟩=>⟨Q,U,q1,⟨W,⟨a9,Wu y a0.size⟩,z.trans b0 (by rw[Z.size];omega)⟩,a0⟩
  snd:=λu v Q o n⟨l,⟨P,y⟩,z⟩=>by have a3:=r.snd ((g.take u).foldl rd p) (g.getD u 0) (Y _ (mH v)).1 (Y _ (mH v)).2 (c0 u v) Q o l n P;rw[f1 u v];exact a3.mono λL R⟨U,W,q1,a9,a0,b0⟩=>⟨U,q1,⟨W,⟨a9,Wu y a0.size⟩,z.trans b0 y⟩,a0⟩
  sg:=λu o n R P O⟨l,⟨T,y⟩,z⟩=>⟨l,⟨r.sm _ o l n R (vI (r.lt _ o l n T) O P) T,Wu y O⟩,z⟩
  sl:=λu o n⟨l,⟨N,_⟩,_⟩ k x=>r.lt _ o l n N k (VA x)
  mh:=λu Q o n R L⟨l,⟨N,y⟩,z⟩=>⟨l,⟨r.mh _ _ Q o l n R L N,by simp_all⟩,z⟩}
 intro h d4 t d6 d1 x next
 refine Pq i d0 e1 h d4 t d6 d1 x λg6 b2 g3 g5 d2 e0 f2⟨o,g4,P,O,⟨l,⟨T,_⟩,z⟩,b7⟩=>next g6 b2 g3 g5 d2 e0 f2 ⟨P,o,l,?_,?_,z⟩
 .grind
 have f8:gH own own a g4:=⟨by rw[<-Z.size];exact O.1,λk x e7=>by
  rcases O.2 k (by grind)with L|⟨t,b1,d8,d9,f5,h9,f6⟩
  .exact VA (L.trans (e3 k e7))
  exact VC ⟨t,b1,d8,d9,f5,by grind,f6⟩,λk N=>VA N⟩
 exact f8.trans b7.qq
end
end Go.Sim
namespace Go.Sv
open Go.MapKept Go.Proofs Go.RowKit Go.Lib Go.WideShapes Go.Sort Go.Sim Wt
variable{s:E}{y:dH}{d:K}{w':K}{e:Vx}{g:Out}{b:E}{m:E}{l:E}{j:E}{O:VE Wb}
structure kH where
 tb:E
 nb:Path->E
 mb:Path->E
 tw:E
 mw:E
 f:Vx->VL Vx
 hb:E
 ov:Vx
 vs:VD (Vx×Vx)
def NP(a:Vx):Prop:=∃m,a=Vy M m
def fJ(b:VD (VB×VB)):Vx->VL Vx
 |Vy M m=>(b.find? λa=>decide (a.1=m)).map λa=>i64 a.2
 |_=>I
def lh(a:VD B)(e:Vx)(d:K):Prop:=(e=VG I 0 0/\a=[])\/∃f c b h g,e=VG (C ⟨f,0,I⟩) a.length c/\d.heap[f]?=C (VH b h g)/\a.length<=c/\c<=b.size/\∀(l:E) y,a[l]?=C y->b[l]?=C (.string (bs y))
def xh(b:VD (VB×B))(e:Vx)(d:K):Prop:=(e=VG I 0 0/\b=[])\/∃g c a i h,e=VG (C ⟨g,0,I⟩) b.length c/\d.heap[g]?=C (VH a i h)/\b.length<=c/\c*2<=a.size/\∀(l:E) f,b[l]?=C f->a[l*2]?=C (i64 f.1)/\a[l*2+1]?=C (.string (bs f.2))
def mg(g:Out)(e:Vx×Vx)(d:K):Prop:=lh g.names e.1 d/\xh g.results e.2 d
def iX(g:Out)(e:Vx×Vx):VE Vx:=oV g.al g.ev g.idx g.err (bs g.path) (bs g.data) g.found g.stat.made g.stat.set g.stat.aF g.stat.fj g.stat.own g.stat.size g.stat.kids e.1 e.2
def gz(h:VD Out)(b:VD (Vx×Vx)):VD Vx:=(h.zip b).flatMap λa=>(iX a.1 a.2).toList
def aK(s:E)(a:Tree)(c:kH)(b:E):Prop:=b=s\/nP a c.nb c.mb c.tb b\/ey c.tw c.mw c.f b\/b=c.hb\/c.ov.ownBlock=C b
def dE(c:kH)(b:E):Prop:=b=1\/b=4\/∃e∈c.vs,e.1.ownBlock=C b\/e.2.ownBlock=C b
def TU(e:Vx):Prop:=e=.tuple #[]\/∃b m a,e=.slice b m a
structure aM(s:E)(k:VB)(y:dH)(outs:VD Out)(c:kH)(d:K):Prop where
 tree:bS y.tree c.nb c.mb d
 top:∃i,TU i/\d.heap[c.tb]?=C (VH #[pt (c.nb []) 0,Vy M y.tree.length,i] 195 (0,0))
 wf:WF y.tree
 bR:dM y.bR c.tw c.mw c.f d
 iU:∃O a,d.heap[c.hb]?=C (.map O a)/\Mp NP O a (fJ y.dp)
 ch:d.heap[s]?=C (VH (Dm y.timeout k c.tb c.tw c.hb y.now y.aE y.next c.ov .nilFunc) 98 (0,0))
 row:bV NB d 38 16 c.ov outs.length (gz outs c.vs)
 outs:outs.length=c.vs.length/\∀(f:E) g e,outs[f]?=C g->c.vs[f]?=C e->mg g e d
 bF:(∃n,d.cell? ⟨1,0,I⟩=C (Vy M n))/\yB d/\4<d.heap.size
 iV:∃iV:E->E,(∀b,nP y.tree c.nb c.mb c.tb b->iV b=0)/\(∀b,ey c.tw c.mw c.f b->iV b=1)/\iV c.hb=2/\iV s=3/\(∀b,c.ov.ownBlock=C b->iV b=4)/\∀b,dE c b->iV b=5
theorem GS:TP.underlying 96=C (.map 3 3):=A
theorem Uy:TP.underlying 3=C (.int M):=A
theorem LQ:CX TP 3 NP:=LS Uy
theorem TD(d:K):(zeroValue 3).run TP d=.ok (Vy M 0) d:=A
section
variable{k:VB}{h:VD Out}{c:kH}
theorem lh.stay{n:VD B}(f:lh n e d)(r:∀b,e.ownBlock=C b->(w'.heap[b]?).map Sim.Obj.whole=(d.heap[b]?).map Sim.Obj.whole):lh n e w':=by
 rcases f with f|⟨a,o,t,z,w,rfl,p,q⟩
 .exact VA f
 have:=r a A;rw[p]at this;cases i:w'.heap[a]? with
 |none=>simp_all
 |some g=>
  rw[i]at this;cases g with
  |cells u x v=>obtain⟨rfl,rfl,_⟩:=this;exact VC ⟨a,o,_,_,_,A,i,q⟩
  |_=>simp[Sim.Obj.whole]at this
theorem xh.stay{n:VD (VB×B)}(f:xh n e d)(r:∀b,e.ownBlock=C b->(w'.heap[b]?).map Sim.Obj.whole=(d.heap[b]?).map Sim.Obj.whole):xh n e w':=by
 rcases f with f|⟨a,o,t,z,w,rfl,p,q⟩
 .exact VA f
 have:=r a A;rw[p]at this;cases i:w'.heap[a]? with
 |none=>simp_all
 |some g=>
  rw[i]at this;cases g with
  |cells u x v=>obtain⟨rfl,rfl,_⟩:=this;exact VC ⟨a,o,_,_,_,A,i,q⟩
  |_=>simp[Sim.Obj.whole]at this
theorem mg.lt{e:Vx×Vx}(f:mg g e d)(a:e.1.ownBlock=C b\/e.2.ownBlock=C b):b<d.heap.size:=by
 rcases a with a|a
 .rcases f.1 with⟨c,_⟩|⟨l,i,h,n,k,c,m,_⟩
  .rw[c]at a;cases a
  rw[c]at a;cases a;grind
 rcases f.2 with⟨c,_⟩|⟨l,i,h,n,k,c,m,_⟩
 .rw[c]at a;cases a
 rw[c]at a;cases a;grind
theorem aM.kj(a:aM s k y h c d)(f:dE c b):b<d.heap.size:=by
 have n:=a.bF.2.2;rcases f with rfl|rfl|⟨e,m,f⟩
 .omega
 .omega
 obtain⟨g,i⟩:=YR.1 m;have l:g<h.length:=by rw[a.outs.1];grind
 exact(a.outs.2 g _ e (Xb l) i).lt f
theorem aM.bm(f:aM s k y h c d)(a:aK s y.tree c b):b<d.heap.size:=by
 rcases a with rfl|a|a|rfl|a
 .exact(Wh.1 f.ch).1
 .rcases a with rfl|⟨o,i,rfl|rfl⟩
  .obtain⟨p,_,a⟩:=f.top
   grind
  .exact(f.tree.lt i).1
  exact(f.tree.lt i).2
 .exact f.bR.lt a
 .obtain⟨O,n,a,_⟩:=f.iU
  grind
 exact f.row.lt b a
theorem aM.same(f:aM s k y h c d)(a:NR (aK s y.tree c) (dE c) d w'):aM s k y h c w' where
 tree:=f.tree.stay λp o=>⟨a.own _ (VC (VA (VC ⟨p,o,VA A⟩))),a.own _ (VC (VA (VC ⟨p,o,VC A⟩)))⟩
 top:=by obtain⟨w,n,l⟩:=f.top;exact⟨w,n,by rw[a.own _ (.inr (.inl (.inl A)))];exact l⟩
 wf:=f.wf
 bR:=f.bR.stay λb i=>a.own b (VC (VC (VA i)))
 iU:=by rw[a.own _ (.inr (.inr (.inr (.inl A))))];exact f.iU
 ch:=by rw[a.own _ (.inl A)];exact f.ch
 row:=f.row.stay λb i=>a.own b (VC (VC (VC (VC i))))
 outs:=⟨f.outs.1,λt g e n l=>by
  have:=f.outs.2 t g e n l;have m:=WG l
  exact⟨this.1.stay λb i=>a.use b (VC (VC ⟨e,m,VA i⟩)),this.2.stay λb i=>a.use b (VC (VC ⟨e,m,VC i⟩))⟩⟩
 bF:=by
  obtain⟨⟨u,m⟩,l,r⟩:=f.bF;refine⟨⟨u,?_⟩,l.stay (a.use 4 (VC (VA A))),Ws r a.size⟩;have:=a.use 1 (VA A);unfold K.cell? at m⊢
  cases n:d.heap[1]? with
  |none=>simp_all
  |some g=>
   rw[n]at m this;cases g with
   |cells x N H=>
    cases q:w'.heap[1]? with
    |none=>simp_all
    |some v=>
     rw[q]at this;cases v with
     |cells z O L=>simp_all [Sim.Obj.whole]
     |_=>simp[Sim.Obj.whole]at this
   |_=>simp at m
 iV:=f.iV
theorem aM.old(a:aM s k y h c d)(n:d.heap.size<=w'.heap.size)(f:∀b,b<d.heap.size->w'.heap[b]?=d.heap[b]?):aM s k y h c w':=
 haveI:Inhabited aV:=⟨⟨d,λ_=>True⟩⟩;a.same (vI (λb i=>i.elim a.bm a.kj) n f)
theorem Bl{iV:E->E}{a c:E->Prop}(d:∀b,a b->iV b=l)(f:∀b,c b->a b\/m<=b):∀b,c b->(if b<m then iV b else l)=l:=λb e=>by grind
theorem fB{iV:E->E}{a:E->Prop}(f:∀b,a b->iV b=j)(n:∀b,a b->b<m):∀b,a b->(if b<m then iV b else l)=j:=λb i=>by simp_all
theorem aM.watched(f:aM s k y h c d){x:VI->B->VD VB}{q:Vx->VL Vx}(D:dM x c.tw c.mw q w')(m:aJ (ey c.tw c.mw c.f) (ey c.tw c.mw q) d w'):
 aM s k {y with bR:=x} h {c with f:=q} w'/\aJ (aK s y.tree c) (aK s y.tree {c with f:=q}) d w':=by
 obtain⟨iV,R,S,T,U,W,X⟩:=f.iV;have P:∀b,iV b≠1->¬ey c.tw c.mw c.f b:=by grind
 have p:=λb a o=>m.keep b a (P b o);have u:=λb a=>p b (f.bm (VC (VA a))) (by simp_all);have t:=λb a=>p b (f.kj a) (by simp_all);refine⟨⟨f.tree.stay λw v=>⟨u _ (VC ⟨w,v,VA A⟩),u _ (VC ⟨w,v,VC A⟩)⟩,?_,f.wf,D,?_,?_,?_,?_,?_,?_⟩,?_⟩
 .obtain⟨Z,o,n⟩:=f.top;exact⟨Z,o,by rw[u _ (.inl A)];exact n⟩
 .show∃O a0,w'.heap[c.hb]?=_/\_;rw[p c.hb (f.bm (.inr (.inr (.inr (.inl A))))) (by omega)];exact f.iU
 .rw[p s (f.bm (.inl A)) (by omega)];exact f.ch
 .exact f.row.stay λb a=>p b (f.bm (VC (VC (VC (VC a))))) (by simp_all)
 .exact⟨f.outs.1,λQ g e o n=>by
   have:=f.outs.2 Q g e o n;have r:=WG n
   exact⟨this.1.stay λb a=>by rw[t b (.inr (.inr ⟨e,r,.inl a⟩))],this.2.stay λb a=>by rw[t b (.inr (.inr ⟨e,r,.inr a⟩))]⟩⟩
 .obtain⟨⟨Y,r⟩,n,L⟩:=f.bF;exact⟨⟨Y,cf (t 1 (VA A)) r⟩,n.stay (by rw[t 4 (.inr (.inl A))]),Ws L m.size⟩
 .refine⟨λb=>if b<d.heap.size then iV b else 1,?_,?_,?_,?_,?_,?_⟩
  .exact fB R λb a=>f.bm (VC (VA a))
  .exact Bl S m.more
  .exact fB (a:=λb=>b=c.hb) (λb l=>l▸T) (λb l=>l▸f.bm (VC (VC (VC (VA A))))) _ A
  .exact fB (a:=λb=>b=s) (λb l=>l▸U) (λb l=>l▸f.bm (VA A)) _ A
  .exact fB W λb a=>f.bm (VC (VC (VC (VC a))))
  exact fB X λb a=>f.kj a
 refine⟨m.size,λb a N=>m.keep b a λi=>N (VC (VC (VA i))),λb a=>?_⟩;rcases a with i|i|i|i|i
 .exact VA (VA i)
 .exact VA (VC (VA i))
 .rcases m.more b i with i|i
  .exact VA (VC (VC (VA i)))
  omega
 .exact VA (VC (VC (VC (VA i))))
 exact VA (VC (VC (VC (VC i))))
theorem aM.Ty(f:aM s k y h c d){q:Tree}{v u:Path->E}{Y:VD Un}(w:pF q v u c.tb Y w')(D:WF q)(l:xm c.tb y.tree c.nb c.mb q v u d w')(x:∀b,¬vF d c.tb b):
 aM s k {y with tree:=q} h {c with nb:=v,mb:=u} w'/\aJ (aK s y.tree c) (aK s q {c with nb:=v,mb:=u}) d w':=by
 obtain⟨iV,z,P,Q,R,S,T⟩:=f.iV;have p:∀b,b<d.heap.size->iV b≠0->w'.heap[b]?=d.heap[b]?:=λb a o=>l.kept b a (λi=>o (z b i)) (x b);have t:=λb a=>p b (f.kj a) (by simp_all);refine⟨⟨w.kS,?_,D,?_,?_,?_,?_,?_,?_,?_⟩,?_⟩
 .obtain⟨Z,a1,o,n,_⟩:=w.top;exact⟨Z,VC n.slice,o⟩
 .exact f.bR.stay λb a=>p b (f.bm (VC (VC (VA a)))) (by simp_all)
 .show∃O a0,w'.heap[c.hb]?=_/\_;rw[p c.hb (f.bm (.inr (.inr (.inr (.inl A))))) (by omega)];exact f.iU
 .rw[p s (f.bm (.inl A)) (by omega)];exact f.ch
 .exact f.row.stay λb a=>p b (f.bm (VC (VC (VC (VC a))))) (by simp_all)
 .exact⟨f.outs.1,λN g e o n=>by
   have:=f.outs.2 N g e o n;have r:=WG n
   exact⟨this.1.stay λb a=>by rw[t b (.inr (.inr ⟨e,r,.inl a⟩))],this.2.stay λb a=>by rw[t b (.inr (.inr ⟨e,r,.inr a⟩))]⟩⟩
 .obtain⟨⟨U,r⟩,n,H⟩:=f.bF;exact⟨⟨U,cf (t 1 (VA A)) r⟩,n.stay (by rw[t 4 (.inr (.inl A))]),Ws H l.size⟩
 .refine⟨λb=>if b<d.heap.size then iV b else 0,?_,?_,?_,?_,?_,?_⟩
  .exact Bl z l.news
  .exact fB P λb a=>f.bm (VC (VC (VA a)))
  .exact fB (a:=λb=>b=c.hb) (λb m=>m▸Q) (λb m=>m▸f.bm (VC (VC (VC (VA A))))) _ A
  .exact fB (a:=λb=>b=s) (λb m=>m▸R) (λb m=>m▸f.bm (VA A)) _ A
  .exact fB S λb a=>f.bm (VC (VC (VC (VC a))))
  exact fB T λb a=>f.kj a
 refine⟨l.size,λb a L=>l.kept b a (λi=>L (VC (VA i))) (x b),λb a=>?_⟩;rcases a with i|i|i|i|i
 .exact VA (VA i)
 .rcases l.news b i with i|i
  .exact VA (VC (VA i))
  omega
 .exact VA (VC (VC (VA i)))
 .exact VA (VC (VC (VC (VA i))))
 exact VA (VC (VC (VC (VC i))))
theorem aM.hears(a:aM s k y h c d){se:VD (VB×VB)}{q:E}(n:w'.heap[c.hb]?=C (.map O q))(x:Mp NP O q (fJ se))(v:d.heap.size<=w'.heap.size)(H:∀b,b<d.heap.size->b≠c.hb->w'.heap[b]?=d.heap[b]?):
 aM s k {y with dp:=se} h c w'/\aJ (aK s y.tree c) (aK s y.tree c) d w':=by
 obtain⟨iV,P,Q,R,S,T,U⟩:=a.iV;have o:∀b,b<d.heap.size->iV b≠2->w'.heap[b]?=d.heap[b]?:=by grind
 have t:=λb f=>o b (a.bm (VC (VA f))) (by simp_all);have p:=λb f=>o b (a.kj f) (by simp_all);refine⟨⟨a.tree.stay λw u=>⟨t _ (VC ⟨w,u,VA A⟩),t _ (VC ⟨w,u,VC A⟩)⟩,?_,a.wf,?_,⟨O,q,n,x⟩,?_,?_,?_,?_,⟨iV,P,Q,R,S,T,U⟩⟩,?_⟩
 .obtain⟨X,r,i⟩:=a.top;exact⟨X,r,by rw[t _ (.inl A)];exact i⟩
 .exact a.bR.stay λb f=>o b (a.bm (VC (VC (VA f)))) (by simp_all)
 .rw[o s (a.bm (.inl A)) (by omega)];exact a.ch
 .exact a.row.stay λb f=>o b (a.bm (VC (VC (VC (VC f))))) (by simp_all)
 .exact⟨a.outs.1,λN g e r i=>by
   have:=a.outs.2 N g e r i;have n:=WG i
   exact⟨this.1.stay λb f=>by rw[p b (.inr (.inr ⟨e,n,.inl f⟩))],this.2.stay λb f=>by rw[p b (.inr (.inr ⟨e,n,.inr f⟩))]⟩⟩
 .obtain⟨⟨W,n⟩,i,D⟩:=a.bF;exact⟨⟨W,cf (p 1 (VA A)) n⟩,i.stay (by rw[p 4 (.inr (.inl A))]),Ws D v⟩
 exact⟨v,λb f L=>H b f λz=>L (VC (VC (VC (VA z)))),λb f=>VA f⟩
theorem aM.nums(a:aM s k y h c d){now aE kI:VB}(z:w'.heap[s]?=C (VH (Dm y.timeout k c.tb c.tw c.hb now aE kI c.ov .nilFunc) 98 (0,0)))(u:d.heap.size<=w'.heap.size)(D:∀b,b<d.heap.size->b≠s->w'.heap[b]?=d.heap[b]?):
 aM s k {y with now:=now,aE:=aE,next:=kI} h c w'/\aJ (aK s y.tree c) (aK s y.tree c) d w':=by
 obtain⟨iV,N,P,Q,R,S,T⟩:=a.iV;have n:∀b,b<d.heap.size->iV b≠3->w'.heap[b]?=d.heap[b]?:=by grind
 have r:=λb f=>n b (a.bm (VC (VA f))) (by simp_all);have p:=λb f=>n b (a.kj f) (by simp_all);refine⟨⟨a.tree.stay λv t=>⟨r _ (VC ⟨v,t,VA A⟩),r _ (VC ⟨v,t,VC A⟩)⟩,?_,a.wf,?_,?_,z,?_,?_,?_,⟨iV,N,P,Q,R,S,T⟩⟩,?_⟩
 .obtain⟨W,q,i⟩:=a.top;exact⟨W,q,by rw[r _ (.inl A)];exact i⟩
 .exact a.bR.stay λb f=>n b (a.bm (VC (VC (VA f)))) (by simp_all)
 .show∃O X,w'.heap[c.hb]?=_/\_;rw[n c.hb (a.bm (.inr (.inr (.inr (.inl A))))) (by omega)];exact a.iU
 .exact a.row.stay λb f=>n b (a.bm (VC (VC (VC (VC f))))) (by simp_all)
 .exact⟨a.outs.1,λL g e q i=>by
   have:=a.outs.2 L g e q i;have o:=WG i
   exact⟨this.1.stay λb f=>by rw[p b (.inr (.inr ⟨e,o,.inl f⟩))],this.2.stay λb f=>by rw[p b (.inr (.inr ⟨e,o,.inr f⟩))]⟩⟩
 .obtain⟨⟨U,o⟩,i,x⟩:=a.bF;exact⟨⟨U,cf (p 1 (VA A)) o⟩,i.stay (by rw[p 4 (.inr (.inl A))]),Ws x u⟩
 exact⟨u,λb f H=>D b f λw=>H (VA w),λb f=>VA f⟩
theorem qA{h:VD Out}{a:VD (Vx×Vx)}(b:h.length=a.length)(g:Out)(e:Vx×Vx):gz (h++[g]) (a++[e])=gz h a++(iX g e).toList:=by simp_all [gz,VD.zip_append]
theorem aM.Us(i:aM s k y h c d){e:Vx×Vx}{r:Vx}(v:mg g e d)(z:∀b,e.1.ownBlock=C b\/e.2.ownBlock=C b->¬aK s y.tree c b)
 (X:w'.heap[s]?=C (VH (Dm y.timeout k c.tb c.tw c.hb y.now y.aE y.next r .nilFunc) 98 (0,0)))(b2:bV NB w' 38 16 r (h.length+1) (gz h c.vs++(iX g e).toList))(Q:kL d c.ov r)
 (S:d.heap.size<=w'.heap.size)(L:∀b,b<d.heap.size->b≠s->c.ov.ownBlock≠C b->w'.heap[b]?=d.heap[b]?):
 aM s k y (h++[g]) {c with ov:=r,vs:=c.vs++[e]} w'/\aJ (aK s y.tree c) (aK s y.tree {c with ov:=r,vs:=c.vs++[e]}) d w':=by
 obtain⟨iV,a0,a1,a2,a3,a4,a5⟩:=i.iV;have w:∀b,b<d.heap.size->iV b≠3->iV b≠4->w'.heap[b]?=d.heap[b]?:=by grind
 have H:=λb a=>w b (i.bm (VC (VA a))) (by simp_all) (by simp_all);have x:=λb a=>w b (i.kj a) (by simp_all) (by simp_all);have b3:=λb a=>L b (v.lt a) (λp=>z b a (VA p)) (λp=>z b a (VC (VC (VC (VC p)))));refine⟨⟨i.tree.stay λU R=>⟨H _ (VC ⟨U,R,VA A⟩),H _ (VC ⟨U,R,VC A⟩)⟩,?_,i.wf,?_,?_,X,?_,?_,?_,?_⟩,?_⟩
 .obtain⟨a9,m,l⟩:=i.top;exact⟨a9,m,by rw[H _ (.inl A)];exact l⟩
 .exact i.bR.stay λb a=>w b (i.bm (VC (VC (VA a)))) (by simp_all) (by simp_all)
 .show∃O b1,w'.heap[c.hb]?=_/\_;rw[w c.hb (i.bm (.inr (.inr (.inr (.inl A))))) (by omega) (by omega)];exact i.iU
 .grind [aM.outs,qA]
 .refine⟨by grind [aM.outs],λD a7 t m l=>?_⟩;replace l:=l;by_cases N:D<h.length
  .rw[Yc N]at m;rw[Yc (by rw[<-i.outs.1];exact N)]at l;have:=i.outs.2 D a7 t m l;have u:=WG l;exact⟨this.1.stay λb a=>by rw[x b (.inr (.inr ⟨t,u,.inl a⟩))],this.2.stay λb a=>by rw[x b (.inr (.inr ⟨t,u,.inr a⟩))]⟩
  rw[XC (by omega)]at m;rw[XC (by rw[<-i.outs.1];omega),<-i.outs.1]at l;have Y:D-h.length=0:=by grind
  rw[Y]at m l;cases m;cases l;exact⟨v.1.stay λb a=>by simp_all,v.2.stay λb a=>by simp_all⟩
 .obtain⟨⟨a6,u⟩,l,W⟩:=i.bF;exact⟨⟨a6,cf (x 1 (VA A)) u⟩,l.stay (by rw[x 4 (.inr (.inl A))]),Ws W S⟩
 .have q:=λb m l=>z b l m;refine⟨λb=>if e.1.ownBlock=C b\/e.2.ownBlock=C b then 5 else if b<d.heap.size then iV b else 4,λb a=>?_,λb a=>?_,?_,?_,λb a=>?_,λb a=>?_⟩
  .have n:=i.bm (VC (VA a));simp only;rw[VK (q b (.inr (.inl a))),VV n];exact a0 b a
  .have n:=i.bm (VC (VC (VA a)));simp only;rw[VK (q b (.inr (.inr (.inl a)))),VV n];exact a1 b a
  .have n:=i.bm (VC (VC (VC (VA A))));simp only;rw[VK (q _ (.inr (.inr (.inr (.inl A))))),VV n];exact a2
  .have n:=i.bm (VA A);simp only;rw[VK (q _ (.inl A)),VV n];exact a3
  .replace a:=a;simp only;rcases Q b a with f|f
   .have n:=i.bm (VC (VC (VC (VC f))));rw[VK (q _ (.inr (.inr (.inr (.inr f))))),VV n];exact a4 b f
   rw[VK (λp=>by have:=v.lt p;omega),VK (by omega)]
  simp only;by_cases Z:e.1.ownBlock=C b\/e.2.ownBlock=C b
  .simp_all
  have T:dE c b:=by
   rcases a with f|f|⟨t,o,f⟩
   .exact VA f
   .exact VC (VA f)
   replace o:=o;rcases WL.1 o with o|o
   .exact VC (VC ⟨t,o,f⟩)
   simp_all
  rw[VK Z,VV (i.kj T)];exact a5 b T
 refine⟨S,λb a P=>L b a (λf=>P (VA f)) (λf=>P (VC (VC (VC (VC f))))),λb a=>?_⟩;rcases a with f|f|f|f|f
 .exact VA (VA f)
 .exact VA (VC (VA f))
 .exact VA (VC (VC (VA f)))
 .exact VA (VC (VC (VC (VA f))))
 rcases Q b f with f|f
 .exact VA (VC (VC (VC (VC f))))
 omega
end
variable{c:K}{a:E}{h:VX}{e:E}{f:E}
abbrev Oo(c b of:VB)(a:VX):VE Vx:=oV c b of 0 a ⟨#[]⟩ Vz 0 0 0 0 0 0 0 (VG I 0 0) (VG I 0 0)
theorem vx{d e f g:VB}{s:VX}{q:VI}{i k l m n o p:VB}{r t:Vx}(b:c.heap[a]?=C (VH (oV d e f g s h q i k l m n o p r t) 38 (0,0))):
 c.cell? ⟨a,0,I⟩=C (i64 d)/\c.cell? ⟨a,1,I⟩=C (i64 e)/\c.cell? ⟨a,2,I⟩=C (i64 f)/\c.cell? ⟨a,3,I⟩=C (i64 g)/\c.cell? ⟨a,4,I⟩=C (.string s)/\c.cell? ⟨a,5,I⟩=C (.string h)/\c.cell? ⟨a,6,I⟩=C (.bool q)/\c.cell? ⟨a,7,I⟩=C (i64 i)/\c.cell? ⟨a,8,I⟩=C (i64 k)/\c.cell? ⟨a,9,I⟩=C (i64 l)/\c.cell? ⟨a,10,I⟩=C (i64 m)/\c.cell? ⟨a,11,I⟩=C (i64 n)/\c.cell? ⟨a,12,I⟩=C (i64 o)/\c.cell? ⟨a,13,I⟩=C (i64 p)/\c.cell? ⟨a,14,I⟩=C (r)/\c.cell? ⟨a,15,I⟩=C (t):=
 ⟨aa b 0 A,aa b 1 A,aa b 2 A,aa b 3 A,aa b 4 A,aa b 5 A,aa b 6 A,aa b 7 A,aa b 8 A,aa b 9 A,aa b 10 A,aa b 11 A,aa b 12 A,aa b 13 A,aa b 14 A,aa b 15 A⟩
theorem Nn{q c8:E}{of:VB}{S:VL VT}{k:E->VB}{i:E->VX}{t:E->K->Prop}{u:E->E->VL VT->E->E->E->K->Prop}{R:E->E->VL VT->E->E->E->K->Prop}{tl:E->E->VB}
 (a6:0<e->S=C ⟨f,0,I⟩)(e4:e<2^20)(U:t 0 c)
 (a0:∀b g,t b g->b<e->g.cell? ⟨f,b*2,I⟩=C (i64 (k b))/\g.cell? ⟨f,b*2+1,I⟩=C (.string (i b)))
 (Z:∀b g,t b g->g.cell? ⟨s,3,I⟩=C (pt q 0)/\s<g.heap.size)
 (hF:∀b g,b<e->t b g->∀d5,Calls TP 150 #[pt q 0,i64 (k b),.string (i b)] ((g.alloc (.cells #[i64 (k b),.string (i b)] 269)).drewN d5) λp r=>∃m l n,p=VN (.slice m l n)/\l<2^20/\u b g.heap.size m l n 0 r)
 (a3:∀b o m l n j g,u b o m l n j g->g.cell? ⟨o,0,I⟩=C (i64 (k b))/\g.cell? ⟨o,1,I⟩=C (.string (i b))/\g.cell? ⟨s,3,I⟩=C (pt q 0)/\(j<l->∃a,m=C ⟨a,0,I⟩/\g.cell? ⟨a,j,I⟩=C (i64 (tl b j))))
 (a5:∀b o m l n j g,j<l->u b o m l n j g->Calls TP 60 #[pt s 0,.agg (Oo (tl b j) (k b) of (i b))] (g.alloc (.cells (Oo (tl b j) (k b) of (i b)) 38)) λp r=>p=VN (.tuple #[])/\r.heap[g.heap.size]?=C (VH (Oo (tl b j) (k b) of (i b)) 38 (0,0))/\R b o m l n j r)
 (Y:∀b o m l n j g,R b o m l n j g->Calls TP 151 #[pt s 0,.agg (Oo (tl b j) (k b) of (i b))] g λp r=>p=VN (.tuple #[])/\u b o m l n (j+1) r)
 (W:∀b o m l n g,u b o m l n l g->t (b+1) g):
 Calls TP 110 #[pt s 0,Vy M of,.slice S e c8] c λp g=>p=VN (.tuple #[])/\t e g:=by
 have b0:=VF U;have b6:=VF a0;have b5:=VF Z;have b3:=VF hF;have y:=VF a3;have c0:=VF a5;have b4:=VF Y;have b2:=VF W;have b1:=VF a6;clear U a0 Z hF a3 a5 Y W a6;go_enter Tryz.func110,Tryz.ntmps110
 go_wp2
 go_loopw [13] (λb wr=>∃d:E,d<=e/\b=Vy M d/\t d wr) (λb _=>e-(Lib.intOf b).toNat)
 case atStart=>exact⟨0,Xg _,A,b0.out⟩
 case round=>
  obtain⟨d,e2,rfl,a1⟩:=hrel;have x:=VF a1;clear a1;by_cases a9:d<e
  .have d0:=b1.out (by omega);subst d0;obtain⟨c1,c2⟩:=b6.out d wr x.out a9;obtain⟨c3,a7⟩:=b5.out d wr x.out;have T:(wr.alloc (.cells #[i64 (k d),.string (i d)] 269)).cell? ⟨s,3,I⟩=C (pt q 0):=by rw[WZ _ _ _ a7];exact c3
   have H:(wr.alloc (.cells #[i64 (k d),.string (i d)] 269)).heap[wr.heap.size]?=C (VH #[i64 (k d),.string (i d)] 269 (0,0)):=WS wr _;have P:(wr.alloc (.cells #[i64 (k d),.string (i d)] 269)).drew.cell? ⟨s,3,I⟩=C (pt q 0)/\(wr.alloc (.cells #[i64 (k d),.string (i d)] 269)).drew.cell? ⟨wr.heap.size,0,I⟩=C (i64 (k d))/\(wr.alloc (.cells #[i64 (k d),.string (i d)] 269)).drew.cell? ⟨wr.heap.size,1,I⟩=C (.string (i d)):=⟨T,aa (f:=(wr.alloc (.cells #[i64 (k d),.string (i d)] 269)).drew) H 0 A,aa (f:=(wr.alloc (.cells #[i64 (k d),.string (i d)] 269)).drew) H 1 A⟩;have X:Calls TP 150 #[pt q 0,i64 (k d),.string (i d)] (wr.alloc (.cells #[i64 (k d),.string (i d)] 269)).drew λp r=>∃m l n,p=VN (.slice m l n)/\l<2^20/\u d wr.heap.size m l n 0 r:=b3.out d wr a9 x.out 1;have N:=VF X;clear X H
   go_upto_region 3 with fail
   clear c1 c2 c3 T a7
   go_region_held3 (λz=>z.cell? ⟨s,3,I⟩=C (pt q 0)/\z.cell? ⟨wr.heap.size,0,I⟩=C (i64 (k d))/\z.cell? ⟨wr.heap.size,1,I⟩=C (.string (i d)))
    (first|with_reducible exact P|with_reducible exact Q)
    (first|(go_at_call 150;refine N.out.mono ?_;rintro p L⟨c6,w,c3,rfl,e3,v⟩;have Q:L.cell? ⟨s,3,I⟩=C (pt q 0)/\L.cell? ⟨wr.heap.size,0,I⟩=C (i64 (k d))/\L.cell? ⟨wr.heap.size,1,I⟩=C (.string (i d)):=⟨(y.out _ _ _ _ _ _ _ v).2.2.1,(y.out _ _ _ _ _ _ _ v).1,(y.out _ _ _ _ _ _ _ v).2.1⟩;have b7:=VF v;clear v))
   generalize wr.heap.size=o at*
   clear P Q N
   go_wp2
   go_loopw [27] (λb d7=>∃j:E,j<=w/\b=Vy M j/\u d o c6 w c3 j d7) (λb _=>w-(Lib.intOf b).toNat)
   case atStart=>exact⟨0,Xg _,A,b7.out⟩
   case round=>
    obtain⟨j,e1,rfl,D⟩:=hrel;obtain⟨d8,d9,_,c9⟩:=y.out _ _ _ _ _ _ _ D;have O:=VF D;clear D;by_cases a8:j<w
    .obtain⟨a,rfl,e0⟩:=c9 a8;have d1:=VF (c0.out _ _ _ _ _ _ _ a8 O.out)
     go_wp2_with (first
      |(go_at_call 60;refine d1.out.mono ?_;rintro p g0⟨rfl,d2,a4⟩;obtain⟨e5,q1,f2,f3,f4,f5,f6,f7,f8,f9,e6,e7,e8,e9,f0,f1⟩:=vx d2;have b9:=VF a4;clear a4)
      |(go_at_call 151;refine(b4.out _ _ _ _ _ _ _ b9.out).mono ?_;rintro p g1⟨rfl,a2⟩;have b8:=VF a2;clear a2))
     go_roundw
     case rel=>exact⟨j+1,by omega,by go_num,b8.out⟩
     case measure=>simp[Lib.intOf];omega
    have d3:j=w:=by omega
    subst d3
    go_wp2
    go_roundw
    case rel=>exact⟨d+1,by omega,by go_num,b2.out _ _ _ _ _ _ O.out⟩
    case measure=>simp[Lib.intOf];omega
  have d4:d=e:=by omega
  subst d4
  go_wp2
  go_end0
  exact⟨A,x.out⟩
variable{c:E}{a:K}{S:VS}{R:Vx}{T:E}{p:VX}{al:VB}
abbrev rV(b al r:VB)(x t:VX)(aF u:VB)(y:VI)(a:Vx):VE Vx:=#[i64 b,i64 al,i64 r,.string x,.string t,i64 aF,i64 u,.bool y,a]
abbrev gV(p:VX)(e f h i k m o:VB)(a q:Vx):VE Vx:=#[.string p,i64 e,i64 f,i64 h,i64 i,i64 k,i64 m,i64 o,a,q]
abbrev oZ:VE Vx:=oV 0 0 0 0 ⟨#[]⟩ ⟨#[]⟩ Vz 0 0 0 0 0 0 0 (VG I 0 0) (VG I 0 0)
abbrev oS(al b:VB):VE Vx:=oV al 0 b 0 ⟨#[]⟩ ⟨#[]⟩ Vz 0 0 0 0 0 0 0 (VG I 0 0) (VG I 0 0)
structure pJ(c w P:E)(v n V:VE Vx)(g a:K):Prop where
 h0:a.heap[c]?=C (VH v w (0,0))
 h1:a.heap[c+1]?=C (VH n P (0,0))
 h2:a.heap[c+1+1]?=C (VH oZ 38 (0,0))
 h3:a.heap[c+1+1+1]?=C (VH V 38 (0,0))
 size:a.heap.size=g.heap.size
 keep:∀d,d≠c+1+1+1->a.heap[d]?=g.heap[d]?
theorem pJ.set{h i:E}{g d V:VE Vx}{k:K}(b:pJ c h i g d V k a)(f:E)(R:Vx):pJ c h i g d (V.setIfInBounds f R) k (a.setCell ⟨c+1+1+1,f,I⟩ R):=
 ⟨(ah (by omega)).trans b.h0,(ah (by omega)).trans b.h1,(ah (by omega)).trans b.h2,aB b.h3,aI.trans b.size,λl e=>(ah e).trans (b.keep l e)⟩
abbrev jz(a:K)(d c:VE Vx)(al b:VB):K:=(((a.alloc (.cells d 107)).alloc (.cells c 158)).alloc (.cells oZ 38)).alloc (.cells (oS al b) 38)
theorem gY{fn:Func}{c:Tmp}{e:VJ}(g:fn.results=#[.cell c e]){d:VE Vx}{b:VT}(h:d.getD c F=VW (C b))(k:(loadVar e b).run S a=.ok R a):
 (results fn d).run S a=.ok R a:=by
 have f:(asAddr (VW (C b))).run S a=.ok b a:=A;have i:d[c]?.getD F=VW (C b):=by simpa using h
 simp[results,g,i,k,f,Result.andThen]
theorem oQ{b:VE Vx}{c:E×E}(d:a.heap[T]?=C (VH b 38 c))(e:b.size=16):(loadVar 38 ⟨T,0,I⟩).run TP a=.ok (.agg b) a:=
 run_loadVar_row a T 38 38 b c _ d A rfl (by rw[e];rfl)
theorem mP{a b c d:VB}{t:VX}{g:VI}{e f h i k m o:VB}{r s:VL VT}{n c1 q c2:E}:(oV a b c d t p g e f h i k m o (.slice r n c1) (.slice s q c2)).all (·.oneCell')=J:=
 YG.2 λR l=>(Qc R (by simpa using l)).1
def lj(c:E)(V:VE Vx)(KP:K->Prop)(e:Ending)(d:K):Prop:=e=VN (.agg V)/\∃b,KP b/\d.heap.size=b.heap.size/\∀a,a≠c+1+1->a≠c+1+1+1->d.heap[a]?=b.heap[a]?
theorem qF{l m:E}{k f V:VE Vx}{d:K}{KP:K->Prop}(n:V.size=16)(b:pJ c l m k f V d a)(i:KP d):(a.setRow (c+1+1) V).heap[c+1+1]?=C (VH V 38 (0,0))/\lj c V KP (VN (.agg V)) (a.setRow (c+1+1) V):=
 ⟨YE _ _ _ _ _ _ b.h2,A,d,i,by rw[ZP];exact b.size,λe g h=>by rw[XX _ _ _ _ g];exact b.keep e h⟩
section
variable{W:E}{b r aF u z:VB}{x t:VX}{y:VI}{Q:VL VT}{O N:E}{e f h i k m o:VB}{D:VL VT}{L H:E}{q:Vx}{KP U:K->Prop}
theorem wR(P:Calls TP 64 #[pt s 0,i64 al] (jz a (rV b al r x t aF u y (.slice Q O N)) (gV p e f h i k m o (.slice D L H) q) al b) λz c=>z=VN (.bool Vz)/\pJ a.heap.size 107 158 (rV b al r x t aF u y (.slice Q O N)) (gV p e f h i k m o (.slice D L H) q) (oS al b) c c/\KP c):
 Calls TP 61 #[pt s 0,.agg (rV b al r x t aF u y (.slice Q O N)),.agg (gV p e f h i k m o (.slice D L H) q)] a (lj a.heap.size (oV al 0 b 3 ⟨#[]⟩ ⟨#[]⟩ Vz 0 0 0 0 0 0 0 (VG I 0 0) (VG I 0 0)) KP):=by
 have X:=VF P;clear P;go_enter Tryz.func61,Tryz.ntmps61
 go_upto_region 3 with(go_at_call 64;refine X.out.mono ?_;rintro z c⟨rfl,g,R⟩;have d:=g.h0;have W:=g.h1;have a1:=aa d 1 A;have a2:=aa d 2 A;have a3:=aa d 3 A;have a4:=aa d 7 A;have a5:=aa W 9 A;have l:=VF g;have Y:=VF R;clear R g d W)
 have Z:=aa l.out.h3 3 A;have a0:=frozenAt l.out.h3 3;obtain⟨v,U⟩:∃v,c.setCell ⟨a.heap.size+1+1+1,3,I⟩ (i64 3)=v:=⟨_,A⟩;have S:pJ a.heap.size 107 158 (rV b al r x t aF u y (.slice Q O N)) (gV p e f h i k m o (.slice D L H) q) (oV al 0 b 3 ⟨#[]⟩ ⟨#[]⟩ Vz 0 0 0 0 0 0 0 (VG I 0 0) (VG I 0 0)) c v:=by rw[<-U];exact l.out.set 3 _
 have n:=VF S;clear S
 go_upto_region 4 with fail
 clear Z a0 U;refine Ym ?_;refine Yb A 38 _ A (a.heap.size+1+1+1) A 38 (oV al 0 b 3 ⟨#[]⟩ ⟨#[]⟩ Vz 0 0 0 0 0 0 0 (VG I 0 0) (VG I 0 0)) (0,0) _ n.out.h3 A rfl rfl ?_;refine XD A 38 _ _ A (a.heap.size+1+1) (oV al 0 b 3 ⟨#[]⟩ ⟨#[]⟩ Vz 0 0 0 0 0 0 0 (VG I 0 0) (VG I 0 0)) A rfl 38 oZ n.out.h2 A rfl mP ?_;have T:=qF A n.out Y.out;have w:=VF T;clear T
 go_wp2
 exact XP (gY A rfl (oQ w.out.1 A)) A w.out.2
theorem yc(T:Calls TP 64 #[pt s 0,i64 al] (jz a (rV b al r x t aF u y (.slice Q O N)) (gV p e f h i k m o (.slice D L H) q) al b) λv c=>v=VN (.bool J)/\pJ a.heap.size 107 158 (rV b al r x t aF u y (.slice Q O N)) (gV p e f h i k m o (.slice D L H) q) (oS al b) c c/\KP c)(S:∀a,Calls TP 104 #[q] a λa4 a5=>a4=VN (i64 z)/\a=a5)(w:(z==7)=Vz\/(z==7)=J/\(r==9)=Vz)(a7:(z !=0)=J):
 Calls TP 61 #[pt s 0,.agg (rV b al r x t aF u y (.slice Q O N)),.agg (gV p e f h i k m o (.slice D L H) q)] a (lj a.heap.size (oV al 0 b z ⟨#[]⟩ ⟨#[]⟩ Vz 0 0 0 0 0 0 0 (VG I 0 0) (VG I 0 0)) KP):=by
 rcases w with w|⟨w,a8⟩
 all_goals
  have a1:=VF T;clear T;have a0:=VF S;clear S;go_enter Tryz.func61,Tryz.ntmps61
  go_upto_region 8 with(first|(go_at_call 64;refine a1.out.mono ?_;rintro v c⟨rfl,g,U⟩;have d:=g.h0;have Z:=g.h1;have b0:=aa d 1 A;have b1:=aa d 2 A;have b2:=aa d 3 A;have b3:=aa d 7 A;have b4:=aa Z 9 A;have l:=VF g;have a2:=VF U;clear U g d Z)|(go_at_call 104;refine(a0.out _).mono ?_;rintro v a9⟨rfl,rfl⟩))
  have a3:=aa l.out.h3 3 A;have a6:=frozenAt l.out.h3 3;obtain⟨P,Y⟩:∃P,c.setCell ⟨a.heap.size+1+1+1,3,I⟩ (i64 z)=P:=⟨_,A⟩;have W:pJ a.heap.size 107 158 (rV b al r x t aF u y (.slice Q O N)) (gV p e f h i k m o (.slice D L H) q) (oV al 0 b z ⟨#[]⟩ ⟨#[]⟩ Vz 0 0 0 0 0 0 0 (VG I 0 0) (VG I 0 0)) c P:=by rw[<-Y];exact l.out.set 3 _
  have n:=VF W;clear W
  go_upto_region 9 with fail
  clear a3 a6 Y;refine Ym ?_;refine Yb A 38 _ A (a.heap.size+1+1+1) A 38 (oV al 0 b z ⟨#[]⟩ ⟨#[]⟩ Vz 0 0 0 0 0 0 0 (VG I 0 0) (VG I 0 0)) (0,0) _ n.out.h3 A rfl rfl ?_;refine XD A 38 _ _ A (a.heap.size+1+1) (oV al 0 b z ⟨#[]⟩ ⟨#[]⟩ Vz 0 0 0 0 0 0 0 (VG I 0 0) (VG I 0 0)) A rfl 38 oZ n.out.h2 A rfl mP ?_;have X:=qF A n.out a2.out;have R:=VF X;clear X
  go_wp2
  exact XP (gY A rfl (oQ R.out.1 A)) A R.out.2
end
variable{m:Vx}{q:E}
theorem pL{n:VJ}(t:¬n=135)(a:K):(Instr.typeAssert (.iface n m) 101 135 J).run TP a=.ok (.tuple #[.agg #[Vy M 0,Vy M 0,Vy M 0,.string VX.empty,.string VX.empty,Vy M 0,Vy M 0,.bool Vz,VG I 0 0,Vy M 0],.bool Vz]) a:=by have u:TP.underlying 135=C (.struct ((match TP.underlying 135 with|some (.struct r)=>r|_=>#[]))):=A;unfold Instr.typeAssert;simp only[Xx,Xd u,XJ,VK t];go_simp;rfl
theorem Au{n:VJ}(t:¬n=136)(a:K):(Instr.typeAssert (.iface n m) 101 136 J).run TP a=.ok (.tuple #[.agg #[Vy M 0,Vy M 0,Vy M 0,.string VX.empty,.string VX.empty,Vy M 0,Vy M 0,.bool Vz,VG I 0 0],.bool Vz]) a:=by have u:TP.underlying 136=C (.struct ((match TP.underlying 136 with|some (.struct r)=>r|_=>#[]))):=A;unfold Instr.typeAssert;simp only[Xx,Xd u,XJ,VK t];go_simp;rfl
theorem xo(m:Vx)(a:K):(Instr.typeAssert (.iface 136 m) 101 136 J).run TP a=.ok (.tuple #[m,.bool J]) a:=by have c:TP.underlying 136=C (.struct ((match TP.underlying 136 with|some (.struct b)=>b|_=>#[]))):=A;unfold Instr.typeAssert;simp only[Xx,Xd c,XJ,Wv];go_simp
theorem Av{n:VJ}(t:¬n=137)(a:K):(Instr.typeAssert (.iface n m) 101 137 J).run TP a=.ok (.tuple #[.agg #[Vy M 0,Vy M 0,Vy M 0,.string VX.empty,.string VX.empty,Vy M 0,Vy M 0,.bool Vz,VG I 0 0],.bool Vz]) a:=by have u:TP.underlying 137=C (.struct ((match TP.underlying 137 with|some (.struct r)=>r|_=>#[]))):=A;unfold Instr.typeAssert;simp only[Xx,Xd u,XJ,VK t];go_simp;rfl
theorem xp(m:Vx)(a:K):(Instr.typeAssert (.iface 140 m) 101 140 J).run TP a=.ok (.tuple #[m,.bool J]) a:=by have c:TP.underlying 140=C (.struct ((match TP.underlying 140 with|some (.struct b)=>b|_=>#[]))):=A;unfold Instr.typeAssert;simp only[Xx,Xd c,XJ,Wv];go_simp
section
variable{c:E}{b f aF e now aE kI:VB}{k d:VX}{l:VI}{i:VL VT}{h g:E}{KP p:K->Prop}{o:VE Vx}
theorem BJ(v:Calls TP 64 #[pt s 0,i64 al] (a.alloc (.cells (rV b al f k d aF e l (.slice i h g)) 140)) λr t=>r=VN (.bool Vz)/\t.heap[a.heap.size]?=C (VH (rV b al f k d aF e l (.slice i h g)) 140 (0,0))/\KP t)(x:∀t,KP t->Calls TP 60 #[pt s 0,.agg (oV al 0 b 3 ⟨#[]⟩ ⟨#[]⟩ Vz 0 0 0 0 0 0 0 (VG I 0 0) (VG I 0 0))] t λr z=>r=VN (.tuple #[])/\p z):
 Calls TP 40 #[pt s 0,.iface 140 (.agg (rV b al f k d aF e l (.slice i h g)))] a λr O=>r=VN (.tuple #[])/\p O:=by
 have D:=VF v;have L:=VF x;clear v x;have P:∀u,_:=pL (n:=140) (m:=.agg (rV b al f k d aF e l (.slice i h g))) (by decide);have Q:∀u,_:=Au (n:=140) (m:=.agg (rV b al f k d aF e l (.slice i h g))) (by decide);have R:∀u,_:=Av (n:=140) (m:=.agg (rV b al f k d aF e l (.slice i h g))) (by decide);have S:∀u,_:=xp (.agg (rV b al f k d aF e l (.slice i h g)));go_enter Tryz.func40,Tryz.ntmps40
 go_wp2_with (first|(go_at_call 64;refine D.out.mono ?_;rintro r t⟨rfl,n,w⟩;have T:=aa n 0 A;have U:=aa n 1 A;have W:=aa n 2 A;have X:=aa n 3 A;have Y:=aa n 4 A;have Z:=aa n 5 A;have a0:=aa n 6 A;have a1:=aa n 7 A;have a2:=aa n 8 A;have H:=VF w;clear w n)|(go_at_call 60;refine(L.out _ H.out).mono ?_;rintro r z⟨rfl,N⟩))
 exact XP (E_ A _ _ _) A ⟨A,N⟩
theorem IN(y:Calls TP 64 #[pt s 0,i64 al] (a.alloc (.cells (rV b al f k d aF e l (.slice i h g)) 140)) λn u=>n=VN (.bool J)/\u.heap[a.heap.size]?=C (VH (rV b al f k d aF e l (.slice i h g)) 140 (0,0))/\KP u){x:Out->Vx×Vx->K->Prop}(L:∀u,KP u->Calls TP 65 #[pt s 0,.agg (rV b al f k d aF e l (.slice i h g))] u λn v=>∃t m,n=VN (.agg (iX t m))/\x t m v)(H:∀t m v,x t m v->Calls TP 60 #[pt s 0,.agg (iX t m)] v λn O=>n=VN (.tuple #[])/\p O):
 Calls TP 40 #[pt s 0,.iface 140 (.agg (rV b al f k d aF e l (.slice i h g)))] a λn W=>n=VN (.tuple #[])/\p W:=by
 have P:=VF y;have S:=VF H;have T:=VF L;clear y H L;have X:∀w,_:=pL (n:=140) (m:=.agg (rV b al f k d aF e l (.slice i h g))) (by decide);have Y:∀w,_:=Au (n:=140) (m:=.agg (rV b al f k d aF e l (.slice i h g))) (by decide);have Z:∀w,_:=Av (n:=140) (m:=.agg (rV b al f k d aF e l (.slice i h g))) (by decide);have a0:∀w,_:=xp (.agg (rV b al f k d aF e l (.slice i h g)));go_enter Tryz.func40,Tryz.ntmps40
 go_wp2_with (first|(go_at_call 64;refine P.out.mono ?_;rintro n u⟨rfl,r,z⟩;have a1:=aa r 0 A;have a2:=aa r 1 A;have a3:=aa r 2 A;have a4:=aa r 3 A;have a5:=aa r 4 A;have a6:=aa r 5 A;have a7:=aa r 6 A;have a8:=aa r 7 A;have a9:=aa r 8 A;have Q:=VF z;clear z r)|(go_at_call 65;refine(T.out _ Q.out).mono ?_;rintro n v⟨t,m,rfl,D⟩;have R:=VF D;clear D)|(go_at_call 60;refine(S.out _ _ _ R.out).mono ?_;rintro n O⟨rfl,U⟩))
 go_end0
 exact⟨A,U⟩
theorem Dv(x:a.heap[s]?=C (VH o 98 (0,0)))(y:o[4]?=C (.map (C c)))(T:c<a.heap.size)(L:∀n:K,n.heap[c]?=a.heap[c]?->(Builtin.len_ #[96] 3 #[.map (C c)]).run TP n=.ok (Vy M (q:VB)) n)(a3:¬(q:VB)<8)(z:∀n:K,a.heap.size<=n.heap.size->(∀t,t<a.heap.size->n.heap[t]?=a.heap[t]?)->Calls TP 60 #[pt s 0,.agg (oV 0 0 b 13 ⟨#[]⟩ ⟨#[]⟩ Vz 0 0 0 0 0 0 0 (VG I 0 0) (VG I 0 0))] n λv X=>v=VN (.tuple #[])/\p X):
 Calls TP 40 #[pt s 0,.iface 136 (.agg (rV b al f k d aF e l (.slice i h g)))] a λv W=>v=VN (.tuple #[])/\p W:=by
 have S:s<a.heap.size:=(Wh.1 x).1;obtain⟨r,u⟩:∃r,r=((a.alloc (.cells (rV b al f k d aF e l (.slice i h g)) 136)).alloc (.cells (oV 0 0 b 13 ⟨#[]⟩ ⟨#[]⟩ Vz 0 0 0 0 0 0 0 (VG I 0 0) (VG I 0 0)) 38)):=⟨_,A⟩;have U:r.heap.size=a.heap.size+2:=by rw[u];simp
 have w:∀t,t<a.heap.size->r.heap[t]?=a.heap[t]?:=λt Q=>by rw[u,Wk _ _ _ (by simp;omega),Wk _ _ _ Q]
 have R:r.heap[a.heap.size]?=C (VH (rV b al f k d aF e l (.slice i h g)) 136 (0,0)):=by rw[u,Wk _ _ _ (by simp)];exact WS a _
 have D:r.heap[a.heap.size+1]?=C (VH (oV 0 0 b 13 ⟨#[]⟩ ⟨#[]⟩ Vz 0 0 0 0 0 0 0 (VG I 0 0) (VG I 0 0)) 38 (0,0)):=by rw[u];have:=WS (a.alloc (.cells (rV b al f k d aF e l (.slice i h g)) 136)) (.cells (oV 0 0 b 13 ⟨#[]⟩ ⟨#[]⟩ Vz 0 0 0 0 0 0 0 (VG I 0 0) (VG I 0 0)) 38);simpa using this
 have H:=(w s S).trans x;have a0:=aa H 4 y;have a2:=L r (w c T);have P:=VF (z r (by omega) w);obtain⟨a4,q1,b1,b2,b3,b4,b5,b6,b7,b8,a5,a6,a7,a8,a9,b0⟩:=vx D;have N:=VF u;clear L z x y R D H w U u;have Y:∀n,_:=pL (n:=136) (m:=.agg (rV b al f k d aF e l (.slice i h g))) (by decide);have Z:∀n,_:=xo (.agg (rV b al f k d aF e l (.slice i h g)));go_enter Tryz.func40,Tryz.ntmps40
 go_upto_region 7 with fail
 have a1:=N.out.symm
 go_wp2_with (go_at_call 60;refine P.out.mono ?_;rintro v c0⟨rfl,O⟩)
 go_end0
 exact⟨A,O⟩
theorem Ls(a4:a.heap[s]?=C (VH o 98 (0,0)))(a1:o[4]?=C (.map (C c)))(c6:c<a.heap.size)(c7:∀t:K,t.heap[c]?=a.heap[c]?->(Builtin.len_ #[96] 3 #[.map (C c)]).run TP t=.ok (Vy M (q:VB)) t)(a8:o[5]?=C (i64 now))(a9:o[6]?=C (i64 aE))(W:o[7]?=C (i64 kI))(a5:c≠s)(g6:(q:VB)<8)(g5:0<=aE/\aE<2^62)(g7:0<=kI/\kI<2^62){a6:Obj->Prop}
 (b2:∀t:K,t.heap[c]?=a.heap[c]?->∃u,(Instr.mapUpdate 96 (.map (C c)) (i64 kI) (i64 now)).run TP t=.ok () (rX t c u)/\a6 u)
 (b1:∀t:K,a.heap.size<=t.heap.size->t.heap[s]?=C (VH ((o.setIfInBounds 6 (i64 (aE+1))).setIfInBounds 7 (i64 (kI+1))) 98 (0,0))->(∃u,t.heap[c]?=C u/\a6 u)->(∀n,n<a.heap.size->n≠s->n≠c->t.heap[n]?=a.heap[n]?)->Calls TP 60 #[pt s 0,.agg (oV kI 0 b 0 ⟨#[]⟩ ⟨#[]⟩ Vz 0 0 0 0 0 0 0 (VG I 0 0) (VG I 0 0))] t λU g2=>U=VN (.tuple #[])/\p g2):
 Calls TP 40 #[pt s 0,.iface 136 (.agg (rV b al f k d aF e l (.slice i h g)))] a λU g1=>U=VN (.tuple #[])/\p g1:=by
 have f2:s<a.heap.size:=(Wh.1 a4).1;obtain⟨w,D⟩:∃w,w=((a.alloc (.cells (rV b al f k d aF e l (.slice i h g)) 136)).alloc (.cells (oV 0 0 b 13 ⟨#[]⟩ ⟨#[]⟩ Vz 0 0 0 0 0 0 0 (VG I 0 0) (VG I 0 0)) 38)):=⟨_,A⟩;have f4:w.heap.size=a.heap.size+2:=by rw[D];simp
 have R:∀n,n<a.heap.size->w.heap[n]?=a.heap[n]?:=λn v=>by rw[D,Wk _ _ _ (by simp;omega),Wk _ _ _ v]
 have b4:w.heap[a.heap.size]?=C (VH (rV b al f k d aF e l (.slice i h g)) 136 (0,0)):=by rw[D,Wk _ _ _ (by simp)];exact WS a _
 have b6:w.heap[a.heap.size+1]?=C (VH (oV 0 0 b 13 ⟨#[]⟩ ⟨#[]⟩ Vz 0 0 0 0 0 0 0 (VG I 0 0) (VG I 0 0)) 38 (0,0)):=by rw[D];have:=WS (a.alloc (.cells (rV b al f k d aF e l (.slice i h g)) 136)) (.cells (oV 0 0 b 13 ⟨#[]⟩ ⟨#[]⟩ Vz 0 0 0 0 0 0 0 (VG I 0 0) (VG I 0 0)) 38);simpa using this
 have P:=(R s f2).trans a4;have e0:=aa P 4 a1;have f3:=c7 w (R c c6);have e1:=aa P 6 a9;have e2:=frozenAt P 6;obtain⟨x,H⟩:∃x,w.setCell ⟨s,6,I⟩ (i64 (aE+1))=x:=⟨_,A⟩;have T:∀n,n≠s->x.heap[n]?=w.heap[n]?:=λn v=>by rw[<-H];exact ah v
 have f7:x.heap.size=w.heap.size:=by rw[<-H];exact aI
 have a3:x.heap[s]?=C (VH (o.setIfInBounds 6 (i64 (aE+1))) 98 (0,0)):=by rw[<-H];exact aB P
 have d9:x.cell? ⟨s,7,I⟩=C (i64 kI):=aa a3 7 (by rw[WK];simpa using W);have b5:=(T a.heap.size (by omega)).trans b4;have a2:=(T (a.heap.size+1) (by omega)).trans b6;have d8:=aa b5 0 A;obtain⟨r,L⟩:∃r,r=x.drew.setRow (a.heap.size+1) (oV kI 0 b 0 ⟨#[]⟩ ⟨#[]⟩ Vz 0 0 0 0 0 0 0 (VG I 0 0) (VG I 0 0)):=⟨_,A⟩;have Y:∀n,n≠a.heap.size+1->r.heap[n]?=x.heap[n]?:=λn v=>by rw[L];exact XX _ _ _ _ v
 have f8:r.heap.size=x.heap.size:=by rw[L];exact ZP _ _ _
 have b7:r.heap[a.heap.size+1]?=C (VH (oV kI 0 b 0 ⟨#[]⟩ ⟨#[]⟩ Vz 0 0 0 0 0 0 0 (VG I 0 0) (VG I 0 0)) 38 (0,0)):=by rw[L];exact YE _ _ _ _ _ _ a2
 have Q:=(Y s (by omega)).trans a3;have c9:r.heap[c]?=a.heap[c]?:=by rw[Y c (by omega),T c a5,R c c6]
 have e3:=aa Q 4 (by rw[WK];simpa using a1);have e4:=aa Q 5 (by rw[WK];simpa using a8);have e5:r.cell? ⟨s,7,I⟩=C (i64 kI):=aa Q 7 (by rw[WK];simpa using W);obtain⟨u,S,b0⟩:=b2 r.drew c9;obtain⟨y,N⟩:∃y,rX r.drew c u=y:=⟨_,A⟩;rw[N]at S;have c8:c<r.heap.size:=by omega
 have Z:∀n,n≠c->y.heap[n]?=r.heap[n]?:=λn v=>by rw[<-N];show(r.heap.setIfInBounds c u)[n]?=_;simp[Xu v]
 have d0:y.heap[c]?=C u:=by rw[<-N];show(r.heap.setIfInBounds c u)[c]?=_;simp[c8]
 have f9:y.heap.size=r.heap.size:=by rw[<-N];show(r.heap.setIfInBounds c u).size=_;simp
 have X:=(Z s (Xu a5)).trans Q;have b8:=(Z (a.heap.size+1) (by omega)).trans b7;have f5:y.cell? ⟨s,7,I⟩=C (i64 kI):=aa X 7 (by rw[WK];simpa using W);have f6:=frozenAt X 7;obtain⟨z,O⟩:∃z,y.setCell ⟨s,7,I⟩ (i64 (kI+1))=z:=⟨_,A⟩;have a0:∀n,n≠s->z.heap[n]?=y.heap[n]?:=λn v=>by rw[<-O];exact ah v
 have g0:z.heap.size=y.heap.size:=by rw[<-O];exact aI
 have c0:z.heap[s]?=C (VH ((o.setIfInBounds 6 (i64 (aE+1))).setIfInBounds 7 (i64 (kI+1))) 98 (0,0)):=by rw[<-O];exact aB X
 have b9:=(a0 (a.heap.size+1) (by omega)).trans b8;have e8:=VF (b1 z (by omega) c0 ⟨u,(a0 c a5).trans d0,b0⟩ λn v a7 e6=>by rw[a0 n a7,Z n e6,Y n (by omega),T n a7,R n v]);have d1:=VF a2;have d2:=VF b9;have d4:=VF D;have d5:=VF H;have d6:=VF L;have d7:=VF O;have d3:=VF S;clear b2 b1 c7 a4 a1 a8 a9 W b4 b6 P R f4 D H T f7 a3 b5 a2 L Y f8 b7 Q c9 b0 N Z d0 f9 X b8 O a0 g0 c0 b9 c8 S;have g3:∀t,_:=pL (n:=136) (m:=.agg (rV b al f k d aF e l (.slice i h g))) (by decide);have g4:∀t,_:=xo (.agg (rV b al f k d aF e l (.slice i h g)));go_enter Tryz.func40,Tryz.ntmps40
 go_upto_region 7 with fail
 have e9:=d4.out.symm;have f0:=d5.out
 go_upto_region 9 with fail
 clear e9 f0 e0 e1 e2 f3
 go_still_tail 8,(by kernel_rfl)
 change wpList _ _ _ _ _ x.drew
 refine XD A 38 _ _ A (a.heap.size+1) (oV kI 0 b 0 ⟨#[]⟩ ⟨#[]⟩ Vz 0 0 0 0 0 0 0 (VG I 0 0) (VG I 0 0)) A rfl 38 (oV 0 0 b 13 ⟨#[]⟩ ⟨#[]⟩ Vz 0 0 0 0 0 0 0 (VG I 0 0) (VG I 0 0)) d1.out A rfl mP ?_;have b3:=d6.out.symm;rw[b3];clear d9 d8 b3
 go_upto_region 10 with fail
 have S:=d3.out
 go_still_tail 12,(by kernel_rfl)
 change wpList _ _ _ _ _ r.drew
 have f1:=d7.out
 go_upto_region 12 with fail
 clear S f1 e3 e4 e5 f5 f6;obtain⟨g8,q1,h5,h6,h7,h8,h9,i0,i1,i2,g9,h0,h1,h2,h3,h4⟩:=vx d2.out
 go_wp2_with (go_at_call 60;refine e8.out.mono ?_;rintro U i4⟨rfl,e7⟩)
 go_end0
 exact⟨A,e7⟩
end
variable{m:E}{N:E}
structure kZ(m:E)(v V:VE Vx)(u a:K):Prop where
 h0:a.heap[m]?=C (VH v 140 (0,0))
 h2:a.heap[m+1]?=C (VH oZ 38 (0,0))
 h3:a.heap[m+1+1]?=C (VH V 38 (0,0))
 size:a.heap.size=u.heap.size
 keep:∀n,n≠m+1+1->a.heap[n]?=u.heap[n]?
theorem kZ.set{e V:VE Vx}{g:K}(b:kZ m e V g a)(d:E)(f:Vx):kZ m e (V.setIfInBounds d f) g (a.setCell ⟨m+1+1,d,I⟩ f):=
 ⟨(ah (by omega)).trans b.h0,(ah (by omega)).trans b.h2,aB b.h3,aI.trans b.size,λh c=>(ah c).trans (b.keep h c)⟩
theorem kZ.base{c V:VE Vx}{d:K}(b:kZ m c V d a):kZ m c V a a:=⟨b.h0,b.h2,b.h3,A,λ_ _=>rfl⟩
abbrev tL(a:K)(c:VE Vx)(al b:VB):K:=((a.alloc (.cells c 140)).alloc (.cells oZ 38)).alloc (.cells (oS al b) 38)
def yC(m:E)(V:VE Vx)(KP:K->Prop)(d:Ending)(c:K):Prop:=d=VN (.agg V)/\∃b,KP b/\c.heap.size=b.heap.size/\∀a,a≠m+1->a≠m+1+1->c.heap[a]?=b.heap[a]?
theorem GZ{h V:VE Vx}{c:K}{KP:K->Prop}(i:V.size=16)(b:kZ m h V c a)(g:KP c):(a.setRow (m+1) V).heap[m+1]?=C (VH V 38 (0,0))/\yC m V KP (VN (.agg V)) (a.setRow (m+1) V):=
 ⟨YE _ _ _ _ _ _ b.h2,A,c,g,by rw[ZP];exact b.size,λd e f=>by rw[XX _ _ _ _ e];exact b.keep d f⟩
section
variable{b c aF e o aE:VB}{f d:VX}{k:VI}{p:VE Vx}{i:VL VT}{h g:E}{r q t:K->Prop}
theorem NA(e1:(c==2)=Vz)(e2:(c==7)=Vz)(U:a.heap[s]?=C (VH p 98 (0,0)))(d0:p[6]?=C (i64 aE))(c9:p[2]?=C (pt N 0))(e0:0<=aE/\aE<2^62)(a1:Calls TP 109 #[pt N 0] ((tL a (rV b al c f d aF e k (.slice i h g)) al b).setCell ⟨s,6,I⟩ (i64 (aE+1))) λy n=>y=VN (.tuple #[])/\kZ a.heap.size (rV b al c f d aF e k (.slice i h g)) (oS al b) n n/\(n.cell? ⟨s,2,I⟩=C (pt N 0)/\n.cell? ⟨s,6,I⟩=C (i64 (aE+1)))/\r n)(a4:∀l,r l->kZ a.heap.size (rV b al c f d aF e k (.slice i h g)) (oS al b) l l->∀d3,Calls TP 113 #[pt N 0,.agg #[i64 c,.string f,.string d,i64 aF,i64 e],i64 al,i64 (aE+1)] (l.drewN d3) λy z=>y=VN (.tuple #[.string ⟨#[]⟩,VG I 0 0,.iface 32 (i64 o)])/\kZ a.heap.size (rV b al c f d aF e k (.slice i h g)) (oS al b) z z/\(z.cell? ⟨s,2,I⟩=C (pt N 0)/\z.cell? ⟨s,6,I⟩=C (i64 (aE+1)))/\q z)(a3:∀a,Calls TP 104 #[.iface 32 (i64 o)] a λd4 n=>d4=VN (i64 o)/\a=n)(d9:(o !=0)=J):
 Calls TP 65 #[pt s 0,.agg (rV b al c f d aF e k (.slice i h g))] a (yC a.heap.size (oV al 0 b o ⟨#[]⟩ ⟨#[]⟩ Vz 0 0 0 0 0 0 0 (VG I 0 0) (VG I 0 0)) q):=by
 have b4:=VF a3;clear a3;have b5:=VF a4;have tC:s<a.heap.size:=(Wh.1 U).1;obtain⟨H,O⟩:∃H,H=tL a (rV b al c f d aF e k (.slice i h g)) al b:=⟨_,A⟩;have Q:H.heap[s]?=C (VH p 98 (0,0)):=by rw[O,Wk _ _ _ (by simp;omega),Wk _ _ _ (by simp;omega),Wk _ _ _ tC];exact U
 have c7:=aa Q 6 d0;have c8:=frozenAt Q 6;have T:=aB (l:=6) (g:=i64 (aE+1)) Q;obtain⟨L,P⟩:∃L,L=H.setCell ⟨s,6,I⟩ (i64 (aE+1)):=⟨_,A⟩;rw[<-P]at T;have c6:L.cell? ⟨s,2,I⟩=C (pt N 0):=aa T 2 (by simp[c9]);have a2:Calls TP 109 #[pt N 0] L λy n=>y=VN (.tuple #[])/\kZ a.heap.size (rV b al c f d aF e k (.slice i h g)) (oS al b) n n/\(n.cell? ⟨s,2,I⟩=C (pt N 0)/\n.cell? ⟨s,6,I⟩=C (i64 (aE+1)))/\r n:=by rw[P,O];exact a1
 have b3:=VF a2;have b9:=VF O;have c0:=VF P;clear a1 a2 a4 P O U Q T;go_enter Tryz.func65,Tryz.ntmps65
 go_upto_region 5 with fail
 have d1:=b9.out.symm;have d2:=c0.out.symm
 go_upto_region 6 with fail
 clear c7 c8 d1
 go_upto_region 7 with(go_at_call 109;refine b3.out.mono ?_;rintro y l⟨rfl,a8,b0,a6⟩;have v:=VF a8;have X:=VF b0;have b7:=VF a6;clear a8 b0 a6)
 clear c6 d2;have d5:=aa v.out.h0 2 A
 go_upto_region 12 with fail
 have a5:=b5.out l b7.out v.out 1;have b6:=VF a5;clear a5 d5;have Z:l.drew.cell? ⟨s,2,I⟩=C (pt N 0)/\l.drew.cell? ⟨s,6,I⟩=C (i64 (aE+1))/\l.drew.cell? ⟨a.heap.size,0,I⟩=C (i64 b)/\l.drew.cell? ⟨a.heap.size,1,I⟩=C (i64 al)/\l.drew.cell? ⟨a.heap.size,2,I⟩=C (i64 c)/\l.drew.cell? ⟨a.heap.size,3,I⟩=C (.string f)/\l.drew.cell? ⟨a.heap.size,4,I⟩=C (.string d)/\l.drew.cell? ⟨a.heap.size,5,I⟩=C (i64 aF)/\l.drew.cell? ⟨a.heap.size,6,I⟩=C (i64 e):=⟨X.out.1,X.out.2,aa (f:=l.drew) v.out.h0 0 A,aa (f:=l.drew) v.out.h0 1 A,aa (f:=l.drew) v.out.h0 2 A,aa (f:=l.drew) v.out.h0 3 A,aa (f:=l.drew) v.out.h0 4 A,aa (f:=l.drew) v.out.h0 5 A,aa (f:=l.drew) v.out.h0 6 A⟩
 go_region_held3 (λw=>w.cell? ⟨s,2,I⟩=C (pt N 0)/\w.cell? ⟨s,6,I⟩=C (i64 (aE+1))/\w.cell? ⟨a.heap.size,0,I⟩=C (i64 b)/\w.cell? ⟨a.heap.size,1,I⟩=C (i64 al)/\w.cell? ⟨a.heap.size,2,I⟩=C (i64 c)/\w.cell? ⟨a.heap.size,3,I⟩=C (.string f)/\w.cell? ⟨a.heap.size,4,I⟩=C (.string d)/\w.cell? ⟨a.heap.size,5,I⟩=C (i64 aF)/\w.cell? ⟨a.heap.size,6,I⟩=C (i64 e))
  (first|with_reducible exact Z|with_reducible exact a0)
  (first|(go_at_call 113;refine b6.out.mono ?_;rintro y u⟨rfl,x,R,a7⟩;have a0:u.cell? ⟨s,2,I⟩=C (pt N 0)/\u.cell? ⟨s,6,I⟩=C (i64 (aE+1))/\u.cell? ⟨a.heap.size,0,I⟩=C (i64 b)/\u.cell? ⟨a.heap.size,1,I⟩=C (i64 al)/\u.cell? ⟨a.heap.size,2,I⟩=C (i64 c)/\u.cell? ⟨a.heap.size,3,I⟩=C (.string f)/\u.cell? ⟨a.heap.size,4,I⟩=C (.string d)/\u.cell? ⟨a.heap.size,5,I⟩=C (i64 aF)/\u.cell? ⟨a.heap.size,6,I⟩=C (i64 e):=⟨R.1,R.2,aa x.h0 0 A,aa x.h0 1 A,aa x.h0 2 A,aa x.h0 3 A,aa x.h0 4 A,aa x.h0 5 A,aa x.h0 6 A⟩;have S:=VF x;have d7:=VF R;have b8:=VF a7;clear x a7 R))
 clear Z a0;have c3:=aa S.out.h3 3 A;have d6:=frozenAt S.out.h3 3;obtain⟨W,b2⟩:∃W,u.setCell ⟨a.heap.size+1+1,3,I⟩ (i64 o)=W:=⟨_,A⟩;have a9:kZ a.heap.size (rV b al c f d aF e k (.slice i h g)) (oV al 0 b o ⟨#[]⟩ ⟨#[]⟩ Vz 0 0 0 0 0 0 0 (VG I 0 0) (VG I 0 0)) u W:=by rw[<-b2];exact S.out.set 3 _
 have D:=VF a9;clear a9
 go_upto_region 14 with(go_at_call 104;refine(b4.out _).mono ?_;rintro y e5⟨rfl,rfl⟩)
 clear c3 d6 b2;have d8:=aa D.out.h3 3 A
 go_upto_region 15 with fail
 refine Ym ?_;refine Yb A 38 _ A (a.heap.size+1+1) A 38 (oV al 0 b o ⟨#[]⟩ ⟨#[]⟩ Vz 0 0 0 0 0 0 0 (VG I 0 0) (VG I 0 0)) (0,0) _ D.out.h3 A rfl rfl ?_;refine XD A 38 _ _ A (a.heap.size+1) (oV al 0 b o ⟨#[]⟩ ⟨#[]⟩ Vz 0 0 0 0 0 0 0 (VG I 0 0) (VG I 0 0)) A rfl 38 oZ D.out.h2 A rfl mP ?_;have b1:=GZ A D.out b8.out;have Y:=VF b1;clear b1
 go_wp2
 exact XP (gY A rfl (oQ Y.out.1 A)) A Y.out.2
theorem wo{c7:Vx}{V:VE Vx}{e0 e1:K->Prop}{q:VL VT->E->E->K->Prop}{x a8:VX}{S T U W X Y Z:VB}(l0:(c==2)=Vz)(l1:(c==7)=Vz)(d0:a.heap[s]?=C (VH p 98 (0,0)))(j6:p[6]?=C (i64 aE))(j5:p[2]?=C (pt N 0))(k9:0<=aE/\aE<2^62)(e3:Calls TP 109 #[pt N 0] ((tL a (rV b al c f d aF e k (.slice i h g)) al b).setCell ⟨s,6,I⟩ (i64 (aE+1))) λn v=>n=VN (.tuple #[])/\kZ a.heap.size (rV b al c f d aF e k (.slice i h g)) (oS al b) v v/\(v.cell? ⟨s,2,I⟩=C (pt N 0)/\v.cell? ⟨s,6,I⟩=C (i64 (aE+1)))/\r v)(e6:∀l,r l->kZ a.heap.size (rV b al c f d aF e k (.slice i h g)) (oS al b) l l->∀k1,Calls TP 113 #[pt N 0,.agg #[i64 c,.string f,.string d,i64 aF,i64 e],i64 al,i64 (aE+1)] (l.drewN k1) λn u=>∃D L H,n=VN (.tuple #[.string x,.slice D L H,.nilIface])/\kZ a.heap.size (rV b al c f d aF e k (.slice i h g)) (oS al b) u u/\(u.cell? ⟨s,2,I⟩=C (pt N 0)/\u.cell? ⟨s,6,I⟩=C (i64 (aE+1)))/\q D L H u)(e5:∀a,Calls TP 104 #[.nilIface] a λk3 v=>k3=VN (i64 0)/\a=v)(g2:∀D L H u,q D L H u->kZ a.heap.size (rV b al c f d aF e k (.slice i h g)) (oV al 0 b 0 ⟨#[]⟩ ⟨#[]⟩ Vz 0 0 0 0 0 0 0 (VG I 0 0) (VG I 0 0)) u u->Calls TP 110 #[pt s 0,i64 b,.slice D L H] u λn w=>n=VN (.tuple #[])/\kZ a.heap.size (rV b al c f d aF e k (.slice i h g)) (oV al 0 b 0 ⟨#[]⟩ ⟨#[]⟩ Vz 0 0 0 0 0 0 0 (VG I 0 0) (VG I 0 0)) w w/\w.cell? ⟨s,2,I⟩=C (pt N 0)/\t w)(e8:∀w,t w->kZ a.heap.size (rV b al c f d aF e k (.slice i h g)) (oV al 0 b 0 x ⟨#[]⟩ Vz 0 0 0 0 0 0 0 (VG I 0 0) (VG I 0 0)) w w->Calls TP 58 #[pt N 0,.string x] w λn a1=>∃a3 a5 a4,n=VN (.tuple #[.agg #[.string a8,i64 S,i64 T,i64 U,i64 W,i64 X,i64 Y,i64 Z,.slice a3 a5 a4],c7])/\(∀a7,kZ a.heap.size (rV b al c f d aF e k (.slice i h g)) (oV al 0 b 0 x ⟨#[]⟩ Vz 0 0 0 0 0 0 0 (VG I 0 0) (VG I 0 0)) (a1.alloc a7) (a1.alloc a7))/\e0 a1)(f1:∀D L H u O,q D L H u->kZ a.heap.size (rV b al c f d aF e k (.slice i h g)) (oV al 0 b 0 ⟨#[]⟩ ⟨#[]⟩ Vz 0 0 0 0 0 0 0 (VG I 0 0) (VG I 0 0)) u O->q D L H O)(f2:∀u O,t u->kZ a.heap.size (rV b al c f d aF e k (.slice i h g)) (oV al 0 b 0 x ⟨#[]⟩ Vz 0 0 0 0 0 0 0 (VG I 0 0) (VG I 0 0)) u O->t O)(f3:∀a1 a7,e0 a1->e1 (a1.alloc a7))(g4:.nilIface=c7/\oV al 0 b 0 x ⟨#[]⟩ J S T U W X Y Z (VG I 0 0) (VG I 0 0)=V\/.iface 32 (i64 o)=c7/\oV al 0 b 0 x ⟨#[]⟩ Vz 0 0 0 0 0 0 0 (VG I 0 0) (VG I 0 0)=V):
 Calls TP 65 #[pt s 0,.agg (rV b al c f d aF e k (.slice i h g))] a (yC a.heap.size V e1):=by
 have i6:=VF g4;clear g4;have h2:=VF e5;have i4:=VF g2;have h5:=VF e8;have i1:=VF f1;have i2:=VF f2;have i3:=VF f3;clear e5 g2 e8 f1 f2 f3;have h3:=VF e6;have tC:s<a.heap.size:=(Wh.1 d0).1;obtain⟨b2,b5⟩:∃b2,b2=tL a (rV b al c f d aF e k (.slice i h g)) al b:=⟨_,A⟩;have b7:b2.heap[s]?=C (VH p 98 (0,0)):=by rw[b5,Wk _ _ _ (by simp;omega),Wk _ _ _ (by simp;omega),Wk _ _ _ tC];exact d0
 have j3:=aa b7 6 j6;have j4:=frozenAt b7 6;have c9:=aB (l:=6) (g:=i64 (aE+1)) b7;obtain⟨b3,b6⟩:∃b3,b3=b2.setCell ⟨s,6,I⟩ (i64 (aE+1)):=⟨_,A⟩;rw[<-b6]at c9;have j2:b3.cell? ⟨s,2,I⟩=C (pt N 0):=aa c9 2 (by simp[j5]);have e4:Calls TP 109 #[pt N 0] b3 λn v=>n=VN (.tuple #[])/\kZ a.heap.size (rV b al c f d aF e k (.slice i h g)) (oS al b) v v/\(v.cell? ⟨s,2,I⟩=C (pt N 0)/\v.cell? ⟨s,6,I⟩=C (i64 (aE+1)))/\r v:=by rw[b6,b5];exact e3
 have h1:=VF e4;have i7:=VF b5;have i8:=VF b6;clear e3 e4 e6 b6 b5 d0 b7 c9;go_enter Tryz.func65,Tryz.ntmps65
 go_upto_region 5 with fail
 have j7:=i7.out.symm;have j8:=i8.out.symm
 go_upto_region 6 with fail
 clear j3 j4 j7
 go_upto_region 7 with(go_at_call 109;refine h1.out.mono ?_;rintro n l⟨rfl,f7,g7,f0⟩;have P:=VF f7;have d6:=VF g7;have h7:=VF f0;clear f7 g7 f0)
 clear j2 j8;have k4:=aa P.out.h0 2 A
 go_upto_region 12 with fail
 have e7:=h3.out l h7.out P.out 1;have h4:=VF e7;clear e7 k4;have d8:l.drew.cell? ⟨s,2,I⟩=C (pt N 0)/\l.drew.cell? ⟨s,6,I⟩=C (i64 (aE+1))/\l.drew.cell? ⟨a.heap.size,0,I⟩=C (i64 b)/\l.drew.cell? ⟨a.heap.size,1,I⟩=C (i64 al)/\l.drew.cell? ⟨a.heap.size,2,I⟩=C (i64 c)/\l.drew.cell? ⟨a.heap.size,3,I⟩=C (.string f)/\l.drew.cell? ⟨a.heap.size,4,I⟩=C (.string d)/\l.drew.cell? ⟨a.heap.size,5,I⟩=C (i64 aF)/\l.drew.cell? ⟨a.heap.size,6,I⟩=C (i64 e):=⟨d6.out.1,d6.out.2,aa (f:=l.drew) P.out.h0 0 A,aa (f:=l.drew) P.out.h0 1 A,aa (f:=l.drew) P.out.h0 2 A,aa (f:=l.drew) P.out.h0 3 A,aa (f:=l.drew) P.out.h0 4 A,aa (f:=l.drew) P.out.h0 5 A,aa (f:=l.drew) P.out.h0 6 A⟩
 go_region_held3 (λQ=>Q.cell? ⟨s,2,I⟩=C (pt N 0)/\Q.cell? ⟨s,6,I⟩=C (i64 (aE+1))/\Q.cell? ⟨a.heap.size,0,I⟩=C (i64 b)/\Q.cell? ⟨a.heap.size,1,I⟩=C (i64 al)/\Q.cell? ⟨a.heap.size,2,I⟩=C (i64 c)/\Q.cell? ⟨a.heap.size,3,I⟩=C (.string f)/\Q.cell? ⟨a.heap.size,4,I⟩=C (.string d)/\Q.cell? ⟨a.heap.size,5,I⟩=C (i64 aF)/\Q.cell? ⟨a.heap.size,6,I⟩=C (i64 e))
  (first|with_reducible exact d8|with_reducible exact d9)
  (first|(go_at_call 113;refine h4.out.mono ?_;rintro n y⟨D,L,H,rfl,R,b8,f4⟩;have d9:y.cell? ⟨s,2,I⟩=C (pt N 0)/\y.cell? ⟨s,6,I⟩=C (i64 (aE+1))/\y.cell? ⟨a.heap.size,0,I⟩=C (i64 b)/\y.cell? ⟨a.heap.size,1,I⟩=C (i64 al)/\y.cell? ⟨a.heap.size,2,I⟩=C (i64 c)/\y.cell? ⟨a.heap.size,3,I⟩=C (.string f)/\y.cell? ⟨a.heap.size,4,I⟩=C (.string d)/\y.cell? ⟨a.heap.size,5,I⟩=C (i64 aF)/\y.cell? ⟨a.heap.size,6,I⟩=C (i64 e):=⟨b8.1,b8.2,aa R.h0 0 A,aa R.h0 1 A,aa R.h0 2 A,aa R.h0 3 A,aa R.h0 4 A,aa R.h0 5 A,aa R.h0 6 A⟩;have c6:=VF R;have k8:=VF b8;have h8:=VF f4;clear R f4 b8))
 clear d8 d9;have c3:=aa c6.out.h3 3 A;have k5:=frozenAt c6.out.h3 3;obtain⟨O,h0⟩:∃O,y.setCell ⟨a.heap.size+1+1,3,I⟩ (i64 0)=O:=⟨_,A⟩;have b4:kZ a.heap.size (rV b al c f d aF e k (.slice i h g)) (oV al 0 b 0 ⟨#[]⟩ ⟨#[]⟩ Vz 0 0 0 0 0 0 0 (VG I 0 0) (VG I 0 0)) y O:=by rw[<-h0];exact c6.out.set 3 _
 have g3:=i4.out D L H O (i1.out _ _ _ _ _ h8.out b4) b4.base;have i5:=VF g3;have e2:=VF b4;clear b4 g3
 go_upto_region 14 with(go_at_call 104;refine(h2.out _).mono ?_;rintro n a1⟨rfl,rfl⟩)
 clear c3 k5 h0;have j1:=aa e2.out.h3 3 A;have j0:=aa e2.out.h0 0 A
 go_upto_region 17 with(go_at_call 110;refine i5.out.mono ?_;rintro n w⟨rfl,f9,g6,f5⟩;have b0:=VF f9;have d5:=VF g6;have h9:=VF f5;clear f9 g6 f5)
 clear j1 j0;have k2:=aa b0.out.h3 4 A;have k7:=frozenAt b0.out.h3 4;obtain⟨a9,d1⟩:∃a9,w.setCell ⟨a.heap.size+1+1,4,I⟩ (.string x)=a9:=⟨_,A⟩;have c8:kZ a.heap.size (rV b al c f d aF e k (.slice i h g)) (oV al 0 b 0 x ⟨#[]⟩ Vz 0 0 0 0 0 0 0 (VG I 0 0) (VG I 0 0)) w a9:=by rw[<-d1];exact b0.out.set 4 _
 have j9:a9.cell? ⟨s,2,I⟩=C (pt N 0):=by rw[<-d1,Aw (λn=>by have:=b0.out.h3;have a2:=d5.out;unfold K.cell? at a2;rw[<-n,this]at a2;cases a2)];exact d5.out
 have e9:=h5.out a9 (i2.out _ _ h9.out c8) c8.base;have h6:=VF e9;clear e9 c8
 go_upto_region 19 with(go_at_call 58;refine h6.out.mono ?_;rintro n b9⟨a3,a5,a4,rfl,g0,f6⟩;have a6:=VF (g0 (.cells #[.string a8,i64 S,i64 T,i64 U,i64 W,i64 X,i64 Y,i64 Z,.slice a3 a5 a4] 154));have i0:=VF (i3.out b9 (.cells #[.string a8,i64 S,i64 T,i64 U,i64 W,i64 X,i64 Y,i64 Z,.slice a3 a5 a4] 154) f6);have g5:=WS b9 (.cells #[.string a8,i64 S,i64 T,i64 U,i64 W,i64 X,i64 Y,i64 Z,.slice a3 a5 a4] 154);have d4:=VF g5;clear g0 f6 g5)
 clear k2 k7 d1 j9;generalize b9.alloc (.cells #[.string a8,i64 S,i64 T,i64 U,i64 W,i64 X,i64 Y,i64 Z,.slice a3 a5 a4] 154)=d2 at*
 rcases i6.out with⟨rfl,rfl⟩|⟨rfl,rfl⟩
 focus
  go_upto_region 20 with fail
  have i9:=aa a6.out.h3 6 A;have k6:=frozenAt a6.out.h3 6;obtain⟨c0,g9⟩:∃c0,d2.setCell ⟨a.heap.size+1+1,6,I⟩ (.bool J)=c0:=⟨_,A⟩;have g1:kZ a.heap.size (rV b al c f d aF e k (.slice i h g)) (oV al 0 b 0 x ⟨#[]⟩ J 0 0 0 0 0 0 0 (VG I 0 0) (VG I 0 0)) d2 c0:=by rw[<-g9];exact a6.out.set 6 _
  have z:=VF g1;clear g1
  go_upto_region 21 with fail
  clear i9 k6 g9;have a0:=(z.out.keep b9.heap.size (λn=>by have a2:=a6.out.h3;rw[<-n,d4.out]at a2;cases a2)).trans d4.out;have l2:=aa a0 1 A;have l3:=aa a0 2 A;have l4:=aa a0 3 A;have l5:=aa a0 4 A;have l6:=aa a0 5 A;have l7:=aa a0 6 A;have l8:=aa a0 7 A;have l9:=aa z.out.h3 7 A;have m0:=aa z.out.h3 8 A;have m1:=aa z.out.h3 9 A;have m2:=aa z.out.h3 10 A;have m3:=aa z.out.h3 11 A;have m4:=aa z.out.h3 12 A;have m5:=aa z.out.h3 13 A;have m7:=frozenAt z.out.h3;clear a0;obtain⟨d3,k0⟩:∃d3,(((((((c0.setCell ⟨a.heap.size+1+1,7,I⟩ (i64 S)).setCell ⟨a.heap.size+1+1,8,I⟩ (i64 T)).setCell ⟨a.heap.size+1+1,9,I⟩ (i64 U)).setCell ⟨a.heap.size+1+1,10,I⟩ (i64 W)).setCell ⟨a.heap.size+1+1,11,I⟩ (i64 X)).setCell ⟨a.heap.size+1+1,12,I⟩ (i64 Y)).setCell ⟨a.heap.size+1+1,13,I⟩ (i64 Z))=d3:=⟨_,A⟩;have f8:kZ a.heap.size (rV b al c f d aF e k (.slice i h g)) (oV al 0 b 0 x ⟨#[]⟩ J S T U W X Y Z (VG I 0 0) (VG I 0 0)) d2 d3:=by rw[<-k0];exact((((((z.out.set 7 _).set 8 _).set 9 _).set 10 _).set 11 _).set 12 _).set 13 _
  have b1:=VF f8;clear f8
  go_upto_region 22 with fail
 rotate_left
 have b1:=a6
 focus
  go_upto_region 22 with fail
 rotate_left
 all_goals
  refine Ym ?_;refine Yb A 38 _ A (a.heap.size+1+1) A 38 _ (0,0) _ b1.out.h3 A rfl rfl ?_;refine XD A 38 _ _ A (a.heap.size+1) _ A rfl 38 oZ b1.out.h2 A rfl mP ?_;have g8:=GZ A b1.out i0.out;have d7:=VF g8;clear g8
  go_wp2
  exact XP (gY A rfl (oQ d7.out.1 A)) A d7.out.2
end
variable{c:K}{b:K}{e:Vx}{i:Out}{h:E}{a:E}
section
variable[Inhabited aV]
theorem eI(c:VD (VB×VB))(id:VB):fJ c (Vy M id)=(c.find? λb=>decide (b.1=id)).map λb=>i64 b.2:=A
theorem sL{id:VB}:(fJ y.dp (Vy M id)).isSome=Wt.known y id:=by rw[eI,Zw,YA,l_];simp[Wt.known]
theorem uT(c:VD (VB×VB))(id now:VB)(d:VB):((c.map λb=>if b.1=id then(b.1,now)else b).find? λb=>decide (b.1=d))=(c.find? λb=>decide (b.1=d)).map λb=>if b.1=id then(b.1,now)else b:=by
 induction c with
 |nil=>rfl
 |cons b c e=>grind
theorem zk{id:VB}(e:Wt.known y id=J):fJ (Wt.heard y id).dp (Vy M id)=C (i64 y.now)/\∀b,b≠Vy M id->fJ (Wt.heard y id).dp b=fJ y.dp b:=by
 have d:=e;rw[<-sL,eI,Zw]at d;obtain⟨c,f⟩:=Wn.1 d;have hid:c.1=id:=by grind
 refine⟨?_,λb l=>?_⟩
 .show VL.map _ (VD.find? _ (y.dp.map _))=_;rw[uT,f];simp[hid]
 cases b with
 |int g h=>
  cases g with
  |i64=>
   rw[eI,eI];show VL.map _ (VD.find? _ (y.dp.map _))=_;rw[uT];cases k:VD.find? (λc=>decide (c.1=h)) y.dp with
   |none=>rfl
   |some i=>grind
  |_=>rfl
 |_=>rfl
section
variable{f:VB}{g:VD Out}{d:kH}
theorem Gh(i:aM s f y g d c)(id:VB):Calls TP 64 #[pt s 0,Vy M id] c λh b=>h=VN (.bool (Wt.known y id))/\aM s f (if Wt.known y id then Wt.heard y id else y) g d b/\aJ (aK s y.tree d) (aK s y.tree d) c b:=by
 obtain⟨z,w,r,p⟩:=i.iU;have k:=p.get LQ GS (TD c) r (k:=Vy M id) ⟨id,A⟩ J;have l:=sL (y:=y) (id:=id);cases o:Wt.known y id with
 |true=>
  rw[o]at l;obtain⟨e,m⟩:=Wn.1 l;obtain⟨H,L⟩:=zk o;obtain⟨q,rfl⟩:∃q,e=i64 q:=by
   rw[eI]at m;cases U:VD.find? (λh=>decide (h.1=id)) y.dp with
   |none=>simp_all
   |some h=>grind
  rw[m]at k;have t:c.drew.heap[d.hb]?=C (.map z w):=r;obtain⟨D,x,O,v⟩:=p.put LQ GS t (k:=Vy M id) ⟨id,A⟩ (i64 y.now) (g:=fJ (Wt.heard y id).dp) H L;refine(IA i.ch k O).mono λh R⟨n,u⟩=>⟨n,?_⟩;obtain⟨q1,Q⟩:=U_ (o':=.map D x) t;rw[u];exact i.hears (se:=(Wt.heard y id).dp) q1 v (by simp) (λa T N=>Q a N)
 |false=>
  rw[o]at l;have m:fJ y.dp (Vy M id)=I:=by simpa using l
  rw[m]at k;refine(LX i.ch k).mono λh R⟨n,u⟩=>⟨n,?_⟩;simp_all [aJ.refl]
theorem lh.form{f:VD B}(d:lh f e c):∃a h b,e=.slice a h b:=by rcases d with⟨rfl,_⟩|⟨_,_,_,_,_,rfl,_⟩<;>exact⟨_,_,_,A⟩
theorem xh.form{f:VD (VB×B)}(d:xh f e c):∃a h b,e=.slice a h b:=by rcases d with⟨rfl,_⟩|⟨_,_,_,_,_,rfl,_⟩<;>exact⟨_,_,_,A⟩
theorem EY(k:aM s f y g d c)(u:g.length<2^20){e:Vx×Vx}(l:mg i e c)(r:∀a,e.1.ownBlock=C a\/e.2.ownBlock=C a->¬aK s y.tree d a):
 Calls TP 60 #[pt s 0,.agg (iX i e)] c λm b=>m=VN (.tuple #[])/\∃h,aM s f y (g++[i]) {d with ov:=h,vs:=d.vs++[e]} b/\aJ (aK s y.tree d) (aK s y.tree {d with ov:=h,vs:=d.vs++[e]}) c b:=by
 obtain⟨P,Q⟩:=e;obtain⟨N,H,c1,n⟩:=l.1.form;obtain⟨O,L,c2,o⟩:=l.2.form;subst n o;refine(MY k.ch A k.row u).mono λm b⟨q,x,t,h,p,w,v⟩=>⟨q,h,?_⟩;exact k.Us l r p w v x t
theorem Tf(c:K):(binOp .eql 75 .nilFunc .nilFunc).run TP c=.ok (.bool J) c:=A
theorem Mb{v:VE Vx}(w:c.heap[s]?=C (VH v 98 (0,0)))(y:v[9]?=C .nilFunc)(d e f g:VB)(r t:VX)(p:VI)(h i k l m n o:VB)(q u:Vx):Calls TP 151 #[pt s 0,.agg (oV d e f g r t p h i k l m n o q u)] c λx b=>x=VN (.tuple #[])/\b=c.alloc (.cells (oV d e f g r t p h i k l m n o q u) 38):=by
 have z:=(Wh.1 w).1
 have D:(c.alloc (.cells (oV d e f g r t p h i k l m n o q u) 38)).cell? ⟨s,9,I⟩=C .nilFunc:=by rw[WZ _ _ _ z];exact aa w 9 y
 have H:=Tf (c.alloc (.cells (oV d e f g r t p h i k l m n o q u) 38));go_enter Tryz.func151,Tryz.ntmps151
 go_wp2
 simp[XP,E_]
theorem yl(of:VB):∀(c:VD Wt.Ev)(y:dH)(b:Wt.Ev),Wt.tell of y (c++[b])=((iS of (Wt.tell of y c).1 b).1,(Wt.tell of y c).2++(iS of (Wt.tell of y c).1 b).2)
 |[],y,b=>by
  simp[Wt.tell]
 |d::c,y,b=>by simp[Wt.tell,yl]
theorem ym(of:VB):∀(m:VD Wt.Ev){y:dH},(∀k l,(y.bR k l).length<=h)->∀k l,((Wt.tell of y m).1.bR k l).length<=h
 |[],y,n=>n
 |o::m,y,n=>by
  refine ym of m (y:=(iS of y o).1) λk l=>?_;unfold iS
  grind
theorem Bf(c:VB):∀b:VD VB,(dI c b).length<=b.length+1
 |[]=>by simp[dI]
 |d::b=>by
  unfold dI;split
  .simp
  split
  .simp
  have:=Bf c b;simp only[WO];omega
theorem mG(b:VD VB):∀a:VD VB,(a.foldr dI b).length<=a.length+b.length
 |[]=>by simp
 |c::a=>by have d:=Bf c (a.foldr dI b);have e:=mG b a;simp only[J_,WO];omega
theorem pz(e:∀c d,(y.bR c d).length<=h)(b:Wt.Ev):(Wt.toldOf y b).length<=h+h:=by grind [Wt.toldOf,mG]
theorem Dz(c:VD Wt.Ev)(b:E)(d:Wt.Ev)(e:c[b]?=C d):(hZ c)[b*2]?=C (i64 d.1)/\(hZ c)[b*2+1]?=C (.string (bs d.2)):=by
 unfold hZ
 induction c generalizing b with
 |nil=>simp at e
 |cons g c f=>
  cases b with
  |zero=>simp_all
  |succ b=>grind
def xA(of:VB)(b:Wt.Ev)(c:VB):Out:={al:=c,ev:=b.1,idx:=of,path:=b.2}
abbrev kV:Vx×Vx:=(VG I 0 0,VG I 0 0)
theorem IQ(of:VB)(b:Wt.Ev)(d:VB)(c:K):mg (xA of b d) kV c:=⟨VA ⟨A,A⟩,VA ⟨A,A⟩⟩
def mj(s:E)(f:VB)(h:dH)(i:VD Out)(g:Tree)(d:kH)(c b:K)(e:kH):Prop:=aM s f h i e b/\h.tree=g/\aJ (aK s g d) (aK s g e) c b/\(∀a,dE e a->dE d a)/\e.tb=d.tb
theorem mj.step{D o:dH}{z p:VD Out}{l:Tree}{m k:kH}{q w₂:K}(n:mj s f D z l d c q m)(t:aM s f o p k w₂)(w:o.tree=l)(r:aJ (aK s l m) (aK s l k) q w₂)(x:∀a,dE k a->dE m a)(v:k.tb=m.tb):mj s f o p l d c w₂ k:=
 ⟨t,w,n.2.2.1.trans r,λa u=>n.2.2.2.1 a (x a u),v.trans n.2.2.2.2⟩
theorem aJ.out{own o:E->Prop}(l:aJ own o c b)(m:a<c.heap.size)(n:¬own a):b.heap[a]?=c.heap[a]?/\¬o a/\a<b.heap.size:=
 ⟨l.keep a m n,λk=>by
   rcases l.more a k with k|k
   .exact n k
   omega,Ws m l.size⟩
theorem GU{d:kH}{f:Vx}:∀a,dE {d with ov:=f,vs:=d.vs++[kV]} a->dE d a:=λa g=>by
 rcases g with b|b|⟨e,c,b⟩
 .exact VA b
 .exact VC (VA b)
 replace c:=c;rcases WL.1 c with c|c
 .exact VC (VC ⟨e,c,b⟩)
 simp at c;subst c;rcases b with b|b<;>cases b
theorem RX(e7:aM s f y g d c)(g3:∀d4 Z,(y.bR d4 Z).length<=8){m:VD Wt.Ev}{g6:E}(f4:Qo m e g6 c)(f6:∀a,e.ownBlock=C a->¬aK s y.tree d a)(h4:m.length<2^10)(h6:g.length+16*m.length<2^20)(of:VB):
 Calls TP 110 #[pt s 0,Vy M of,e] c λS b=>S=VN (.tuple #[])/\∃n,mj s f (Wt.tell of y m).1 (g++(Wt.tell of y m).2) y.tree d c b n:=by
 obtain⟨p,g2,c8⟩:∃p,(∃b8,e=.slice b8 m.length m.length/\(0<m.length->b8=C ⟨p,0,I⟩))/\(0<m.length->c.heap[p]?=C (VH (hZ m) 269 (0,0))/\¬aK s y.tree d p):=by
  rcases f4 with⟨rfl,rfl⟩|⟨p,rfl,W,_,O⟩
  .exact⟨0,⟨I,A,λl=>absurd l (by simp)⟩,λl=>absurd l (by simp)⟩
  exact⟨p,⟨_,A,λ_=>rfl⟩,λ_=>⟨O,f6 p A⟩⟩
 obtain⟨b8,rfl,f3⟩:=g2;obtain⟨k,e0⟩:∃k:E->Wt.Ev,∀i,i<m.length->m[i]?=C (k i):=⟨λi=>m.getD i (0,[]),λi w=>by simp[List.getD,w]⟩
 let o:=λi=>(Wt.tell of y (m.take i)).1
 let a6:=λi=>g++(Wt.tell of y (m.take i)).2
 have b3:∀i,(o i).tree=y.tree:=λi=>sw of _ y;have d3:∀i d4 Z,((o i).bR d4 Z).length<=8:=λi=>ym of _ g3
 have g1:∀i,i<m.length->o (i+1)=(iS of (o i) (k i)).1/\a6 (i+1)=a6 i++(Wt.toldOf (o i) (k i)).map (xA of (k i)):=λi w=>by
  have L:m.take (i+1)=m.take i++[k i]:=by rw[i_,e0 i w];rfl
  show(Wt.tell of y (m.take (i+1))).1=_/\g++(Wt.tell of y (m.take (i+1))).2=_;rw[L,yl];exact⟨A,by rw[<-XQ];rfl⟩
 have f9:∀i,i<=m.length->(a6 i).length<=g.length+16*i:=λi=>by
  induction i with
  |zero=>intro _;show(g++(Wt.tell of y []).2).length<=_;simp[Wt.tell]
  |succ i h7=>intro w;have O:=pz (d3 i) (k i);rw[(g1 i (by omega)).2,WI,Ya];omega
 let b4:E->K->Prop:=λi b=>∃n,mj s f (o i) (a6 i) y.tree d c b n/\n.tw=d.tw/\(0<m.length->b.heap[p]?=C (VH (hZ m) 269 (0,0))/\¬aK s y.tree n p/\p<b.heap.size)
 let b5:E->E->VL VT->E->E->E->K->Prop:=λi D a Q R j b=>i<m.length/\j<=Q/\Q=(Wt.toldOf (o i) (k i)).length/\∃n,mj s f (iS of (o i) (k i)).1 (a6 i++((Wt.toldOf (o i) (k i)).take j).map (xA of (k i))) y.tree d c b n/\n.tw=d.tw/\(0<m.length->b.heap[p]?=C (VH (hZ m) 269 (0,0))/\¬aK s y.tree n p/\p<b.heap.size)/\
  (b.heap[D]?=C (VH #[i64 (k i).1,.string (bs (k i).2)] 269 (0,0))/\¬aK s y.tree n D/\D<b.heap.size)/\(0<Q->∃q H,a=C ⟨q,0,I⟩/\b.heap[q]?=C (VH H 3 (0,0))/\H.toList.take Q=(Wt.toldOf (o i) (k i)).map i64/\¬aK s y.tree n q/\q<b.heap.size)
 let d6:E->E->VL VT->E->E->E->K->Prop:=λi D a Q R j b=>b5 i D a Q R (j+1) b
 have f5:∀b,b4 m.length b->∃n,mj s f (Wt.tell of y m).1 (g++(Wt.tell of y m).2) y.tree d c b n:=λb⟨n,l,_⟩=>by have L:m.take m.length=m:=ZD;have d8:mj s f (Wt.tell of y (m.take m.length)).1 (g++(Wt.tell of y (m.take m.length)).2) y.tree d c b n:=l;rw[L]at d8;exact⟨n,d8⟩
 refine I_ (Nn (q:=d.tw) (f:=p) (k:=λi=>(k i).1) (i:=λi=>bs (k i).2) (tl:=λi j=>(Wt.toldOf (o i) (k i)).getD j 0) (t:=b4) (u:=b5) (R:=d6) f3 (by omega) ?_ ?_ ?_ ?_ ?_ ?_ ?_ ?_) λS b⟨T,l⟩=>⟨T,f5 b l⟩
 ·
  refine⟨d,⟨?_,A,aJ.refl _ _,λa l=>l,A⟩,A,λl=>⟨(c8 l).1,(c8 l).2,(Wh.1 (c8 l).1).1⟩⟩;show aM s f (Wt.tell of y []).1 (g++(Wt.tell of y []).2) d c;simp only[Wt.tell,Yp];exact e7
 ·
  intro i b⟨n,_,_,l⟩ w;obtain⟨W,_⟩:=l (by omega);obtain⟨q1,g9⟩:=Dz m i (k i) (e0 i w);exact⟨aa W _ q1,aa W _ g9⟩
 ·
  intro i b⟨n,l,x,_⟩;have Y:=l.1.ch;rw[x]at Y;exact⟨aa Y 3 A,(Wh.1 Y).1⟩
 ·
  intro i b w⟨n,l,x,X⟩ Z;obtain⟨v,P⟩:∃v,v=(b.alloc (.cells #[i64 (k i).1,.string (bs (k i).2)] 269)).drewN Z:=⟨_,A⟩;have e4:v.heap.size=b.heap.size+1:=by rw[P];show(b.heap.push _).size=_;simp
  have u:∀a,a<b.heap.size->v.heap[a]?=b.heap[a]?:=λa t=>by rw[P];exact Wk b _ a t
  have c9:v.heap[b.heap.size]?=C (VH #[i64 (k i).1,.string (bs (k i).2)] 269 (0,0)):=by rw[P];exact WS b _
  show Calls TP 150 #[pt d.tw 0,i64 (k i).1,.string (bs (k i).2)] ((b.alloc (.cells #[i64 (k i).1,.string (bs (k i).2)] 269)).drewN Z) _;rw[<-P];have a1:=l.1.old (by omega) u;have e1:=QM a1.bR (k i).1 (k i).2;rw[x]at e1;refine e1.mono λS a0⟨a,h,R,e9,T,d7,b7,d5,e3⟩=>?_;rw[<-x]at e3;rw[<-x]at d7 d5;obtain⟨b6,z⟩:=a1.watched d7 d5;rw[b3]at z;have f2:qS (o i).bR (k i).1 (k i).2=Wt.toldOf (o i) (k i):=A;rw[f2]at b7
  have f8:h=(Wt.toldOf (o i) (k i)).length:=by
   rcases b7 with⟨W,e8,b9,O⟩|⟨q,b9,H,O,_⟩
   .cases O;rw[W];rfl
   cases O;rfl
  have f7:=pz (d3 i) (k i);have c7:aJ (aK s y.tree n) (aK s y.tree n) b v:=⟨by omega,λa t _=>u a t,λa l=>VA l⟩
  have d2:¬aK s y.tree n b.heap.size:=λa4=>by have:=l.1.bm (b:=b.heap.size) (by rw[b3];exact a4);omega
  refine⟨a,h,R,T,by omega,w,Xg _,f8,{n with f:=e9},?_,x,λN=>?_,?_,λN=>?_⟩
  .refine l.step (w₂:=a0) ?_ (b3 i) (c7.trans z) (λa l=>l) A;rw[O_,XO,Yp];exact b6
  .obtain⟨a7,a8,a9⟩:=X N;have r:=aJ.out z (a:=p) (by omega) a8;exact⟨r.1.trans ((u p a9).trans a7),r.2.1,r.2.2⟩
  .have r:=aJ.out z (a:=b.heap.size) (by omega) d2;exact⟨r.1.trans c9,r.2.1,r.2.2⟩
  rcases b7 with⟨W,e8,b9,O⟩|⟨q,b9,H,O,h3,d9,f0⟩
  .cases O;omega
  cases O;refine⟨q,H,A,d9,f0,λa4=>?_,(Wh.1 d9).1⟩;have f1:aK s y.tree n q:=by
   rcases a4 with l|l|l|l|l
   .exact VA l
   .exact VC (VA l)
   .exact VC (VC (VA (e3 q l)))
   .exact VC (VC (VC (VA l)))
   exact VC (VC (VC (VC l)))
  have:=a1.bm (b:=q) (by rw[b3];exact f1);omega
 ·
  intro i D a Q R j b⟨w,d0,b2,n,l,x,X,⟨L,b0,b1⟩,a5⟩;have Y:=l.1.ch;rw[x]at Y;refine⟨aa L 0 A,aa L 1 A,aa Y 3 A,λe2=>?_⟩;obtain⟨q,H,rfl,a2,a3,_⟩:=a5 (by omega);refine⟨q,A,aa a2 j ?_⟩;have:=VU (λg5=>g5[j]?) a3;simp only[XA,VV e2,XI]at this;rw[XR]at this;rw[this];have d1:j<(Wt.toldOf (o i) (k i)).length:=by omega
  simp[List.getD,d1]
 ·
  intro i D a Q R j b e2⟨w,d0,b2,n,l,x,X,⟨L,b0,b1⟩,a5⟩;have d1:j<(Wt.toldOf (o i) (k i)).length:=by omega
  obtain⟨U,e6⟩:∃U,(Wt.toldOf (o i) (k i)).getD j 0=U:=⟨_,A⟩;have g4:(Wt.toldOf (o i) (k i))[j]?=C U:=by rw[<-e6];simp[List.getD,d1]
  show Calls TP 60 #[pt s 0,.agg (Oo ((Wt.toldOf (o i) (k i)).getD j 0) (k i).1 of (bs (k i).2))] (b.alloc (.cells (Oo ((Wt.toldOf (o i) (k i)).getD j 0) (k i).1 of (bs (k i).2)) 38)) λS h0=>S=VN (.tuple #[])/\h0.heap[b.heap.size]?=C (VH (Oo ((Wt.toldOf (o i) (k i)).getD j 0) (k i).1 of (bs (k i).2)) 38 (0,0))/\_;rw[e6];obtain⟨v,P⟩:∃v,v=b.alloc (.cells (Oo U (k i).1 of (bs (k i).2)) 38):=⟨_,A⟩;have e4:v.heap.size=b.heap.size+1:=by rw[P];show(b.heap.push _).size=_;simp
  have u:∀a,a<b.heap.size->v.heap[a]?=b.heap[a]?:=λa t=>by rw[P];exact Wk b _ a t
  have c9:v.heap[b.heap.size]?=C (VH (Oo U (k i).1 of (bs (k i).2)) 38 (0,0)):=by rw[P];exact WS b _
  rw[<-P];have a1:=l.1.old (by omega) u;have h5:=f9 i (by omega);have f7:=pz (d3 i) (k i);have g0:=EY a1 (by rw[WI,Ya,Ye];omega) (IQ of (k i) U v) (λa t=>by rcases t with t|t<;>cases t)
  have d2:¬aK s y.tree n b.heap.size:=λa4=>by have:=l.1.bm (b:=b.heap.size) (by rw[l.2.1];exact a4);omega
  refine g0.mono λS a0⟨T,g8,b6,z⟩=>?_;rw[l.2.1]at z;have c7:aJ (aK s y.tree n) (aK s y.tree n) b v:=⟨by omega,λa t _=>u a t,λa l=>VA l⟩;have g7:=aJ.out z (a:=b.heap.size) (by omega) d2;refine⟨T,g7.1.trans c9,w,by omega,b2,{n with ov:=g8,vs:=n.vs++[kV]},?_,x,λN=>?_,?_,λN=>?_⟩
  .refine l.step (w₂:=a0) ?_ l.2.1 (c7.trans z) GU A
   have:((Wt.toldOf (o i) (k i)).take (j+1)).map (xA of (k i))=((Wt.toldOf (o i) (k i)).take j).map (xA of (k i))++[xA of (k i) U]:=by rw[i_,g4];simp
   rw[this,<-XQ];exact b6
  .obtain⟨a7,a8,a9⟩:=X N;have r:=aJ.out z (a:=p) (by omega) a8;exact⟨r.1.trans ((u p a9).trans a7),r.2.1,r.2.2⟩
  .have r:=aJ.out z (a:=D) (by omega) b0;exact⟨r.1.trans ((u D b1).trans L),r.2.1,r.2.2⟩
  obtain⟨q,H,rfl,a2,a3,c0,c6⟩:=a5 N;have r:=aJ.out z (a:=q) (by omega) c0;exact⟨q,H,A,r.1.trans ((u q c6).trans a2),a3,r.2.1,r.2.2⟩
 ·
  intro i D a Q R j b⟨w,d0,b2,n,l,x,X,⟨L,b0,b1⟩,a5⟩;refine(Mb l.1.ch A _ _ _ _ _ _ _ _ _ _ _ _ _ _ _ _).mono λS a0⟨T,e5⟩=>⟨T,w,d0,b2,n,?_,x,λN=>?_,?_,λN=>?_⟩
  all_goals
   have e4:a0.heap.size=b.heap.size+1:=by rw[e5];show(b.heap.push _).size=_;simp
   have u:∀a,a<b.heap.size->a0.heap[a]?=b.heap[a]?:=λa t=>by rw[e5];exact Wk b _ a t
  .exact l.step (l.1.old (by omega) u) l.2.1 ⟨by omega,λa t _=>u a t,λa l=>VA l⟩ (λa l=>l) A
  .obtain⟨a7,a8,a9⟩:=X N;exact⟨(u p a9).trans a7,a8,by omega⟩
  .exact⟨(u D b1).trans L,b0,by omega⟩
  obtain⟨q,H,rfl,a2,a3,c0,c6⟩:=a5 N;exact⟨q,H,A,(u q c6).trans a2,a3,c0,by omega⟩
 grind
end
end
variable{a:K}{o:VX}
section
variable{z:E}{b e aF q D:VB}{c p:VX}{L:VI}{y:VL VT}{x v:E}{g h i k l m n:VB}{r:VL VT}{u t:E}{f:Vx}{KP H:K->Prop}
theorem BS(R:Calls TP 64 #[pt s 0,i64 al] (jz a (rV b al e c p aF q Vz (.slice y x v)) (gV o g h i k l m n (.slice r u t) f) al b) λN d=>N=VN (.bool J)/\pJ a.heap.size 107 158 (rV b al e c p aF q Vz (.slice y x v)) (gV o g h i k l m n (.slice r u t) f) (oS al b) d d/\KP d)(Q:∀a,Calls TP 104 #[f] a λa2 a3=>a2=VN (i64 D)/\a=a3)(b3:(D==7)=J)(b4:(e==9)=J)(b2:(e==10)=Vz)(b1:(D !=0)=J):
 Calls TP 61 #[pt s 0,.agg (rV b al e c p aF q Vz (.slice y x v)),.agg (gV o g h i k l m n (.slice r u t) f)] a (lj a.heap.size (oV al 0 b 0 c ⟨#[]⟩ Vz 0 0 0 0 0 0 0 (VG I 0 0) (VG I 0 0)) KP):=by
 have Z:=VF R;clear R;have Y:=VF Q;clear Q;go_enter Tryz.func61,Tryz.ntmps61
 go_upto_region 12 with(first|(go_at_call 64;refine Z.out.mono ?_;rintro N d⟨rfl,H,S⟩;have w:=H.h0;have X:=H.h1;have a4:=aa w 1 A;have a5:=aa w 2 A;have a6:=aa w 3 A;have a7:=aa w 7 A;have a8:=aa X 9 A;have z:=VF H;have a0:=VF S;clear S H w X)|(go_at_call 104;refine(Y.out _).mono ?_;rintro N b5⟨rfl,rfl⟩))
 clear a4 a5 a6 a7 a8;have b0:=aa z.out.h0 3 A;have a1:=aa z.out.h3 4 A;have a9:=frozenAt z.out.h3 4;obtain⟨O,W⟩:∃O,d.setCell ⟨a.heap.size+1+1+1,4,I⟩ (.string c)=O:=⟨_,A⟩;have T:pJ a.heap.size 107 158 (rV b al e c p aF q Vz (.slice y x v)) (gV o g h i k l m n (.slice r u t) f) (oV al 0 b 0 c ⟨#[]⟩ Vz 0 0 0 0 0 0 0 (VG I 0 0) (VG I 0 0)) d O:=by rw[<-W];exact z.out.set 4 _
 have L:=VF T;clear T
 go_upto_region 14 with fail
 clear a1 a9 W;refine Ym ?_;refine Yb A 38 _ A (a.heap.size+1+1+1) A 38 (oV al 0 b 0 c ⟨#[]⟩ Vz 0 0 0 0 0 0 0 (VG I 0 0) (VG I 0 0)) (0,0) _ L.out.h3 A rfl rfl ?_;refine XD A 38 _ _ A (a.heap.size+1+1) (oV al 0 b 0 c ⟨#[]⟩ Vz 0 0 0 0 0 0 0 (VG I 0 0) (VG I 0 0)) A rfl 38 oZ L.out.h2 A rfl mP ?_;have U:=qF A L.out a0.out;have P:=VF U;clear U
 go_wp2
 exact XP (gY A rfl (oQ P.out.1 A)) A P.out.2
theorem BT(a5:Calls TP 64 #[pt s 0,i64 al] (jz a (rV b al e c p aF q J (.slice y x v)) (gV o g h i k l m n (.slice r u t) f) al b) λL d=>L=VN (.bool J)/\pJ a.heap.size 107 158 (rV b al e c p aF q J (.slice y x v)) (gV o g h i k l m n (.slice r u t) f) (oS al b) d d/\KP d)(a4:∀a,Calls TP 104 #[f] a λc9 d0=>c9=VN (i64 D)/\a=d0)(d7:(D==7)=J)(d8:(e==9)=J)(d6:(e==10)=Vz)(d5:(D !=0)=J)(a2:∀d,KP d->pJ a.heap.size 107 158 (rV b al e c p aF q J (.slice y x v)) (gV o g h i k l m n (.slice r u t) f) (oS al b) d d->d.cell? ⟨s,3,I⟩=C (pt z 0)/\∀c8,Calls TP 105 #[pt z 0,i64 al,.bool Vz,.string c] (d.drewN c8) λL w=>L=VN (.tuple #[])/\w.cell? ⟨s,3,I⟩=C (pt z 0)/\pJ a.heap.size 107 158 (rV b al e c p aF q J (.slice y x v)) (gV o g h i k l m n (.slice r u t) f) (oS al b) w w/\H w):
 Calls TP 61 #[pt s 0,.agg (rV b al e c p aF q J (.slice y x v)),.agg (gV o g h i k l m n (.slice r u t) f)] a (lj a.heap.size (oV al 0 b 0 c ⟨#[]⟩ Vz 0 0 0 0 0 0 0 (VG I 0 0) (VG I 0 0)) H):=by
 have b9:=VF a5;clear a5;have b8:=VF a4;clear a4;have b5:=VF a2;clear a2;go_enter Tryz.func61,Tryz.ntmps61
 go_upto_region 11 with(first|(go_at_call 64;refine b9.out.mono ?_;rintro L d⟨rfl,S,a6⟩;have P:=S.h0;have b1:=S.h1;have b2:=aa P 1 A;have b3:=aa P 2 A;have b4:=aa P 3 A;have d1:=aa P 7 A;have d2:=aa b1 9 A;have c6:=VF S;have c0:=VF a6;clear a6 S P b1)|(go_at_call 104;refine(b8.out _).mono ?_;rintro L d9⟨rfl,rfl⟩))
 obtain⟨a0,a3⟩:=b5.out d c0.out c6.out;have W:Calls TP 105 #[pt z 0,i64 al,.bool Vz,.string c] d.drew λL w=>L=VN (.tuple #[])/\w.cell? ⟨s,3,I⟩=C (pt z 0)/\pJ a.heap.size 107 158 (rV b al e c p aF q J (.slice y x v)) (gV o g h i k l m n (.slice r u t) f) (oS al b) w w/\H w:=a3 1;have b6:=VF W;clear W a3;have Y:d.drew.cell? ⟨s,3,I⟩=C (pt z 0)/\d.drew.cell? ⟨a.heap.size,1,I⟩=C (i64 al)/\d.drew.cell? ⟨a.heap.size,2,I⟩=C (i64 e)/\d.drew.cell? ⟨a.heap.size,3,I⟩=C (.string c):=⟨a0,b2,b3,b4⟩;clear a0 b2 b3 b4 d1 d2
 go_region_held3 (λR=>R.cell? ⟨s,3,I⟩=C (pt z 0)/\R.cell? ⟨a.heap.size,1,I⟩=C (i64 al)/\R.cell? ⟨a.heap.size,2,I⟩=C (i64 e)/\R.cell? ⟨a.heap.size,3,I⟩=C (.string c))
  (first|with_reducible exact Y|with_reducible exact Z)
  (first|(go_at_call 105;refine b6.out.mono ?_;rintro L N⟨rfl,a1,O,a7⟩;have Z:N.cell? ⟨s,3,I⟩=C (pt z 0)/\N.cell? ⟨a.heap.size,1,I⟩=C (i64 al)/\N.cell? ⟨a.heap.size,2,I⟩=C (i64 e)/\N.cell? ⟨a.heap.size,3,I⟩=C (.string c):=⟨a1,aa O.h0 1 A,aa O.h0 2 A,aa O.h0 3 A⟩;have Q:=VF O;have b7:=VF a7;clear O a7 a1))
 clear Y Z
 go_upto_region 12 with fail
 have d4:=aa Q.out.h0 3 A;have c7:=aa Q.out.h3 4 A;have d3:=frozenAt Q.out.h3 4;obtain⟨U,b0⟩:∃U,N.setCell ⟨a.heap.size+1+1+1,4,I⟩ (.string c)=U:=⟨_,A⟩;have a8:pJ a.heap.size 107 158 (rV b al e c p aF q J (.slice y x v)) (gV o g h i k l m n (.slice r u t) f) (oV al 0 b 0 c ⟨#[]⟩ Vz 0 0 0 0 0 0 0 (VG I 0 0) (VG I 0 0)) N U:=by rw[<-b0];exact Q.out.set 4 _
 have T:=VF a8;clear a8
 go_upto_region 14 with fail
 clear c7 d3 b0;refine Ym ?_;refine Yb A 38 _ A (a.heap.size+1+1+1) A 38 (oV al 0 b 0 c ⟨#[]⟩ Vz 0 0 0 0 0 0 0 (VG I 0 0) (VG I 0 0)) (0,0) _ T.out.h3 A rfl rfl ?_;refine XD A 38 _ _ A (a.heap.size+1+1) (oV al 0 b 0 c ⟨#[]⟩ Vz 0 0 0 0 0 0 0 (VG I 0 0) (VG I 0 0)) A rfl 38 oZ T.out.h2 A rfl mP ?_;have a9:=qF A T.out b7.out;have X:=VF a9;clear a9
 go_wp2
 exact XP (gY A rfl (oQ X.out.1 A)) A X.out.2
end
end Go.Sv
