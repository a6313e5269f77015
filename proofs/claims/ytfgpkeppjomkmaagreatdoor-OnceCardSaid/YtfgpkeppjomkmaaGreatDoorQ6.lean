/- Proved here: parts of the proof of the claimed theorem, no conditions; the last text states it -/
import Derived.Defers
import Derived.Recover
import Derived.Test.YtfgpkeppjomkmaaGreatDoorQ5
set_option linter.all false
set_option maxRecDepth 100000
set_option maxHeartbeats 16000000
open _root_ renaming rfl->A,Nat->E,List->Xg,Int->Xj,Array->Xk,Bool->Xo,Option->Xp,if_neg->Xx,ByteArray->XB,if_pos->XC
open Option renaming some->C,none->F
open Go renaming undef->I,World->M,Value->Xe,TypeId->Xq,Frame->Xr,Goroutine->Xt,Act->Xu,Addr->Xw,Program->Xy,Sem->Xz,Trace->XD,Event->XF,Code->XG,MapEntry->XH,FuncId->XI,Operand->XJ
open Bool renaming true->J,false->Xf
open Go.Lib renaming hid->Xl
open Go.MemOp renaming ofEvents->XE
open Go.Op renaming operands->XK
open Go.MemAct renaming ofEvent->XM
open Go.IntKind renaming i64->K
open Go.Value renaming int->Xd,slice->Xm,pointer->XA
open Or renaming inl->Xh,inr->Xi
open Go.Obj renaming cells->Xn
open Go.Ending renaming returned->Xs
open Go.Item renaming inRegion->Xv
namespace Go.Sv
open Go.MapKept Go.Proofs Go.RowKit Go.Lib Go.WideShapes Go.Sort Go.Sim Wt
variable{a:E}
theorem Pw{a:Xj}(b:0<=a)(c:a<=3):(bits .and K a 2 !=0)=decide (2<=a):=by rcases(by omega:a=0\/a=1\/a=2\/a=3)with rfl|rfl|rfl|rfl<;>decide
theorem Va{a:Xj}(b:0<=a)(c:a<=3):(bits .and K a 1 !=0)=decide (a%2=1):=by rcases(by omega:a=0\/a=1\/a=2\/a=3)with rfl|rfl|rfl|rfl<;>decide
theorem MI{a:Xj}(b:0<=a)(c:a<=3):(bits .andNot K a 3 !=0)=Xf:=by rcases(by omega:a=0\/a=1\/a=2\/a=3)with rfl|rfl|rfl|rfl<;>decide
theorem OX(b:BitVec 64):b&&& ~~~3#64=(b >>> 2) <<< 2:=by
 apply BitVec.eq_of_getLsbD_eq;intro a e;simp only[BitVec.getLsbD_and,BitVec.getLsbD_not,BitVec.getLsbD_shiftLeft,BitVec.getLsbD_ushiftRight];rcases(by omega:a=0\/a=1\/2<=a)with rfl|rfl|c
 .simp
 .simp
 have d:(3#64).getLsbD a=Xf:=by rw[BitVec.getLsbD_ofNat];have:=E.testBit_lt_two_pow (XY (by decide:3<2^2) (E.pow_le_pow_right (by decide) c));simp[this]
 simp_all
theorem QL(b:0<a)(c:a<2^64):IntKind.i64.wrap (a:Xj)≠0:=by have d:((a:Xj)%(2^IntKind.i64.bits:Xj))=a:=Xj.emod_eq_of_lt (by omega) (by show(a:Xj)<18446744073709551616;omega);show(if(IntKind.i64.signed&&decide ((a:Xj)%(2^IntKind.i64.bits:Xj)>=(2^(IntKind.i64.bits-1):Xj)))=J then(a:Xj)%(2^IntKind.i64.bits:Xj)-(2^IntKind.i64.bits:Xj)else(a:Xj)%(2^IntKind.i64.bits:Xj))≠0;omega
theorem Vv{a:Xj}(h:-2^63<=a)(k:a<2^63)(c:a<0\/3<a):(bits .andNot K a 3 !=0)=J:=by
 have d:bits .andNot K a 3=IntKind.i64.wrap (((BitVec.ofInt 64 a)&&& ~~~(3#64)).toNat:Xj):=A;rw[d,OX];have i:(BitVec.ofInt 64 a).toNat=(a%2^64).toNat:=BitVec.toNat_ofInt ..
 have e:4<=(BitVec.ofInt 64 a).toNat:=by
  rcases c with c|c
  .omega
  omega
 have f:=(BitVec.ofInt 64 a).isLt;generalize BitVec.ofInt 64 a=b at e f
 have g:(b >>> 2 <<< 2).toNat=b.toNat/4*4:=by
  rw[BitVec.toNat_shiftLeft,BitVec.toNat_ushiftRight,E.shiftRight_eq_div_pow,E.shiftLeft_eq];have:b.toNat/2^2*2^2<2^64:=by omega
  rw[Q' this]
 grind [QL]
variable{c:Tree}{b:M}{O:E}{a:Path}
theorem Mr{l L:Path->E}(r:bw c l L b)(m:WF c)(t:b.cell? ⟨O,0,F⟩=C (pt (l []) 0))(i:Xk Xe)(g:XB){p:Xj}(T:b.cell? ⟨1,0,F⟩=C (Xd K p))(z:g.size<2^31)(w:Wt.split g.data.toList=C a)(o:a≠[]):
 fu b O i g (bs (a.getLast o)) a.length (a.length-1) (gU (if(Wt.find c a.dropLast).isSome then C (l a.dropLast)else F)):=by
 have Q:1<b.heap.size:=by grind [World.cell?]
 have H:O<b.heap.size:=by grind [World.cell?]
 obtain⟨X,x,_⟩:=m.root;have U:=y_.2 o;refine(nT g p (b.alloc (.cells i 28)) z (by simp_all [Yx])).mono ?_;intro N q k;unfold cE at k;rw[w]at k;obtain⟨e,Y,rfl,v⟩:=k;have D:(b.alloc (.cells i 28)).heap.size=b.heap.size+1:=by simp
 rw[D]at e;rcases v with⟨rfl,_⟩|⟨d,rfl,S,_,u⟩
 .simp_all
 have n:∀(f:E) h,a[f]?=C h->q.cell? ⟨d,f,F⟩=C (.string (bs h)):=by simp_all [M.cell?]
 refine⟨d,A,e,n _ _ (by grind),?_⟩
 have y:Row (Xm (C ⟨d,0,F⟩) (a.length-1) a.length) a.dropLast q:=Xi ⟨d,a.length,by simp,by simp,(XN.1 u).1,λf h W=>n f h (by grind)⟩
 exact zP (r.old λs R=>by rw[e.block s (by omega)];simp_all [XQ]).VV (by
  rw[e.cell (p:=⟨O,0,F⟩) (by grind),World.cell?_alloc_lt _ _ _ H]
  exact t) (by rw[x];rfl) m.up y (by grind [sM])
def TD(c:Tree):Prop:=∀a b,Wt.find c a=C b->(0<=b.stat.ez/\b.stat.ez<2^61)/\0<=b.stat.aE/\b.stat.aE<2^61
structure qc(d:Wt.Op):Prop where
 path:d.path.length<2^30
 data:d.data.length<2^30
 WQ:-2^63<=d.flags
 WO:d.flags<2^63
abbrev ub(a:Wt.Op):Xk Xe:=gM a.kind (bs a.path) (bs a.data) a.aE a.flags
theorem TZ(c:a.length<=4)(b:a≠[]):(((a.length:Xj)==0)=Xf)/\wrap64 ((a.length:Xj)-1)=(a.length-1:E)/\((a.length-1:E):Xj)<a.length:=by grind [List.length_pos_iff,wrap64]
theorem kZ{h g:Path->E}(m:bw c h g b){d:Path}{l:Nd}(n:Wt.find c d=C l)(k:B){i:Xp E}(t:bX c h d k=i):∀e:M,(∀f,f<b.heap.size->e.heap[f]?=b.heap[f]?)->(Instr.lookup 188 (.map (C (g d))) (.string (bs k)) Xf).run TP e=.ok (gU i) e:=λe r=>by
 obtain⟨q,p,s,o⟩:=m.kd d l n
 grind [pP]
theorem EO(m:uQ b)(l:4<b.heap.size){d:B}(o:d.length<2^29){c:Xj}(i:0<=c)(k:c<=999):∀a:M,(∀e,e<b.heap.size->a.heap[e]?=b.heap[e]?)->Calls TP 186 #[.string (bs d),Xd K c] a λf g=>f=Xs (.string (bs (d++Wt.three c)))/\Below a.heap.size a g:=λa h=>(NI (m.stay (by rw[h 4 l])) (bs d) i k (by grind [cR])).mono λf g n=>by simp_all [GO,LU]
theorem fH{a b:Xj}(c:a≠b):(a==b)=Xf:=by simpa using c
theorem zy{a b:Xj}(c:a=b):(a !=b)=Xf:=by simpa using c
theorem uj{a b:Xj}(c:a≠b):(a !=b)=J:=by simpa using c
theorem rU{a6 a5:Path->E}{b4:Xg Un}(X:pW c a6 a5 O b4 b)(N:WF c){d:Wt.Op}(T:qc d){ak aL:Xj}{b3:Xj}(a9:b.cell? ⟨1,0,F⟩=C (Xd K b3))(a2:uQ b)(Y:4<b.heap.size){W:Xj}(g:Wt.create c d ak aL=.no W)
 (b0:∀a,Wt.split d.path=C a->a≠[])(b1:(Wt.split d.path).isSome=J):Calls TP 155 #[pt O 0,.agg (ub d),Xd K ak,Xd K aL] b (rN W b):=by
 obtain⟨b8,b7,U,b5,b6⟩:=X.top;obtain⟨a,L⟩:=XR.1 b1;have i:=b0 a L;have t:=X.lg;have e:=TZ (rD L).1 i;have o:=Mr t N (aa U 0 A) (ub d) (bs d.path) a9 (by rw[cR];have:=T.path;omega) (a:=a) L i;have y:=(XN.1 U).1;unfold Wt.create at g;rw[L]at g;cases a with
 |nil=>simp_all
 |cons f h=>
  simp only at g;have c0:((bs ((f::h).getLast i)).size:Xj)=((f::h).getLast i).length:=by rw[cR]
  have b9:((bs d.data).size:Xj)=d.data.length:=by rw[cR]
  by_cases a8:8<((f::h).getLast i).length
  .grind [Sc]
  rw[Xx a8]at g;have s:¬8<((bs ((f::h).getLast i)).size:Xj):=by omega
  by_cases a7:16<d.data.length
  .grind [Pp]
  rw[Xx a7]at g;have r:¬16<((bs d.data).size:Xj):=by omega
  by_cases R:d.flags<0\/3<d.flags
  .rw[XC R]at g;cases g;exact Mn e.1 e.2.1 e.2.2 o s r (Vv T.WQ T.WO R)
  rw[Xx R]at g;have m:0<=d.flags:=by omega
  have n:d.flags<=3:=by omega
  cases p:Wt.find c (f::h).dropLast with
  |none=>rw[p]at g o;cases g;exact Pq e.1 e.2.1 e.2.2 o s r (MI m n)
  |some l=>
   rw[p]at g o;simp only at g;have b2:(Wt.find c (f::h).dropLast).isSome=J:=by rw[p];rfl
   have S:=t.nd _ _ p;have w:rM b O (a6 (f::h).dropLast) l.stat.own l.next c.length (a5 (f::h).dropLast):=⟨aa S 6 A,aa S 9 A,aa S 11 A,aa U 1 A⟩;have z:=(t.lt b2).1;by_cases H:l.stat.own≠0
   .rw[XC H]at g;cases g;exact Sd e.1 e.2.1 e.2.2 o s r (MI m n) y z w (uj H)
   rw[Xx H]at g;have D:=zy (by simpa using H);by_cases x:2<=d.flags/\l.next=1000
   .rw[XC x]at g;cases g;exact Mm e.1 e.2.1 e.2.2 o s r (MI m n) y z w D (by rw[Pw m n];simpa using x.1) (by simpa using x.2)
   rw[Xx x]at g
   have Z:2<=d.flags->l.next<=999:=λk=>by have:=(N.next _ _ p).2;omega
   have a1:=N.next _ _ p;have a0:((f::h).getLast i).length<2^29:=by omega
   by_cases q:(Wt.find c ((f::h).dropLast++[Wt.nameOf d.flags ((f::h).getLast i) l.next])).isSome=J
   .rw[XC q]at g;cases g;by_cases k:2<=d.flags
    .have v:Wt.nameOf d.flags ((f::h).getLast i) l.next=(f::h).getLast i++Wt.three l.next:=XC k;rw[v]at q;have u:=kZ t p ((f::h).getLast i++Wt.three l.next) (i:=C _) (XC q);exact EN e.1 e.2.1 e.2.2 o s r (MI m n) y z w D (by rw[Pw m n];simpa using k) (fH λQ=>x ⟨k,Q⟩) (EO a2 Y a0 a1.1 (Z k)) u
    have v:Wt.nameOf d.flags ((f::h).getLast i) l.next=(f::h).getLast i:=Xx k;rw[v]at q;have u:=kZ t p ((f::h).getLast i) (i:=C _) (XC q);exact EM e.1 e.2.1 e.2.2 o s r (MI m n) y z w D (by rw[Pw m n];simpa using k) u
   rw[Xx q]at g;by_cases a3:c.length=60
   .rw[XC a3]at g;cases g;have a4:((c.length:Xj)==60)=J:=by rw[a3];rfl
    by_cases k:2<=d.flags
    .have v:Wt.nameOf d.flags ((f::h).getLast i) l.next=(f::h).getLast i++Wt.three l.next:=XC k;rw[v]at q;have u:=kZ t p ((f::h).getLast i++Wt.three l.next) (i:=F) (Xx q);exact Mq e.1 e.2.1 e.2.2 o s r (MI m n) y z w D (by rw[Pw m n];simpa using k) (fH λQ=>x ⟨k,Q⟩) (EO a2 Y a0 a1.1 (Z k)) u a4
    have v:Wt.nameOf d.flags ((f::h).getLast i) l.next=(f::h).getLast i:=Xx k;rw[v]at q;have u:=kZ t p ((f::h).getLast i) (i:=F) (Xx q);exact Mo e.1 e.2.1 e.2.2 o s r (MI m n) y z w D (by rw[Pw m n];simpa using k) u a4
   simp_all
variable{b:Tree}{f:M}{m:E}{o:M}
def ib(b:Xg Wt.Ev):Xk Xe:=(b.flatMap λa=>[Xe.int K a.1,.string (bs a.2)]).toArray
def rO(b:Tree)(d h:Path->E)(O:E)(q:Xg Un)(g:Tree)(l:Xg Wt.Ev)(m:B)(f:M)(k:Ending)(o:M):Prop:=∃c i n p e a,k=Xs (.tuple #[pt (c e) 0,Xm (C ⟨a,0,F⟩) 2 2,.nilIface])/\pW g c i O (q++[n,p]) o/\ye O b d h g c i f o/\f.heap.size<=a/\o.heap[a]?=C (Xn (ib l) 269 (0,0))/\m=Wt.join e/\(Wt.find g e).isSome=J
abbrev WZ(c:Path)(d:Path->E):Xe:=.pointer (if c=[]then F else C ⟨d c.dropLast,0,F⟩)
abbrev xZ(b:Tree)(d h:Path->E)(O:E)(g:Xe)(i:Xg Xe)(a:Path)(c:Nd)(y:B)(e:Wt.Op)(aL own p:Xj)(f:M)(m l:E)(o:M):Prop:=
 sV O (d a) (h a) m l (pt (d []) 0) g (WZ a d) b.length i (bs (vZ a)) (bs c.data) c.stat.made c.stat.set c.stat.aE c.stat.ez c.stat.own c.stat.size c.stat.kids c.next p (Vb (bs y) (bs e.data) aL own (d a) l) (bX b d a) y f o
section
variable{d h:Path->E}{g:Xe}{i:Xg Xe}{a:Path}{c:Nd}{y:B}{e:Wt.Op}{ak aL own p:Xj}{k:M}{l:E}{q:Xg Un}
theorem Ea(k:bw b d h f)(q:f.heap[O]?=C (Xn #[pt (d []) 0,Xd K b.length,g] 195 (0,0)))(l:cr NB f 1 1 g i.length i){a:Path}(p:(Wt.find b a).isSome=J):g.ownBlock≠C (d a)/\g.ownBlock≠C (h a)/\d a≠O/\h a≠O:=by
 obtain⟨t,m⟩:=XR.1 p;obtain⟨s,r,o,_⟩:=k.kd _ _ m;have e:=k.nd _ _ m;refine⟨λc=>?_,λc=>?_,λc=>?_,λc=>?_⟩
 .obtain⟨n,a,_⟩:=l.blk _ c;rw[e]at a;cases a
 .obtain⟨n,a,_⟩:=l.blk _ c;rw[o]at a;cases a
 .rw[c,q]at e;cases e
 simp_all
theorem iv(f:Wt.Ord b){d e:Nd}(c:Path):Wt.find (Wt.put (Wt.put b a d) (a++[y]) e) c=if c=a++[y]then C e else if c=a then C d else Wt.find b c:=by simp_all [cD,fe]
theorem zL(u:bw b d h f)(v:WF b)(R:f.heap[O]?=C (Xn #[pt (d []) 0,Xd K b.length,g] 195 (0,0)))(Q:cr NB f 1 1 g i.length i)(S:Wt.find b a=C c)(L:Wt.find b (a++[y])=F)
 (H:p=(mA c e.flags).next)(W:own=(eV e ak aL).stat.own)(n:xZ b d h O g i a c y e aL own p f m l k):
 bw (Wt.put (Wt.put b a (mA c e.flags)) (a++[y]) (eV e ak aL)) (wR d (a++[y]) m) (wR h (a++[y]) l) k:=by
 refine u.add S L (λz=>?_) v.up (iv v.ord) ?_ n.kd ?_ ⟨0,n.new.2,Go.MapKept.stamped_empty 0⟩ (λT w=>?_) λU x r s⟨T,w,N⟩=>?_
 .cases D:Wt.find b (a++[y]++[z])with
  |none=>rfl
  |some X=>have:=v.up (a++[y]++[z]) (by simp) (by rw[D];rfl);simp_all
 .rw[n.nd,H];rfl
 .rw[n.new.1];have r:=NF a y;have s:(if a++[y]=[]then F else C (⟨d a,0,F⟩:Xw))=C ⟨d a,0,F⟩:=by simp
  grind [eV,cR,cU]
 .have r:=u.lt w;have s:=n.lo;omega
 have t:=Ea u R Q w;rcases N with rfl|rfl
 .exact n.kept _ x t.2.2.1 r s t.1
 exact n.kept _ x t.2.2.2 r s t.2.1
theorem zK(U:pW b d h O q f)(v:WF b)(L:f.heap[O]?=C (Xn #[pt (d []) 0,Xd K b.length,g] 195 (0,0)))(R:cr NB f 1 1 g i.length i)(a9:gu O f i q)(z:Wt.find b a=C c)(Q:Wt.find b (a++[y])=F)
 (Z:p=(mA c e.flags).next)(a5:own=(eV e ak aL).stat.own){n:Ending}
 (r:Lf (λm l k=>xZ b d h O g i a c y e aL own p f m l k) (bs (Wt.join (a++[y]))) (bs (Wt.join a)) n o):
 rO b d h O q (Wt.put (Wt.put b a (mA c e.flags)) (a++[y]) (eV e ak aL)) [(1,Wt.join (a++[y])),(4,Wt.join a)] (Wt.join (a++[y])) f n o:=by
 obtain⟨m,l,k,W,H,a8,a3,rfl,a1,a2⟩:=r;have N:(Wt.find b a).isSome=J:=by rw[z];rfl
 have D:=U.lg;have u:=H.later a8 a3;have T:=zL (ak:=ak) D v L R z Q Z a5 u;obtain⟨b4,X,Y,b0,c8,b1,b2,b3⟩:=u.tree;have c7:=D.nd _ _ z;obtain⟨b8,b7,c6,_⟩:=D.kd _ _ z;have a4:Wt.find (Wt.put b a (mA c e.flags)) (a++[y])=F:=by rw[cD v.ord,Xx (uT a y).symm];exact Q
 have c0:((Wt.put (Wt.put b a (mA c e.flags)) (a++[y]) (eV e ak aL)).length:Xj)=b.length+1:=by rw[jD a4,dc v.ord N];rfl
 have a6:(Wt.find (Wt.put (Wt.put b a (mA c e.flags)) (a++[y]) (eV e ak aL)) (a++[y])).isSome=J:=by rw[iv v.ord,XC A];rfl
 refine⟨wR d (a++[y]) m,wR h (a++[y]) l,_,_,a++[y],W,by rw[dP],⟨T,b4,i++[X,Y],?_,by simp_all,gu.app (gu.stay (λt b5 d1 s x=>?_) a9) ⟨b2,b3,trivial⟩⟩,⟨u.size,λt a0 s x=>?_,λt r=>?_,λt r=>?_⟩,XZ H.size a1,a2,A,a6⟩
 .simp_all [bG]
 .refine u.kept t (XN.1 s).1 ?_ ?_ ?_ ?_
  .grind
  .grind
  .grind
  intro n;obtain⟨b6,b9,_⟩:=R.blk t n
  grind
 .exact u.kept t a0 (λn=>s (Xh n)) (λn=>s (Xi ⟨a,N,Xh n⟩)) (λn=>s (Xi ⟨a,N,Xi n⟩)) (λn=>x ⟨_,_,g,L,n⟩)
 .rcases r with rfl|⟨S,a7,r⟩
  .exact Xh (Xh A)
  by_cases w:S=a++[y]
  .subst w;rw[dP,dP]at r;have:=H.lo;right;omega
  rw[bG w,bG w]at r;rw[iv v.ord,Xx w]at a7;refine Xh (Xi ⟨S,?_,r⟩)
  grind
 obtain⟨c9,d0,d2,s,x⟩:=r;rw[b0]at s;cases s;rcases b1 t x with r|r
 .exact Xh ⟨_,_,g,L,r⟩
 omega
theorem ql(z:pW b d h O q f)(s:WF b)(Q:f.heap[O]?=C (Xn #[pt (d []) 0,Xd K b.length,g] 195 (0,0)))(N:cr NB f 1 1 g i.length i)(R:Wt.find b a=C c)(H:Wt.find b (a++[y])=F)
 (n:WF (Wt.put (Wt.put b a (mA c e.flags)) (a++[y]) (eV e ak aL)))(D:p=(mA c e.flags).next)(L:own=(eV e ak aL).stat.own):
 (∀m l k,xZ b d h O g i a c y e aL own p f m l k->Calls TP 156 #[pt m 0] k λv o=>v=Xs (.string (bs (Wt.join (a++[y]))))/\Below k.heap.size k o)/\
 (∀m l k r,xZ b d h O g i a c y e aL own p f m l k->Below k.heap.size k r->Calls TP 156 #[pt (d a) 0] r λv o=>v=Xs (.string (bs (Wt.join a)))/\Below r.heap.size r o):=by
 have w:Wt.find (Wt.put (Wt.put b a (mA c e.flags)) (a++[y]) (eV e ak aL)) (a++[y])=C (eV e ak aL):=by rw[iv s.ord,XC A]
 have x:Wt.find (Wt.put (Wt.put b a (mA c e.flags)) (a++[y]) (eV e ak aL)) a=C (mA c e.flags):=by rw[iv s.ord,Xx (uT a y),XC A]
 refine⟨λm l k u=>?_,λm l k r u U=>?_⟩
 .have t:=zL (ak:=ak) z.lg s Q N R H D L u;have:=sH t n.up (by rw[w];rfl) (eB n w).1 (eB n w).2;rw[dP]at this;exact this
 have t:=(zL (ak:=ak) z.lg s Q N R H D L u).old λS T=>U.block S T;have:=sH t n.up (by rw[x];rfl) (eB n x).1 (eB n x).2;rw[bG (uT a y)]at this;exact this
end
variable{a:Tree}{b:M}
theorem zM{n x:Path->E}{a2:Xg Un}(m:pW a n x O a2 b)(h:WF a)(c6:TD a){d:Wt.Op}(d5:qc d){ak aL:Xj}{d9:Xj}(c9:b.cell? ⟨1,0,F⟩=C (Xd K d9))(d7:uQ b)(c0:4<b.heap.size)(e7:a2.length<2^18)
 {b5:Tree}{b4:B}{a5:Xg Wt.Ev}(a6:Wt.create a d ak aL=.yes b5 b4 a5):
 Calls TP 155 #[pt O 0,.agg (ub d),Xd K ak,Xd K aL] b (rO a n x O a2 b5 a5 b4 b):=by
 have H:=nH h a6;obtain⟨c,e,f,y,a9,e3,e2,L,N,g,d3,d2,b0,q,e5,rfl,rfl,rfl⟩:=gR a6;obtain⟨b7,b6,k,p,w⟩:=m.top;have t:=m.lg;have i:=TZ (rD a9).1 (Q_ c e);have s:=Mr t h (aa k 0 A) (ub d) (bs d.path) c9 (by rw[cR];have:=d5.path;omega) (a:=c::e) a9 (Q_ c e);have R:=(XN.1 k).1;have b1:(Wt.find a (c::e).dropLast).isSome=J:=by rw[g];rfl
 rw[XC b1]at s;have u:¬8<((bs ((c::e).getLast (Q_ c e))).size:Xj):=by grind [cR]
 have z:¬16<((bs d.data).size:Xj):=by grind [cR]
 have S:=t.nd _ _ g;obtain⟨em,e1,d0,b8⟩:=t.kd _ _ g;have D:rM b O (n (c::e).dropLast) f.stat.own f.next a.length (x (c::e).dropLast):=⟨aa S 6 A,aa S 9 A,aa S 11 A,aa k 1 A⟩;have v:=(t.lt b1).1;have U:((a.length:Xj)==60)=Xf:=by grind
 have a8:bX a n (c::e).dropLast y=F:=by simp_all [bX]
 have Q:=kZ t g y a8;have e4:=(c6 _ _ g).1;have c7:0<=f.stat.kids/\f.stat.kids<2^62:=by rw[h.kids _ f g];have:=ld a (c::e).dropLast;have:=h.len;omega
 have d8:(0:Xj)<=a.length/\(a.length:Xj)<2^62:=by have:=h.len;omega
 have e6:=w.len;have c8:((c::e).getLast (Q_ c e)).length<2^29:=by omega
 have d1:=h.next _ _ g;have add:=λ(own:Xj)(a4:M) d4 d6=>Sa (d:=Vb (bs y) (bs d.data) aL own (n (c::e).dropLast) a4.heap.size) (p:=a4) k p (by omega) S d0 b8 a8 (by omega) c7 d8 A d4 d6;have T:=zy d3;by_cases Z:2<=d.flags
 .have a0:=b0.trans (XC Z);have o:f.next+1=(mA f d.flags).next:=by simp_all [mA]
  have a1:=EO d7 c0 c8 d1.1 (by omega);rw[<-a0]at a1;have kR:=λ(own:Xj) b3 b2 W(X:xZ a n x O b7 b6 (c::e).dropLast f y d aL own f.next b b3 b2 W)=>(⟨aa X.nd 9 A,frozenAt X.nd 9,X.next v (f.next+1)⟩:W.cell? ⟨n (c::e).dropLast,9,F⟩=C (Xd K f.next)/\W.frozen? ⟨n (c::e).dropLast,9,F⟩=Xf/\xZ a n x O b7 b6 (c::e).dropLast f y d aL own (f.next+1) b b3 b2 (W.setCell ⟨n (c::e).dropLast,9,F⟩ (Xd K (f.next+1))));have a7:=fH (d2 Z);by_cases b9:d.flags%2=1
  .have l:ak=(eV d ak aL).stat.own:=by simp_all [eV]
   have P:=ql m h k p g q H o l;exact(Hc i.1 i.2.1 i.2.2 s u z (MI L N) R v D T (by grind [Pw]) a7 a1 (by omega) Q U (by grind [Va]) (Xi ⟨A,A⟩) (add ak) (kR ak) P.1 P.2).mono λY a3 r=>zK m h k p w g q o l r
  have l:(0:Xj)=(eV d ak aL).stat.own:=by simp_all [eV]
  have P:=ql m h k p g q H o l;exact(Hc i.1 i.2.1 i.2.2 s u z (MI L N) R v D T (by grind [Pw]) a7 a1 (by omega) Q U (by grind [Va]) (Xh ⟨A,A⟩) (add 0) (kR 0) P.1 P.2).mono λY a3 r=>zK m h k p w g q o l r
 have a0:=b0.trans (Xx Z);have o:f.next=(mA f d.flags).next:=by grind [mA]
 rw[<-a0]at s u;by_cases b9:d.flags%2=1
 .have l:ak=(eV d ak aL).stat.own:=by grind [eV]
  have P:=ql m h k p g q H o l;exact(Hb i.1 i.2.1 i.2.2 s u z (MI L N) R v D T (by grind [Pw]) Q U (by grind [Va]) (Xi ⟨A,A⟩) (add ak) P.1 P.2).mono λY a3 r=>zK m h k p w g q o l r
 have l:(0:Xj)=(eV d ak aL).stat.own:=by grind [eV]
 have P:=ql m h k p g q H o l;exact(Hb i.1 i.2.1 i.2.2 s u z (MI L N) R v D T (by grind [Pw]) Q U (by grind [Va]) (Xh ⟨A,A⟩) (add 0) P.1 P.2).mono λY a3 r=>zK m h k p w g q o l r
variable{a:M}{b:Tree}
theorem Ml{f aE e ak aL:Xj}{b d:XB}{l:Xj}(c:Xo)(u:a.cell? ⟨1,0,F⟩=C (Xd K l))(r:b.size<2^31)(q:Wt.split b.data.toList=if c then C []else F):
 Calls TP 155 #[pt O 0,.agg (gM f b d aE e),Xd K ak,Xd K aL] a (rN 4 a):=by
 have t:1<a.heap.size:=by grind [World.cell?]
 have s:Calls TP 95 #[.string b] (a.alloc (.cells (gM f b d aE e) 28)) λg k=>g=Xs (.tuple #[Xm F 0 0,.bool c])/\Below (a.heap.size+1) (a.alloc (.cells (gM f b d aE e) 28)) k:=by
  refine(nT b l (a.alloc (.cells (gM f b d aE e) 28)) r (by simp_all [Yx])).mono ?_;intro g k h;unfold cE at h;rw[q]at h;cases c with
  |false=>simp_all
  |true=>
   obtain⟨i,v,rfl,p⟩:=h;rcases p with⟨_,rfl⟩|⟨_,_,_,o,_⟩
   .simp_all
   simp at o
 have n:=Xl s;cases c<;>
 .go_enter Tryz.func155,Tryz.ntmps155
  go_wp2_with (go_at_call 95;refine n.out.mono ?_;rintro g k⟨rfl,i⟩;have m:=Xl i;clear i)
  go_ret3;exact⟨A,bd m.out⟩
def uE(b:Tree)(i h:Path->E)(O:E)(m:Xg Un)(a:M)(f:UU)(c:Ending)(d:M):Prop:=match f with
 |.no e=>rN e a c d
 |.yes l k g=>rO b i h O m l g k a c d
theorem Mt{q p:Path->E}{g:Xg Un}(i:pW b q p O g a)(k:WF b)(r:TD b){c:Wt.Op}(e:qc c){ak aL:Xj}{t:Xj}(d:a.cell? ⟨1,0,F⟩=C (Xd K t))(o:uQ a)(l:4<a.heap.size)(s:g.length<2^18):
 Calls TP 155 #[pt O 0,.agg (ub c),Xd K ak,Xd K aL] a (uE b q p O g a (Wt.create b c ak aL)):=by
 cases m:Wt.create b c ak aL with
 |yes H z w=>exact zM i k r e d o l s m
 |no h=>
  have n:(bs c.path).size<2^31:=by rw[cR];have:=e.path;omega
  cases f:Wt.split c.path with
  |none=>
   have:h=4:=by simp_all [Wt.create]
   subst this;exact Ml Xf d n f
  |some u=>
   cases u with
   |nil=>
    have:h=4:=by simp_all [Wt.create]
    subst this;exact Ml J d n f
   |cons v D=>exact rU i k e d o l m (λy x=>by simp_all) (by rw[f];rfl)
variable{d:Tree}{b:M}{e:M}{c:E}
def uD(a:Xj)(b:M)(c:Ending)(e:M):Prop:=c=Xs (.tuple #[.string ⟨#[]⟩,Xm F 0 0,.iface 32 (Xd K a)])/\Below b.heap.size b e
def Ru(a:Xg Wt.Ev)(d:Xe)(e:E)(b:M):Prop:=(a=[]/\d=Xm F 0 0)\/∃c,d=Xm (C ⟨c,0,F⟩) a.length a.length/\0<a.length/\e<=c/\b.heap[c]?=C (Xn (ib a) 269 (0,0))
def TH(d:Tree)(g f:Path->E)(O:E)(h:Xg Un)(i:Tree)(n:Xg Wt.Ev)(o:B)(b:M)(m:Ending)(e:M):Prop:=∃c a k l,m=Xs (.tuple #[.string (bs o),l,.nilIface])/\pW i c a O (h++k) e/\k.length<=2/\ye O d g f i c a b e/\Ru n l b.heap.size e
def gN(d:Tree)(g f:Path->E)(O:E)(h:Xg Un)(b:M)(i:UU)(a:Ending)(e:M):Prop:=match i with
 |.no c=>uD c b a e
 |.yes m l k=>TH d g f O h m k l b a e
section
variable{g f:Path->E}{h:Xg Un}
theorem pW.old(i:pW d g f O h b)(a:∀c,c<b.heap.size->e.heap[c]?=b.heap[c]?):pW d g f O h e:=by obtain⟨q,p,s,k,o⟩:=i.top;exact⟨i.lg.old a,q,p,by grind,k.stay λl n=>a l (k.lt l n),o.stay λc r t m _=>a c (XN.1 m).1⟩
theorem Dy(a:pW d g f O h b)(i:∀c,c<b.heap.size->e.heap[c]?=b.heap[c]?):wH e O c↔wH b O c:=by
 obtain⟨o,n,l,k,m⟩:=a.top
 grind [wH]
theorem ye.same(k:pW d g f O h b)(m:b.heap.size<=e.heap.size)(i:∀c,c<b.heap.size->e.heap[c]?=b.heap[c]?):ye O d g f d g f b e:=
 ⟨m,λc l _ _=>i c l,λc a=>Xh a,λc a=>Xh ((Dy k i).1 a)⟩
theorem xx(R:pW d g f O h b)(T:WF d)(b0:TD d){a:Wt.Op}(Y:qc a){ak aL:Xj}{b6:Xj}(b3:b.cell? ⟨1,0,F⟩=C (Xd K b6))(b4:uQ b)(a9:4<b.heap.size)(b5:h.length<2^18)(X:a.kind=3):
 Calls TP 113 #[pt O 0,.agg (ub a),Xd K ak,Xd K aL] b (gN d g f O h b (Wt.create d a ak aL)):=by
 obtain⟨c6,b7,a6,aE,a7⟩:=a;simp only at X;subst X;obtain⟨a,L⟩:∃a:Wt.Op,a=⟨3,b7,a6,aE,a7⟩:=by simp
 rw[<-L]at Y⊢
 have H:∀c,c<b.heap.size->(b.alloc (.cells (ub a) 28)).heap[c]?=b.heap[c]?:=by simp_all [XQ]
 have a8:1<b.heap.size:=by omega
 have c0:(b.alloc (.cells (ub a) 28)).heap.size=b.heap.size+1:=by simp
 have x:=Mt (R.old H) T b0 Y (ak:=ak) (aL:=aL) (by rw[Yx _ _ _ a8];exact b3) (b4.stay (by rw[H 4 a9])) (by omega) b5;cases u:Wt.create d a ak aL with
 |no b9=>
  rw[u]at x;have HC:=Xl x;subst L;go_enter Tryz.func113,Tryz.ntmps113
  go_wp2_with (go_at_call 155;refine HC.out.mono ?_;rintro k i⟨rfl,p⟩;have s:=Xl p;clear p)
  go_ret3;refine⟨A,?_⟩;have U:=s.out
  grind [bd]
 |yes Q a2 y=>
  rw[u]at x;have z:=nH T u
  have b1:∀k i,uE d g f O h (b.alloc (.cells (ub a) 28)) (.yes Q a2 y) k i->∃m n q r N l,k=Xs (.tuple #[pt N 0,Xm (C ⟨l,0,F⟩) 2 2,.nilIface])/\pW Q m n O (h++[q,r]) i/\ye O d g f Q m n b i/\b.heap.size<=l/\i.heap[l]?=C (Xn (ib y) 269 (0,0))/\Calls TP 156 #[pt N 0] i λk e=>k=Xs (.string (bs a2))/\Below i.heap.size i e:=λk i U=>by obtain⟨m,n,q,r,b8,l,rfl,o,t,p,w,rfl,a0⟩:=U;obtain⟨d1,a1⟩:=XR.1 a0;exact⟨m,n,q,r,m b8,l,A,o,(ye.same R (by simp) H).trans t,by omega,w,sH o.lg z.up a0 (eB z a1).1 (eB z a1).2⟩
  have b2:y.length=2:=by obtain⟨c,c7,c9,c8,_,_,_,_,_,_,_,_,_,_,_,_,_,rfl⟩:=gR u;rfl
  have HC:=Xl x;have a3:=Xl b1;subst L;go_enter Tryz.func113,Tryz.ntmps113
  go_wp2_with (first
   |(go_at_call 155;refine HC.out.mono ?_;intro k i W;obtain⟨m,n,q,r,N,l,rfl,o,t,p,w,Z⟩:=a3.out _ _ W;have a4:=Xl Z;have S:=Xl o;have a5:=Xl t;have s:=Xl w;clear Z o t W w)
   |(go_at_call 156;refine a4.out.mono ?_;rintro k d0⟨rfl,v⟩))
  go_ret3;refine⟨m,n,[q,r],_,A,S.out.old λc D=>v.block c D,by simp,a5.out.trans (ye.same S.out v.size λc D=>v.block c D),Xi ⟨l,?_,by omega,p,?_⟩⟩
  .rw[b2];rfl
  rw[v.block _ (XN.1 s.out).1];exact s.out
end
variable{T:E}{j:E}
def eR(a:M)(O:E)(f:Xk Xe)(b:XB)(ok:Xo)(e:E)(g:Xe):Prop:=
 Calls TP 95 #[.string b] (a.alloc (.cells f 28)) λc d=>∃h i,c=Xs (.tuple #[.slice h e i,.bool ok])/\Below (a.heap.size+1) (a.alloc (.cells f 28)) d/\
  (ok=J->Calls TP 96 #[pt O 0,.slice h e i] d λc k=>c=Xs g/\d=k)
section
variable{f aE d ak aL:Xj}{b c:XB}{e:E}{g:Xe}
theorem Mc(p:(f==3)=Xf)(l:eR a O (gM f b c aE d) b Xf e g):Calls TP 113 #[pt O 0,.agg (gM f b c aE d),Xd K ak,Xd K aL] a (uD 4 a):=by
 have k:=Xl l;go_enter Tryz.func113,Tryz.ntmps113
 go_wp2_with (go_at_call 95;refine k.out.mono ?_;rintro o q⟨m,n,rfl,h,-⟩;have i:=Xl h;clear h)
 go_ret3;exact⟨A,bd i.out⟩
theorem Pj(k:eR a O (gM 4 b c aE d) b J 0 g):Calls TP 113 #[pt O 0,.agg (gM 4 b c aE d),Xd K ak,Xd K aL] a (uD 4 a):=by
 have i:=Xl k;go_enter Tryz.func113,Tryz.ntmps113
 go_wp2_with (go_at_call 95;refine i.out.mono ?_;rintro n p⟨l,m,rfl,e,-⟩;have f:=cS e;have o:=aa f 0 A;have h:=Xl e;clear e f)
 go_ret3;exact⟨A,bd h.out⟩
theorem Pf(l:eR a O (gM 5 b c aE d) b J e g)(p:16<(c.size:Xj)):Calls TP 113 #[pt O 0,.agg (gM 5 b c aE d),Xd K ak,Xd K aL] a (uD 5 a):=by
 have k:=Xl l;go_enter Tryz.func113,Tryz.ntmps113
 go_wp2_with (go_at_call 95;refine k.out.mono ?_;rintro o s⟨m,n,rfl,f,-⟩;have h:=cS f;have q:=aa h 0 A;have r:=aa h 2 A;have i:=Xl f;clear f h)
 go_ret3;exact⟨A,bd i.out⟩
theorem bW{c:M}{b:Xp Xe}(d:c.heap[T]?=a.heap[T]?)(e:a.cell? ⟨T,j,F⟩=b):c.cell? ⟨T,j,F⟩=b:=by simp_all [M.cell?]
theorem below_drewN(a:M)(b:E):Below a.heap.size a (a.drewN b):=⟨A,A,A,XS _,λ_ _=>rfl⟩
theorem vk{b:M}{e:Obj}(c:Below (a.heap.size+1) (a.alloc e) b)(d:E):Below a.heap.size a (b.drewN d):=(bd c).trans ((below_drewN b d).mono (bd c).size)
theorem LY(q:((e:Xj)==0)=Xf)(n:eR a O (gM 4 b c aE d) b J e (XA F)):Calls TP 113 #[pt O 0,.agg (gM 4 b c aE d),Xd K ak,Xd K aL] a (uD 7 a):=by
 have l:=Xl n;go_enter Tryz.func113,Tryz.ntmps113
 go_wp2_with (first
  |(go_at_call 95;refine l.out.mono ?_;rintro m u⟨o,p,rfl,g,h⟩;have f:=cS g;have r:=aa f 0 A;have s:=aa f 2 A;have t:=aa f 3 A;have k:=Xl (h A);have i:=Xl g;clear g f h)
  |(go_at_call 96;refine k.out.mono ?_;rintro m v⟨rfl,rfl⟩))
 go_ret3;exact⟨A,bd i.out⟩
theorem LZ(q:¬16<(c.size:Xj))(n:eR a O (gM 5 b c aE d) b J e (XA F)):Calls TP 113 #[pt O 0,.agg (gM 5 b c aE d),Xd K ak,Xd K aL] a (uD 7 a):=by
 have l:=Xl n;go_enter Tryz.func113,Tryz.ntmps113
 go_wp2_with (first
  |(go_at_call 95;refine l.out.mono ?_;rintro m u⟨o,p,rfl,g,h⟩;have f:=cS g;have r:=aa f 0 A;have s:=aa f 2 A;have t:=aa f 3 A;have k:=Xl (h A);have i:=Xl g;clear g f h)
  |(go_at_call 96;refine k.out.mono ?_;rintro m v⟨rfl,rfl⟩))
 go_ret3;exact⟨A,bd i.out⟩
theorem Ma(r:(f==3)=Xf)(s:(f==4)=Xf)(t:(f==5)=Xf)(o:eR a O (gM f b c aE d) b J e (XA F)):Calls TP 113 #[pt O 0,.agg (gM f b c aE d),Xd K ak,Xd K aL] a (uD 7 a):=by
 have m:=Xl o;go_enter Tryz.func113,Tryz.ntmps113
 go_wp2_with (first
  |(go_at_call 95;refine m.out.mono ?_;rintro n x⟨p,q,rfl,h,i⟩;have g:=cS h;have u:=aa g 0 A;have v:=aa g 2 A;have w:=aa g 3 A;have l:=Xl (i A);have k:=Xl h;clear h g i)
  |(go_at_call 96;refine l.out.mono ?_;rintro n y⟨rfl,rfl⟩))
 go_ret3;exact⟨A,bd k.out⟩
theorem Pk(v:((e:Xj)==0)=Xf)(l:eR a O (gM 4 b c aE d) b J e (pt T 0)){m:Xj}(r:T<a.heap.size)(i:a.cell? ⟨T,4,F⟩=C (Xd K m))(w:(aE !=-1)=J)(x:(aE !=m)=J):Calls TP 113 #[pt O 0,.agg (gM 4 b c aE d),Xd K ak,Xd K aL] a (uD 9 a):=by
 have h:=Xl l;unfold eR at h;clear l;have o:=Xl i;clear i;go_enter Tryz.func113,Tryz.ntmps113
 go_wp2_with (first
  |(go_at_call 95;refine h.out.mono ?_;rintro q H⟨s,t,rfl,f,k⟩;have g:=cS f;have y:=aa g 0 A;have z:=aa g 2 A;have D:=aa g 3 A;have u:=bW (bI f T r) o.out;have p:=Xl (k A);have n:=Xl f;clear f g k)
  |(go_at_call 96;refine p.out.mono ?_;rintro q L⟨rfl,rfl⟩))
 go_quiet (fail)
 go_wp2
 go_ret3;exact⟨A,vk n.out _⟩
theorem Pm(v:¬16<(c.size:Xj))(l:eR a O (gM 5 b c aE d) b J e (pt T 0)){m:Xj}(r:T<a.heap.size)(i:a.cell? ⟨T,4,F⟩=C (Xd K m))(w:(aE !=-1)=J)(x:(aE !=m)=J):Calls TP 113 #[pt O 0,.agg (gM 5 b c aE d),Xd K ak,Xd K aL] a (uD 9 a):=by
 have h:=Xl l;unfold eR at h;clear l;have o:=Xl i;clear i;go_enter Tryz.func113,Tryz.ntmps113
 go_wp2_with (first
  |(go_at_call 95;refine h.out.mono ?_;rintro q H⟨s,t,rfl,f,k⟩;have g:=cS f;have y:=aa g 0 A;have z:=aa g 2 A;have D:=aa g 3 A;have u:=bW (bI f T r) o.out;have p:=Xl (k A);have n:=Xl f;clear f g k)
  |(go_at_call 96;refine p.out.mono ?_;rintro q L⟨rfl,rfl⟩))
 go_quiet (fail)
 go_wp2
 go_ret3;exact⟨A,vk n.out _⟩
theorem Pn(w:(f==3)=Xf)(x:(f==4)=Xf)(y:(f==5)=Xf)(m:eR a O (gM f b c aE d) b J e (pt T 0)){n:Xj}(s:T<a.heap.size)(k:a.cell? ⟨T,4,F⟩=C (Xd K n))(z:(aE !=-1)=J)(D:(aE !=n)=J):Calls TP 113 #[pt O 0,.agg (gM f b c aE d),Xd K ak,Xd K aL] a (uD 9 a):=by
 have i:=Xl m;unfold eR at i;clear m;have p:=Xl k;clear k;go_enter Tryz.func113,Tryz.ntmps113
 go_wp2_with (first
  |(go_at_call 95;refine i.out.mono ?_;rintro r Q⟨t,u,rfl,g,l⟩;have h:=cS g;have H:=aa h 0 A;have L:=aa h 2 A;have N:=aa h 3 A;have v:=bW (bI g T s) p.out;have q:=Xl (l A);have o:=Xl g;clear g h l)
  |(go_at_call 96;refine q.out.mono ?_;rintro r R⟨rfl,rfl⟩))
 go_quiet (fail)
 go_wp2
 go_ret3;exact⟨A,vk o.out _⟩
end
variable{s:E}
structure Er(a:M)(T s:E)(d c:Xj):Prop where
 lt:T<a.heap.size
 aE:a.cell? ⟨T,4,F⟩=C (Xd K d)
 mp:a.cell? ⟨T,11,F⟩=C (.map (C s))
 len:∀l:M,(∀k,k<a.heap.size->l.heap[k]?=a.heap[k]?)->(Builtin.len_ #[188] 3 #[.map (C s)]).run TP l=.ok (Xd K c) l
theorem Er.lens{e:M}{k:Obj}{d c:Xj}(g:Er a T s d c)(i:Below (a.heap.size+1) (a.alloc k) e):∀b,(Builtin.len_ #[188] 3 #[.map (C s)]).run TP (e.drewN b)=.ok (Xd K c) (e.drewN b):=λb=>g.len (e.drewN b) λf h=>bI i f h
def Le(b:XB)(a:M)(c:Ending)(d:M):Prop:=c=Xs (.tuple #[.string b,Xm F 0 0,.nilIface])/\Below a.heap.size a d
section
variable{e aE g ak aL d c:Xj}{b f:XB}{h:E}{i:Xe}
theorem GW(x:((h:Xj)==0)=Xf)(p:eR a O (gM 4 b f aE g) b J h (pt T 0))(n:Er a T s d c)(l:(aE !=-1)=Xf\/(aE !=-1)=J/\(aE !=d)=Xf)(D:0<c):Calls TP 113 #[pt O 0,.agg (gM 4 b f aE g),Xd K ak,Xd K aL] a (uD 10 a):=by
 rcases l with l|⟨l,z⟩
 all_goals
  have m:=Xl p;have i:=Xl n;unfold eR at m;clear p n;go_enter Tryz.func113,Tryz.ntmps113
  go_wp2_with (first
   |(go_at_call 95;refine m.out.mono ?_;rintro t R⟨u,v,rfl,e,o⟩;have k:=cS e;have H:=aa k 0 A;have L:=aa k 1 A;have N:=aa k 2 A;have Q:=aa k 3 A;have c4:=bW (bI e T i.out.lt) i.out.aE;have w:=bW (bI e T i.out.lt) i.out.mp;have y:=i.out.lens e;have r:=Xl (o A);have q:=Xl e;clear e k o)
   |(go_at_call 96;refine r.out.mono ?_;rintro t S⟨rfl,rfl⟩))
  go_quiet (fail)
  go_wp2
  go_ret3;exact⟨A,vk q.out _⟩
theorem GX(y:(e==3)=Xf)(z:(e==4)=Xf)(D:(e==5)=Xf)(q:eR a O (gM e b f aE g) b J h (pt T 0))(o:Er a T s d c)(m:(aE !=-1)=Xf\/(aE !=-1)=J/\(aE !=d)=Xf):Calls TP 113 #[pt O 0,.agg (gM e b f aE g),Xd K ak,Xd K aL] a (Le b a):=by
 rcases m with m|⟨m,L⟩
 all_goals
  have n:=Xl q;have k:=Xl o;unfold eR at n;clear q o;go_enter Tryz.func113,Tryz.ntmps113
  go_wp2_with (first
   |(go_at_call 95;refine n.out.mono ?_;rintro u U⟨v,w,rfl,i,p⟩;have l:=cS i;have N:=aa l 0 A;have Q:=aa l 1 A;have R:=aa l 2 A;have S:=aa l 3 A;have c4:=bW (bI i T k.out.lt) k.out.aE;have x:=bW (bI i T k.out.lt) k.out.mp;have H:=k.out.lens i;have t:=Xl (p A);have r:=Xl i;clear i l p)
   |(go_at_call 96;refine t.out.mono ?_;rintro u W⟨rfl,rfl⟩))
  go_quiet (fail)
  go_wp2
  go_ret3;exact⟨A,vk r.out _⟩
end
def QQ(b:XB)(c:M->E->M->Prop)(a:M)(g:Ending)(h:M):Prop:=∃f e,a.heap.size<=e.heap.size/\(∀d,d<a.heap.size->e.heap[d]?=a.heap[d]?)/\g=Xs (.tuple #[.string b,Xm (C ⟨f,0,F⟩) 2 2,.nilIface])/\c e f h
section
variable{i aE f ak aL h g:Xj}{b e:XB}{d:E}{c:M->E->M->Prop}
theorem LX(Z:((d:Xj)==0)=Xf)(L:eR a O (gM 4 b e aE f) b J d (pt T 0))(x:Er a T s h g)(u:(aE !=-1)=Xf\/(aE !=-1)=J/\(aE !=h)=Xf)(a5:¬0<g)
 (y:∀k:M,(∀i,i<a.heap.size->k.heap[i]?=a.heap[i]?)->a.heap.size<k.heap.size->Calls TP 153 #[pt O 0,pt T 0] k λp q=>∃l,p=Xs (Xm (C ⟨l,0,F⟩) 2 2)/\k.heap.size<=l/\l<q.heap.size/\k.heap.size<=q.heap.size/\q.heap[a.heap.size]?=k.heap[a.heap.size]?/\c k l q):
 Calls TP 113 #[pt O 0,.agg (gM 4 b e aE f),Xd K ak,Xd K aL] a (QQ b c a):=by
 rcases u with u|⟨u,a4⟩
 all_goals
  have v:=Xl L;have o:=Xl x;have R:=Xl y;unfold eR at v;clear L x y;go_enter Tryz.func113,Tryz.ntmps113
  go_wp2_with (first
   |(go_at_call 95;refine v.out.mono ?_;rintro p Q⟨i,X,rfl,m,H⟩;have n:=cS m;have a6:=aa n 0 A;have a7:=aa n 1 A;have a9:=aa n 2 A;have b0:=aa n 3 A;have c4:=bW (bI m T o.out.lt) o.out.aE;have Y:=bW (bI m T o.out.lt) o.out.mp;have a3:=o.out.lens m;have U:=Xl (H A);have r:=Xl m;have w:=Xl n;clear m n H)
   |(go_at_call 96;refine U.out.mono ?_;rintro p k⟨rfl,rfl⟩))
  go_quiet (fail)
  have W:=Xl (R.out (Q.drewN nq) (λi t=>bI r.out i t) (XN.1 w.out).1)
  go_wp2_with (go_at_call 153;refine W.out.mono ?_;rintro p b1⟨l,rfl,a0,a1,a2,z,D⟩;have N:=z.trans w.out;have a8:=aa N 1 A;clear N;have S:=Xl D;clear z D)
  go_ret3;exact⟨l,Q.drewN nq,(bd r.out).size,λi t=>bI r.out i t,A,S.out⟩
end
variable{w:M}{h:E}{l:E}{w':M}{g:E}{d:E}{S:Xk XH}{v:Xe}
abbrev fI(w:M)(a:Xo)(b:XB):M:=w.alloc (.cells #[.bool a,.string b] 253)
abbrev La(B e b:E)(c:Xo)(d:XB)(a:M):Prop:=a.cell? ⟨e,0,F⟩=C (.map (C b))/\a.cell? ⟨B,0,F⟩=C (.bool c)/\a.cell? ⟨B,1,F⟩=C (.string d)
theorem LD{e b:E}{o:Xp Xw}{ak:Xj}{a:Xo}{c:XB}{O:Xj}{x:M->Prop}(U:w.cell? ⟨e,0,F⟩=C (.map (C b)))(a3:e<w.heap.size)
 (X:∀m,(Instr.lookup 196 (.map (C b)) (.agg #[.bool a,.string c]) Xf).run TP ((fI w a c).drewN m)=.ok (.slice o h l) ((fI w a c).drewN m))
 (L:∀m,Calls TP 134 #[.slice o h l,Xd K ak] ((fI w a c).drewN m) λk w'=>k=Xs (.tuple #[Xd K O,.bool Xf])/\∃Y,w'=(fI w a c).drewN Y)
 (N:∀m,Calls TP 135 #[.slice o h l,Xd K O,Xm (C ⟨w.heap.size+1,0,F⟩) 1 1] (((fI w a c).drewN m).alloc (.cells #[Xd K ak] 3)) λk w'=>∃p t q,k=Xs (.slice p t q)/\La w.heap.size e b a c w'/\∃u,(Instr.mapUpdate 196 (.map (C b)) (.agg #[.bool a,.string c]) (.slice p t q)).run TP w'=.ok () u/\La w.heap.size e b a c u/\x u):
 Calls TP 105 #[pt e 0,Xd K ak,.bool a,.string c] w λk w'=>k=Xs (.tuple #[])/\x w':=by
 have z:(fI w a c).cell? ⟨e,0,F⟩=C (.map (C b)):=by simp_all [Yx]
 have Q:=Xl L;have R:=Xl N;clear L N U;go_enter Tryz.func105,Tryz.ntmps105
 go_wp2
 go_quiet (fail)
 go_wp2_with (go_at_call 134;refine(Q.out nq).mono ?_;rintro k a5⟨rfl,i,rfl⟩)
 have r:((fI w a c).drewN (i+1)).heap[w.heap.size]?=C (Xn #[.bool a,.string c] 253 (0,0)):=Yn w _;have s:(((fI w a c).drewN (i+1)).alloc (.cells #[Xd K ak] 3)).heap[w.heap.size]?=C (Xn #[.bool a,.string c] 253 (0,0)):=by simp_all [XQ]
 have D:((fI w a c).drewN (i+1)).cell? ⟨e,0,F⟩=C (.map (C b)):=z;have H:(((fI w a c).drewN (i+1)).alloc (.cells #[Xd K ak] 3)).cell? ⟨e,0,F⟩=C (.map (C b)):=by grind [World.cell?_alloc_lt]
 have y:La w.heap.size e b a c ((fI w a c).drewN (i+1)):=⟨D,aa r 0 A,aa r 1 A⟩;have Z:La w.heap.size e b a c (((fI w a c).drewN (i+1)).alloc (.cells #[Xd K ak] 3)):=⟨H,aa s 0 A,aa s 1 A⟩;have T:La w.heap.size e b a c (((fI w a c).drewN i).drew):=y;have W:=Xl (R.out (i+1));clear z D H r s X
 go_region_held3 (λn=>n.cell? ⟨e,0,F⟩=C (.map (C b))/\n.cell? ⟨w.heap.size,0,F⟩=C (.bool a)/\n.cell? ⟨w.heap.size,1,F⟩=C (.string c))
  (first|with_reducible exact y|with_reducible exact T|omega|omega|omega)
  (first|(go_at_call 135;refine W.out.mono ?_;rintro k a6⟨p,t,q,rfl,a0,a7,a4,a1,a2⟩))
 go_end0
 simp_all
theorem LF{e b:E}{i:Xp Xw}{ak:Xj}{a:Xo}{c:XB}{n:Xj}(p:w.cell? ⟨e,0,F⟩=C (.map (C b)))(r:e<w.heap.size)
 (q:∀d,(Instr.lookup 196 (.map (C b)) (.agg #[.bool a,.string c]) Xf).run TP ((fI w a c).drewN d)=.ok (.slice i h l) ((fI w a c).drewN d))
 (m:∀d,Calls TP 134 #[.slice i h l,Xd K ak] ((fI w a c).drewN d) λf w'=>f=Xs (.tuple #[Xd K n,.bool J])/\∃o,w'=(fI w a c).drewN o):
 Calls TP 105 #[pt e 0,Xd K ak,.bool a,.string c] w λf w'=>f=Xs (.tuple #[])/\∃d,w'=(fI w a c).drewN d:=by
 have k:=Xl m;go_enter Tryz.func105,Tryz.ntmps105
 go_wp2
 go_quiet (fail)
 go_wp2_with (go_at_call 134;refine(k.out nq).mono ?_;rintro f t⟨rfl,s,rfl⟩)
 go_end0
 grind
abbrev mz:Xe:=Xm F 0 0
structure dK(cd:Xo->B->Xg Xj)(e b:E)(f:Xe->Xp Xe)(w:M):Prop where
 tb:w.heap[e]?=C (Xn #[.map (C b)] 198 (0,0))
 mp:∃S i,w.heap[b]?=C (.map S i)/\Mp yd S i f
 row:∀a c,rR w ((f (spot a c)).getD mz) (cd a c)
 inj:∀a c k m g,rowOf ((f (spot a c)).getD mz)=C g->rowOf ((f (spot k m)).getD mz)=C g->a=k/\c=m
 xU:∀a c,rK (cd a c)
 nums:∀a c,∀n∈cd a c,0<n/\n<2^28
def eF(e b:E)(f:Xe->Xp Xe)(d:E):Prop:=d=e\/d=b\/∃a c,rowOf ((f (spot a c)).getD mz)=C d
theorem rr:∀{b:Xg Xj}{c:Xj},rK b->(∀d∈b,c<d)->∀a,(∀d∈b,d<a)->c<a->(b.length:Xj)<a-c
 |[],c,_,_,a,_,e=>by simp;omega
 |h::b,c,e,i,a,f,n=>by
  obtain⟨l,m⟩:=YJ.1 e;have:=rr m l a (λd k=>f d (by simp[k])) (f h (by simp));have:=i h (by simp)
  grind
theorem sJ{c:Xg Xj}(e:rK c)(d:∀a∈c,0<a/\a<2^28):c.length<2^28:=by have:=rr e (λa b=>(d a b).1) (2^28) (λa b=>(d a b).2) (by decide);omega
section
variable{cd:Xo->B->Xg Xj}{e b:E}{f:Xe->Xp Xe}
theorem dK.ne(a:dK cd e b f w):e≠b:=λd=>by obtain⟨S,h,c,_⟩:=a.mp;rw[<-d,a.tb]at c;cases c
theorem dK.AJ(h:dK cd e b f w){l:Xo}{m:B}(c:rowOf ((f (spot l m)).getD mz)=C g):∃i,w.heap[g]?=C (Xn i 3 (0,0))/\g≠e/\g≠b:=by
 rcases h.row l m with⟨_,d,a⟩|⟨q,o,i,a,k,n,_⟩
 .rw[a]at c;cases d<;>cases c
 rw[a,iF n]at c;cases c;refine⟨i,k,λa=>?_,λa=>?_⟩
 .rw[a,h.tb]at k;cases k
 obtain⟨S,p,r,_⟩:=h.mp;simp_all
theorem dK.lt(c:dK cd e b f w)(a:eF e b f d):d<w.heap.size:=by
 rcases a with rfl|rfl|⟨h,i,a⟩
 .exact(XN.1 c.tb).1
 .obtain⟨S,k,a,_⟩:=c.mp;exact(XN.1 a).1
 exact(c.row h i).lt a
theorem dK.stay(a:dK cd e b f w)(c:∀d,eF e b f d->w'.heap[d]?=w.heap[d]?):dK cd e b f w' where
 tb:=by rw[c e (.inl A)];exact a.tb
 mp:=by rw[c b (.inr (.inl A))];exact a.mp
 row:=λi k=>(a.row i k).stay λg m=>c g (Xi (Xi ⟨i,k,m⟩))
 inj:=a.inj
 xU:=a.xU
 nums:=a.nums
theorem dK.get(n:dK cd e b f w)(o:w'.heap[b]?=w.heap[b]?)(k:Xo)(a:B):(Instr.lookup 196 (.map (C b)) (spot k a) Xf).run TP w'=.ok ((f (spot k a)).getD mz) w':=by obtain⟨S,p,c,m⟩:=n.mp;rw[<-o]at c;exact m.get sw Gz (TC w') c (Oq k a) Xf
open Classical in
noncomputable def qZ(f:Xe->Xp Xe)(b:Xo)(c:B)(v:Xp Xe):Xe->Xp Xe:=λa=>if a=spot b c then v else f a
theorem jr{a:Xo}{b:B}{v:Xp Xe}:qZ f a b v (spot a b)=v:=XC A
theorem pM{b:Xo}{c:B}{v:Xp Xe}{a:Xe}(d:a≠spot b c):qZ f b c v a=f a:=Xx d
theorem jq{c a:Xo}{d b:B}{v:Xp Xe}(h:¬(a=c/\b=d)):qZ f c d v (spot a b)=f (spot a b):=pM λe=>h (Ot e)
def eW(cd:Xo->B->Xg Xj)(c:Xo)(e:B)(d:Xg Xj):Xo->B->Xg Xj:=λa b=>if a=c/\b=e then d else cd a b
theorem dK.put(c:dK cd e b f w){k:Xo}{a:B}{v:Xp Xe}{z:Xg Xj}{D:E}
 (U:w'.heap[e]?=C (Xn #[.map (C b)] 198 (0,0)))(Q:w'.heap[b]?=C (.map S D))(L:Mp yd S D (qZ f k a v))(X:rR w' (v.getD mz) z)
 (O:∀d,d<w.heap.size->d≠b->rowOf ((f (spot k a)).getD mz)≠C d->eF e b f d->w'.heap[d]?=w.heap[d]?)
 (R:∀g,rowOf (v.getD mz)=C g->rowOf ((f (spot k a)).getD mz)=C g\/w.heap.size<=g)(T:rK z)(W:∀H∈z,0<H/\H<2^28):dK (eW cd k a z) e b (qZ f k a v) w' where
 tb:=U
 mp:=⟨S,D,Q,L⟩
 row:=λi m=>by
  unfold eW;by_cases n:i=k/\m=a
  .simp_all [jr]
  rw[Xx n,jq n];refine(c.row i m).stay λg y=>O g ((c.row i m).lt y) ?_ (λN=>n (c.inj _ _ _ _ g y N)) (Xi (Xi ⟨i,m,y⟩));exact(c.AJ y).choose_spec.2.2
 inj:=λt q1 q r g s p=>by
  have Z:∀t q1 q r,(t=k/\q1=a)->¬(q=k/\r=a)->rowOf ((qZ f k a v (spot t q1)).getD mz)=C g->rowOf ((qZ f k a v (spot q r)).getD mz)=C g->False:=λt q1 q r u x s p=>by
   rw[u.1,u.2,jr]at s;rw[jq x]at p;rcases R g s with n|n
   .exact x (c.inj _ _ _ _ g p n)
   have:=(c.row q r).lt p;omega
  by_cases u:t=k/\q1=a
  .grind
  by_cases x:q=k/\r=a
  .grind
  rw[jq u]at s;rw[jq x]at p;exact c.inj _ _ _ _ g s p
 xU:=λi m=>by
  unfold eW;split
  .exact T
  exact c.xU i m
 nums:=λi m=>by
  unfold eW;split
  .exact W
  exact c.nums i m
theorem NN{c:Xo}{i:B}{v:Xp Xe}(n:∀g,rowOf (v.getD mz)=C g->rowOf ((f (spot c i)).getD mz)=C g\/h<=g)(a:eF e b (qZ f c i v) d):eF e b f d\/h<=d:=by
 rcases a with rfl|rfl|⟨l,m,a⟩
 .exact Xh (Xh A)
 .exact Xh (Xi (Xh A))
 by_cases k:l=c/\m=i
 .rw[k.1,k.2,jr]at a;rcases n d a with a|a
  .exact Xh (Xi (Xi ⟨c,i,a⟩))
  omega
 rw[jq k]at a;exact Xh (Xi (Xi ⟨l,m,a⟩))
theorem JX(w:M)(a:Obj)(h:E):∀d,d<w.heap.size->((w.alloc a).drewN h).heap[d]?=w.heap[d]?:=λd b=>XQ w a d b
theorem Og{a:Xg Xj}(e:rR w v a)(m:rK a)(x:a.length<2^40)(b:Xj):Calls TP 134 #[v,Xd K b] w λc w'=>c=Xs (.tuple #[Xd K ((a.countP (·<b):E):Xj),.bool (a.contains b)])/\∃o,w'=w.drewN o:=by
 rcases e with⟨rfl,d,rfl⟩|⟨g,i,k,rfl,f,h,p,q,r,l,s⟩
 .refine(Tryz.slices_BinarySearch_int_empty d 0 b w).mono λc w'⟨f,h⟩=>⟨f,0,h⟩
 have t:=Tryz.slices_BinarySearch_int g 0 a.length i a b w (XS _) (by omega) (λj u=>?_) (by rw[N_];exact m.imp λe=>Xj.le_of_lt e)
 .simp_all
 have:k.toList[j]?=C (i64 (a.getD j 0)):=by
  have c:=YU (λn=>n[j]?) l
  grind
 simp_all [M.cell?]
theorem RM(k:dK cd e b f w){ak:Xj}(c7:0<ak/\ak<2^28)(a:Xo)(c:B):
 Calls TP 105 #[pt e 0,Xd K ak,.bool a,.string (bs c)] w λm w'=>m=Xs (.tuple #[])/\∃y,dK (eW cd a c (dF ak (cd a c))) e b y w'/\aH (eF e b f) (eF e b y) w w':=by
 have q:=k.row a c;have H:=k.xU a c;have a9:(cd a c).length<2^40:=E.lt_trans (sJ H (k.nums a c)) (by decide);have Z:=k.lt (Xh A);have c8:=k.lt (Xi (Xh A));have a2:w.cell? ⟨e,0,F⟩=C (.map (C b)):=aa k.tb 0 A;obtain⟨v,O⟩:∃v,v=(f (spot a c)).getD mz:=by simp
 rw[<-O]at q;obtain⟨p,h,l,rfl⟩:∃p h l,v=.slice p h l:=by
  rcases q with⟨_,d,rfl⟩|⟨g,b8,c0,rfl,_⟩
  .simp
  simp
 have D:∀i,∀d,d<w.heap.size->((fI w a (bs c)).drewN i).heap[d]?=w.heap[d]?:=by grind [JX]
 have a7:∀i,(Instr.lookup 196 (.map (C b)) (.agg #[.bool a,.string (bs c)]) Xf).run TP ((fI w a (bs c)).drewN i)=.ok (.slice p h l) ((fI w a (bs c)).drewN i):=λi=>by rw[O];exact k.get (D i b c8) a c
 have d1:=λi=>q.stay λg n=>D i g (q.lt n);have L:=λi=>Og (d1 i) H a9 ak;by_cases r:ak∈cd a c
 .have T:(cd a c).contains ak=J:=by simp_all
  rw[T]at L;refine(LF a2 Z a7 λi=>(L i).mono λm w'⟨z,a0,a5⟩=>⟨z,i+a0,by simp_all⟩).mono λm w'⟨U,i,b2⟩=>⟨U,f,?_,?_⟩
  .have W:eW cd a c (dF ak (cd a c))=cd:=by
    grind [eW,Cd]
   rw[W,b2];exact k.stay λd o=>D i d (k.lt o)
  rw[b2];exact⟨by simp,λd o _=>D i d o,λd c6=>Xh c6⟩
 have T:(cd a c).contains ak=Xf:=by simp_all
 rw[T]at L;refine(LD (x:=λw'=>∃y,dK (eW cd a c (dF ak (cd a c))) e b y w'/\aH (eF e b f) (eF e b y) w w') a2 Z a7 (λi=>(L i).mono λm w'⟨z,a0,a5⟩=>⟨z,i+a0,by simp_all⟩) λi=>?_);obtain⟨s,b3⟩:∃s,s=((fI w a (bs c)).drewN i).alloc (.cells #[Xd K ak] 3):=by simp
 have e1:((fI w a (bs c)).drewN i).heap.size=w.heap.size+1:=by simp
 have Y:∀d,d<w.heap.size->s.heap[d]?=w.heap[d]?:=by grind [Below.heap_alloc]
 have d9:s.heap[w.heap.size]?=C (Xn #[.bool a,.string (bs c)] 253 (0,0)):=by rw[b3,XQ _ _ _ (by omega)];exact Yn w _
 have d5:s.heap[w.heap.size+1]?=C (Xn #[Xd K ak] 3 (0,0)):=by have:=Yn ((fI w a (bs c)).drewN i) (.cells #[Xd K ak] 3);simp_all
 have e2:s.heap.size=w.heap.size+2:=by simp_all
 rw[<-b3]
 have d2:∀g,rowOf (.slice p h l)=C g->g<w.heap.size/\g≠e/\g≠b:=λg n=>by refine⟨q.lt n,?_⟩;rw[O]at n;exact(k.AJ n).choose_spec.2
 have W:=Uq (a:=s) (d:=.slice p h l) (e:=cd a c) (g:=ak) (q.stay λg n=>Y g (q.lt n)) H r a9 d5 (λm=>by grind);refine W.mono λm a1⟨d7,U,b4,e4,b5,e5⟩=>?_;obtain⟨t,x,u,rfl⟩:∃p h l,d7=.slice p h l:=by
  rcases b4 with⟨_,d,rfl⟩|⟨g,b8,c0,rfl,_⟩
  .simp
  simp
 have b0:a1.heap[e]?=C (Xn #[.map (C b)] 198 (0,0)):=by rw[b5 e (by omega) (λm=>(d2 _ m).2.1 A),Y e Z];exact k.tb
 have R:a1.heap[w.heap.size]?=C (Xn #[.bool a,.string (bs c)] 253 (0,0)):=by grind
 obtain⟨S,b9,e0,b6⟩:=k.mp
 have X:a1.heap[b]?=C (.map S b9):=by grind
 obtain⟨a4,a3,d4,b7⟩:=b6.put sw Gz X (Oq a c) (.slice t x u) (g:=qZ f a c (C (.slice t x u))) jr (λQ r=>pM r);have N:=λd(o:d≠b)=>(abf (o':=.map a4 a3) X).2 d o;have d3:=(abf (o':=.map a4 a3) X).1;have c9:=k.ne;have b1:=(N e c9).trans b0;have a6:=(N _ (by omega)).trans R;have d0:∀g,rowOf (.slice t x u)=C g->g≠b:=by grind
 refine⟨t,x,u,U,⟨aa b0 0 A,aa R 0 A,aa R 1 A⟩,_,d4,⟨aa b1 0 A,aa a6 0 A,aa a6 1 A⟩,qZ f a c (C (.slice t x u)),?_,?_⟩
 .refine k.put (v:=C (.slice t x u)) b1 d3 b7 (b4.stay λg n=>N g (d0 g n)) (λd o z a5 _=>?_) (λg n=>?_) (rn ak H) (λQ r=>?_)
  .grind
  .grind
  rcases(mT ak Q).1 r with rfl|r
  .exact c7
  exact k.nums a c Q r
 refine⟨?_,λd o a8=>?_,λd o=>?_⟩
 .grind
 .rw[N d (λm=>a8 (.inr (.inl m))),b5 d (by omega) (λm=>?_),Y d o];rw[O]at m;exact a8 (Xi (Xi ⟨a,c,m⟩))
 grind [NN]
end
variable{D:Xk Oper}{N:Exit->Xu->M->Prop}{c:Xe}
abbrev OT(b:Xe):Prop:=∃a,b=i64 a
theorem VO:∃a c,TP.underlying 61=C (.slice 3)/\(TP.info? 3=C a/\a.zero=C c/\a.size=1/\a.bytes<=1000/\c.cells.size=1/\0<1)/\∀b∈c.cells.toList,OT b:=by
 refine⟨_,_,A,⟨A,A,A,by decide,A,by decide⟩,?_⟩;intro b d;have:b∈[i64 0]:=d
 grind
theorem wpList_append_run{rest:Xg Oper}{d:Oper}{e:Xu}{h i:Xe}(m:d.guard=F)(g k:XJ)(f:Xq)
 (n:d.op=.call {callee:=.builtin .append,args:=#[g,k],argTypes:=#[f,f]})(p:e.eval g=c)(q:e.eval k=h)(o:(Builtin.append_ #[f,f] d.type #[c,h]).run TP a=.ok i b)
 (next:wpList TP D N rest (e.put d.dst i) b):wpList TP D N (d::rest) e a:=by
 refine wpList_plain m λr l=>?_;unfold Oper.wp execOp;simp only[n,resolve,invoke,builtin,Zp,aaN,q_,Zb,YG,Zl,p,q,o];exact l _ _ next
theorem AL{g:Xe}{f e:Xg Xj}(l:cr OT a 3 1 g f.length (f.map i64))(x:rR a c e)(O:f.length+e.length<2^30)(n:Xq):
 ∃i b,(Builtin.append_ #[61,61] n #[g,c]).run TP a=.ok i b/\cr OT b 3 1 i (f.length+e.length) ((f++e).map i64)/\a.grownBy b g.ownBlock/\kU a g i:=by
 obtain⟨a0,a5,q,d,Q⟩:=VO;rcases x with⟨rfl,t,rfl⟩|⟨h,o,w,rfl,R,S,T,U,W,X,Y⟩
 .refine⟨g,a,?_,by simp_all,⟨A,A,A,XS _,λ_ _ _=>rfl⟩,λh y=>Xh y⟩;obtain⟨u,m,v,rfl⟩:=l.slice;have H:m<=v:=by
   rcases l.2 with⟨p,_⟩|⟨h,o,w,p,_,Z,_⟩
   .cases p;exact XS _
   simp_all
  have z:∀s:Xw,(loadCellsFrom s 0 0 #[]).run TP a=.ok #[] a:=λs=>rfl;cases t<;>cases u<;>simp[Builtin.append_,YL q,sizeOf,typeInfo,d.1,storeCells,Builtin.lenOf,H,Result.andThen,Builtin.mayShare,Builtin.firstCells,loadCells,z]
 have L:∀j k,(e.map i64)[j]?=C k->a.cell? ((⟨h,0,F⟩:Xw).add j)=C k:=by grind [qe,World.cell?]
 obtain⟨i,b,a1,a2,a3,a4⟩:=lW (y:=n) l q d.1 d.2.1 d.2.2.1 d.2.2.2.1 d.2.2.2.2.1 d.2.2.2.2.2 Q ⟨h,0,F⟩ e.length o (e.map i64) (by simp) L (λk r=>⟨vM k r,by obtain⟨m,_,rfl⟩:=YB.1 r;exact⟨m,A⟩⟩) O
 grind
theorem Js{t d l i o:E}{f:Xo}{g:XB}{L:Xe}{k:Xp Xw}{n m:E}{h:M}{O:M->Prop}
 (S:a.heap[t]?=C (Xn #[.string g] 9 (0,0)))(R:a.heap[d]?=C (Xn #[L] 61 (0,0)))(T:a.heap[l]?=C (Xn #[pt i 0] 95 (0,0)))(U:a.heap[i]?=C (Xn #[.map (C o)] 198 (0,0)))
 (q:(Instr.lookup 196 (.map (C o)) (.agg #[.bool f,.string g]) Xf).run TP (fI a f g).drew=.ok c (fI a f g).drew)
 (p:(Builtin.append_ #[61,61] 61 #[L,c]).run TP (fI a f g).drew=.ok (.slice k n m) h)
 (D:h.heap[d]?=C (Xn #[L] 61 (0,0)))(W:h.heap[l]?=C (Xn #[pt i 0] 95 (0,0)))(X:h.heap[i]?=C (Xn #[.map (C o)] 198 (0,0)))(H:h.heap[a.heap.size]?=C (Xn #[.bool f,.string g] 253 (0,0)))
 (b2:l≠d)(b3:i≠d)(Y:a.heap.size≠d)
 (hd:∃N,(Builtin.delete_ #[196,253] 0 #[.map (C o),.agg #[.bool f,.string g]]).run TP (h.setCell ⟨d,0,F⟩ (.slice k n m)).drew=.ok (.tuple #[]) N/\O N):
 Calls TP 180 #[.bool f,pt t 0,pt d 0,pt l 0] a λa2 b=>a2=Xs (.tuple #[])/\O b:=by
 obtain⟨N,a8,Q⟩:=hd;have b0:t<a.heap.size/\d<a.heap.size/\l<a.heap.size/\i<a.heap.size:=by grind
 obtain⟨c0,b5,b6,b7⟩:=b0;have c1:=aa S 0 A;have r:∀s,s<a.heap.size->(fI a f g).heap[s]?=a.heap[s]?:=by simp_all [XQ]
 have u:=aa ((r d b5).trans R) 0 A;have v:=aa ((r l b6).trans T) 0 A;have w:=aa ((r i b7).trans U) 0 A;have z:(fI a f g).heap[a.heap.size]?=C (Xn #[.bool f,.string g] 253 (0,0)):=Yn a _;have x:=aa z 0 A;have y:=aa z 1 A;have b9:=frozenAt D 0;have a3:(h.setCell ⟨d,0,F⟩ (.slice k n m)).cell? ⟨l,0,F⟩=C (pt i 0):=aa ((ai b2).trans W) 0 A;have a4:(h.setCell ⟨d,0,F⟩ (.slice k n m)).cell? ⟨i,0,F⟩=C (.map (C o)):=aa ((ai b3).trans X) 0 A;have a5:(h.setCell ⟨d,0,F⟩ (.slice k n m)).cell? ⟨a.heap.size,0,F⟩=C (.bool f):=aa ((ai Y).trans H) 0 A;have a6:(h.setCell ⟨d,0,F⟩ (.slice k n m)).cell? ⟨a.heap.size,1,F⟩=C (.string g):=aa ((ai Y).trans H) 1 A;have b8:=aa D 0 A;have a0:=Xl Q;clear S R T U D W X H Q r z;obtain⟨Z,b1⟩:∃Z,h.setCell ⟨d,0,F⟩ (.slice k n m)=Z:=by simp
 rw[b1]at a3 a4 a5 a6 a8;obtain⟨e,a7⟩:∃e,a.alloc (Obj.cells #[Xe.bool f,Value.string g] 253)=e:=by simp
 unfold fI at u v w x y q p;rw[a7]at u v w x y q p;go_enter Tryz.func180,Tryz.ntmps180
 go_wp2
 have a9:(Instr.lookup 196 (.map (C o)) (.agg #[.bool f,.string g]) Xf).run TP {heap:=e.heap,tape:=e.tape,drawn:=e.drawn+1,os:=e.os,output:=e.output}=.ok c {heap:=e.heap,tape:=e.tape,drawn:=e.drawn+1,os:=e.os,output:=e.output}:=q
 go_still_tail 7,(by kernel_rfl)
 change wpList _ _ _ _ _ e.drew
 refine wpList_append_run A _ _ 61 A rfl rfl p ?_;clear q a9 p u v w x y
 go_wp2
 go_still_tail 5,(by kernel_rfl)
 go_wp2
 go_end0
 exact⟨A,a0.out⟩
structure oQ(cd:Xo->B->Xg Xj)(e i:E)(g:Xe->Xp Xe)(l k m:E)(n:B)(d:Xe)(f:Xg Xj)(a:M):Prop where
 tab:dK cd e i g a
 hp:a.heap[l]?=C (Xn #[.string (bs n)] 9 (0,0))
 hl:a.heap[k]?=C (Xn #[d] 61 (0,0))
 ht:a.heap[m]?=C (Xn #[pt e 0] 95 (0,0))
 row:cr OT a 3 1 d f.length (f.map i64)
 free:∀h,d.ownBlock=C h->¬eF e i g h
def IN(cd:Xo->B->Xg Xj)(f d:E)(q:Xe->Xp Xe)(n g o:E)(e:B)(k:Xe)(m:Xg Xj)(i:Xo)(a:M)(p:Ending)(b:M):Prop:=p=Xs (.tuple #[])/\∃l h,oQ (eW cd i e []) f d h n g o e l (m++cd i e) b/\a.heap.size<=b.heap.size/\kU a k l/\(∀c,eF f d h c->eF f d q c)/\∀c,c<a.heap.size->c≠g->c≠d->k.ownBlock≠C c->b.heap[c]?=a.heap[c]?
theorem Pv{cd:Xo->B->Xg Xj}{D o:E}{p:Xe->Xp Xe}{w k t:E}{m:B}{y:Xe}{W:Xg Xj}(g:oQ cd D o p w k t m y W a)(e8:W.length<2^29)(l:Xo):
 Calls TP 180 #[.bool l,pt w 0,pt k 0,pt t 0] a (IN cd D o p w k t m y W l a):=by
 have n:=g.tab;have d9:=n.xU l m;have f0:=sJ d9 (n.nums l m);obtain⟨c,b4⟩:∃c,c=(p (spot l m)).getD mz:=by simp
 have b3:=n.lt (Xh A);have b1:=n.lt (Xi (Xh A));have d3:=(XN.1 g.hl).1;have a7:=(XN.1 g.ht).1;have d4:=(XN.1 g.hp).1;obtain⟨u,Y⟩:∃u,u=(fI a l (bs m)).drew:=by simp
 have U:∀f,f<a.heap.size->u.heap[f]?=a.heap[f]?:=λf x=>by rw[Y];exact XQ a _ f x
 have e9:u.heap.size=a.heap.size+1:=by simp_all
 have d5:u.heap[a.heap.size]?=C (Xn #[.bool l,.string (bs m)] 253 (0,0)):=by rw[Y];exact Yn a _
 have a9:=n.get (w':=u) (U o b1) l m;rw[<-b4]at a9;have a1:=n.row l m;rw[<-b4]at a1;obtain⟨f2,H,f4,c8,a4,a5⟩:=AL (a:=u) (g.row.stay λe i=>U e (g.row.lt e i)) (a1.stay λe i=>U e (a1.lt i)) (by omega) 61;obtain⟨v,z,c1,rfl⟩:=c8.slice
 have Z:∀e,y.ownBlock=C e->∃X,a.heap[e]?=C (Xn X 3 (0,0)):=λe i=>by obtain⟨X,h,_⟩:=g.row.blk e i;simp_all
 have R:∀f,f<a.heap.size->y.ownBlock≠C f->H.heap[f]?=a.heap[f]?:=λf x d8=>by rw[a4.block f (by omega) (λd=>d8 d.symm),U f x]
 have b6:y.ownBlock≠C k:=λd=>by obtain⟨a6,h⟩:=Z _ d;rw[g.hl]at h;cases h
 have b7:y.ownBlock≠C t:=λd=>by obtain⟨a6,h⟩:=Z _ d;rw[g.ht]at h;cases h
 have e1:y.ownBlock≠C w:=λd=>by obtain⟨a6,h⟩:=Z _ d;rw[g.hp]at h;cases h
 have b9:=λd=>g.free _ d (Xh A);have b8:=λd=>g.free _ d (Xi (Xh A));have q1:t≠k:=λd=>by have:=g.ht;rw[d,g.hl]at this;cases this
 have c6:D≠k:=λd=>by have:=n.tb;rw[d,g.hl]at this;cases this
 have e2:w≠k:=λd=>by have:=g.hp;rw[d,g.hl]at this;cases this
 obtain⟨d1,L,a0,c9⟩:=n.mp;have c7:o≠k:=λd=>by rw[d,g.hl]at a0;cases a0
 have e3:t≠o:=λd=>by have:=g.ht;simp_all
 have e4:w≠o:=λd=>by have:=g.hp;simp_all
 have e5:=n.ne;have b5:=(R k d3 b6).trans g.hl;have T:(H.setCell ⟨k,0,F⟩ (.slice v z c1)).drew.heap[o]?=C (.map d1 L):=(ai c7).trans ((R o b1 b8).trans a0);obtain⟨O,d6,d0⟩:=c9.del sw Gz T (Oq l m) 0 (g:=qZ p l m F) jr (λe6 a3=>pM a3)
 have b0:∀e,(Value.slice v z c1).ownBlock=C e->e≠k/\e≠o:=λe i=>by
  rcases a5 e i with h|h
  .exact⟨λd=>b6 (d▸h),λd=>b8 (d▸h)⟩
  omega
 have a8:∀f,f≠k->f≠o->(xW (H.setCell ⟨k,0,F⟩ (.slice v z c1)).drew o (.map O L)).heap[f]?=H.heap[f]?:=λf N S=>by rw[(abf (o':=.map O L) T).2 f S];exact ai N
 have d7:=(abf (o':=.map O L) T).1
 have e0:∀r s e,rowOf ((qZ p l m F (spot r s)).getD mz)=C e->rowOf ((p (spot r s)).getD mz)=C e/\¬(r=l/\s=m):=λr s e i=>by
  by_cases d:r=l/\s=m
  .rw[d.1,d.2,jr]at i;cases i
  simp_all [jq]
 have a2:∀f,eF D o (qZ p l m F) f->eF D o p f:=λf x=>by
  rcases x with h|h|⟨r,s,h⟩
  .exact Xh h
  .exact Xi (Xh h)
  exact Xi (Xi ⟨r,s,(e0 r s f h).1⟩)
 have Q:=λf N S q d2=>(a8 f S q).trans (R f N d2)
 have f1:(xW (H.setCell ⟨k,0,F⟩ (.slice v z c1)).drew o (.map O L)).heap.size=H.heap.size:=by simp
 have e7:=a4.size;refine Js g.hp g.hl g.ht n.tb (by rw[<-Y];exact a9) (by simp_all) b5 ((R t a7 b7).trans g.ht) ((R D b3 b9).trans n.tb) ?_ q1 c6 (by omega) ⟨_,d6,(.slice v z c1),qZ p l m F,⟨?_,(Q w d4 e2 e4 e1).trans g.hp,?_,(Q t a7 q1 e3 b7).trans g.ht,?_,?_⟩,?_,?_,a2,Q⟩
 .rw[a4.block _ (by omega) (λd=>by have:=g.row.lt _ d.symm;omega)];exact d5
 .refine n.put (v:=F) ((Q D b3 c6 e5 b9).trans n.tb) d7 d0 (OH _) (λf x N S q=>?_) (λe i=>by cases i) Xg.Pairwise.nil (λe6 a3=>by cases a3);refine Q f x (λd=>?_) N (λd=>g.free f d q);rcases q with q|q|⟨r,s,q⟩
  .omega
  .exact N q
  obtain⟨X,h,_⟩:=n.AJ q;simp_all
 .rw[(abf (o':=.map O L) T).2 k (YX c7)];show(H.setCell ⟨k,0,F⟩ (.slice v z c1)).heap[k]?=_;have:=aA (n:=0) (i:=.slice v z c1) b5;simp_all
 .rw[Yw];exact c8.stay λe i=>a8 e (b0 e i).1 (b0 e i).2
 .intro e i b2;rcases a5 e i with h|h
  .exact g.free e h (a2 e b2)
  have:=n.lt (a2 e b2);omega
 .omega
 intro e i;rcases a5 e i with h|h
 .exact Xh h
 omega
abbrev tf(a:M)(d:E)(y:XB):M:=((a.alloc (.cells #[pt d 0] 95)).alloc (.cells #[.string y] 9)).alloc (.cells #[Xm F 0 0] 61)
def pZ(h:E)(c:Xe->M->Prop)(a:M):Prop:=∃b e d,a.cell? ⟨h,0,F⟩=C (.slice b e d)/\Calls TP 62 #[.slice b e d] a λf l=>f=Xs (.tuple #[])/\l.cell? ⟨h,0,F⟩=C (.slice b e d)/\Calls TP 181 #[.slice b e d] l λf m=>∃g k i,f=Xs (.slice g k i)/\c (.slice g k i) m
abbrev DX(b:E)(e:Xo)(a:M)(c:M->Prop):Prop:=Calls TP 180 #[.bool e,pt (b+1) 0,pt (b+1+1) 0,pt b 0] a λd f=>d=Xs (.tuple #[])/\c f
def uh(c:Xe->M->Prop)(e:Ending)(f:M):Prop:=∃a d b,e=Xs (.slice a d b)/\c (.slice a d b) f
section
variable{d:E}{b:Xj}{y:XB}{c:Xe->M->Prop}{e f:M->Prop}
theorem Jt(w:(b !=4)=J)(x:(b==4)=Xf)(v:(b==2)=Xf)
 (h:DX a.heap.size Xf (tf a d y) e)(k:∀m,e m->pZ (a.heap.size+1+1) c m):
 Calls TP 150 #[pt d 0,Xd K b,.string y] a (uh c):=by
 have HC:=Xl h;have o:=Xl k;clear h k;go_enter Tryz.func150,Tryz.ntmps150
 go_wp2_with (first
  |(go_at_call 180;refine HC.out.mono ?_;rintro f r⟨rfl,g⟩;obtain⟨s,H,u,z,l⟩:=o.out r g;have p:=Xl l;clear l g)
  |(go_at_call 62;refine p.out.mono ?_;rintro f N⟨rfl,D,i⟩;have n:=Xl i;clear i)
  |(go_at_call 181;refine n.out.mono ?_;rintro f O⟨t,L,c3,rfl,q⟩))
 go_ret;exact⟨_,_,_,A,q⟩
theorem Ju(H:(b !=4)=J)(L:(b==4)=Xf)(D:(b==2)=J)
 (k:DX a.heap.size Xf (tf a d y) e)(l:∀h,e h->DX a.heap.size J h f)(n:∀h,f h->pZ (a.heap.size+1+1) c h):
 Calls TP 150 #[pt d 0,Xd K b,.string y] a (uh c):=by
 have HC:=Xl k;have q:=Xl l;have s:=Xl n;clear k n l;go_enter Tryz.func150,Tryz.ntmps150
 go_wp2_with (first
  |(go_at_call 180;refine(q.out _ t.out).mono ?_;rintro i p⟨rfl,g⟩;obtain⟨w,Q,z,N,o⟩:=s.out p g;have u:=Xl o;clear o g)
  |(go_at_call 180;refine HC.out.mono ?_;rintro i p⟨rfl,g⟩;have t:=Xl g;clear g)
  |(go_at_call 62;refine u.out.mono ?_;rintro i S⟨rfl,O,m⟩;have r:=Xl m;clear m)
  |(go_at_call 181;refine r.out.mono ?_;rintro i T⟨x,R,c3,rfl,v⟩))
 go_ret;exact⟨_,_,_,A,v⟩
theorem Jv(v:(b !=4)=Xf)(w:(b==4)=J)
 (h:DX a.heap.size J (tf a d y) e)(k:∀m,e m->pZ (a.heap.size+1+1) c m):
 Calls TP 150 #[pt d 0,Xd K b,.string y] a (uh c):=by
 have HC:=Xl h;have o:=Xl k;clear h k;go_enter Tryz.func150,Tryz.ntmps150
 go_wp2_with (first
  |(go_at_call 180;refine HC.out.mono ?_;rintro f r⟨rfl,g⟩;obtain⟨s,D,u,x,l⟩:=o.out r g;have p:=Xl l;clear l g)
  |(go_at_call 62;refine p.out.mono ?_;rintro f L⟨rfl,z,i⟩;have n:=Xl i;clear i)
  |(go_at_call 181;refine n.out.mono ?_;rintro f N⟨t,H,c3,rfl,q⟩))
 go_ret;exact⟨_,_,_,A,q⟩
end
theorem qk{b:Xk Xj}(hd:∀j e,j<=e->e<b.size->b[j]!<=b[e]!):∀a,a<=b.size->(∀c,c∈compactUpTo b a↔∃j,j<a/\b[j]! =c)/\rK (compactUpTo b a)
 |0,_=>⟨λc=>by simp[compactUpTo],by simp[compactUpTo,rK]⟩
 |a+1,r=>by
  obtain⟨h,f⟩:=qk hd a (by omega);rw[compactUpTo_succ];by_cases d:keeps b a=J
  .rw[XC d];refine⟨λc=>?_,Y_.2 ⟨f,by simp,λg i l p=>?_⟩⟩
   .grind
   obtain⟨j,k,rfl⟩:=(h g).1 i;have n:=hd j (a-1) (by omega) (by omega);have o:=hd (a-1) a (by omega) (by omega);unfold keeps at d
   grind
  rw[Xx d,YT];refine⟨λc=>?_,f⟩;constructor
  .grind
  rintro⟨j,k,m⟩;by_cases q:j<a
  .grind
  unfold keeps at d
  grind
theorem vn(c:Xg Xj):(∀a,a∈compact (c.mergeSort λa b=>decide (a<=b))↔a∈c)/\rK (compact (c.mergeSort λa b=>decide (a<=b))):=by
 have m:(c.mergeSort λa b=>decide (a<=b)).Pairwise (λe f=>decide (e<=f)=J):=by grind [List.pairwise_mergeSort]
 obtain⟨ms,l⟩:∃ms,ms=c.mergeSort λa b=>decide (a<=b):=by simp
 have k:∀a,a∈ms↔a∈c:=by simp_all
 rw[<-l]at m⊢
 unfold compact;have hd:∀j d,j<=d->d<ms.toArray.size->ms.toArray[j]!<=ms.toArray[d]!:=by grind [Nat.lt_or_eq_of_le,List.pairwise_iff_getElem]
 obtain⟨g,h⟩:=qk hd ms.length (by simp);refine⟨λa=>?_,h⟩;rw[g,<-k];constructor
 .grind
 intro n;obtain⟨j,i,rfl⟩:=Zg.1 n;exact⟨j,i,by grind⟩
def GP(h:E)(a:M)(f:Xe)(b:Xg Xj):Prop:=(b=[]/\∃g c,f=.slice g 0 c)\/∃d c e,f=Xm (C ⟨d,0,F⟩) b.length c/\h<=d/\a.heap[d]?=C (Xn e 3 (0,0))/\e.toList.take b.length=b.map i64
def lZ(cd:Xo->B->Xg Xj)(d:Xj)(c:B):Xo->B->Xg Xj:=λa b=>if kx d a=J/\b=c then[]else cd a b
def tR(cd:Xo->B->Xg Xj)(a:Xj)(c:B):Xg Xj:=(if kx a J then cd J c else[]).foldr dF (if kx a Xf then cd Xf c else[])
def Ba(cd:Xo->B->Xg Xj)(b d:E)(e:Xe->Xp Xe)(l:Xj)(c:B)(a:M)(m:Ending)(h:M):Prop:=∃f k i g,m=Xs (.slice f k i)/\dK (lZ cd l c) b d g h/\GP a.heap.size h (.slice f k i) (tR cd l c)/\aH (eF b d e) (eF b d g) a h/\∀f,eF b d g f->eF b d e f
section
variable{cd:Xo->B->Xg Xj}{b d:E}{e:Xe->Xp Xe}{f:M}{c:B}
theorem MH{a0 o a1:E}{H:Xe}{k n:Xg Xj}{Z:E}(i:oQ cd b d e a0 o a1 c H k a)(c8:k.length<2^30)(b2:∀g,H.ownBlock=C g->Z<=g)(a6:rK n)(O:∀m,m∈n↔m∈k):
 pZ o (λb5 r=>dK cd b d e r/\GP Z r b5 n/\a.heap.size<=r.heap.size/\∀f,f<a.heap.size->H.ownBlock≠C f->r.heap[f]?=a.heap[f]?) a:=by
 have b0:=(XN.1 i.hl).1;rcases i.row.2 with⟨rfl,b7⟩|⟨g,L,p,rfl,s,b8,b9,a3,N,c0⟩
 .have a7:n=[]:=by
   cases n with
   |nil=>rfl
   |cons m n=>have:=(O m).1 (by simp);simp_all
  refine⟨F,0,0,aa i.hl 0 A,(Tryz.slices_Sort_int_none F 0 a).mono λh r⟨y,X⟩=>⟨y,by rw[X];exact aa i.hl 0 A,(Tryz.slices_Compact_int_empty F 0 r).mono λa2 x⟨z,q⟩=>⟨F,0,0,z,?_⟩⟩⟩;rw[q,X];exact⟨i.tab,Xh ⟨a7,F,0,A⟩,XS _,λ_ _ _=>rfl⟩
 have AZ:=(XN.1 s).1;have b1:o≠g:=λh=>by rw[<-h,i.hl]at s;cases s
 rw[E.mul_one]at a3 N;have a4:=holds_of_blockI s N;obtain⟨ms,W⟩:∃ms,ms=k.mergeSort λm b6=>decide (m<=b6):=by simp
 have U:ms.length=k.length:=by simp_all
 obtain⟨c1,c2⟩:=vn k;rw[<-W]at c1 c2;have a8:=Il a6 c2 λm=>by rw[O,c1]
 refine⟨_,_,_,aa i.hl 0 A,(Tryz.slices_Sort_int g 0 L k a a4 AZ (by omega)).mono λh t⟨y,d0,d1,w⟩=>⟨y,?_,?_⟩⟩
 .have:t.heap[o]?=a.heap[o]?:=by
   rw[w];exact(aa4 _).block o b0 (λh=>b1 (YF h))
  exact aa (this.trans i.hl) 0 A
 rw[<-W]at w;have Q:t.heap[g]?=C (Xn (putCells (Xe.int K) 0 ms.toArray p) 3 (0,0)):=by rw[w];exact heap_sortedI _ s
 have b3:=take_putCellsI p ms (by omega);have a5:=holds_of_blockI Q b3;have D:a.grownBy t (C g):=by rw[w];exact aa4 _
 have R:=Tryz.slices_Compact_int g 0 L ms t a5 (by omega) (by omega);rw[U]at R;refine R.mono λa2 x⟨z,d2,q⟩=>⟨_,_,_,z,?_⟩;rw[<-U]at q;obtain⟨u,Y⟩:∃u,u=compact ms++List.replicate (ms.length-(compact ms).length) 0:=by simp
 rw[<-Y,<-grow_empty (putRow _ _ _ _ _)]at q;have c6:=compact_length_le ms;have c9:u.length=ms.length:=by rw[Y];simp;omega
 have a9:x.heap[g]?=C (Xn (putCells (Xe.int K) 0 u.toArray (putCells (Xe.int K) 0 ms.toArray p)) 3 (0,0)):=by rw[q];exact heap_sortedI _ Q
 have S:t.grownBy x (C g):=by rw[q];exact aa4 _
 have c7:(putCells (Xe.int K) 0 ms.toArray p).size=p.size:=by simp[putCells]
 have b4:=take_putCellsI (putCells (Xe.int K) 0 ms.toArray p) u (by omega)
 have T:∀f,f<a.heap.size->g≠f->x.heap[f]?=a.heap[f]?:=λf l v=>by rw[S.block f (XY l D.size) (λh=>v (YF h).symm),D.block f l (λh=>v (YF h).symm)]
 refine⟨i.tab.stay λf l=>T f (i.tab.lt l) (λh=>i.free g A (h▸l)),Xi ⟨g,_,_,by rw[a8],b2 g A,a9,?_⟩,XZ D.size S.size,λf l v=>T f l (λh=>v (by rw[h];rfl))⟩;have:=YU (List.take (compact ms).length) b4
 grind
theorem sQ{a:Xj}{b:Xj}:b∈tR cd a c↔(kx a J=J/\b∈cd J c)\/(kx a Xf=J/\b∈cd Xf c):=by simp[tR,mS]
theorem KL(f:dK cd b d e a)(g:Xj):rK (tR cd g c):=by
 refine nh ?_ _;split
 .exact f.xU _ _
 simp
theorem EZ(h:dK cd b d e a):oQ cd b d e (a.heap.size+1) (a.heap.size+1+1) a.heap.size c (Xm F 0 0) [] (tf a b (bs c)):=by
 have l:∀g,g<a.heap.size->(tf a b (bs c)).heap[g]?=a.heap[g]?:=by simp_all [qV]
 refine⟨h.stay λg i=>l g (h.lt i),?_,?_,?_,cr.nil _ _ _ _,λm k=>by cases k⟩
 .rw[XQ _ _ _ (by simp)];exact vY _ _ _
 .have:=vY (a.alloc (.cells #[pt b 0] 95)) (.cells #[.string (bs c)] 9) (.cells #[Xm F 0 0] 61);simpa using this
 grind [Below.heap_alloc,Nz]
theorem Sm(O:dK cd b d e a)(k:Xj)(c:B):Calls TP 150 #[pt b 0,Xd K k,.string (bs c)] a (Ba cd b d e k c a):=by
 have T:=EZ O (c:=c);have c7:(tf a b (bs c)).heap.size=a.heap.size+3:=by simp
 have b8:∀f,f<a.heap.size->(tf a b (bs c)).heap[f]?=a.heap[f]?:=by simp_all [qV]
 have L:=λn=>sJ (O.xU n c) (O.nums n c)
 have one:∀(x:Xo->B->Xg Xj)(t:Xe->Xp Xe)(D:Xe)(r:Xg Xj)(h:M)(n:Xo),oQ x b d t (a.heap.size+1) (a.heap.size+1+1) a.heap.size c D r h->r.length<2^29->(∀l,D.ownBlock=C l->a.heap.size<=l)->a.heap.size+3<=h.heap.size->(∀f,f<a.heap.size->f≠d->h.heap[f]?=a.heap[f]?)->(∀f,eF b d t f->eF b d e f)->
  DX a.heap.size n h λi=>∃q g,oQ (eW x n c []) b d g (a.heap.size+1) (a.heap.size+1+1) a.heap.size c q (r++x n c) i/\(∀l,q.ownBlock=C l->a.heap.size<=l)/\a.heap.size+3<=i.heap.size/\(∀f,f<a.heap.size->f≠d->i.heap[f]?=a.heap[f]?)/\(∀f,eF b d g f->eF b d e f):=λx t D r h n U X a0 b9 a6 S=>by
  refine(Pv U X n).mono λs i⟨H,q,g,o,m,p,v,w⟩=>⟨H,q,g,o,λl z=>?_,by omega,λf R a7=>?_,λf R=>S f (v f R)⟩
  .rcases p l z with u|u
   .exact a0 l u
   omega
  grind
 have last:∀(x:Xo->B->Xg Xj)(t:Xe->Xp Xe)(D:Xe)(r:Xg Xj)(h:M),oQ x b d t (a.heap.size+1) (a.heap.size+1+1) a.heap.size c D r h->r.length<2^30->(∀l,D.ownBlock=C l->a.heap.size<=l)->a.heap.size+3<=h.heap.size->(∀f,f<a.heap.size->f≠d->h.heap[f]?=a.heap[f]?)->(∀f,eF b d t f->eF b d e f)->x=lZ cd k c->(∀N,N∈tR cd k c↔N∈r)->
  pZ (a.heap.size+1+1) (λa2 i=>∃g,dK (lZ cd k c) b d g i/\GP a.heap.size i a2 (tR cd k c)/\aH (eF b d e) (eF b d g) a i/\∀f,eF b d g f->eF b d e f) h:=λx t D r h U X a0 b9 a6 S c8 a7=>by
  obtain⟨f,a1,W,b3,c0⟩:=MH U X a0 (KL O k) a7;refine⟨f,a1,W,b3,c0.mono λs a9⟨H,b4,b5⟩=>⟨H,b4,b5.mono λa5 c9⟨b0,c6,b1,b6,o,m,p,v⟩=>⟨b0,c6,b1,b6,t,by grind,m,⟨by omega,λQ Y b7=>?_,λQ Y=>Xh (S Q Y)⟩,S⟩⟩⟩;rw[v Q (by omega) (λs=>by grind)];exact a6 Q Y (λs=>b7 (Xi (Xh s)))
 have fin:∀s i,uh (λa2 i=>∃g,dK (lZ cd k c) b d g i/\GP a.heap.size i a2 (tR cd k c)/\aH (eF b d e) (eF b d g) a i/\∀f,eF b d g f->eF b d e f) s i->Ba cd b d e k c a s i:=λs i⟨f,a1,W,H,g,o,m,p⟩=>⟨f,a1,W,g,H,o,m,p⟩;have Z:∀f,f<a.heap.size->f≠d->(tf a b (bs c)).heap[f]?=a.heap[f]?:=λf R _=>b8 f R;by_cases v:k=4
 ·
  subst v;refine(Jv (by decide) (by decide) (one cd e _ [] _ J T (by decide) (λl z=>by cases z) (by omega) Z (λf u=>u)) λh⟨q,g,o,m,p,w,y⟩=>last _ g q _ h o (by have:=L J;simp;omega) m p w y ?_ (λN=>?_)).mono fin
  .funext n a8
   unfold eW lZ kx;cases n<;>simp
  simp[sQ,kx]
 have a3:(k !=4)=J:=by simp[v]
 have a4:(k==4)=Xf:=by simp[v]
 by_cases m:k=2
 .subst m;refine(Ju a3 a4 (by decide) (one cd e _ [] _ Xf T (by decide) (λl z=>by cases z) (by omega) Z (λf u=>u)) (λh⟨q,g,o,m,p,w,y⟩=>one _ g q _ h J o (by have:=L Xf;simp;omega) m p w y) λa9⟨q,g,o,m,p,w,y⟩=>last _ g q _ a9 o (by have:=L Xf;have:=L J;simp[eW];omega) m p w y ?_ (λN=>?_)).mono fin
  .funext n a8
   unfold eW lZ kx;cases n<;>simp
  simp[sQ,kx,eW,or_comm]
 have a5:(k==2)=Xf:=by simp[m]
 refine(Jt a3 a4 a5 (one cd e _ [] _ Xf T (by decide) (λl z=>by cases z) (by omega) Z (λf u=>u)) λh⟨q,g,o,b2,p,w,y⟩=>last _ g q _ h o (by have:=L Xf;simp;omega) b2 p w y ?_ (λN=>?_)).mono fin
 .funext n a8
  unfold eW lZ kx;cases n<;>simp[v,m]
 grind [sQ,kx]
end
variable{c:M}{k:E}{n:Xe}
structure Lv(a:M)(T b:E)(f e i:XB)(r g t:Xj):Prop where
 ne:T≠b
 p0:a.cell? ⟨b,0,F⟩=C (Xd K 5)
 p1:a.cell? ⟨b,1,F⟩=C (.string f)
 p2:a.cell? ⟨b,2,F⟩=C (.string e)
 n1:a.cell? ⟨T,1,F⟩=C (.string i)
 n3:a.cell? ⟨T,3,F⟩=C (Xd K r)
 n4:a.cell? ⟨T,4,F⟩=C (Xd K g)
 n7:a.cell? ⟨T,7,F⟩=C (Xd K t)
 f1:a.frozen? ⟨T,1,F⟩=Xf
 f3:a.frozen? ⟨T,3,F⟩=Xf
 f4:a.frozen? ⟨T,4,F⟩=Xf
 f7:a.frozen? ⟨T,7,F⟩=Xf
abbrev setW(a:M)(T:E)(e:XB)(aL aE:Xj):M:=(((a.setCell ⟨T,1,F⟩ (.string e)).setCell ⟨T,3,F⟩ (Xd K aL)).setCell ⟨T,4,F⟩ (Xd K (aE+1))).setCell ⟨T,7,F⟩ (Xd K e.size)
theorem uk{a:E}(b:c.cell? ⟨k,a,F⟩=C n):k<c.heap.size:=by grind [World.cell?]
theorem QY{a:E}(b:k≠d):(c.setCell ⟨k,a,F⟩ n).cell? ⟨d,m,F⟩=c.cell? ⟨d,m,F⟩:=by simp_all [M.cell?,ai,YX]
def QR(f e:XB)(aL g:Xj)(T:E)(h:M->M->Prop)(c:M)(i:Ending)(k:M):Prop:=∃a b,c.heap.size<=a.heap.size/\(∀d,d<c.heap.size->a.heap[d]?=c.heap[d]?)/\h a b/\i=Xs (.tuple #[.string f,Xm (C ⟨b.heap.size,0,F⟩) 1 1,.nilIface])/\k=(setW b T e aL g).alloc (.cells #[Xd K 3,.string f] 269)
section
variable{q aE l ak aL g p:Xj}{f e:XB}{o:E}{h:M->M->Prop}
theorem Mb(c9:¬16<(e.size:Xj))(Q:eR c O (gM 5 f e aE l) f J o (pt T 0))(z:Er c T s g p)(u:(aE !=-1)=Xf\/(aE !=-1)=J/\(aE !=g)=Xf)(d0:0<=g/\g<2^62)
 (D:∀a:M,(∀d,d<c.heap.size->a.heap[d]?=c.heap[d]?)->c.heap.size<=a.heap.size->Calls TP 157 #[pt O 0,pt T 0] a λq R=>q=Xs (.tuple #[])/\(c.heap.size<a.heap.size->a.heap[c.heap.size]?=C (Xn (gM 5 f e aE l) 28 (0,0))->∃U W X,Lv R T c.heap.size f e U W g X)/\h a R):
 Calls TP 113 #[pt O 0,.agg (gM 5 f e aE l),Xd K ak,Xd K aL] c (QR f e aL g T h c):=by
 rcases u with u|⟨u,d2⟩
 all_goals
  have v:=Xl Q;have b:=Xl z;have Y:=Xl D;unfold eR at v;clear Q z D;go_enter Tryz.func113,Tryz.ntmps113
  go_wp2_with (first
   |(go_at_call 95;refine v.out.mono ?_;rintro q S⟨d,c7,rfl,i,L⟩;have k:=cS i;have b8:=aa k 0 A;have b9:=aa k 1 A;have c0:=aa k 2 A;have c6:=aa k 3 A;have c4:=bW (bI i T b.out.lt) b.out.aE;have a1:=bW (bI i T b.out.lt) b.out.mp;have b4:=b.out.lens i;have a0:=Xl (L A);have n:=Xl i;have w:=Xl k;clear i k L)
   |(go_at_call 96;refine a0.out.mono ?_;rintro q a⟨rfl,rfl⟩))
  go_quiet (fail)
  have b3:=Xl (Y.out (S.drewN nq) (λd t=>bI n.out d t) (bd n.out).size);have d3:T≠c.heap.size:=by have:=b.out.lt;omega
  have b6:=(XN.1 w.out).1
  go_upto_region 24 with(go_at_call 157;refine b3.out.mono ?_;rintro q m⟨rfl,N,H⟩;obtain⟨U,W,X,b2⟩:=N b6 w.out;obtain⟨c8,a2,y,a5,a6,a7,a8,a9,b0,b1,a3,a4⟩:=b2;have Z:=Xl H;clear N H c4 a1 b4 b8 b9 c0 c6)
  go_upto_region 25 with fail
  go_upto_region 26 with fail
  go_upto_region 27 with fail
  go_upto_region 28 with fail
  have b5:=uk y
  have b7:((setW m T e aL g).alloc (.cells #[Xd K 3,.string f] 269)).cell? ⟨c.heap.size,1,F⟩=C (.string f):=by simp_all [Yx,QY]
  have d1:(setW m T e aL g).heap.size=m.heap.size:=by simp
  clear a2 a5 a6 a7 a8 a9 b0 b1 a3 a4
  go_upto_region 29 with fail
  obtain⟨x,r⟩:∃x,((setW m T e aL g).alloc (.cells #[Xd K 3,.string f] 269))=x:=⟨_,A⟩;rw[r]at b7;clear y b5;unfold setW at r
  go_wp2
  go_ret3;exact⟨S.drewN nq,m,(bd n.out).size,λd t=>bI n.out d t,Z.out,A,r.symm⟩
end
variable{d:Tree}{a:Path}
section
variable{b f:Path->E}{g:Xg Un}
theorem RU(t:bw d b f c)(m:WF d)(n:c.cell? ⟨O,0,F⟩=C (pt (b []) 0))(k:Xk Xe)(i:XB){s:Xj}(p:c.cell? ⟨1,0,F⟩=C (Xd K s))(z:i.size<2^31)(r:Wt.split i.data.toList=C a):
 eR c O k i J a.length (gU (if(Wt.find d a).isSome then C (b a)else F)):=by
 have v:=uk p;have H:=uk n;obtain⟨S,x,_⟩:=m.root;refine(nT i s (c.alloc (.cells k 28)) z (by rw[Yx _ _ _ v];exact p)).mono ?_;intro N U l;unfold cE at l;rw[r]at l;obtain⟨h,T,rfl,q⟩:=l;have D:(c.alloc (.cells k 28)).heap.size=c.heap.size+1:=by simp
 rw[D]at h;have y:=q.row;have o:=
  zP (t.old λu w=>by rw[h.block u (by omega)];exact XQ _ _ _ w).VV (by
   rw[h.cell (p:=⟨O,0,F⟩) (by show O<_;omega),Yx _ _ _ H]
   exact n) (by rw[x];rfl) m.up y (by have:=sM r;omega)
 rcases q with⟨rfl,rfl⟩|⟨L,rfl,R,_,Q⟩
 .exact⟨F,0,A,h,λ_=>o⟩
 exact⟨_,_,A,h,λ_=>o⟩
theorem Pg(b:Xk Xe)(a:XB){h:Xj}(g:c.cell? ⟨1,0,F⟩=C (Xd K h))(m:a.size<2^31)(l:Wt.split a.data.toList=F)(i:Xe):eR c O b a Xf 0 i:=by
 have k:=uk g;refine(nT a h (c.alloc (.cells b 28)) m (by rw[Yx _ _ _ k];exact g)).mono ?_;intro e o d;unfold cE at d;rw[l]at d;obtain⟨f,rfl⟩:=d;have n:(c.alloc (.cells b 28)).heap.size=c.heap.size+1:=by simp
 rw[n]at f;exact⟨F,0,A,f,λe=>by cases e⟩
theorem TW(i:bw d b f c)(k:WF d){e:Nd}(g:Wt.find d a=C e):Er c (b a) (f a) e.stat.aE e.stat.kids:=by
 have h:=i.nd a e g;obtain⟨o,n,l,m⟩:=i.kd a e g;refine⟨(XN.1 h).1,aa h 4 A,aa h 11 A,λr p=>?_⟩;have q:r.heap[f a]?=C (.map o n):=by rw[p _ (XN.1 l).1];exact l
 have:=Gh q 3;rw[sC m k,<-k.kids a e g]at this;exact this
theorem Qk(b:a≠[]):∃d c,a=d++[c]:=⟨a.dropLast,a.getLast b,(Z_ b).symm⟩
theorem LS(h:pW d b f O g c){k:E}{p:Xk Xe}(a:c.heap[k]?=C (Xn p 28 (0,0))):¬pJ d b f O k/\¬wH c O k:=by
 obtain⟨H,D,n,s,x⟩:=h.top;refine⟨?_,?_⟩
 .rintro(e|⟨o,m,e|e⟩)
  .rw[e,n]at a;cases a
  .obtain⟨t,i⟩:=XR.1 m;rw[e,h.lg.nd _ _ i]at a;cases a
  obtain⟨t,i⟩:=XR.1 m;obtain⟨w,v,r,_⟩:=h.lg.kd _ _ i;rw[e,r]at a;cases a
 rintro⟨y,z,L,l,q⟩;rw[n]at l;cases l;obtain⟨u,o,_⟩:=s.blk _ q;rw[o]at a;cases a
theorem UK(W:pW d b f O g c)(a6:WF d){n:Nd}(Q:Wt.find d a=C n)(e9:g.length<2^18){m:Wt.Op}(c8:m.kind=5)(aL:Xj):
 Calls TP 157 #[pt O 0,pt (b a) 0] c λh e=>h=Xs (.tuple #[])/\(∀L,c.heap[L]?=C (Xn (ub m) 28 (0,0))->∃e1 e2 e3,Lv e (b a) L (bs m.path) (bs m.data) e1 e2 n.stat.aE e3)/\
  ∃d8,pW (Wt.put d a (jM n m aL)) b f O (g++[d8]) (setW e (b a) (bs m.data) aL n.stat.aE)/\ye O d b f (Wt.put d a (jM n m aL)) b f c (setW e (b a) (bs m.data) aL n.stat.aE):=by
 obtain⟨U,d9,u,z,b1⟩:=W.top;have e8:=b1.len;have x:=W.lg;have q:=x.nd a n Q;have a1:(Wt.find d a).isSome=J:=by rw[Q];rfl
 have d1:=x.lt a1;refine(AU u z (by omega) q).mono ?_;rintro h a5⟨b8,e7,Y,e0,b5,s,t,X,b7⟩;have a2:∀k,U.ownBlock=C k->wH c O k:=λk l=>⟨_,_,_,u,l⟩;have b4:b a≠O:=λh=>by rw[h,u]at q;cases q
 have d7:U.ownBlock≠C (b a):=λh=>by obtain⟨r,i,_⟩:=z.blk _ h;rw[q]at i;cases i
 have o:=(Y _ d1.1 b4 d7).trans q;obtain⟨w,H⟩:∃w,w=setW a5 (b a) (bs m.data) aL n.stat.aE:=⟨_,A⟩
 have T:∀k,k≠b a->w.heap[k]?=a5.heap[k]?:=λk l=>by rw[H,setW,ai l,ai l,ai l,ai l]
 have f2:w.heap.size=a5.heap.size:=by rw[H];simp only[aS]
 have d2:w.heap[b a]?=C (Xn (cU a (jM n m aL) (b a.dropLast) (f a)) 192 (0,0)):=by rw[H];have:=aA (n:=7) (i:=Xd K (bs m.data).size) (aA (n:=4) (i:=Xd K (n.stat.aE+1)) (aA (n:=3) (i:=Xd K aL) (aA (n:=1) (i:=.string (bs m.data)) o)));rw[setW,this];simp[cU,jM,cR]
 have a9:∀i,Wt.find (Wt.put d a (jM n m aL)) i=if i=a then C (jM n m aL)else Wt.find d i:=λi=>cD a6.ord
 have c7:∀i,(Wt.find (Wt.put d a (jM n m aL)) i).isSome=(Wt.find d i).isSome:=λi=>by
  rw[a9];split
  .rename_i h;rw[h,Q];rfl
  rfl
 have d4:∀k,pJ (Wt.put d a (jM n m aL)) b f O k->pJ d b f O k:=λk p=>by
  rcases p with p|⟨i,y,p⟩
  .exact Xh p
  exact Xi ⟨i,by rw[<-c7 i];exact y,p⟩
 have N:=λk l s t X=>(T k t).trans (Y k l s X)
 have d5:∀i,(Wt.find d i).isSome=J->U.ownBlock≠C (b i)/\U.ownBlock≠C (f i)/\b i≠O/\f i≠O:=λi y=>by
  obtain⟨f4,b2⟩:=XR.1 y;obtain⟨e6,e5,Z,_⟩:=x.kd _ _ b2;have a3:=x.nd _ _ b2;refine⟨λh=>?_,λh=>?_,λh=>?_,λh=>?_⟩
  .obtain⟨r,i,_⟩:=z.blk _ h;rw[a3]at i;cases i
  .obtain⟨r,i,_⟩:=z.blk _ h;rw[Z]at i;cases i
  .rw[h,u]at a3;cases a3
  rw[h,u]at Z;cases Z
 have d0:=x.upd Q a9 d2 λk l s⟨i,y,t⟩=>by
  have S:=d5 i y;rcases t with rfl|rfl
  .exact N _ l S.2.2.1 s S.1
  exact N _ l S.2.2.2 s S.2.1
 have a8:=(T O (YX b4)).trans s;refine⟨b8,λL R=>?_,.head (b a) (Uo a n),?_,?_⟩
 .obtain⟨b9,c0⟩:=LS W R;have a0:=(Y L (XN.1 R).1 (λh=>b9 (Xh h)) (λh=>c0 (a2 _ h))).trans R;have d3:b a≠L:=λh=>by rw[h,R]at q;cases q
  refine⟨_,_,_,⟨d3,aa a0 0 ?_,aa a0 1 A,aa a0 2 A,aa o 1 A,aa o 3 A,aa o 4 A,aa o 7 A,frozenAt o 1,frozenAt o 3,frozenAt o 4,frozenAt o 7⟩⟩;show C (Xe.int K m.kind)=_;rw[c8]
 .rw[<-H];refine⟨d0,e0,d9++[b5],?_,?_,?_⟩
  .rw[dc a6.ord a1];exact a8
  .rw[Yw];refine t.stay λb3 c9=>T b3 λh=>?_;obtain⟨r,i,_⟩:=t.blk b3 c9;rw[h,o]at i;cases i
  have d6:∀(k:E)(r:Xk Xe)(v:Xq),c.heap[k]?=C (Obj.cells r v (0,0))->v=190\/v=187\/v=94->w.heap[k]?=c.heap[k]?:=λk r v l D=>by
   refine N k (XN.1 l).1 (λh=>?_) (λh=>?_) (λh=>?_)
   .rw[h,u]at l;cases l;revert D;decide
   .rw[h,q]at l;cases l;revert D;decide
   obtain⟨e4,i,_⟩:=z.blk _ h;rw[i]at l;cases l;revert D;decide
  refine(b1.stay d6).app ⟨b7.stay λk r v l D=>T k λh=>?_,trivial⟩;rw[h,o]at l;cases l;revert D;decide
 rw[<-H];refine⟨by omega,λk l a7 b6=>?_,λk l=>Xh (d4 k l),λk⟨f0,f1,f3,b0,c6⟩=>?_⟩
 .exact N k l (λh=>a7 (Xh h)) (λh=>a7 (Xi ⟨a,a1,Xh h⟩)) (λh=>b6 (a2 k h))
 rw[a8]at b0;cases b0;rcases X k c6 with p|p
 .exact Xh (a2 k p)
 exact Xi p
theorem Mf(r:pW d b f O g c)(L:WF d)(a5:TD d){h:Wt.Op}(b8:qc h){ak aL:Xj}{e3:Xj}(a7:c.cell? ⟨1,0,F⟩=C (Xd K e3))(e1:uQ c)(d0:4<c.heap.size)(b0:g.length<2^18):
 Calls TP 113 #[pt O 0,.agg (ub h),Xd K ak,Xd K aL] c (gN d b f O g c (Wt.change d h ak aL)):=by
 by_cases a1:h.kind=3
 .have:=xx r L a5 b8 (ak:=ak) (aL:=aL) a7 e1 d0 b0 a1;unfold Wt.change;rw[XC a1];exact this
 obtain⟨f3,f2,a8,d8,e8⟩:=r.top;have c7:=aa a8 0 A;have b9:(bs h.path).size<2^31:=by rw[cR];have:=b8.path;omega
 have d7:(bs h.path).data.toList=h.path:=A;have T:=fH a1;unfold Wt.change;rw[Xx a1];cases c6:Wt.split h.path with
 |none=>exact Mc T (Pg _ _ a7 b9 (by exact c6) .nilIface)
 |some a=>
  simp only;have P:=RU (O:=O) r.lg L c7 (ub h) (bs h.path) a7 b9 (by rw[d7];exact c6);by_cases Z:h.kind=4/\a=[]
  .obtain⟨d1,rfl⟩:=Z;unfold ub at P⊢
   rw[d1]at P⊢
   exact Pj P
  rw[Xx Z];by_cases a4:h.kind=5/\16<h.data.length
  .rw[XC a4];obtain⟨d2,Y⟩:=a4;unfold ub at P⊢
   rw[d2]at P⊢
   exact Pf P (by rw[cR];omega)
  rw[Xx a4]
  have a0:h.kind=4->((a.length:Xj)==0)=Xf:=λw=>fH (by
   have:=λi=>Z ⟨w,i⟩;have:=y_.2 this
   omega)
  have Y:h.kind=5->¬16<((bs h.data).size:Xj):=λw=>by rw[cR];omega
  cases z:Wt.find d a with
  |none=>
   rw[z]at P;by_cases o:h.kind=4
   .have:=a0 o;unfold ub at P⊢
    rw[o]at P⊢
    exact LY this P
   by_cases q:h.kind=5
   .have:=Y q;unfold ub at P⊢
    rw[q]at P⊢
    exact LZ this P
   exact Ma T (fH o) (fH q) P
  |some m=>
   rw[z]at P;simp only;have l:eR c O (ub h) (bs h.path) J a.length (pt (b a) 0):=P;have p:=TW r.lg L z;have d6:(Wt.find d a).isSome=J:=by rw[z];rfl
   by_cases U:h.aE≠-1/\h.aE≠m.stat.aE
   .rw[XC U];have n:=uj U.1;have u:=uj U.2;by_cases o:h.kind=4
    .have:=a0 o;unfold ub at l⊢
     rw[o]at l⊢
     exact Pk this l p.lt p.aE n u
    by_cases q:h.kind=5
    .have:=Y q;unfold ub at l⊢
     rw[q]at l⊢
     exact Pm this l p.lt p.aE n u
    exact Pn T (fH o) (fH q) l p.lt p.aE n u
   rw[Xx U]
   have a3:(h.aE !=-1)=Xf\/((h.aE !=-1)=J/\(h.aE !=m.stat.aE)=Xf):=by
    by_cases i:h.aE=-1
    .exact Xh (zy i)
    exact Xi ⟨uj i,zy (Classical.byContradiction λw=>U ⟨i,w⟩)⟩
   by_cases a2:h.kind=4/\0<m.stat.kids
   .rw[XC a2];obtain⟨o,W⟩:=a2;have:=a0 o;unfold ub at l⊢
    rw[o]at l⊢
    rcases a3 with n|⟨n,u⟩
    .exact GW this l p (Xh n) W
    exact GW this l p (Xi ⟨n,u⟩) W
   rw[Xx a2];by_cases o:h.kind=4
   ·
    have W:=λw=>a2 ⟨o,w⟩;have e2:m.stat.kids=0:=by have:=L.kids a m z;omega
    obtain⟨s,S,rfl⟩:=Qk λi=>Z ⟨o,i⟩;obtain⟨b2,a9⟩:=XR.1 (L.up (s++[S]) (by simp) d6);rw[Xg.dropLast_concat]at a9
    have N:∀k:M,(∀t,t<c.heap.size->k.heap[t]?=c.heap[t]?)->c.heap.size<k.heap.size->Calls TP 153 #[pt O 0,pt (b (s++[S])) 0] k λi e=>∃v,i=Xs (Xm (C ⟨v,0,F⟩) 2 2)/\k.heap.size<=v/\v<e.heap.size/\k.heap.size<=e.heap.size/\e.heap[c.heap.size]?=k.heap[c.heap.size]?/\uF d b f O g s S b2 k (Xs (Xm (C ⟨v,0,F⟩) 2 2)) e:=λk H R=>by
     refine(Sf (r.old H) L z a9 e2 b0 (a5 s b2 a9).1).mono ?_;intro i e x;obtain⟨v,rfl,y,a6⟩:=x.lz;refine⟨v,A,y,(XN.1 a6).1,x.op.size,?_,x⟩;refine x.op.kept _ R (λw=>?_) (λw=>?_)
     .rcases w with i|⟨e9,c0,i|i⟩
      .have:=(XN.1 a8).1;omega
      .have:=(r.lg.lt c0).1;omega
      have:=(r.lg.lt c0).2;omega
     obtain⟨f0,f1,f4,b5,d5⟩:=(Dy r H).1 w;rw[a8]at b5;cases b5;have:=d8.lt _ d5;omega
    have D:∀i e,QQ (bs h.path) (λk v e=>uF d b f O g s S b2 k (Xs (Xm (C ⟨v,0,F⟩) 2 2)) e) c i e->gN d b f O g c (.yes (Wt.drop d (s++[S])) h.path (kq (s++[S]))) i e:=λi e⟨v,k,R,H,Q,x⟩=>by obtain⟨e7,d4,y,a6⟩:=x.lz;cases d4;refine⟨b,f,_,_,Q,x.tree,by simp,(ye.same r R H).trans x.op,Xi ⟨v,A,by simp[kq],by omega,?_⟩⟩;rw[a6];simp[ib,kq]
    have:=a0 o;unfold ub at l⊢
    rw[o]at l⊢
    rcases a3 with n|⟨n,u⟩
    .exact(LX this l p (Xh n) W N).mono D
    exact(LX this l p (Xi ⟨n,u⟩) W N).mono D
   rw[Xx o];by_cases q:h.kind=5
   .have N:∀k:M,(∀t,t<c.heap.size->k.heap[t]?=c.heap[t]?)->c.heap.size<=k.heap.size->Calls TP 157 #[pt O 0,pt (b a) 0] k λi e=>i=Xs (.tuple #[])/\(c.heap.size<k.heap.size->k.heap[c.heap.size]?=C (Xn (ub h) 28 (0,0))->∃e4 e5 e6,Lv e (b a) c.heap.size (bs h.path) (bs h.data) e4 e5 m.stat.aE e6)/\∃s,pW (Wt.put d a (jM m h aL)) b f O (g++[s]) (setW e (b a) (bs h.data) aL m.stat.aE)/\ye O d b f (Wt.put d a (jM m h aL)) b f k (setW e (b a) (bs h.data) aL m.stat.aE):=λk H R=>
     (UK (r.old H) L z b0 q aL).mono λi e⟨Q,c8,c9⟩=>⟨Q,λ_ y=>c8 _ y,c9⟩
    have D:∀i e,QR (bs h.path) (bs h.data) aL m.stat.aE (b a) (λk e=>∃s,pW (Wt.put d a (jM m h aL)) b f O (g++[s]) (setW e (b a) (bs h.data) aL m.stat.aE)/\ye O d b f (Wt.put d a (jM m h aL)) b f k (setW e (b a) (bs h.data) aL m.stat.aE)) c i e->gN d b f O g c (.yes (Wt.put d a (jM m h aL)) h.path [(3,h.path)]) i e:=λi e⟨k,X,R,H,⟨s,b4,b3⟩,Q,b1⟩=>by
     have d9:(setW X (b a) (bs h.data) aL m.stat.aE).heap.size=X.heap.size:=by simp only[aS]
     have b7:∀t,t<(setW X (b a) (bs h.data) aL m.stat.aE).heap.size->e.heap[t]?=(setW X (b a) (bs h.data) aL m.stat.aE).heap[t]?:=λt d3=>by rw[b1];exact XQ _ _ _ d3
     have e0:(setW X (b a) (bs h.data) aL m.stat.aE).heap.size<=e.heap.size:=by rw[b1];simp
     refine⟨b,f,[s],_,Q,b4.old b7,by simp,((ye.same r R H).trans b3).trans (ye.same b4 e0 b7),Xi ⟨_,A,by simp,?_,?_⟩⟩
     .have:=b3.size;omega
     rw[b1,<-d9];exact YN _ _
    have b6:=(a5 a m z).2;have:=Y q;unfold ub at l N⊢
    rw[q]at l N⊢
    rcases a3 with n|⟨n,u⟩
    .exact(Mb this l p (Xh n) ⟨b6.1,by omega⟩ N).mono D
    exact(Mb this l p (Xi ⟨n,u⟩) ⟨b6.1,by omega⟩ N).mono D
   rw[Xx q]
   have D:∀i e,Le (bs h.path) c i e->gN d b f O g c (.yes d h.path []) i e:=λi e⟨Q,y⟩=>⟨b,f,[],_,Q,by rw[YT];exact r.old y.block,by simp,ye.same r y.size y.block,Xh ⟨A,A⟩⟩
   rcases a3 with n|⟨n,u⟩
   .exact(GX T (fH o) (fH q) l p (Xh n)).mono D
   exact(GX T (fH o) (fH q) l p (Xi ⟨n,u⟩)).mono D
end
variable{a:M}{u:E}
abbrev EJ(f d:Xj)(O g b:E)(now aL kR:Xj)(e c:Xe):Xk Xe:=#[i64 f,i64 d,pt O 0,pt g 0,.map (C b),i64 now,i64 aL,i64 kR,e,c]
section
variable{g b:E}{f d now aL kR id h:Xj}{e c:Xe}
theorem JK(xo:a.heap[u]?=C (Xn (EJ f d O g b now aL kR e c) 98 (0,0)))(m:(Instr.lookup 96 (.map (C b)) (Xd K id) J).run TP a=.ok (.tuple #[Xd K h,.bool J]) a)
 {i:M}(n:(Instr.mapUpdate 96 (.map (C b)) (Xd K id) (Xd K now)).run TP a.drew=.ok () i):
 Calls TP 64 #[pt u 0,Xd K id] a λk l=>k=Xs (.bool J)/\l=i:=by
 have c4:=aa xo 4 A;have c5:=aa xo 5 A;go_enter Tryz.func64,Tryz.ntmps64
 go_wp2
 go_still_tail 9,(by kernel_rfl)
 go_wp2
 go_ret;simp
theorem Nf(xo:a.heap[u]?=C (Xn (EJ f d O g b now aL kR e c) 98 (0,0)))(l:(Instr.lookup 96 (.map (C b)) (Xd K id) J).run TP a=.ok (.tuple #[Xd K h,.bool Xf]) a):
 Calls TP 64 #[pt u 0,Xd K id] a λi k=>i=Xs (.bool Xf)/\k=a:=by
 have c4:=aa xo 4 A;go_enter Tryz.func64,Tryz.ntmps64
 go_wp2
 go_ret;simp
theorem EU(a:M):Calls TP 104 #[.nilIface] a λb c=>b=Xs (Xd K 0)/\c=a:=by
 go_enter Tryz.func104,Tryz.ntmps104
 go_wp2
 go_ret;simp
theorem LL(b:Xj)(a:M):(Instr.typeAssert (.iface 32 (Xd K b)) 65 32 J).run TP a=.ok (.tuple #[Xd K b,.bool J]) a:=by rfl
theorem EV(a:M)(b:Xj):Calls TP 104 #[.iface 32 (Xd K b)] a λc d=>c=Xs (Xd K b)/\d=a:=by
 have e:=LL b a;go_enter Tryz.func104,Tryz.ntmps104
 go_wp2
 go_ret;simp
end
variable{b:Xq}{U:Xe}{R:E}
abbrev oV(d f g h:Xj)(x r:XB)(t:Xo)(i k l m o p q:Xj)(a b:Xe):Xk Xe:=#[i64 d,i64 f,i64 g,i64 h,.string x,.string r,.bool t,i64 i,i64 k,i64 l,i64 m,i64 o,i64 p,i64 q,a,b]
theorem UI:∃a c,TP.underlying 43=C (.slice 38)/\(TP.info? 38=C a/\a.zero=C c/\a.size=16/\a.bytes<=1000/\c.cells.size=16/\0<16)/\∀d∈c.cells.toList,NB d:=by refine⟨_,_,A,⟨A,A,A,by decide,A,by decide⟩,?_⟩;intro d e s b;subst b;have:Xe.int .u8 s∈(oV 0 0 0 0 ⟨#[]⟩ ⟨#[]⟩ Xf 0 0 0 0 0 0 0 (Xm F 0 0) (Xm F 0 0)).toList:=e;simp at this
theorem xX{O:Xe->Prop}{size:E}{S:Xg Xe}{c:Oper}{d:Xu}{p:Xu->M->Prop}{r:Prop}(a4:c.guard=F)(q l:XJ)(n:Xq)
 (L:c.op=.call {callee:=.builtin .append,args:=#[q,l],argTypes:=#[n,n]})(W:d.eval q=U)(t:cr O a b size U R S){k:TypeInfo}{o:Xe}(X:TP.underlying n=C (.slice b))(e:TP.info? b=C k/\k.zero=C o/\k.size=size/\k.bytes<=1000/\o.cells.size=size/\0<size)(a0:∀l∈o.cells.toList,O l)
 {m:Xw}(Z:d.eval l=Xm (C m) s T)(f:Xg Xe)(y:f.length=s*size)(H:∀j g,f[j]?=C g->a.cell? (m.add j)=C g)(u:∀g∈f,g.oneCell'=J/\O g)(z:R+s<2^30)
 (next:∀h i,cr O i b size h (R+s) (S++f)->a.grownBy i U.ownBlock->kU a U h->p (d.put c.dst h) i):if Region.wanted c (yielded D d.tmps)=J then Oper.wp TP c d a p N else r:=by
 have Y:Region.wanted c (yielded D d.tmps)=J:=by grind [Region.wanted]
 rw[XC Y];obtain⟨h,i,Q,v,w,x⟩:=lW (y:=c.type) t X e.1 e.2.1 e.2.2.1 e.2.2.2.1 e.2.2.2.2.1 e.2.2.2.2.2 a0 m s T f y H u z;unfold Oper.wp execOp;simp only[L,resolve,invoke,builtin,Zp,aaN,q_,Zb,YG,Zl,W,Z,Q];exact next h i v w x
theorem JV(b:M)(V:Xk Xe)(c:Xq):∀(j:E) a,V.toList[j]?=C a->(b.alloc (.cells V c)).cell? ((⟨b.heap.size,0,F⟩:Xw).add j)=C a:=λj a d=>by grind [qe,heap_alloc_new,World.cell?]
theorem Rl{d f g h:Xj}{x r:XB}{t:Xo}{i k l m o p q:Xj}{H L:Xp Xw}{y c1 z c2:E}:∀a∈(oV d f g h x r t i k l m o p q (.slice H y c1) (.slice L z c2)).toList,a.oneCell'=J/\NB a:=by intro a c;simp only[oV,XV,Yd,YS]at c;rcases c with rfl|rfl|rfl|rfl|rfl|rfl|rfl|rfl|rfl|rfl|rfl|rfl|rfl|rfl|rfl|rfl<;>exact⟨A,λs b=>by cases b⟩
def Lu(u:E)(O:Xk Xe)(Q:Xe)(R:E)(S jf:Xg Xe)(a:M)(b:Ending)(d:M):Prop:=b=Xs (.tuple #[])/\a.heap.size<=d.heap.size/\(∀c,c<a.heap.size->c≠u->Q.ownBlock≠C c->d.heap[c]?=a.heap[c]?)/\
 ∃e,d.heap[u]?=C (Xn (O.setIfInBounds 8 e) 98 (0,0))/\cr NB d 38 16 e (R+1) (S++jf)/\kU a Q e
section
variable{O:Xk Xe}{Q:Xe}{S:Xg Xe}{d f g h:Xj}{x r:XB}{t:Xo}{i k l m o p q:Xj}{H L:Xp Xw}{y c1 z c2:E}
theorem Oi(xo:a.heap[u]?=C (Xn O 98 (0,0)))(a6:O[8]?=C Q)(N:cr NB a 38 16 Q R S)(f8:R<2^20):
 Calls TP 60 #[pt u 0,.agg (oV d f g h x r t i k l m o p q (.slice H y c1) (.slice L z c2))] a (Lu u O Q R S (oV d f g h x r t i k l m o p q (.slice H y c1) (.slice L z c2)).toList a):=by
 obtain⟨f9,g3,c7,b9,c8⟩:=UI;obtain⟨V,f5⟩:∃V,V=oV d f g h x r t i k l m o p q (.slice H y c1) (.slice L z c2):=by simp
 have a9:=(XN.1 xo).1
 have b0:Q.ownBlock≠C u:=λb=>by obtain⟨T,w,_⟩:=N.blk u b;simp_all
 obtain⟨n,b8⟩:∃n,a.alloc (.cells (oV d f g h x r t i k l m o p q (.slice H y c1) (.slice L z c2)) 38)=n:=by simp
 have D:∀e,e<a.heap.size->n.heap[e]?=a.heap[e]?:=by grind [Below.heap_alloc]
 have c:n.heap[a.heap.size]?=C (Xn (oV d f g h x r t i k l m o p q (.slice H y c1) (.slice L z c2)) 38 (0,0)):=by grind [heap_alloc_new]
 have b2:n.heap.size=a.heap.size+1:=by rw[<-b8];simp
 have s:=(D u a9).trans xo;have d3:=aa s 8 a6;have d7:=aa c 0 A;have d8:=aa c 1 A;have e5:=aa c 2 A;have e6:=aa c 3 A;have e7:=aa c 4 A;have e8:=aa c 5 A;have e9:=aa c 6 A;have f0:=aa c 7 A;have f1:=aa c 8 A;have f2:=aa c 9 A;have d9:=aa c 10 A;have e0:=aa c 11 A;have e1:=aa c 12 A;have e2:=aa c 13 A;have e3:=aa c 14 A;have e4:=aa c 15 A;have c6:=λc9=>(N.stay (w':=n.drew) λU a0=>D U (N.lt U a0)).alloc c9
 have a8:∀v,(n.drew.alloc (.cells (oV d f g h x r t i k l m o p q (.slice H y c1) (.slice L z c2)) 38)).grownBy v Q.ownBlock->∀e,e<a.heap.size->Q.ownBlock≠C e->v.heap[e]?=a.heap[e]?:=λv Y e X c0=>by rw[Y.block e (by show e<(n.heap.push _).size;simp;omega) (λb=>c0 b.symm),XQ _ _ _ (by show e<n.heap.size;omega)];exact D e X
 have KP:=Xl a8;have b3:=Xl xo;have d1:=Xl D;have b4:=Xl b0;have d0:=Xl N.lt;have b6:=Xl b2;have HC:=Xl a9;have f7:u<n.heap.size:=by omega
 have d4:(n.alloc (.cells (oV d f g h x r t i k l m o p q (.slice H y c1) (.slice L z c2)) 38)).cell? ⟨u,8,F⟩=C Q:=by simp_all [Yx]
 clear xo N b0 D c s b2 a8;go_enter Tryz.func60,Tryz.ntmps60
 go_wp2
 go_region_law (first|(refine xX rfl _ _ 43 rfl rfl (c6 _) c7 b9 c8 rfl (oV d f g h x r t i k l m o p q (.slice H y c1) (.slice L z c2)).toList rfl (JV n.drew _ _) Rl (by omega) ?_;intro g1 v a1 Z b1;obtain⟨d2,g0,d6,rfl⟩:=a1.slice;have s:=(KP.out v Z u HC.out b4.out).trans b3.out;have d5:=aa s 8 a6;have f3:=frozenAt s 8;have a2:=Xl s;have a3:=Xl Z;have b5:=Xl b1;have a4:=Xl a1;clear s b1 a1 Z))
 all_goals
  go_end0
  have a7:(n.drew.alloc (.cells (oV d f g h x r t i k l m o p q (.slice H y c1) (.slice L z c2)) 38)).heap.size=a.heap.size+2:=by show(n.heap.push _).size=_;simp;exact b6.out
  have f6:a.heap.size+2<=v.heap.size:=by rw[<-a7];exact a3.out.size
  refine⟨A,by grind [aS],λe X w b7=>?_,_,aA a2.out,?_,λa5 Y=>?_⟩
  .rw[ai w];exact KP.out v a3.out e X b7
  .refine a4.out.stay λU a0=>ai λb=>?_;obtain⟨T,w,_⟩:=a4.out.blk U a0;rw[b,a2.out]at w;cases w
  rcases b5.out a5 Y with W|W
  .exact Xh W
  have f4:a.heap.size+2<=a5:=by rw[<-a7];exact W
  omega
end
end Go.Sv
namespace Go.Sim
open Go.Conc Go.Proofs Go.RowKit
open Go.ConcN (PermW PermW.app PermW.of fork_knows WgLive RelBy sumTo)
open Go.ConcR (KK wgBlock WgAt stA smA rd wr mk DC0)
variable{c:Xe}{b:M}{d:M}{D:Xk Oper}{f:Oper}{e:Xu}{N:Exit->Xu->M->Prop}
section
variable[Inhabited aM]
def dI(rq:E->RV)(b:Xg E):Xg Xe:=b.flatMap λa:E=>(aP (a:Xj) (rq a)).toList
theorem gC(rq:E->RV):∀a:Xg E,(dI rq a).length=a.length*9
 |[]=>rfl
 |b::a=>by
  have:=gC rq a;unfold dI at this⊢
  rw[Zu,Yw,this];simp[aP];omega
theorem ni(rq:E->RV)(b:Xg E)(a:E):dI rq (b++[a])=dI rq b++(aP a (rq a)).toList:=by simp[dI]
theorem wI(rq:E->RV):∀(b:Xg E)(a j:E),j<9->a<b.length->(dI rq b)[a*9+j]?=(aP (b.getD a 0) (rq (b.getD a 0)))[j]?
 |[],a,j,_,c=>by simp at c
 |d::b,0,j,e,_=>by
  unfold dI;rw[Zu,Zw (by simp[aP];omega)];simp
 |d::b,a+1,j,e,c=>by
  have f:=wI rq b a j e (by simpa using c);unfold dI at f⊢
  rw[Zu,YP (by simp[aP];omega)];have g:(a+1)*9+j-(aP (↑d) (rq d)).toList.length=a*9+j:=by simp[aP];omega
  simp_all
def nY(g:E)(rq:E->RV)(a:Xg E)(c:Xe)(b:M):Prop:=
 (c=Xm F 0 0/\a=[])\/
 ∃f d e,c=Xm (C ⟨f,0,F⟩) a.length d/\g<=f/\b.heap[f]?=C (Xn e 107 (0,0))/\0<a.length/\a.length<=d/\d<=maxLen/\e.size=d*9/\e.toList.take (a.length*9)=dI rq a/\∀h∈e.toList,Calm h
theorem nY.kept{h:E}{rq:E->RV}{f:Xg E}(e:nY h rq f c b)(o:∀a,c.ownBlock=C a->d.heap[a]?=b.heap[a]?):nY h rq f c d:=by
 rcases e with e|⟨a,i,k,g,l,m,n⟩
 .exact Xh e
 exact Xi ⟨a,i,k,g,l,by rw[o a (by rw[g];rfl)];exact m,n⟩
theorem GV(i:Xj)(d:RV):∀f∈(aP i d).toList,Calm f:=by
 intro f c;have a:∀b,aR (λ_=>False) b->(∀k,b≠.int .u8 k)->Calm b:=λb g h=>⟨Xh g,h⟩;simp only[aP,XV,Yd,YS]at c;rcases c with rfl|rfl|rfl|rfl|rfl|rfl|rfl|rfl|rfl
 .exact a _ (.int _ _) (by simp)
 .exact a _ (.int _ _) (by simp)
 .exact a _ (.int _ _) (by simp)
 .exact a _ (.string _) (by simp)
 .exact a _ (.string _) (by simp)
 .exact a _ (.int _ _) (by simp)
 .exact a _ (.int _ _) (by simp)
 .exact a _ (.bool _) (by simp)
 cases l:d.oa with
 |none=>exact a _ (.aO _ _) (by simp)
 |some e=>exact⟨Xi trivial,by simp⟩
theorem Gy:TP.underlying 103=C (.slice 107):=A
theorem PN:∃a b,TP.info? 107=C a/\a.zero=C b/\a.size=9/\a.bytes<=1000/\b.cells=#[Xd K 0,Xd K 0,Xd K 0,.string XB.empty,.string XB.empty,Xd K 0,Xd K 0,.bool Xf,Xm F 0 0]:=by refine⟨_,_,A,A,A,by decide,A⟩
theorem Jf:∀c,∀g∈(Builtin.zeroCells #[Xd K 0,Xd K 0,Xd K 0,.string XB.empty,.string XB.empty,Xd K 0,Xd K 0,.bool Xf,Xm F 0 0] c).toList,Calm g:=by
 intro c g e;have a:∀d,aR (λ_=>False) d->(∀c,d≠.int .u8 c)->Calm d:=λd h i=>⟨Xh h,i⟩;unfold Builtin.zeroCells at e;simp only[aaA,YB]at e;obtain⟨f,_,rfl⟩:=e;have k:f%9<9:=by omega
 generalize f%9=b at k;rcases(by omega:b=0\/b=1\/b=2\/b=3\/b=4\/b=5\/b=6\/b=7\/b=8)with rfl|rfl|rfl|rfl|rfl|rfl|rfl|rfl|rfl
 .exact a _ (.int _ _) (by simp)
 .exact a _ (.int _ _) (by simp)
 .exact a _ (.int _ _) (by simp)
 .exact a _ (.string _) (by simp)
 .exact a _ (.string _) (by simp)
 .exact a _ (.int _ _) (by simp)
 .exact a _ (.int _ _) (by simp)
 .exact a _ (.bool _) (by simp)
 exact a _ (.aO _ _) (by simp)
theorem sK{n:E}{rq:E->RV}{e:Xg E}{a m:E}{O:E×E}(o:Xq)(Q:nY n rq e c b)(a2:b.heap[m]?=C (Xn (aP a (rq a)) 107 O))(a8:e.length<2^30)(a0:n<=b.heap.size):
 ∃x d,(Builtin.append_ #[103,103] o #[c,Xm (C ⟨m,0,F⟩) 1 1]).run TP b=.ok x d/\nY n rq (e++[a]) x d/\b.grownBy d c.ownBlock/\∀f,x.ownBlock=C f->c.ownBlock=C f\/b.heap.size<=f:=by
 obtain⟨l,p,s,N,v,W,a3⟩:=PN;have u:∀j i,(aP a (rq a)).toList[j]?=C i->b.cell? ((⟨m,0,F⟩:Xw).add j)=C i:=by grind [Addr.add,World.cell?]
 have r:(aP a (rq a)).toList.length=1*l.size:=by rw[v];rfl
 have z:∀(old:E),old<e.length+1->∀row:Xp E,
  nY n rq (e++[a]) (Xm (C ⟨b.heap.size,0,F⟩) (e.length+1) (grownCap b (e.length+1) old 107)) (b.drew.alloc (.cells ((dI rq e).toArray++(aP a (rq a))++Builtin.zeroCells p.cells (grownCap b (e.length+1) old 107-(e.length+1))) 107))/\
  b.grownBy (b.drew.alloc (.cells ((dI rq e).toArray++(aP a (rq a))++Builtin.zeroCells p.cells (grownCap b (e.length+1) old 107-(e.length+1))) 107)) row:=by
  intro old a9 row;have a7:=aau b (e.length+1) old 107;have X:=D_ b (e.length+1) old 107 (by grind [maxLen]);have Z:(e++[a]).length=e.length+1:=by simp
  refine⟨Xi ⟨b.heap.size,_,_,by rw[Z],a0,Yn b.drew _,by omega,by omega,X,?_,?_,?_⟩,⟨A,A,A,by simp,λa t _=>aao b.drew _ t⟩⟩
  .rw[a3];simp only[p_,Yt,aba,gC];have:(aP a (rq a)).size=9:=A;simp;omega
  .have y:(dI rq e).toArray.toList++(aP a (rq a)).toList=dI rq (e++[a]):=by rw[ni]
   grind [gC]
  intro b1 a2
  grind [dI,GV,Jf]
 have b0:(aP a (rq a)).toList.toArray=aP a (rq a):=A;rcases Q with⟨rfl,rfl⟩|⟨f,h,q,rfl,R,D,a4,a5,S,H,T,a6⟩
 .have k:=run_append_nil (P:=TP) b 103 o 107 l p Gy s N ⟨m,0,F⟩ 1 1 _ r u (by omega) (by omega) (by omega);have g:=z 0 (by omega) (Xe.ownBlock (Xm F 0 0));exact⟨_,_,k,g.1,g.2,λf g=>by cases g;simp⟩
 by_cases L:e.length+1<=h
 .have Y:e.length*l.size+(aP a (rq a)).toList.length<=q.size:=by
   rw[v,H];show e.length*9+9<=h*9;omega
  have k:=run_append_room (P:=TP) b 103 o 107 l Gy s f e.length h q D ⟨m,0,F⟩ 1 1 _ r u (by
   intro i w;simp only[aP,XV,Yd,YS]at w
   rcases w with rfl|rfl|rfl|rfl|rfl|rfl|rfl|rfl|rfl<;>rfl) L Y
  rw[v]at k;refine⟨_,_,k,Xi ⟨f,h,_,by simp,R,ZY b f q _ 107 _ D,by simp,by simpa using L,S,?_,?_,?_⟩,⟨A,A,A,by simp,λa _ t=>ZD b f a _ (λy=>t (by simp[Xe.ownBlock,y]))⟩,λf g=>Xh g⟩
  .have U:(aP a (rq a)).toList.length=9:=A;simp only[Yt,Yw,Zy,aay,aae,H,U];omega
  .rw[T,<-ni];exact aab (by rw[gC])
  grind [GV]
 have a1:∀j i,(dI rq e)[j]?=C i->b.cell? ((⟨f,0,F⟩:Xw).add j)=C i:=λj i w=>by grind [Addr.add,World.cell?]
 have k:=run_append_grow (P:=TP) b 103 o 107 l p Gy s N ⟨f,0,F⟩ e.length h (dI rq e) (by grind) a1 ⟨m,0,F⟩ 1 1 _ r u (by omega) (by omega) (growslice_fits (by omega) (by
  have:(e.length+1)*l.bytes<=1073741824*1000:=aap (by omega) W
  omega))
 have g:=z h (by omega) (Xe.ownBlock (Xm (C ⟨f,0,F⟩) e.length h));exact⟨_,_,k,g.1,g.2,λf g=>by cases g;simp⟩
theorem oh{rest:Xg Oper}{k:E}{rq:E->RV}{g:Xg E}{i n:E}{o:E×E}(v:f.guard=F)(l m:XJ)
 (y:f.op=.call {callee:=.builtin .append,args:=#[l,m],argTypes:=#[103,103]})(H:e.eval l=c)(L:e.eval m=Xm (C ⟨n,0,F⟩) 1 1)
 (p:nY k rq g c b)(u:b.heap[n]?=C (Xn (aP i (rq i)) 107 o))(x:g.length<2^30)(w:k<=b.heap.size)
 (next:∀a d,nY k rq (g++[i]) a d->b.grownBy d c.ownBlock->(∀h,a.ownBlock=C h->c.ownBlock=C h\/b.heap.size<=h)->wpList TP D N rest (e.put f.dst a) d):wpList TP D N (f::rest) e b:=by
 refine wpList_plain v λO t=>?_;obtain⟨a,d,z,q,r,s⟩:=sK f.type p u x w;unfold Oper.wp execOp;simp only[y,resolve,invoke,builtin,Zp,aaN,q_,Zb,YG,Zl,H,L,z];exact t _ _ (next a d q r s)
variable{a:M}{h:Set}{m:Ren}{q:M}{P:Xy}{z:dB}{f:E->Prop}{d:Xt}{s:E}{u:E}{e:E}
def gd(a b:M)(c:E):Prop:=b.heap[c]?=a.heap[c]?\/∃d e f g,aT d/\a.heap[c]?=C (Obj.cells d e f)/\b.heap[c]?=C (Obj.cells d e g)
theorem gd.trans{x y:M}{o:E}(r:gd a x o)(g:gd x y o):gd a y o:=by
 rcases r with r|⟨i,n,k,p,l,t,v⟩
 .rcases g with g|⟨i,n,k,p,l,t,v⟩
  .exact Xh (g.trans r)
  exact Xi ⟨i,n,k,p,l,by simp_all,v⟩
 rcases g with g|⟨c2,O,L,D,N,w,H⟩
 .exact Xi ⟨i,n,k,p,l,t,by simp_all⟩
 rw[v]at w;cases w;exact Xi ⟨i,n,k,D,l,t,H⟩
structure gK(own i:E->Prop)(a b:M):Prop where
 size:a.heap.size<=b.heap.size
 keep:∀g,g<a.heap.size->¬own g->gd a b g
 more:∀g,i g->own g\/a.heap.size<=g
theorem gK.refl(own:E->Prop)(a:M):gK own own a a:=⟨XS _,λ_ _ _=>Xh A,λ_ b=>Xh b⟩
theorem gK.trans{own r t:E->Prop}{v w:M}(i:gK own r a v)(n:gK r t v w):gK own t a w where
 size:=XZ i.size n.size
 keep:=λg l p=>(i.keep g l p).trans (n.keep g (XY l i.size) λk=>by
  rcases i.more g k with o|o
  .exact p o
  omega)
 more:=λg l=>by
  rcases n.more g l with k|k
  .exact i.more g k
  exact Xi (XZ i.size k)
theorem gK.free{own e:E->Prop}(f:gK own e a b){c:E}(i:c<a.heap.size)(h:¬own c):¬e c:=λg=>by
 rcases f.more c g with d|d
 .exact h d
 omega
theorem aH.qQ{own d:E->Prop}(c:aH own d a b):gK own d a b:=⟨c.size,λe f g=>Xh (c.keep e f g),c.more⟩
structure OW(own use:E->Prop)(a b:M):Prop where
 size:a.heap.size<=b.heap.size
 own:∀g,own g->b.heap[g]?=a.heap[g]?
 use:∀g,use g->(b.heap[g]?).map Obj.whole=(a.heap[g]?).map Obj.whole
theorem wJ{own e:E->Prop}(g:∀c,own c\/e c->c<a.heap.size)(h:a.heap.size<=b.heap.size)(f:∀c,c<a.heap.size->b.heap[c]?=a.heap[c]?):OW own e a b:=⟨h,λc d=>f c (g c (Xh d)),λc d=>by simp_all⟩
def il(c d:E->Prop)(b:E):Prop:=∀a,d a->c a\/b<=a
theorem il.trans{n o p:E->Prop}{g l:E}(r:il n o g)(t:il o p l)(w:g<=l):il n p g:=λi v=>by
 rcases t i v with k|k
 .exact r i k
 omega
structure nB(own:E->Prop)(a b:M):Prop where
 size:b.heap.size=a.heap.size
 os:b.os=a.os
 blk:∀g,b.heap[g]?=a.heap[g]?\/own g/\∃i k r o,a.heap[g]?=C (Obj.cells i r o)/\b.heap[g]?=C (Obj.cells k r o)/\k.size=i.size/\∀(p:E) c n,i[p]?=C c->k[p]?=C n->n=c\/(n=.tuple #[]/\bO c)
theorem Aa{b:Xe}(d:an h m c b)(a:bO c):bO b:=by
 cases d with
 |bS=>exact a.elim
 |ptr=>trivial
 |slice=>trivial
 |map=>trivial
 |chan=>trivial
 |func e=>cases e with
  |func=>trivial
  |yield=>trivial
 |int=>exact a
 |_=>exact a.elim
theorem aV.forget{own:E->Prop}(f:aV h m a q)(l:nB own a b):aV h m b q where
 inj:=f.inj
 obj:=λg p x=>by
  obtain⟨T,U,i,v,w⟩:=f.obj g p x;rcases l.blk g with Q|⟨_,e,O,L,R,r,s,t,u⟩
  .simp_all
  rw[r]at i;cases i;cases w with
  |cells _ k H=>
  refine⟨_,_,s,v,.cells L ⟨t.trans k.1,λd c N z D=>?_⟩ H⟩;have n:d<e.size:=by grind
  have o:=k.2 d e[d] N (XP n) D;rcases u d e[d] c (XP n) z with rfl|⟨rfl,y⟩
  .exact o
  exact .bS (Aa o y)
 os:=l.os.trans f.os
theorem BS{i:cZ}{l:Xp dm}{own:E->Prop}(k:nB own a b)(w:∀c,f c->¬own c)(next:(goalAt P i l z h f).G m b d):(goalAt P i l z h f).G m a d:=by
 intro g o q sl u n e;refine next g o q sl u n ⟨e.ok.bg A rfl rfl,e.bF,?_,e.me,e.hears⟩
 have:=e.bg;refine⟨this.base,this.rel.forget k,λc s=>?_,this.dv,this.dV,this.low⟩;obtain⟨t,p,r⟩:=this.cO c s;rcases k.blk c with g|⟨v,_⟩
 .exact⟨t,by rw[g];exact p,r⟩
 simp_all
structure Lx(y k:E->Prop)(look:E->LR)(v u D e:E)(rq:E->RV)(a:M):Prop where
 xt:∀g,k g->(∃o H p,a.heap[g]?=C (Xn o H p)/\0<o.size/\p.2<=o.size/\¬aT o/\∀(t:E) c,o[t]?=C c->aR k c)\/∃w l,a.heap[g]?=C (.map w l)/\∀r∈w.toList,aR k r.key/\aR k r.val
 TA:k v
 hc:∃i L p,a.heap[u]?=C (Xn i L p)/\p.2<=i.size/\i[1]?=C (Xd K D)/\i[2]?=C (pt v 0)/\¬aT i/\∀(t:E) c,i[t]?=C c->IM c
 look:∀l,l<e->∀n:M,(∀g,k g\/y g->n.heap[g]?=(a.heap[g]?).map Obj.whole)->a.heap.size<=n.heap.size->Calls TP 58 #[pt v 0,.string (rq l).path] n λr b=>∃x,r=Xs (.tuple #[.agg x,(look l).ev])/\cf (look l) n.heap.size x b/\Below n.heap.size n b
structure HC{r:Type}(St:r->(E->Prop)->(E->Prop)->M->Prop)(w:r->E->Xe->(E->Prop)->(E->Prop)->M->Prop)(rd O:r->E->r)(look:r->E->LR)(R:E->Prop)(u x e:E)(rq:E->RV)(v:E->Xo)(D:E->Xe)(cnt:r->E):Prop where
 UZ:∀i g,cnt (rd i g)=cnt i+1
 RZ:∀i g,cnt (O i g)=cnt i+1
 sm:∀i own k a b,OW own k a b->St i own k a->St i own k b
 lt:∀i own k a,St i own k a->∀l,own l\/k l->l<a.heap.size
 En:∀i own k a,St i own k a->∀l,own l->∀L T S,a.heap[l]?=C (Xn L T S)->¬aT L
 pre:∀i own k a,St i own k a->∃b H U,nB own a b/\St i own k b/\(∀l,H l->own l)/\Lx R H (look i) U u x e rq b
 ev:∀i g,Plain (look i g).ev
 Ws:∀i g j,look (rd i g) j=look i j
 mh:∀i g n own k(a b:M),b.heap=a.heap->w i g n own k a->w i g n own k b
 Ro:∀i g,g<e->v g=J->cnt i=g->∀own k a N y,St i own k a->cf (look i g) N y a->nC own y->Calls TP 61 #[pt u 0,.agg (aP g (rq g)),.agg (y.push (look i g).ev)] a λt b=>∃n o p,t=Xs n/\w i g n o p b/\aH own o a b/\il k p (min N a.heap.size)
 snd:∀i g,g<e->v g=J->cnt i=g->∀n own k a,w i g n own k a->Calls TP 60 #[pt u 0,n] a λt b=>∃o p,t=Xs (.tuple #[])/\St (rd i g) o p b/\aH own o a b/\il k p a.heap.size
 one:∀i g,g<e->v g=Xf->cnt i=g->∀own k a,St i own k a->Calls TP 40 #[pt u 0,D g] a λt b=>∃o p,t=Xs (.tuple #[])/\St (O i g) o p b/\aH own o a b/\il k p a.heap.size
 yes:∀g,g<e->v g=J->D g=.iface 107 (.agg (aP g (rq g)))
 no:∀g,g<e->v g=Xf->∃Q W,D g=.iface Q W/\Q≠107
 Ib:1<=x/\x<2^16
 small:e<2^20
theorem yJ{b:Type}{rd:b->E->b}{look:b->E->LR}(d:∀a e j,look (rd a e) j=look a j)(j:E):∀(c:Xg E)(a:b),look (c.foldl rd a) j=look a j
 |[],_=>rfl
 |e::c,a=>by rw[ZW,yJ d j c,d]
theorem nA.same{own k:E->Prop}(g:nA a b)(l:∀c,own c\/k c->c<a.heap.size)(q:∀c,own c->∀d i f,a.heap[c]?=C (Obj.cells d i f)->¬aT d):OW own k a b where
 size:=g.1
 own:=λc h=>by
  rcases g.2 c (l c (Xh h))with e|⟨d,i,f,n,o,m,_⟩
  .exact e
  grind
 use:=λc h=>by
  rcases g.2 c (l c (Xi h))with e|⟨d,i,f,n,o,m,p⟩
  .rw[e]
  rw[m,p];rfl
theorem mP{a:Xg E}(b:s<a.length):a.getD s 0∈a:=by simp_all
theorem qi{c:Type}{rd:c->E->c}{cnt:c->E}(d:∀a e,cnt (rd a e)=cnt a+1):∀(b:Xg E)(a:c),cnt (b.foldl rd a)=cnt a+b.length
 |[],_=>rfl
 |e::b,a=>by rw[ZW,qi d b,d,Yl];omega
theorem DG{S:Type}{St:S->(E->Prop)->(E->Prop)->M->Prop}{b4:S->E->Xe->(E->Prop)->(E->Prop)->M->Prop}{rd f9:S->E->S}{look:S->E->LR}{b5:E->Prop}{c7:E}{rq:E->RV}{c6:E->Xo}{g7:E->Xe}{cnt:S->E}
 (p:HC St b4 rd f9 look b5 u c7 e rq c6 g7 cnt){b3:cZ}(e1:kg b3 f){own v:E->Prop}{o:S}{g:Xg E}{a5:Xe}{f7:E}(e2:St o own v a)(f0:nY f7 rq g a5 a)(e8:∀d,a5.ownBlock=C d->¬own d)
 (Y:∀c∈g,c<e/\c6 c=J)(e4:∀s,s<g.length->g.getD s 0=cnt o+s)(h5:g.length<=e)(f4:∀i,b5 i->f i)(e9:∀i,f i->¬own i)
 (KX:∀i,f i->∃r b1,a.heap[i]?=C (Xn r b1 (0,r.size))/\0<r.size/\(∀(a4:E) c,r[a4]?=C c->aR f c)/\¬aT r)(Io:∀d,(0<d\/d=TP.globals.size)->d<=TP.globals.size->f d):
 ∃b,nB own a b/\Co (goalAt TP b3 F z al f) 39 #[pt u 0,a5] b λb2 c9=>b2=.tuple #[]/\∃U W,St (g.foldl rd o) U W c9/\gK own U a c9/\il v W a.heap.size:=by
 obtain⟨b,d3,g1,Z,a2,h7,a1⟩:=p.pre o own v a e2
 have e3:∀i,¬own i->b.heap[i]?=a.heap[i]?:=λi w=>by
  rcases Z.blk i with H|⟨L,_⟩
  .exact H
  simp_all
 refine⟨b,Z,?_⟩
 obtain⟨X,a8,rfl,b8⟩:∃X a8,a5=.slice X g.length a8/\(X=F/\g.length=0\/∃a6 c8 r g2 b6,X=C ⟨a6,c8,F⟩/\b.heap[a6]?=C (Xn r g2 b6)/\0<r.size/\b6.2<=r.size/\(∀(a4:E) c,r[a4]?=C c->Calm c)/\¬own a6/\∀D,D<g.length->∀j,j<9->r[c8+D*9+j]?=(aP (g.getD D 0:E) (rq (g.getD D 0)))[j]?):=by
  rcases f0 with⟨rfl,rfl⟩|⟨d,d5,d7,rfl,N,T,b7,g9,h0,h1,h2,h3⟩
  .simp
  have e5:=e8 d A;refine⟨_,d5,A,Xi ⟨d,0,d7,107,(0,0),A,by simp_all,by omega,YA _,λa4 c h6=>?_,e5,λD a7 j e6=>?_⟩⟩
  .grind
  have H:=wI rq g D j e6 a7
  grind
 have f1:∀s,s<g.length->(g.take (s+1)).foldl rd o=rd ((g.take s).foldl rd o) (g.getD s 0):=λs t=>by simp_all [K_]
 have c0:∀s,s<g.length->cnt ((g.take s).foldl rd o)=g.getD s 0:=λs t=>by rw[qi p.UZ,e4 s t,Zy];omega
 have P:QW (λs n l=>∃k,(St ((g.take s).foldl rd o) n k l/\a.heap.size<=l.heap.size)/\il v k a.heap.size) f d3 b (λs=>look o (g.getD s 0)) (λs=>(g.getD s 0:E)) (λs=>rq (g.getD s 0)) own u g1 g.length a8 c7 X:={
  KX:=λi w=>by simp_all
  Io:=Io
  xt:=a1.xt
  TA:=a1.TA
  hc:=a1.hc
  hA:=b8
  small:=by have:=p.small;omega
  Ib:=p.Ib
  ev:=λD=>p.ev _ _
  look:=λD a7 l f3 x=>a1.look (g.getD D 0) (Y _ (mP a7)).1 l (λi w=>f3 i (w.imp id (f4 i))) x
  init:=λR b9=>⟨v,⟨p.sm o own v b R (b9.same (p.lt o own v b a2) (p.En o own v b a2)) a2,by rw[<-Z.size];exact b9.1⟩,λi L=>Xh L⟩
  Wv:=λi w=>p.lt o own v b a2 i (Xh w)
  Ww:=e9}
 have d0:Lw (λs n l=>∃k,(St ((g.take s).foldl rd o) n k l/\a.heap.size<=l.heap.size)/\il v k a.heap.size) (λs Q n l=>∃k,(b4 ((g.take s).foldl rd o) (g.getD s 0) Q n k l/\a.heap.size<=l.heap.size)/\il v k a.heap.size) u g.length b.heap.size (λs=>(g.getD s 0:E)) (λs=>rq (g.getD s 0)) (λs=>look o (g.getD s 0)):={
  Ro:=λs t n l g0⟨k,⟨O,x⟩,y⟩ N T=>by have a3:=p.Ro ((g.take s).foldl rd o) (g.getD s 0) (Y _ (mP t)).1 (Y _ (mP t)).2 (c0 s t) n k l b.heap.size g0 O;rw[yJ p.Ws]at a3;exact(a3 N T).mono λH R⟨Q,U,W,q1,a9,a0,b0⟩=>⟨Q,U,q1,⟨W,⟨a9,XZ x a0.size⟩,y.trans b0 (by rw[Z.size];omega)⟩,a0⟩
  snd:=λs t Q n l⟨k,⟨O,x⟩,y⟩=>by have a3:=p.snd ((g.take s).foldl rd o) (g.getD s 0) (Y _ (mP t)).1 (Y _ (mP t)).2 (c0 s t) Q n k l O;rw[f1 s t];exact a3.mono λH R⟨U,W,q1,a9,a0,b0⟩=>⟨U,q1,⟨W,⟨a9,XZ x a0.size⟩,y.trans b0 x⟩,a0⟩
  sg:=λs n l R O N⟨k,⟨T,x⟩,y⟩=>⟨k,⟨p.sm _ n k l R (wJ (p.lt _ n k l T) N O) T,XZ x N⟩,y⟩
  sl:=λs n l⟨k,⟨L,_⟩,_⟩ i w=>p.lt _ n k l L i (Xh w)
  mh:=λs Q n l R H⟨k,⟨L,x⟩,y⟩=>⟨k,⟨p.mh _ _ Q n k l R H L,by simp_all⟩,y⟩}
 intro m d4 r d6 d1 w next
 refine Qy P d0 e1 m d4 r d6 d1 w λg6 b2 g3 g5 d2 e0 f2⟨n,g4,O,N,⟨k,⟨T,_⟩,y⟩,b7⟩=>next g6 b2 g3 g5 d2 e0 f2 ⟨O,n,k,?_,?_,y⟩
 .grind
 have f8:gK own own a g4:=⟨by rw[<-Z.size];exact N.1,λi w e7=>by
  rcases N.2 i (by grind)with H|⟨r,b1,d8,d9,f5,h9,f6⟩
  .exact Xh (H.trans (e3 i e7))
  exact Xi ⟨r,b1,d8,d9,f5,by grind,f6⟩,λi L=>Xh L⟩
 exact f8.trans b7.qQ
end
end Go.Sim
namespace Go.Sv
open Go.MapKept Go.Proofs Go.RowKit Go.Lib Go.WideShapes Go.Sort Go.Sim Wt
variable{u:E}{m:Tree}{c:E}{y:cN}{d:M}{w':M}{g:Xe}{h:Out}{e:E}{S:Xk XH}
structure adt where
 v:Xe:=.nilFunc
 hv:E:=0
 hs:E:=0
structure fG where
 tb:E
 nb:Path->E
 mb:Path->E
 tw:E
 mw:E
 f:Xe->Xp Xe
 hb:E
 ov:Xe
 vs:Xg (Xe×Xe)
 li:adt:={}
 lw:Xe:=.nilFunc
 hd:Xg Out:=[]
def OU(a:Xe):Prop:=∃b,a=Xd K b
def fL(b:Xg (Xj×Xj)):Xe->Xp Xe
 |Xd K c=>(b.find? λa=>decide (a.1=c)).map λa=>i64 a.2
 |_=>F
def eY(a:Xg B)(g:Xe)(d:M):Prop:=(g=Xm F 0 0/\a=[])\/∃f c b i h,g=Xm (C ⟨f,0,F⟩) a.length c/\d.heap[f]?=C (Xn b i h)/\a.length<=c/\c<=b.size/\∀(e:E) y,a[e]?=C y->b[e]?=C (.string (bs y))
def sZ(b:Xg (Xj×B))(g:Xe)(d:M):Prop:=(g=Xm F 0 0/\b=[])\/∃h c a k i,g=Xm (C ⟨h,0,F⟩) b.length c/\d.heap[h]?=C (Xn a k i)/\b.length<=c/\c*2<=a.size/\∀(e:E) f,b[e]?=C f->a[e*2]?=C (i64 f.1)/\a[e*2+1]?=C (.string (bs f.2))
def jX(h:Out)(g:Xe×Xe)(d:M):Prop:=eY h.names g.1 d/\sZ h.results g.2 d
def iC(h:Out)(g:Xe×Xe):Xk Xe:=oV h.ak h.ev h.idx h.err (bs h.path) (bs h.data) h.found h.stat.made h.stat.set h.stat.aE h.stat.ez h.stat.own h.stat.size h.stat.kids g.1 g.2
def gB(k:Xg Out)(b:Xg (Xe×Xe)):Xg Xe:=(k.zip b).flatMap λa=>(iC a.1 a.2).toList
abbrev ln:Xe×Xe:=(Xm F 0 0,Xm F 0 0)
def abK(b:fG)(d:M):Prop:=b.li.v=.nilFunc\/b.li.v=.func (.func 30) #[] #[pt b.li.hv 0]/\d.heap[b.li.hv]?=C (Xn #[pt b.li.hs 0] 41 (0,0))/\d.heap[b.li.hs]?=C (Xn #[b.lw] 46 (0,0))/\cr NB d 38 16 b.lw b.hd.length (gB b.hd (b.hd.map λ_=>ln))
def ada(b:fG)(c:E):Prop:=b.li.v≠.nilFunc/\(c=b.li.hv\/c=b.li.hs\/b.lw.ownBlock=C c)
def aI(u:E)(m:Tree)(b:fG)(c:E):Prop:=c=u\/pJ m b.nb b.mb b.tb c\/eF b.tw b.mw b.f c\/c=b.hb\/b.ov.ownBlock=C c\/ada b c
def dw(b:fG)(c:E):Prop:=c=1\/c=4\/∃g∈b.vs,g.1.ownBlock=C c\/g.2.ownBlock=C c
def Ln(b a:fG)(c:Xg Out):Prop:=a.tb=b.tb/\a.li=b.li/\a.hd=b.hd++c
theorem Ln.refl(b:fG):Ln b b []:=⟨A,A,(YT _).symm⟩
theorem Ln.trans{c i n:fG}{o p:Xg Out}(a:Ln c i o)(f:Ln i n p):Ln c n (o++p):=⟨f.1.trans a.1,f.2.1.trans a.2.1,by rw[f.2.2,a.2.2,ZJ]⟩
def abJ(u:E)(m:Tree)(b:fG)(c:E):E->Prop
 |0=>pJ m b.nb b.mb b.tb c
 |1=>eF b.tw b.mw b.f c
 |2=>c=b.hb
 |3=>c=u
 |4=>b.ov.ownBlock=C c
 |5=>dw b c
 |6=>ada b c
 |_=>False
theorem abw{b:fG}:aI u m b c↔∃e,e≠5/\abJ u m b c e:=by
 constructor
 .rintro(a|a|a|a|a|a)
  .exact⟨3,by decide,a⟩
  .exact⟨0,by decide,a⟩
  .exact⟨1,by decide,a⟩
  .exact⟨2,by decide,a⟩
  .exact⟨4,by decide,a⟩
  exact⟨6,by decide,a⟩
 rintro⟨e,d,a⟩;unfold aI;rcases e with _|_|_|_|_|_|_|e<;>simp_all [abJ]
def Vl(g:Xe):Prop:=g=.tuple #[]\/∃c b a,g=.slice c b a
structure aK(u:E)(l:Xj)(y:cN)(outs:Xg Out)(b:fG)(d:M):Prop where
 tree:bw y.tree b.nb b.mb d
 top:∃i,Vl i/\d.heap[b.tb]?=C (Xn #[pt (b.nb []) 0,Xd K y.tree.length,i] 195 (0,0))
 wf:WF y.tree
 cd:dK y.cd b.tw b.mw b.f d
 jB:∃S a,d.heap[b.hb]?=C (.map S a)/\Mp OU S a (fL y.dE)
 ch:d.heap[u]?=C (Xn (EJ y.timeout l b.tb b.tw b.hb y.now y.aL y.next b.ov b.li.v) 98 (0,0))
 row:cr NB d 38 16 b.ov outs.length (gB outs b.vs)
 outs:outs.length=b.vs.length/\∀(f:E) h g,outs[f]?=C h->b.vs[f]?=C g->jX h g d
 bF:(∃n,d.cell? ⟨1,0,F⟩=C (Xd K n))/\uQ d/\4<d.heap.size
 acY:abK b d
 adB:∀e j c,abJ u y.tree b c e->abJ u y.tree b c j->e=j
theorem IC:TP.underlying 96=C (.map 3 3):=A
theorem VW:TP.underlying 3=C (.int K):=A
theorem MW:Et TP 3 OU:=MX VW
theorem US(d:M):(zeroValue 3).run TP d=.ok (Xd K 0) d:=A
section
variable{l:Xj}{k:Xg Out}{b:fG}
theorem eY.stay{n:Xg B}(f:eY n g d)(r:∀c,g.ownBlock=C c->(w'.heap[c]?).map Sim.Obj.whole=(d.heap[c]?).map Sim.Obj.whole):eY n g w':=by
 rcases f with f|⟨a,o,s,z,w,rfl,p,q⟩
 .exact Xh f
 have:=r a A;rw[p]at this;cases i:w'.heap[a]? with
 |none=>simp_all
 |some h=>
  rw[i]at this;cases h with
  |cells t x v=>obtain⟨rfl,rfl,_⟩:=this;exact Xi ⟨a,o,_,_,_,A,i,q⟩
  |_=>simp[Sim.Obj.whole]at this
theorem sZ.stay{n:Xg (Xj×B)}(f:sZ n g d)(r:∀c,g.ownBlock=C c->(w'.heap[c]?).map Sim.Obj.whole=(d.heap[c]?).map Sim.Obj.whole):sZ n g w':=by
 rcases f with f|⟨a,o,s,z,w,rfl,p,q⟩
 .exact Xh f
 have:=r a A;rw[p]at this;cases i:w'.heap[a]? with
 |none=>simp_all
 |some h=>
  rw[i]at this;cases h with
  |cells t x v=>obtain⟨rfl,rfl,_⟩:=this;exact Xi ⟨a,o,_,_,_,A,i,q⟩
  |_=>simp[Sim.Obj.whole]at this
theorem jX.lt{g:Xe×Xe}(e:jX h g d)(a:g.1.ownBlock=C c\/g.2.ownBlock=C c):c<d.heap.size:=by
 rcases a with a|a
 .rcases e.1 with⟨b,_⟩|⟨l,i,f,n,k,b,m,_⟩
  .rw[b]at a;cases a
  rw[b]at a;cases a;grind
 rcases e.2 with⟨b,_⟩|⟨l,i,f,n,k,b,m,_⟩
 .rw[b]at a;cases a
 rw[b]at a;cases a;grind
theorem aK.iY(a:aK u l y k b d)(e:dw b c):c<d.heap.size:=by
 have n:=a.bF.2.2;rcases e with rfl|rfl|⟨g,m,e⟩
 .omega
 .omega
 obtain⟨f,h⟩:=k_.1 m;have i:f<k.length:=by rw[a.outs.1];grind
 exact(a.outs.2 f _ g (Yy i) h).lt e
theorem abK.lt{b:fG}(e:abK b d)(a:ada b c):c<d.heap.size:=by
 obtain⟨f,a⟩:=a;rcases e with e|⟨_,h,i,g⟩
 .exact absurd e f
 rcases a with rfl|rfl|a
 .grind
 .grind
 exact g.lt c a
theorem abK.stay{b:fG}(a:abK b d)(i:∀c,ada b c->w'.heap[c]?=d.heap[c]?):abK b w':=by
 by_cases f:b.li.v=.nilFunc
 .exact Xh f
 rcases a with a|⟨a,n,o,p⟩
 .exact absurd a f
 exact Xi ⟨a,(i _ ⟨f,Xh A⟩).trans n,(i _ ⟨f,Xi (Xh A)⟩).trans o,p.stay λc q=>i c ⟨f,Xi (Xi q)⟩⟩
theorem aK.bj(f:aK u l y k b d)(a:aI u y.tree b c):c<d.heap.size:=by
 rcases a with rfl|a|a|rfl|a|a
 .exact(XN.1 f.ch).1
 .rcases a with rfl|⟨o,i,rfl|rfl⟩
  .obtain⟨p,_,a⟩:=f.top
   grind
  .exact(f.tree.lt i).1
  exact(f.tree.lt i).2
 .exact f.cd.lt a
 .obtain⟨S,n,a,_⟩:=f.jB
  grind
 .exact f.row.lt c a
 exact f.acY.lt a
theorem aK.WU(a:aK u l y k b d)(f:abJ u y.tree b c e):c<d.heap.size:=by
 by_cases g:e=5
 .subst g;exact a.iY f
 exact a.bj (abw.2 ⟨e,g,f⟩)
theorem aK.rest(n:aK u l y k b d)(H:d.heap.size<=w'.heap.size){T:E->Prop}(f:∀e c,¬T e->abJ u y.tree b c e->(w'.heap[c]?).map Sim.Obj.whole=(d.heap[c]?).map Sim.Obj.whole/\(e≠5->w'.heap[c]?=d.heap[c]?)):
 (¬T 0->bw y.tree b.nb b.mb w'/\∃r,Vl r/\w'.heap[b.tb]?=C (Xn #[pt (b.nb []) 0,Xd K y.tree.length,r] 195 (0,0)))/\(¬T 1->dK y.cd b.tw b.mw b.f w')/\(¬T 2->∃S v,w'.heap[b.hb]?=C (.map S v)/\Mp OU S v (fL y.dE))/\
   (¬T 3->w'.heap[u]?=C (Xn (EJ y.timeout l b.tb b.tw b.hb y.now y.aL y.next b.ov b.li.v) 98 (0,0)))/\(¬T 4->cr NB w' 38 16 b.ov k.length (gB k b.vs))/\(¬T 6->abK b w')/\
   (¬T 5->(∀(f:E) h g,k[f]?=C h->b.vs[f]?=C g->jX h g w')/\(∃t,w'.cell? ⟨1,0,F⟩=C (Xd K t))/\uQ w'/\4<w'.heap.size):=by
 refine⟨λa=>?_,λa=>n.cd.stay λc i=>(f 1 c a i).2 (by decide),λa=>?_,λa=>?_,λa=>n.row.stay λc i=>(f 4 c a i).2 (by decide),λa=>n.acY.stay λc i=>(f 6 c a i).2 (by decide),λa=>⟨λL h g q o=>?_,?_⟩⟩
 .have s:=λc(i:pJ y.tree b.nb b.mb b.tb c)=>(f 0 c a i).2 (by decide);obtain⟨r,q,o⟩:=n.top;exact⟨n.tree.stay λx w=>⟨s _ (Xi ⟨x,w,Xh A⟩),s _ (Xi ⟨x,w,Xi A⟩)⟩,r,q,(s _ (Xh A)).trans o⟩
 .rw[(f 2 b.hb a A).2 (by decide)];exact n.jB
 .rw[(f 3 u a A).2 (by decide)];exact n.ch
 .have:=n.outs.2 L h g q o;have p:=Yj o;exact⟨this.1.stay λc i=>(f 5 c a (Xi (Xi ⟨g,p,Xh i⟩))).1,this.2.stay λc i=>(f 5 c a (Xi (Xi ⟨g,p,Xi i⟩))).1⟩
 obtain⟨⟨t,p⟩,o,D⟩:=n.bF;refine⟨⟨t,?_⟩,o.stay (f 5 4 a (Xi (Xh A))).1,XY D H⟩;have:=(f 5 1 a (Xh A)).1;unfold M.cell? at p⊢
 cases q:d.heap[1]? with
 |none=>simp_all
 |some h=>
  rw[q]at p this;cases h with
  |cells O m R=>
   cases z:w'.heap[1]? with
   |none=>simp_all
   |some N=>
    rw[z]at this;cases N with
    |cells Q W U=>simp_all [Sim.Obj.whole]
    |_=>simp[Sim.Obj.whole]at this
  |_=>simp at p
theorem aK.same(a:aK u l y k b d)(f:OW (aI u y.tree b) (dw b) d w'):aK u l y k b w':=by
 obtain⟨i,n,o,p,q,r,m⟩:=a.rest f.size (T:=λ_=>False) λe c _ h=>⟨(by
  by_cases g:e=5
  .subst g;exact f.use c h
  rw[f.own c (abw.2 ⟨e,g,h⟩)]),λg=>f.own c (abw.2 ⟨e,g,h⟩)⟩
 exact⟨(i id).1,(i id).2,a.wf,n id,o id,p id,q id,⟨a.outs.1,(m id).1⟩,(m id).2,r id,a.adB⟩
theorem aK.old(a:aK u l y k b d)(n:d.heap.size<=w'.heap.size)(f:∀c,c<d.heap.size->w'.heap[c]?=d.heap[c]?):aK u l y k b w':=
 haveI:Inhabited aM:=⟨⟨d,λ_=>True⟩⟩;a.same (wJ (λc i=>i.elim a.bj a.iY) n f)
theorem aK.jS(o:aK u l y k b d)(H:d.heap.size<=w'.heap.size)(L:E)(f:E->Prop)(kp:∀c,c<d.heap.size->(∀e,f e->¬abJ u y.tree b c e)->w'.heap[c]?=d.heap[c]?)(v:Tree)(t:fG)(x:∀e c,abJ u v t c e->abJ u y.tree b c e\/e=L/\d.heap.size<=c\/e=5/\c<d.heap.size/\¬aI u y.tree b c)(D:L≠5/\¬f 5):
 (∀e j c,abJ u v t c e->abJ u v t c j->e=j)/\aH (aI u y.tree b) (aI u v t) d w'/\
 (¬f 0->bw y.tree b.nb b.mb w'/\∃N,Vl N/\w'.heap[b.tb]?=C (Xn #[pt (b.nb []) 0,Xd K y.tree.length,N] 195 (0,0)))/\(¬f 1->dK y.cd b.tw b.mw b.f w')/\(¬f 2->∃S z,w'.heap[b.hb]?=C (.map S z)/\Mp OU S z (fL y.dE))/\
   (¬f 3->w'.heap[u]?=C (Xn (EJ y.timeout l b.tb b.tw b.hb y.now y.aL y.next b.ov b.li.v) 98 (0,0)))/\(¬f 4->cr NB w' 38 16 b.ov k.length (gB k b.vs))/\(¬f 6->abK b w')/\
   (∀(s:E) h g,k[s]?=C h->b.vs[s]?=C g->jX h g w')/\(∃X,w'.cell? ⟨1,0,F⟩=C (Xd K X))/\uQ w'/\4<w'.heap.size:=by
 have s:∀e c,¬f e->abJ u y.tree b c e->w'.heap[c]?=d.heap[c]?:=λe c n i=>kp c (o.WU i) λj w a=>n (o.adB e j c i a▸w);obtain⟨Y,Z,a0,a1,a2,a4,a3⟩:=o.rest H (T:=f) λe c a i=>⟨by rw[s e c a i],λ_=>s e c a i⟩;refine⟨λe j c n w=>?_,⟨H,λc i W=>kp c i λe n a=>W (abw.2 ⟨e,λO=>D.2 (O▸n),a⟩),λc i=>?_⟩,Y,Z,a0,a1,a2,a4,a3 D.2⟩
 .rcases x e c n with p|⟨p,Q⟩|⟨p,Q,R⟩<;>rcases x j c w with q|⟨q,T⟩|⟨q,T,U⟩
  .exact o.adB e j c p q
  .have:=o.WU p;omega
  .by_cases a:e=5
   .omega
   exact absurd (abw.2 ⟨e,a,p⟩) U
  .have:=o.WU q;omega
  .omega
  .omega
  .by_cases a:j=5
   .omega
   exact absurd (abw.2 ⟨j,a,q⟩) R
  .omega
  omega
 obtain⟨e,n,i⟩:=abw.1 i;rcases x e c i with a|a|a
 .exact Xh (abw.2 ⟨e,n,a⟩)
 .exact Xi a.2
 exact absurd a.1 n
theorem aK.watched(h:aK u l y k b d){n:Xo->B->Xg Xj}{f:Xe->Xp Xe}(q:dK n b.tw b.mw f w')(g:aH (eF b.tw b.mw b.f) (eF b.tw b.mw f) d w'):
 aK u l {y with cd:=n} k {b with f:=f} w'/\aH (aI u y.tree b) (aI u y.tree {b with f:=f}) d w':=by
 obtain⟨o,p,m,_,s,t,v,x,w,z⟩:=h.jS g.size 1 (·=1) (λc r a=>g.keep c r (a 1 A)) y.tree {b with f:=f} (λe c a=>by
  rcases e with _|_|_|_|_|_|_|e
  case succ.zero=>exact(g.more c a).imp id λa=>Xh ⟨A,a⟩
  all_goals exact Xh a) (by decide)
 exact⟨⟨(m (by decide)).1,(m (by decide)).2,h.wf,q,s (by decide),t (by decide),v (by decide),⟨h.outs.1,w⟩,z,x (by decide),o⟩,p⟩
theorem aK.UN(m:aK u l y k b d){f:Tree}{h g:Path->E}{R:Xg Un}(n:pW f h g b.tb R w')(s:WF f)(i:ye b.tb y.tree b.nb b.mb f h g d w')(x:∀c,¬wH d b.tb c):
 aK u l {y with tree:=f} k {b with nb:=h,mb:=g} w'/\aH (aI u y.tree b) (aI u f {b with nb:=h,mb:=g}) d w':=by
 obtain⟨q,r,_,z,D,H,L,O,N,Q⟩:=m.jS i.size 0 (·=0) (λc w a=>i.kept c w (a 0 A) (x c)) f {b with nb:=h,mb:=g} (λe c a=>by
  rcases e with _|_|_|_|_|_|_|e
  case zero=>exact(i.news c a).imp id λa=>Xh ⟨A,a⟩
  all_goals exact Xh a) (by decide)
 refine⟨⟨n.lg,?_,s,z (by decide),D (by decide),H (by decide),L (by decide),⟨m.outs.1,N⟩,Q,O (by decide),q⟩,r⟩;obtain⟨S,T,t,v,_⟩:=n.top;exact⟨S,Xi v.slice,t⟩
theorem aK.hears(a:aK u l y k b d){se:Xg (Xj×Xj)}{f:E}(t:w'.heap[b.hb]?=C (.map S f))(p:Mp OU S f (fL se))(v:d.heap.size<=w'.heap.size)(s:∀c,c<d.heap.size->c≠b.hb->w'.heap[c]?=d.heap[c]?):
 aK u l {y with dE:=se} k b w'/\aH (aI u y.tree b) (aI u y.tree b) d w':=by
 obtain⟨o,q,n,w,_,x,z,H,D,L⟩:=a.jS v 2 (·=2) (λc r i=>s c r (i 2 A)) y.tree b (λe c i=>Xh i) (by decide);exact⟨⟨(n (by decide)).1,(n (by decide)).2,a.wf,w (by decide),⟨S,f,t,p⟩,x (by decide),z (by decide),⟨a.outs.1,D⟩,L,H (by decide),o⟩,q⟩
theorem aK.nums(a:aK u l y k b d){now aL kR:Xj}(q:w'.heap[u]?=C (Xn (EJ y.timeout l b.tb b.tw b.hb now aL kR b.ov b.li.v) 98 (0,0)))(s:d.heap.size<=w'.heap.size)(r:∀c,c<d.heap.size->c≠u->w'.heap[c]?=d.heap[c]?):
 aK u l {y with now:=now,aL:=aL,next:=kR} k b w'/\aH (aI u y.tree b) (aI u y.tree b) d w':=by
 obtain⟨n,o,i,t,v,_,w,z,x,D⟩:=a.jS s 3 (·=3) (λc p f=>r c p (f 3 A)) y.tree b (λe c f=>Xh f) (by decide);exact⟨⟨(i (by decide)).1,(i (by decide)).2,a.wf,t (by decide),v (by decide),q,w (by decide),⟨a.outs.1,x⟩,D,z (by decide),n⟩,o⟩
theorem aK.Tt(a:aK u l y k b d){H:Xg Un}(g:pW y.tree b.nb b.mb b.tb H w')(r:d.heap.size<=w'.heap.size)(q:∀c,c<d.heap.size->c≠b.tb->w'.heap[c]?=d.heap[c]?):aK u l y k b w'/\aH (aI u y.tree b) (aI u y.tree b) d w':=by obtain⟨h,i,_,s,t,v,w,z,x,D⟩:=a.jS r 0 (·=0) (λc p f=>q c p λm=>f 0 A (Xh m)) y.tree b (λe c f=>Xh f) (by decide);refine⟨⟨g.lg,?_,a.wf,s (by decide),t (by decide),v (by decide),w (by decide),⟨a.outs.1,x⟩,D,z (by decide),h⟩,i⟩;obtain⟨L,N,n,o,_⟩:=g.top;exact⟨L,Xi o.slice,n⟩
theorem qX{k:Xg Out}{a:Xg (Xe×Xe)}(b:k.length=a.length)(h:Out)(g:Xe×Xe):gB (k++[h]) (a++[g])=gB k a++(iC h g).toList:=by simp_all [gB,Xg.zip_append]
theorem aK.VQ(o:aK u l y k b d){g:Xe×Xe}{i:Xe}(n:jX h g d)(q:∀c,g.1.ownBlock=C c\/g.2.ownBlock=C c->¬aI u y.tree b c)
 (R:w'.heap[u]?=C (Xn (EJ y.timeout l b.tb b.tw b.hb y.now y.aL y.next i b.li.v) 98 (0,0)))(a3:cr NB w' 38 16 i (k.length+1) (gB k b.vs++(iC h g).toList))(T:kU d b.ov i)
 (U:d.heap.size<=w'.heap.size)(w:∀c,c<d.heap.size->c≠u->b.ov.ownBlock≠C c->w'.heap[c]?=d.heap[c]?):
 aK u l y (k++[h]) {b with ov:=i,vs:=b.vs++[g]} w'/\aH (aI u y.tree b) (aI u y.tree {b with ov:=i,vs:=b.vs++[g]}) d w':=by
 obtain⟨O,Q,L,W,X,_,_,Z,Y,a0⟩:=o.jS U 4 (λe=>e=3\/e=4) (λc f a=>w c f (a 3 (Xh A)) (a 4 (Xi A))) y.tree {b with ov:=i,vs:=b.vs++[g]} (λe c a=>by
  rcases e with _|_|_|_|_|_|_|e
  .exact Xh a
  .exact Xh a
  .exact Xh a
  .exact Xh a
  .exact(T c a).imp id λa=>Xh ⟨A,a⟩
  .rcases a with a|a|⟨a1,m,a⟩
   .exact Xh (Xh a)
   .exact Xh (Xi (Xh a))
   rcases YC.1 m with m|m
   .exact Xh (Xi (Xi ⟨a1,m,a⟩))
   obtain rfl:=YI.1 m;exact Xi (Xi ⟨A,n.lt a,q c a⟩)
  .exact Xh a
  exact Xh a) (by decide)
 refine⟨⟨(L (by decide)).1,(L (by decide)).2,o.wf,W (by decide),X (by decide),R,?_,⟨?_,λr D s t v=>?_⟩,a0,Z (by decide),O⟩,Q⟩
 .grind [aK.outs,qX]
 .grind [aK.outs]
 have S:=o.outs.1;have z:=λc f=>w c (n.lt f) (λp=>q c f (Xh p)) (λp=>q c f (Xi (Xi (Xi (Xi (Xh p))))));by_cases x:r<k.length
 .rw[Zw x]at t;exact Y r D s t (by rw[<-v];exact(Zw (S▸x)).symm)
 obtain⟨rfl,rfl⟩:h=D/\g=s:=by
  have a2:(b.vs++[g])[r]?=C s:=v
  grind
 exact⟨n.1.stay λc f=>by rw[z c (.inl f)],n.2.stay λc f=>by rw[z c (.inr f)]⟩
theorem aK.adk(i:aK u l y k b d){f:Xe}(p:b.li.v≠.nilFunc)(x:w'.heap[b.li.hs]?=C (Xn #[f] 46 (0,0)))(N:w'.heap[b.li.hv]?=d.heap[b.li.hv]?)(H:cr NB w' 38 16 f (b.hd.length+1) (gB b.hd (b.hd.map λ_=>ln)++(iC h ln).toList))(D:kU d b.lw f)
 (L:d.heap.size<=w'.heap.size)(z:∀c,c<d.heap.size->c≠b.li.hs->b.lw.ownBlock≠C c->w'.heap[c]?=d.heap[c]?):
 aK u l y k {b with lw:=f,hd:=b.hd++[h]} w'/\aH (aI u y.tree b) (aI u y.tree {b with lw:=f,hd:=b.hd++[h]}) d w':=by
 obtain⟨s,t,r,O,Q,R,T,_,U,W⟩:=i.jS L 6 (·=6) (λc w a=>z c w (λn=>a 6 A ⟨p,Xi (Xh n)⟩) λn=>a 6 A ⟨p,Xi (Xi n)⟩) y.tree {b with lw:=f,hd:=b.hd++[h]} (λe c a=>by
  rcases e with _|_|_|_|_|_|_|e
  .exact Xh a
  .exact Xh a
  .exact Xh a
  .exact Xh a
  .exact Xh a
  .exact Xh a
  .rcases a with⟨o,a|a|a⟩
   .exact Xh ⟨o,Xh a⟩
   .exact Xh ⟨o,Xi (Xh a)⟩
   exact(D c a).imp (λa=>⟨o,Xi (Xi a)⟩) λa=>Xh ⟨A,a⟩
  exact a.elim) (by decide)
 rcases i.acY with a|⟨a,v,X,Y⟩
 .exact absurd a p
 refine⟨⟨(r (by decide)).1,(r (by decide)).2,i.wf,O (by decide),Q (by decide),R (by decide),T (by decide),⟨i.outs.1,U⟩,W,Xi ⟨a,N.trans v,x,?_⟩,s⟩,t⟩;show cr NB w' 38 16 f (b.hd++[h]).length (gB (b.hd++[h]) ((b.hd++[h]).map λ_=>ln));rw[aaa,Xg.map_singleton,qX (by simp),Yw];exact H
end
variable{c:M}{a:E}{d:E}
abbrev Pu(c b of:Xj)(a:XB):Xk Xe:=oV c b of 0 a ⟨#[]⟩ Xf 0 0 0 0 0 0 0 (Xm F 0 0) (Xm F 0 0)
theorem wo{d e f g:Xj}{s p:XB}{q:Xo}{h i k l m n o:Xj}{r t:Xe}(b:c.heap[a]?=C (Xn (oV d e f g s p q h i k l m n o r t) 38 (0,0))):
 c.cell? ⟨a,0,F⟩=C (i64 d)/\c.cell? ⟨a,1,F⟩=C (i64 e)/\c.cell? ⟨a,2,F⟩=C (i64 f)/\c.cell? ⟨a,3,F⟩=C (i64 g)/\c.cell? ⟨a,4,F⟩=C (.string s)/\c.cell? ⟨a,5,F⟩=C (.string p)/\c.cell? ⟨a,6,F⟩=C (.bool q)/\c.cell? ⟨a,7,F⟩=C (i64 h)/\c.cell? ⟨a,8,F⟩=C (i64 i)/\c.cell? ⟨a,9,F⟩=C (i64 k)/\c.cell? ⟨a,10,F⟩=C (i64 l)/\c.cell? ⟨a,11,F⟩=C (i64 m)/\c.cell? ⟨a,12,F⟩=C (i64 n)/\c.cell? ⟨a,13,F⟩=C (i64 o)/\c.cell? ⟨a,14,F⟩=C (r)/\c.cell? ⟨a,15,F⟩=C (t):=
 ⟨aa b 0 A,aa b 1 A,aa b 2 A,aa b 3 A,aa b 4 A,aa b 5 A,aa b 6 A,aa b 7 A,aa b 8 A,aa b 9 A,aa b 10 A,aa b 11 A,aa b 12 A,aa b 13 A,aa b 14 A,aa b 15 A⟩
theorem Ow{p c0:E}{of:Xj}{N:Xp Xw}{k:E->Xj}{i:E->XB}{P:E->M->Prop}{r:E->E->Xp Xw->E->E->E->M->Prop}{L:E->E->Xp Xw->E->E->E->M->Prop}{tl:E->E->Xj}
 (a1:0<d->N=C ⟨e,0,F⟩)(e3:d<2^20)(O:P 0 c)
 (U:∀b g,P b g->b<d->g.cell? ⟨e,b*2,F⟩=C (i64 (k b))/\g.cell? ⟨e,b*2+1,F⟩=C (.string (i b)))
 (T:∀b g,P b g->g.cell? ⟨u,3,F⟩=C (pt p 0)/\u<g.heap.size)
 (hF:∀b g,b<d->P b g->∀d4,Calls TP 150 #[pt p 0,i64 (k b),.string (i b)] ((g.alloc (.cells #[i64 (k b),.string (i b)] 269)).drewN d4) λo q=>∃l h m,o=Xs (.slice l h m)/\h<2^20/\r b g.heap.size l h m 0 q)
 (Y:∀b n l h m j g,r b n l h m j g->g.cell? ⟨n,0,F⟩=C (i64 (k b))/\g.cell? ⟨n,1,F⟩=C (.string (i b))/\g.cell? ⟨u,3,F⟩=C (pt p 0)/\(j<h->∃a,l=C ⟨a,0,F⟩/\g.cell? ⟨a,j,F⟩=C (i64 (tl b j))))
 (a0:∀b n l h m j g,j<h->r b n l h m j g->Calls TP 60 #[pt u 0,.agg (Pu (tl b j) (k b) of (i b))] (g.alloc (.cells (Pu (tl b j) (k b) of (i b)) 38)) λo q=>o=Xs (.tuple #[])/\q.heap[g.heap.size]?=C (Xn (Pu (tl b j) (k b) of (i b)) 38 (0,0))/\L b n l h m j q)
 (S:∀b n l h m j g,L b n l h m j g->Calls TP 151 #[pt u 0,.agg (Pu (tl b j) (k b) of (i b))] g λo q=>o=Xs (.tuple #[])/\r b n l h m (j+1) q)
 (Q:∀b n l h m g,r b n l h m h g->P (b+1) g):
 Calls TP 110 #[pt u 0,Xd K of,.slice N d c0] c λo g=>o=Xs (.tuple #[])/\P d g:=by
 have a4:=Xl O;have b0:=Xl U;have a9:=Xl T;have a7:=Xl hF;have w:=Xl Y;have b4:=Xl a0;have a8:=Xl S;have a6:=Xl Q;have a5:=Xl a1;clear O U T hF Y a0 S Q a1;go_enter Tryz.func110,Tryz.ntmps110
 go_wp2
 go_loopw [13] (λb wr=>∃f:E,f<=d/\b=Xd K f/\P f wr) (λb _=>d-(Lib.intOf b).toNat)
 case atStart=>exact⟨0,YA _,A,a4.out⟩
 case round=>
  obtain⟨f,e1,rfl,W⟩:=hrel;have v:=Xl W;clear W;by_cases a3:f<d
  .have c7:=a5.out (by omega);subst c7;obtain⟨c1,c2⟩:=b0.out f wr v.out a3;obtain⟨c3,d1⟩:=a9.out f wr v.out;have b9:(wr.alloc (.cells #[i64 (k f),.string (i f)] 269)).cell? ⟨u,3,F⟩=C (pt p 0):=by simp_all [Yx]
   have d0:(wr.alloc (.cells #[i64 (k f),.string (i f)] 269)).heap[wr.heap.size]?=C (Xn #[i64 (k f),.string (i f)] 269 (0,0)):=Yn wr _;have b5:(wr.alloc (.cells #[i64 (k f),.string (i f)] 269)).drew.cell? ⟨u,3,F⟩=C (pt p 0)/\(wr.alloc (.cells #[i64 (k f),.string (i f)] 269)).drew.cell? ⟨wr.heap.size,0,F⟩=C (i64 (k f))/\(wr.alloc (.cells #[i64 (k f),.string (i f)] 269)).drew.cell? ⟨wr.heap.size,1,F⟩=C (.string (i f)):=by simp_all
   have R:Calls TP 150 #[pt p 0,i64 (k f),.string (i f)] (wr.alloc (.cells #[i64 (k f),.string (i f)] 269)).drew λo q=>∃l h m,o=Xs (.slice l h m)/\h<2^20/\r f wr.heap.size l h m 0 q:=a7.out f wr a3 v.out 1;have D:=Xl R;clear R d0
   go_upto_region 3 with fail
   clear c1 c2 c3 b9 d1
   go_region_held3 (λx=>x.cell? ⟨u,3,F⟩=C (pt p 0)/\x.cell? ⟨wr.heap.size,0,F⟩=C (i64 (k f))/\x.cell? ⟨wr.heap.size,1,F⟩=C (.string (i f)))
    (first|omega|omega)
    (first|(go_at_call 150;refine D.out.mono ?_;rintro o z⟨b7,t,c3,rfl,e2,s⟩;have b6:z.cell? ⟨u,3,F⟩=C (pt p 0)/\z.cell? ⟨wr.heap.size,0,F⟩=C (i64 (k f))/\z.cell? ⟨wr.heap.size,1,F⟩=C (.string (i f)):=⟨(w.out _ _ _ _ _ _ _ s).2.2.1,(w.out _ _ _ _ _ _ _ s).1,(w.out _ _ _ _ _ _ _ s).2.1⟩;have b1:=Xl s;clear s))
   generalize wr.heap.size=n at*
   clear b5 b6 D
   go_wp2
   go_loopw [27] (λb d6=>∃j:E,j<=t/\b=Xd K j/\r f n b7 t c3 j d6) (λb _=>t-(Lib.intOf b).toNat)
   case atStart=>exact⟨0,YA _,A,b1.out⟩
   case round=>
    obtain⟨j,e0,rfl,y⟩:=hrel;obtain⟨d7,d8,_,c6⟩:=w.out _ _ _ _ _ _ _ y;have H:=Xl y;clear y;by_cases a2:j<t
    .obtain⟨a,rfl,d9⟩:=c6 a2;have c8:=Xl (b4.out _ _ _ _ _ _ _ a2 H.out)
     go_wp2_with (first
      |(go_at_call 60;refine c8.out.mono ?_;rintro o f9⟨rfl,c9,Z⟩;obtain⟨e4,q1,f1,f2,f3,f4,f5,f6,f7,f8,e5,e6,e7,e8,e9,f0⟩:=wo c9;have b3:=Xl Z;clear Z)
      |(go_at_call 151;refine(a8.out _ _ _ _ _ _ _ b3.out).mono ?_;rintro o g0⟨rfl,X⟩;have b2:=Xl X;clear X))
     go_roundw
     case rel=>exact⟨j+1,by omega,by go_num,b2.out⟩
     case measure=>simp[Lib.intOf];omega
    have d2:j=t:=by omega
    subst d2
    go_wp2
    go_roundw
    case rel=>exact⟨f+1,by omega,by go_num,a6.out _ _ _ _ _ _ H.out⟩
    case measure=>simp[Lib.intOf];omega
  have d3:f=d:=by omega
  subst d3
  go_wp2
  go_end0
  exact⟨A,v.out⟩
variable{c:E}{a:M}{P:Xy}{Q:Xe}{R:E}
abbrev rV(b ak q:Xj)(t r:XB)(aE s:Xj)(x:Xo)(a:Xe):Xk Xe:=#[i64 b,i64 ak,i64 q,.string t,.string r,i64 aE,i64 s,.bool x,a]
abbrev gV(o:XB)(d e f h i k m:Xj)(a p:Xe):Xk Xe:=#[.string o,i64 d,i64 e,i64 f,i64 h,i64 i,i64 k,i64 m,a,p]
abbrev oZ:Xk Xe:=oV 0 0 0 0 ⟨#[]⟩ ⟨#[]⟩ Xf 0 0 0 0 0 0 0 (Xm F 0 0) (Xm F 0 0)
abbrev oS(ak b:Xj):Xk Xe:=oV ak 0 b 0 ⟨#[]⟩ ⟨#[]⟩ Xf 0 0 0 0 0 0 0 (Xm F 0 0) (Xm F 0 0)
structure qd(c U W:E)(w v V:Xk Xe)(n a:M):Prop where
 h0:a.heap[c]?=C (Xn w U (0,0))
 h1:a.heap[c+1]?=C (Xn v W (0,0))
 h2:a.heap[c+1+1]?=C (Xn oZ 38 (0,0))
 h3:a.heap[c+1+1+1]?=C (Xn V 38 (0,0))
 size:a.heap.size=n.heap.size
 keep:∀g,g≠c+1+1+1->a.heap[g]?=n.heap[g]?
theorem qd.set{h i:E}{g d V:Xk Xe}{k:M}(b:qd c h i g d V k a)(f:E)(Q:Xe):qd c h i g d (V.setIfInBounds f Q) k (a.setCell ⟨c+1+1+1,f,F⟩ Q):=
 ⟨(ai (by omega)).trans b.h0,(ai (by omega)).trans b.h1,(ai (by omega)).trans b.h2,aA b.h3,aS.trans b.size,λl e=>(ai e).trans (b.keep l e)⟩
abbrev jI(a:M)(d c:Xk Xe)(ak b:Xj):M:=(((a.alloc (.cells d 107)).alloc (.cells c 158)).alloc (.cells oZ 38)).alloc (.cells (oS ak b) 38)
theorem gZ{fn:Func}{b:Tmp}{d:Xq}(f:fn.results=#[.cell b d]){e:Xk Xe}{c:Xw}(g:e.getD b I=XA (C c))(h:(loadVar d c).run P a=.ok Q a):
 (results fn e).run P a=.ok Q a:=by
 simp_all [asAddr,results]
theorem pC{b:Xk Xe}{c:E×E}(d:a.heap[R]?=C (Xn b 38 c))(e:b.size=16):(loadVar 38 ⟨R,0,F⟩).run TP a=.ok (.agg b) a:=
 run_loadVar_row a R 38 38 b c _ d A rfl (by rw[e];rfl)
theorem mX{a b c g:Xj}{t o:XB}{l:Xo}{d e f h i k m:Xj}{r s:Xp Xw}{p c1 q c2:E}:(oV a b c g t o l d e f h i k m (.slice r p c1) (.slice s q c2)).all (·.oneCell')=J:=
 a_.2 λQ n=>(Rl Q (by simpa using n)).1
def lD(c:E)(V:Xk Xe)(KP:M->Prop)(e:Ending)(d:M):Prop:=e=Xs (.agg V)/\∃b,KP b/\d.heap.size=b.heap.size/\∀a,a≠c+1+1->a≠c+1+1+1->d.heap[a]?=b.heap[a]?
theorem rm{l m:E}{k f V:Xk Xe}{d:M}{KP:M->Prop}(n:V.size=16)(b:qd c l m k f V d a)(i:KP d):(a.setRow (c+1+1) V).heap[c+1+1]?=C (Xn V 38 (0,0))/\lD c V KP (Xs (.agg V)) (a.setRow (c+1+1) V):=
 ⟨ZY _ _ _ _ _ _ b.h2,A,d,i,by rw[abg];exact b.size,λe g h=>by rw[ZD _ _ _ _ g];exact b.keep e h⟩
section
variable{T:E}{b ak q aE s y:Xj}{t r o:XB}{x:Xo}{O:Xp Xw}{N L:E}{d e f h i k m:Xj}{z:Xp Xw}{H D:E}{p:Xe}{KP S:M->Prop}
theorem xS(R:Calls TP 64 #[pt u 0,i64 ak] (jI a (rV b ak q t r aE s x (.slice O N L)) (gV o d e f h i k m (.slice z H D) p) ak b) λQ c=>Q=Xs (.bool Xf)/\qd a.heap.size 107 158 (rV b ak q t r aE s x (.slice O N L)) (gV o d e f h i k m (.slice z H D) p) (oS ak b) c c/\KP c):
 Calls TP 61 #[pt u 0,.agg (rV b ak q t r aE s x (.slice O N L)),.agg (gV o d e f h i k m (.slice z H D) p)] a (lD a.heap.size (oV ak 0 b 3 ⟨#[]⟩ ⟨#[]⟩ Xf 0 0 0 0 0 0 0 (Xm F 0 0) (Xm F 0 0)) KP):=by
 have U:=Xl R;clear R;go_enter Tryz.func61,Tryz.ntmps61
 go_upto_region 3 with(go_at_call 64;refine U.out.mono ?_;rintro Q c⟨rfl,l,S⟩;have g:=l.h0;have T:=l.h1;have a1:=aa g 1 A;have a2:=aa g 2 A;have a3:=aa g 3 A;have a4:=aa g 7 A;have a5:=aa T 9 A;have n:=Xl l;have W:=Xl S;clear S l g T)
 have a0:=aa n.out.h3 3 A;have a6:=frozenAt n.out.h3 3;obtain⟨w,Z⟩:∃w,c.setCell ⟨a.heap.size+1+1+1,3,F⟩ (i64 3)=w:=by simp
 have X:qd a.heap.size 107 158 (rV b ak q t r aE s x (.slice O N L)) (gV o d e f h i k m (.slice z H D) p) (oV ak 0 b 3 ⟨#[]⟩ ⟨#[]⟩ Xf 0 0 0 0 0 0 0 (Xm F 0 0) (Xm F 0 0)) c w:=by rw[<-Z];exact n.out.set 3 _
 have v:=Xl X
 go_upto_region 4 with fail
 refine ZH ?_;refine Zv A 38 _ A (a.heap.size+1+1+1) A 38 (oV ak 0 b 3 ⟨#[]⟩ ⟨#[]⟩ Xf 0 0 0 0 0 0 0 (Xm F 0 0) (Xm F 0 0)) (0,0) _ v.out.h3 A rfl rfl ?_;refine Zc A 38 _ _ A (a.heap.size+1+1) (oV ak 0 b 3 ⟨#[]⟩ ⟨#[]⟩ Xf 0 0 0 0 0 0 0 (Xm F 0 0) (Xm F 0 0)) A rfl 38 oZ v.out.h2 A rfl mX ?_;have Y:=rm A v.out W.out;have y:=Xl Y
 go_wp2
 exact Zm (gZ A rfl (pC y.out.1 A)) A y.out.2
theorem yV(U:Calls TP 64 #[pt u 0,i64 ak] (jI a (rV b ak q t r aE s x (.slice O N L)) (gV o d e f h i k m (.slice z H D) p) ak b) λw c=>w=Xs (.bool J)/\qd a.heap.size 107 158 (rV b ak q t r aE s x (.slice O N L)) (gV o d e f h i k m (.slice z H D) p) (oS ak b) c c/\KP c)(T:∀a,Calls TP 104 #[p] a λa5 a6=>a5=Xs (i64 y)/\a=a6)(Q:(y==7)=Xf\/(y==7)=J/\(q==9)=Xf)(a8:(y !=0)=J):
 Calls TP 61 #[pt u 0,.agg (rV b ak q t r aE s x (.slice O N L)),.agg (gV o d e f h i k m (.slice z H D) p)] a (lD a.heap.size (oV ak 0 b y ⟨#[]⟩ ⟨#[]⟩ Xf 0 0 0 0 0 0 0 (Xm F 0 0) (Xm F 0 0)) KP):=by
 rcases Q with Q|⟨Q,a9⟩
 all_goals
  have a2:=Xl U;clear U;have a1:=Xl T;clear T;go_enter Tryz.func61,Tryz.ntmps61
  go_upto_region 8 with(first|(go_at_call 64;refine a2.out.mono ?_;rintro w c⟨rfl,l,W⟩;have g:=l.h0;have a0:=l.h1;have b1:=aa g 1 A;have b2:=aa g 2 A;have b3:=aa g 3 A;have b4:=aa g 7 A;have b5:=aa a0 9 A;have n:=Xl l;have a3:=Xl W;clear W l g a0)|(go_at_call 104;refine(a1.out _).mono ?_;rintro w b0⟨rfl,rfl⟩))
  have a4:=aa n.out.h3 3 A;have a7:=frozenAt n.out.h3 3;obtain⟨R,Z⟩:∃R,c.setCell ⟨a.heap.size+1+1+1,3,F⟩ (i64 y)=R:=⟨_,A⟩;have X:qd a.heap.size 107 158 (rV b ak q t r aE s x (.slice O N L)) (gV o d e f h i k m (.slice z H D) p) (oV ak 0 b y ⟨#[]⟩ ⟨#[]⟩ Xf 0 0 0 0 0 0 0 (Xm F 0 0) (Xm F 0 0)) c R:=by rw[<-Z];exact n.out.set 3 _
  have v:=Xl X;clear X
  go_upto_region 9 with fail
  clear a4 a7 Z;refine ZH ?_;refine Zv A 38 _ A (a.heap.size+1+1+1) A 38 (oV ak 0 b y ⟨#[]⟩ ⟨#[]⟩ Xf 0 0 0 0 0 0 0 (Xm F 0 0) (Xm F 0 0)) (0,0) _ v.out.h3 A rfl rfl ?_;refine Zc A 38 _ _ A (a.heap.size+1+1) (oV ak 0 b y ⟨#[]⟩ ⟨#[]⟩ Xf 0 0 0 0 0 0 0 (Xm F 0 0) (Xm F 0 0)) A rfl 38 oZ v.out.h2 A rfl mX ?_;have Y:=rm A v.out a3.out;have S:=Xl Y;clear Y
  go_wp2
  exact Zm (gZ A rfl (pC S.out.1 A)) A S.out.2
end
variable{m:Xe}{q:E}
theorem qf{n:Xq}(r:¬n=135)(a:M):(Instr.typeAssert (.iface n m) 101 135 J).run TP a=.ok (.tuple #[.agg #[Xd K 0,Xd K 0,Xd K 0,.string XB.empty,.string XB.empty,Xd K 0,Xd K 0,.bool Xf,Xm F 0 0,Xd K 0],.bool Xf]) a:=by unfold Instr.typeAssert;go_simp;rfl
theorem Bn{n:Xq}(r:¬n=136)(a:M):(Instr.typeAssert (.iface n m) 101 136 J).run TP a=.ok (.tuple #[.agg #[Xd K 0,Xd K 0,Xd K 0,.string XB.empty,.string XB.empty,Xd K 0,Xd K 0,.bool Xf,Xm F 0 0],.bool Xf]) a:=by unfold Instr.typeAssert;go_simp;rfl
theorem yg(m:Xe)(a:M):(Instr.typeAssert (.iface 136 m) 101 136 J).run TP a=.ok (.tuple #[m,.bool J]) a:=by rfl
theorem Bo{n:Xq}(r:¬n=137)(a:M):(Instr.typeAssert (.iface n m) 101 137 J).run TP a=.ok (.tuple #[.agg #[Xd K 0,Xd K 0,Xd K 0,.string XB.empty,.string XB.empty,Xd K 0,Xd K 0,.bool Xf,Xm F 0 0],.bool Xf]) a:=by unfold Instr.typeAssert;go_simp;rfl
theorem yh(m:Xe)(a:M):(Instr.typeAssert (.iface 140 m) 101 140 J).run TP a=.ok (.tuple #[m,.bool J]) a:=by rfl
section
variable{e:E}{b ak f aE d now aL kR:Xj}{k c:XB}{l:Xo}{i:Xp Xw}{h g:E}{KP p:M->Prop}{o:Xk Xe}
theorem CI(v:Calls TP 64 #[pt u 0,i64 ak] (a.alloc (.cells (rV b ak f k c aE d l (.slice i h g)) 140)) λr s=>r=Xs (.bool Xf)/\s.heap[a.heap.size]?=C (Xn (rV b ak f k c aE d l (.slice i h g)) 140 (0,0))/\KP s)(x:∀s,KP s->Calls TP 60 #[pt u 0,.agg (oV ak 0 b 3 ⟨#[]⟩ ⟨#[]⟩ Xf 0 0 0 0 0 0 0 (Xm F 0 0) (Xm F 0 0))] s λr z=>r=Xs (.tuple #[])/\p z):
 Calls TP 40 #[pt u 0,.iface 140 (.agg (rV b ak f k c aE d l (.slice i h g)))] a λr N=>r=Xs (.tuple #[])/\p N:=by
 have D:=Xl v;have L:=Xl x;clear v x;have O:∀t,_:=qf (n:=140) (m:=.agg (rV b ak f k c aE d l (.slice i h g))) (by decide);have Q:∀t,_:=Bn (n:=140) (m:=.agg (rV b ak f k c aE d l (.slice i h g))) (by decide);have R:∀t,_:=Bo (n:=140) (m:=.agg (rV b ak f k c aE d l (.slice i h g))) (by decide);have S:∀t,_:=yh (.agg (rV b ak f k c aE d l (.slice i h g)));go_enter Tryz.func40,Tryz.ntmps40
 go_wp2_with (first|(go_at_call 64;refine D.out.mono ?_;rintro r s⟨rfl,n,w⟩;have U:=aa n 0 A;have W:=aa n 1 A;have X:=aa n 2 A;have Y:=aa n 3 A;have Z:=aa n 4 A;have a0:=aa n 5 A;have a1:=aa n 6 A;have a2:=aa n 7 A;have a3:=aa n 8 A;have H:=Xl w;clear w n)|(go_at_call 60;refine(L.out _ H.out).mono ?_;rintro r z⟨rfl,T⟩))
 simp_all [Zm,aaP]
theorem JY(S:Calls TP 64 #[pt u 0,i64 ak] (a.alloc (.cells (rV b ak f k c aE d l (.slice i h g)) 140)) λn t=>n=Xs (.bool J)/\t.heap[a.heap.size]?=C (Xn (rV b ak f k c aE d l (.slice i h g)) 140 (0,0))/\KP t){x:Out->Xe×Xe->M->Prop}(U:∀t,KP t->Calls TP 65 #[pt u 0,.agg (rV b ak f k c aE d l (.slice i h g))] t λn v=>∃s m,n=Xs (.agg (iC s m))/\x s m v)(T:∀s m v,x s m v->Calls TP 60 #[pt u 0,.agg (iC s m)] v λn H=>n=Xs (.tuple #[])/\p H):
 Calls TP 40 #[pt u 0,.iface 140 (.agg (rV b ak f k c aE d l (.slice i h g)))] a λn W=>n=Xs (.tuple #[])/\p W:=by
 have L:=Xl S;have Q:=Xl T;have R:=Xl U;have X:∀w,_:=qf (n:=140) (m:=.agg (rV b ak f k c aE d l (.slice i h g))) (by decide);have Y:∀w,_:=Bn (n:=140) (m:=.agg (rV b ak f k c aE d l (.slice i h g))) (by decide);have Z:∀w,_:=Bo (n:=140) (m:=.agg (rV b ak f k c aE d l (.slice i h g))) (by decide);have a0:∀w,_:=yh (.agg (rV b ak f k c aE d l (.slice i h g)));go_enter Tryz.func40,Tryz.ntmps40
 go_wp2_with (first|(go_at_call 64;refine L.out.mono ?_;rintro n t⟨rfl,r,y⟩;have a2:=aa r 0 A;have a3:=aa r 1 A;have a4:=aa r 2 A;have a5:=aa r 3 A;have a6:=aa r 4 A;have a7:=aa r 5 A;have a8:=aa r 6 A;have a9:=aa r 7 A;have b0:=aa r 8 A;have N:=Xl y;clear y r)|(go_at_call 65;refine(R.out _ N.out).mono ?_;rintro n v⟨s,m,rfl,z⟩;have O:=Xl z;clear z)|(go_at_call 60;refine(Q.out _ _ _ O.out).mono ?_;rintro n H⟨rfl,a1⟩))
 go_end0
 simp_all
theorem ET(w:a.heap[u]?=C (Xn o 98 (0,0)))(x:o[4]?=C (.map (C e)))(S:e<a.heap.size)(L:∀n:M,n.heap[e]?=a.heap[e]?->(Builtin.len_ #[96] 3 #[.map (C e)]).run TP n=.ok (Xd K (q:Xj)) n)(a3:¬(q:Xj)<8)(y:∀n:M,a.heap.size<=n.heap.size->(∀s,s<a.heap.size->n.heap[s]?=a.heap[s]?)->Calls TP 60 #[pt u 0,.agg (oV 0 0 b 13 ⟨#[]⟩ ⟨#[]⟩ Xf 0 0 0 0 0 0 0 (Xm F 0 0) (Xm F 0 0))] n λt W=>t=Xs (.tuple #[])/\p W):
 Calls TP 40 #[pt u 0,.iface 136 (.agg (rV b ak f k c aE d l (.slice i h g)))] a λt U=>t=Xs (.tuple #[])/\p U:=by
 have R:=(XN.1 w).1;obtain⟨r,z⟩:∃r,r=((a.alloc (.cells (rV b ak f k c aE d l (.slice i h g)) 136)).alloc (.cells (oV 0 0 b 13 ⟨#[]⟩ ⟨#[]⟩ Xf 0 0 0 0 0 0 0 (Xm F 0 0) (Xm F 0 0)) 38)):=by simp
 have T:r.heap.size=a.heap.size+2:=by simp_all
 have v:∀s,s<a.heap.size->r.heap[s]?=a.heap[s]?:=by grind [Below.heap_alloc]
 have Q:r.heap[a.heap.size]?=C (Xn (rV b ak f k c aE d l (.slice i h g)) 136 (0,0)):=by grind [Below.heap_alloc,heap_alloc_new]
 have D:r.heap[a.heap.size+1]?=C (Xn (oV 0 0 b 13 ⟨#[]⟩ ⟨#[]⟩ Xf 0 0 0 0 0 0 0 (Xm F 0 0) (Xm F 0 0)) 38 (0,0)):=by have:=Yn (a.alloc (.cells (rV b ak f k c aE d l (.slice i h g)) 136)) (.cells (oV 0 0 b 13 ⟨#[]⟩ ⟨#[]⟩ Xf 0 0 0 0 0 0 0 (Xm F 0 0) (Xm F 0 0)) 38);simp_all
 have H:=(v u R).trans w;have Z:=aa H 4 x;have a2:=L r (v e S);have O:=Xl (y r (by omega) v);obtain⟨a4,q1,b1,b2,b3,b4,b5,b6,b7,b8,a5,a6,a7,a8,a9,b0⟩:=wo D;have N:=Xl z;clear L y w x Q D H v T z;have X:∀n,_:=qf (n:=136) (m:=.agg (rV b ak f k c aE d l (.slice i h g))) (by decide);have Y:∀n,_:=yg (.agg (rV b ak f k c aE d l (.slice i h g)));go_enter Tryz.func40,Tryz.ntmps40
 go_upto_region 7 with fail
 have a1:=N.out.symm
 go_wp2_with (go_at_call 60;refine O.out.mono ?_;rintro t c0⟨rfl,a0⟩)
 go_end0
 simp_all
theorem MA(U:a.heap[u]?=C (Xn o 98 (0,0)))(R:o[4]?=C (.map (C e)))(e5:e<a.heap.size)(b8:∀r:M,r.heap[e]?=a.heap[e]?->(Builtin.len_ #[96] 3 #[.map (C e)]).run TP r=.ok (Xd K (q:Xj)) r)(a1:o[5]?=C (i64 now))(a2:o[6]?=C (i64 aL))(e0:o[7]?=C (i64 kR))(b9:e≠u)(g5:(q:Xj)<8)(g4:0<=aL/\aL<2^62)(g6:0<=kR/\kR<2^62){a0:Obj->Prop}
 (a5:∀r:M,r.heap[e]?=a.heap[e]?->∃w,(Instr.mapUpdate 96 (.map (C e)) (i64 kR) (i64 now)).run TP r=.ok () (xW r e w)/\a0 w)
 (a4:∀r:M,a.heap.size<=r.heap.size->r.heap[u]?=C (Xn ((o.setIfInBounds 6 (i64 (aL+1))).setIfInBounds 7 (i64 (kR+1))) 98 (0,0))->(∃w,r.heap[e]?=C w/\a0 w)->(∀n,n<a.heap.size->n≠u->n≠e->r.heap[n]?=a.heap[n]?)->Calls TP 60 #[pt u 0,.agg (oV kR 0 b 0 ⟨#[]⟩ ⟨#[]⟩ Xf 0 0 0 0 0 0 0 (Xm F 0 0) (Xm F 0 0))] r λD f4=>D=Xs (.tuple #[])/\p f4):
 Calls TP 40 #[pt u 0,.iface 136 (.agg (rV b ak f k c aE d l (.slice i h g)))] a λD f3=>D=Xs (.tuple #[])/\p f3:=by
 have e4:=(XN.1 U).1;obtain⟨t,a6⟩:∃t,t=((a.alloc (.cells (rV b ak f k c aE d l (.slice i h g)) 136)).alloc (.cells (oV 0 0 b 13 ⟨#[]⟩ ⟨#[]⟩ Xf 0 0 0 0 0 0 0 (Xm F 0 0) (Xm F 0 0)) 38)):=by simp
 have e8:t.heap.size=a.heap.size+2:=by simp_all
 have W:∀n,n<a.heap.size->t.heap[n]?=a.heap[n]?:=by grind [Below.heap_alloc]
 have b0:t.heap[a.heap.size]?=C (Xn (rV b ak f k c aE d l (.slice i h g)) 136 (0,0)):=by grind [Below.heap_alloc,heap_alloc_new]
 have b2:t.heap[a.heap.size+1]?=C (Xn (oV 0 0 b 13 ⟨#[]⟩ ⟨#[]⟩ Xf 0 0 0 0 0 0 0 (Xm F 0 0) (Xm F 0 0)) 38 (0,0)):=by have:=Yn (a.alloc (.cells (rV b ak f k c aE d l (.slice i h g)) 136)) (.cells (oV 0 0 b 13 ⟨#[]⟩ ⟨#[]⟩ Xf 0 0 0 0 0 0 0 (Xm F 0 0) (Xm F 0 0)) 38);simp_all
 have O:=(W u e4).trans U;have d7:=aa O 4 R;have e6:=b8 t (W e e5);have d8:=aa O 6 a2;have d9:=frozenAt O 6;obtain⟨v,a7⟩:∃v,t.setCell ⟨u,6,F⟩ (i64 (aL+1))=v:=by simp
 have X:∀n,n≠u->v.heap[n]?=t.heap[n]?:=by grind [ai]
 have e9:v.heap.size=t.heap.size:=by grind [aS]
 have b6:v.heap[u]?=C (Xn (o.setIfInBounds 6 (i64 (aL+1))) 98 (0,0)):=by grind [aA]
 have d6:v.cell? ⟨u,7,F⟩=C (i64 kR):=by grind [aa]
 have b1:=(X a.heap.size (by omega)).trans b0;have S:=(X (a.heap.size+1) (by omega)).trans b2;have d5:=aa b1 0 A;obtain⟨s,H⟩:∃s,s=v.drew.setRow (a.heap.size+1) (oV kR 0 b 0 ⟨#[]⟩ ⟨#[]⟩ Xf 0 0 0 0 0 0 0 (Xm F 0 0) (Xm F 0 0)):=by simp
 have c0:∀n,n≠a.heap.size+1->s.heap[n]?=v.heap[n]?:=λn N=>by rw[H];exact ZD _ _ _ _ N
 have f0:s.heap.size=v.heap.size:=by simp_all
 have b3:s.heap[a.heap.size+1]?=C (Xn (oV kR 0 b 0 ⟨#[]⟩ ⟨#[]⟩ Xf 0 0 0 0 0 0 0 (Xm F 0 0) (Xm F 0 0)) 38 (0,0)):=by rw[H];exact ZY _ _ _ _ _ _ S
 have z:=(c0 u (by omega)).trans b6;have c6:s.heap[e]?=a.heap[e]?:=by grind
 have f7:=aa z 4 (by rw[YO];simpa using R);have f8:=aa z 5 (by rw[YO];simpa using a1);have f9:s.cell? ⟨u,7,F⟩=C (i64 kR):=aa z 7 (by simp_all);obtain⟨w,Q,a3⟩:=a5 s.drew c6;obtain⟨x,L⟩:∃x,xW s.drew e w=x:=by simp
 rw[L]at Q;have e7:e<s.heap.size:=by omega
 have Y:∀n,n≠e->x.heap[n]?=s.heap[n]?:=λn N=>by rw[<-L];show(s.heap.setIfInBounds e w)[n]?=_;grind
 have c7:x.heap[e]?=C w:=by grind
 have f1:x.heap.size=s.heap.size:=by rw[<-L];simp
 have T:=(Y u (YX b9)).trans z;have b4:=(Y (a.heap.size+1) (by omega)).trans b3;have g7:x.cell? ⟨u,7,F⟩=C (i64 kR):=aa T 7 (by grind);have g8:=frozenAt T 7;obtain⟨y,a9⟩:∃y,x.setCell ⟨u,7,F⟩ (i64 (kR+1))=y:=by simp
 have Z:∀n,n≠u->y.heap[n]?=x.heap[n]?:=λn N=>by grind [ai]
 have f2:y.heap.size=x.heap.size:=by grind [aS]
 have b7:y.heap[u]?=C (Xn ((o.setIfInBounds 6 (i64 (aL+1))).setIfInBounds 7 (i64 (kR+1))) 98 (0,0)):=by grind [aA]
 have b5:=(Z (a.heap.size+1) (by omega)).trans b4;have e1:=Xl (a4 y (by omega) b7 ⟨w,(Z e b9).trans c7,a3⟩ λn N g0 g1=>by grind);have c8:=Xl S;have c9:=Xl b5;have d1:=Xl a6;have d2:=Xl a7;have d3:=Xl H;have d4:=Xl a9;have d0:=Xl Q;clear a5 a4 b8 U R a1 a2 e0 b0 b2 O W e8 a6 a7 X e9 b6 b1 S H c0 f0 b3 z c6 a3 L Y c7 f1 T b4 a9 Z f2 b7 b5 e7 Q;have f5:∀r,_:=qf (n:=136) (m:=.agg (rV b ak f k c aE d l (.slice i h g))) (by decide);have f6:∀r,_:=yg (.agg (rV b ak f k c aE d l (.slice i h g)));go_enter Tryz.func40,Tryz.ntmps40
 go_upto_region 7 with fail
 have e2:=d1.out.symm;have e3:=d2.out
 go_upto_region 9 with fail
 clear e2 e3 d7 d8 d9 e6
 go_still_tail 8,(by kernel_rfl)
 change wpList _ _ _ _ _ v.drew
 refine Zc A 38 _ _ A (a.heap.size+1) (oV kR 0 b 0 ⟨#[]⟩ ⟨#[]⟩ Xf 0 0 0 0 0 0 0 (Xm F 0 0) (Xm F 0 0)) A rfl 38 (oV 0 0 b 13 ⟨#[]⟩ ⟨#[]⟩ Xf 0 0 0 0 0 0 0 (Xm F 0 0) (Xm F 0 0)) c8.out A rfl mX ?_;have a8:=d3.out.symm;rw[a8];clear d6 d5 a8
 go_upto_region 10 with fail
 have Q:=d0.out
 go_still_tail 12,(by kernel_rfl)
 have g3:=d4.out
 go_upto_region 12 with fail
 obtain⟨g9,q1,h6,h7,h8,h9,i0,i1,i2,i3,h0,h1,h2,h3,h4,h5⟩:=wo c9.out
 go_wp2_with (go_at_call 60;refine e1.out.mono ?_;rintro D i5⟨rfl,g2⟩)
 go_end0
 simp_all
end
variable{m:E}{O:E}
structure ly(m:E)(v V:Xk Xe)(t a:M):Prop where
 h0:a.heap[m]?=C (Xn v 140 (0,0))
 h2:a.heap[m+1]?=C (Xn oZ 38 (0,0))
 h3:a.heap[m+1+1]?=C (Xn V 38 (0,0))
 size:a.heap.size=t.heap.size
 keep:∀n,n≠m+1+1->a.heap[n]?=t.heap[n]?
theorem ly.set{e V:Xk Xe}{g:M}(b:ly m e V g a)(d:E)(f:Xe):ly m e (V.setIfInBounds d f) g (a.setCell ⟨m+1+1,d,F⟩ f):=
 ⟨(ai (by omega)).trans b.h0,(ai (by omega)).trans b.h2,aA b.h3,aS.trans b.size,λh c=>(ai c).trans (b.keep h c)⟩
theorem ly.base{c V:Xk Xe}{d:M}(b:ly m c V d a):ly m c V a a:=⟨b.h0,b.h2,b.h3,A,λ_ _=>rfl⟩
abbrev ug(a:M)(c:Xk Xe)(ak b:Xj):M:=((a.alloc (.cells c 140)).alloc (.cells oZ 38)).alloc (.cells (oS ak b) 38)
def zt(m:E)(V:Xk Xe)(KP:M->Prop)(d:Ending)(c:M):Prop:=d=Xs (.agg V)/\∃b,KP b/\c.heap.size=b.heap.size/\∀a,a≠m+1->a≠m+1+1->c.heap[a]?=b.heap[a]?
theorem IK{h V:Xk Xe}{c:M}{KP:M->Prop}(i:V.size=16)(b:ly m h V c a)(g:KP c):(a.setRow (m+1) V).heap[m+1]?=C (Xn V 38 (0,0))/\zt m V KP (Xs (.agg V)) (a.setRow (m+1) V):=
 ⟨ZY _ _ _ _ _ _ b.h2,A,c,g,by rw[abg];exact b.size,λd e f=>by rw[ZD _ _ _ _ e];exact b.keep d f⟩
section
variable{b ak c aE e o aL:Xj}{f d:XB}{k:Xo}{p:Xk Xe}{i:Xp Xw}{h g:E}{r q s:M->Prop}
theorem OG(e1:(c==2)=Xf)(e2:(c==7)=Xf)(a8:a.heap[u]?=C (Xn p 98 (0,0)))(c0:p[6]?=C (i64 aL))(d9:p[2]?=C (pt O 0))(e0:0<=aL/\aL<2^62)(Y:Calls TP 109 #[pt O 0] ((ug a (rV b ak c f d aE e k (.slice i h g)) ak b).setCell ⟨u,6,F⟩ (i64 (aL+1))) λy n=>y=Xs (.tuple #[])/\ly a.heap.size (rV b ak c f d aE e k (.slice i h g)) (oS ak b) n n/\(n.cell? ⟨u,2,F⟩=C (pt O 0)/\n.cell? ⟨u,6,F⟩=C (i64 (aL+1)))/\r n)(a1:∀l,r l->ly a.heap.size (rV b ak c f d aE e k (.slice i h g)) (oS ak b) l l->∀d1,Calls TP 113 #[pt O 0,.agg #[i64 c,.string f,.string d,i64 aE,i64 e],i64 ak,i64 (aL+1)] (l.drewN d1) λy z=>y=Xs (.tuple #[.string ⟨#[]⟩,Xm F 0 0,.iface 32 (i64 o)])/\ly a.heap.size (rV b ak c f d aE e k (.slice i h g)) (oS ak b) z z/\(z.cell? ⟨u,2,F⟩=C (pt O 0)/\z.cell? ⟨u,6,F⟩=C (i64 (aL+1)))/\q z)(a0:∀a,Calls TP 104 #[.iface 32 (i64 o)] a λd2 n=>d2=Xs (i64 o)/\a=n)(d8:(o !=0)=J):
 Calls TP 65 #[pt u 0,.agg (rV b ak c f d aE e k (.slice i h g))] a (zt a.heap.size (oV ak 0 b o ⟨#[]⟩ ⟨#[]⟩ Xf 0 0 0 0 0 0 0 (Xm F 0 0) (Xm F 0 0)) q):=by
 have b0:=Xl a0;clear a0;have b1:=Xl a1;have xo:=(XN.1 a8).1;obtain⟨H,T⟩:∃H,H=ug a (rV b ak c f d aE e k (.slice i h g)) ak b:=by simp
 have Q:H.heap[u]?=C (Xn p 98 (0,0)):=by grind [Below.heap_alloc]
 have b8:=aa Q 6 c0;have b9:=frozenAt Q 6;have a6:=aA (n:=6) (i:=i64 (aL+1)) Q;obtain⟨L,N⟩:∃L,L=H.setCell ⟨u,6,F⟩ (i64 (aL+1)):=by simp
 rw[<-N]at a6;have b7:L.cell? ⟨u,2,F⟩=C (pt O 0):=by grind [aa]
 have Z:Calls TP 109 #[pt O 0] L λy n=>y=Xs (.tuple #[])/\ly a.heap.size (rV b ak c f d aE e k (.slice i h g)) (oS ak b) n n/\(n.cell? ⟨u,2,F⟩=C (pt O 0)/\n.cell? ⟨u,6,F⟩=C (i64 (aL+1)))/\r n:=by rw[N,T];exact Y
 have a9:=Xl Z;have b5:=Xl T;have b6:=Xl N;clear Y Z a1 N T a8 Q a6;go_enter Tryz.func65,Tryz.ntmps65
 go_upto_region 5 with fail
 have c7:=b5.out.symm;have c8:=b6.out.symm
 go_upto_region 6 with fail
 clear b8 b9 c7
 go_upto_region 7 with(go_at_call 109;refine a9.out.mono ?_;rintro y l⟨rfl,a5,a7,a3⟩;have v:=Xl a5;have W:=Xl a7;have b3:=Xl a3;clear a5 a7 a3)
 clear b7 c8;have d3:=aa v.out.h0 2 A
 go_upto_region 12 with fail
 have a2:=b1.out l b3.out v.out 1;have b2:=Xl a2;clear a2 d3;have d5:l.drew.cell? ⟨u,2,F⟩=C (pt O 0)/\l.drew.cell? ⟨u,6,F⟩=C (i64 (aL+1))/\l.drew.cell? ⟨a.heap.size,0,F⟩=C (i64 b)/\l.drew.cell? ⟨a.heap.size,1,F⟩=C (i64 ak)/\l.drew.cell? ⟨a.heap.size,2,F⟩=C (i64 c)/\l.drew.cell? ⟨a.heap.size,3,F⟩=C (.string f)/\l.drew.cell? ⟨a.heap.size,4,F⟩=C (.string d)/\l.drew.cell? ⟨a.heap.size,5,F⟩=C (i64 aE)/\l.drew.cell? ⟨a.heap.size,6,F⟩=C (i64 e):=⟨W.out.1,W.out.2,aa (e:=l.drew) v.out.h0 0 A,aa (e:=l.drew) v.out.h0 1 A,aa (e:=l.drew) v.out.h0 2 A,aa (e:=l.drew) v.out.h0 3 A,aa (e:=l.drew) v.out.h0 4 A,aa (e:=l.drew) v.out.h0 5 A,aa (e:=l.drew) v.out.h0 6 A⟩
 go_region_held3 (λw=>w.cell? ⟨u,2,F⟩=C (pt O 0)/\w.cell? ⟨u,6,F⟩=C (i64 (aL+1))/\w.cell? ⟨a.heap.size,0,F⟩=C (i64 b)/\w.cell? ⟨a.heap.size,1,F⟩=C (i64 ak)/\w.cell? ⟨a.heap.size,2,F⟩=C (i64 c)/\w.cell? ⟨a.heap.size,3,F⟩=C (.string f)/\w.cell? ⟨a.heap.size,4,F⟩=C (.string d)/\w.cell? ⟨a.heap.size,5,F⟩=C (i64 aE)/\w.cell? ⟨a.heap.size,6,F⟩=C (i64 e))
  (first|omega|omega)
  (first|(go_at_call 113;refine b2.out.mono ?_;rintro y t⟨rfl,x,R,a4⟩;have d6:t.cell? ⟨u,2,F⟩=C (pt O 0)/\t.cell? ⟨u,6,F⟩=C (i64 (aL+1))/\t.cell? ⟨a.heap.size,0,F⟩=C (i64 b)/\t.cell? ⟨a.heap.size,1,F⟩=C (i64 ak)/\t.cell? ⟨a.heap.size,2,F⟩=C (i64 c)/\t.cell? ⟨a.heap.size,3,F⟩=C (.string f)/\t.cell? ⟨a.heap.size,4,F⟩=C (.string d)/\t.cell? ⟨a.heap.size,5,F⟩=C (i64 aE)/\t.cell? ⟨a.heap.size,6,F⟩=C (i64 e):=⟨R.1,R.2,aa x.h0 0 A,aa x.h0 1 A,aa x.h0 2 A,aa x.h0 3 A,aa x.h0 4 A,aa x.h0 5 A,aa x.h0 6 A⟩;have S:=Xl x;have d4:=Xl R;have b4:=Xl a4;clear x a4 R))
 have c3:=aa S.out.h3 3 A;have e6:=frozenAt S.out.h3 3;obtain⟨U,d0⟩:∃U,t.setCell ⟨a.heap.size+1+1,3,F⟩ (i64 o)=U:=by simp
 have c6:ly a.heap.size (rV b ak c f d aE e k (.slice i h g)) (oV ak 0 b o ⟨#[]⟩ ⟨#[]⟩ Xf 0 0 0 0 0 0 0 (Xm F 0 0) (Xm F 0 0)) t U:=by rw[<-d0];exact S.out.set 3 _
 have D:=Xl c6
 go_upto_region 14 with(go_at_call 104;refine(b0.out _).mono ?_;rintro y e5⟨rfl,rfl⟩)
 have d7:=aa D.out.h3 3 A
 go_upto_region 15 with fail
 refine ZH ?_;refine Zv A 38 _ A (a.heap.size+1+1) A 38 (oV ak 0 b o ⟨#[]⟩ ⟨#[]⟩ Xf 0 0 0 0 0 0 0 (Xm F 0 0) (Xm F 0 0)) (0,0) _ D.out.h3 A rfl rfl ?_;refine Zc A 38 _ _ A (a.heap.size+1) (oV ak 0 b o ⟨#[]⟩ ⟨#[]⟩ Xf 0 0 0 0 0 0 0 (Xm F 0 0) (Xm F 0 0)) A rfl 38 oZ D.out.h2 A rfl mX ?_;have c9:=IK A D.out b4.out;have X:=Xl c9
 go_wp2
 exact Zm (gZ A rfl (pC X.out.1 A)) A X.out.2
theorem xk{c6:Xe}{V:Xk Xe}{d5 d6:M->Prop}{q:Xp Xw->E->E->M->Prop}{x a8:XB}{T U W X Y Z a0:Xj}(l1:(c==2)=Xf)(l2:(c==7)=Xf)(g5:a.heap[u]?=C (Xn p 98 (0,0)))(j6:p[6]?=C (i64 aL))(k9:p[2]?=C (pt O 0))(l0:0<=aL/\aL<2^62)(d9:Calls TP 109 #[pt O 0] ((ug a (rV b ak c f d aE e k (.slice i h g)) ak b).setCell ⟨u,6,F⟩ (i64 (aL+1))) λn v=>n=Xs (.tuple #[])/\ly a.heap.size (rV b ak c f d aE e k (.slice i h g)) (oS ak b) v v/\(v.cell? ⟨u,2,F⟩=C (pt O 0)/\v.cell? ⟨u,6,F⟩=C (i64 (aL+1)))/\r v)(e2:∀l,r l->ly a.heap.size (rV b ak c f d aE e k (.slice i h g)) (oS ak b) l l->∀k1,Calls TP 113 #[pt O 0,.agg #[i64 c,.string f,.string d,i64 aE,i64 e],i64 ak,i64 (aL+1)] (l.drewN k1) λn t=>∃D L H,n=Xs (.tuple #[.string x,.slice D L H,.nilIface])/\ly a.heap.size (rV b ak c f d aE e k (.slice i h g)) (oS ak b) t t/\(t.cell? ⟨u,2,F⟩=C (pt O 0)/\t.cell? ⟨u,6,F⟩=C (i64 (aL+1)))/\q D L H t)(e1:∀a,Calls TP 104 #[.nilIface] a λk3 v=>k3=Xs (i64 0)/\a=v)(f8:∀D L H t,q D L H t->ly a.heap.size (rV b ak c f d aE e k (.slice i h g)) (oV ak 0 b 0 ⟨#[]⟩ ⟨#[]⟩ Xf 0 0 0 0 0 0 0 (Xm F 0 0) (Xm F 0 0)) t t->Calls TP 110 #[pt u 0,i64 b,.slice D L H] t λn w=>n=Xs (.tuple #[])/\ly a.heap.size (rV b ak c f d aE e k (.slice i h g)) (oV ak 0 b 0 ⟨#[]⟩ ⟨#[]⟩ Xf 0 0 0 0 0 0 0 (Xm F 0 0) (Xm F 0 0)) w w/\w.cell? ⟨u,2,F⟩=C (pt O 0)/\s w)(e4:∀w,s w->ly a.heap.size (rV b ak c f d aE e k (.slice i h g)) (oV ak 0 b 0 x ⟨#[]⟩ Xf 0 0 0 0 0 0 0 (Xm F 0 0) (Xm F 0 0)) w w->Calls TP 58 #[pt O 0,.string x] w λn a2=>∃a3 a5 a4,n=Xs (.tuple #[.agg #[.string a8,i64 T,i64 U,i64 W,i64 X,i64 Y,i64 Z,i64 a0,.slice a3 a5 a4],c6])/\(∀a7,ly a.heap.size (rV b ak c f d aE e k (.slice i h g)) (oV ak 0 b 0 x ⟨#[]⟩ Xf 0 0 0 0 0 0 0 (Xm F 0 0) (Xm F 0 0)) (a2.alloc a7) (a2.alloc a7))/\d5 a2)(e7:∀D L H t N,q D L H t->ly a.heap.size (rV b ak c f d aE e k (.slice i h g)) (oV ak 0 b 0 ⟨#[]⟩ ⟨#[]⟩ Xf 0 0 0 0 0 0 0 (Xm F 0 0) (Xm F 0 0)) t N->q D L H N)(e8:∀t N,s t->ly a.heap.size (rV b ak c f d aE e k (.slice i h g)) (oV ak 0 b 0 x ⟨#[]⟩ Xf 0 0 0 0 0 0 0 (Xm F 0 0) (Xm F 0 0)) t N->s N)(e9:∀a2 a7,d5 a2->d6 (a2.alloc a7))(g0:.nilIface=c6/\oV ak 0 b 0 x ⟨#[]⟩ J T U W X Y Z a0 (Xm F 0 0) (Xm F 0 0)=V\/.iface 32 (i64 o)=c6/\oV ak 0 b 0 x ⟨#[]⟩ Xf 0 0 0 0 0 0 0 (Xm F 0 0) (Xm F 0 0)=V):
 Calls TP 65 #[pt u 0,.agg (rV b ak c f d aE e k (.slice i h g))] a (zt a.heap.size V d6):=by
 have i5:=Xl g0;clear g0;have h1:=Xl e1;have i3:=Xl f8;have h4:=Xl e4;have i0:=Xl e7;have i1:=Xl e8;have i2:=Xl e9;clear e1 f8 e4 e7 e8 e9;have h2:=Xl e2;have xo:=(XN.1 g5).1;obtain⟨b1,c8⟩:∃b1,b1=ug a (rV b ak c f d aE e k (.slice i h g)) ak b:=by simp
 have b5:b1.heap[u]?=C (Xn p 98 (0,0)):=by grind [Below.heap_alloc]
 have j4:=aa b5 6 j6;have j5:=frozenAt b5 6;have g2:=aA (n:=6) (i:=i64 (aL+1)) b5;obtain⟨b2,b4⟩:∃b2,b2=b1.setCell ⟨u,6,F⟩ (i64 (aL+1)):=by simp
 rw[<-b4]at g2;have j3:b2.cell? ⟨u,2,F⟩=C (pt O 0):=by grind [aa]
 have e0:Calls TP 109 #[pt O 0] b2 λn v=>n=Xs (.tuple #[])/\ly a.heap.size (rV b ak c f d aE e k (.slice i h g)) (oS ak b) v v/\(v.cell? ⟨u,2,F⟩=C (pt O 0)/\v.cell? ⟨u,6,F⟩=C (i64 (aL+1)))/\r v:=by rw[b4,c8];exact d9
 have g9:=Xl e0;have i6:=Xl c8;have i7:=Xl b4;clear d9 e0 e2 b4 c8 g5 b5 g2;go_enter Tryz.func65,Tryz.ntmps65
 go_upto_region 5 with fail
 have j7:=i6.out.symm;have j8:=i7.out.symm
 go_upto_region 6 with fail
 clear j4 j5 j7
 go_upto_region 7 with(go_at_call 109;refine g9.out.mono ?_;rintro n l⟨rfl,f3,g4,e6⟩;have Q:=Xl f3;have d3:=Xl g4;have h6:=Xl e6;clear f3 g4 e6)
 clear j3 j8;have k4:=aa Q.out.h0 2 A
 go_upto_region 12 with fail
 have e3:=h2.out l h6.out Q.out 1;have h3:=Xl e3;clear e3 k4;have i8:l.drew.cell? ⟨u,2,F⟩=C (pt O 0)/\l.drew.cell? ⟨u,6,F⟩=C (i64 (aL+1))/\l.drew.cell? ⟨a.heap.size,0,F⟩=C (i64 b)/\l.drew.cell? ⟨a.heap.size,1,F⟩=C (i64 ak)/\l.drew.cell? ⟨a.heap.size,2,F⟩=C (i64 c)/\l.drew.cell? ⟨a.heap.size,3,F⟩=C (.string f)/\l.drew.cell? ⟨a.heap.size,4,F⟩=C (.string d)/\l.drew.cell? ⟨a.heap.size,5,F⟩=C (i64 aE)/\l.drew.cell? ⟨a.heap.size,6,F⟩=C (i64 e):=⟨d3.out.1,d3.out.2,aa (e:=l.drew) Q.out.h0 0 A,aa (e:=l.drew) Q.out.h0 1 A,aa (e:=l.drew) Q.out.h0 2 A,aa (e:=l.drew) Q.out.h0 3 A,aa (e:=l.drew) Q.out.h0 4 A,aa (e:=l.drew) Q.out.h0 5 A,aa (e:=l.drew) Q.out.h0 6 A⟩
 go_region_held3 (λR=>R.cell? ⟨u,2,F⟩=C (pt O 0)/\R.cell? ⟨u,6,F⟩=C (i64 (aL+1))/\R.cell? ⟨a.heap.size,0,F⟩=C (i64 b)/\R.cell? ⟨a.heap.size,1,F⟩=C (i64 ak)/\R.cell? ⟨a.heap.size,2,F⟩=C (i64 c)/\R.cell? ⟨a.heap.size,3,F⟩=C (.string f)/\R.cell? ⟨a.heap.size,4,F⟩=C (.string d)/\R.cell? ⟨a.heap.size,5,F⟩=C (i64 aE)/\R.cell? ⟨a.heap.size,6,F⟩=C (i64 e))
  (first|omega|omega)
  (first|(go_at_call 113;refine h3.out.mono ?_;rintro n y⟨D,L,H,rfl,S,b6,f0⟩;have i9:y.cell? ⟨u,2,F⟩=C (pt O 0)/\y.cell? ⟨u,6,F⟩=C (i64 (aL+1))/\y.cell? ⟨a.heap.size,0,F⟩=C (i64 b)/\y.cell? ⟨a.heap.size,1,F⟩=C (i64 ak)/\y.cell? ⟨a.heap.size,2,F⟩=C (i64 c)/\y.cell? ⟨a.heap.size,3,F⟩=C (.string f)/\y.cell? ⟨a.heap.size,4,F⟩=C (.string d)/\y.cell? ⟨a.heap.size,5,F⟩=C (i64 aE)/\y.cell? ⟨a.heap.size,6,F⟩=C (i64 e):=⟨b6.1,b6.2,aa S.h0 0 A,aa S.h0 1 A,aa S.h0 2 A,aa S.h0 3 A,aa S.h0 4 A,aa S.h0 5 A,aa S.h0 6 A⟩;have c0:=Xl S;have k8:=Xl b6;have h7:=Xl f0;clear S f0 b6))
 clear i8 i9;have c3:=aa c0.out.h3 3 A;have k5:=frozenAt c0.out.h3 3;obtain⟨N,g8⟩:∃N,y.setCell ⟨a.heap.size+1+1,3,F⟩ (i64 0)=N:=by simp
 have b3:ly a.heap.size (rV b ak c f d aE e k (.slice i h g)) (oV ak 0 b 0 ⟨#[]⟩ ⟨#[]⟩ Xf 0 0 0 0 0 0 0 (Xm F 0 0) (Xm F 0 0)) y N:=by rw[<-g8];exact c0.out.set 3 _
 have f9:=i3.out D L H N (i0.out _ _ _ _ _ h7.out b3) b3.base;have i4:=Xl f9;have d7:=Xl b3;clear b3 f9
 go_upto_region 14 with(go_at_call 104;refine(h1.out _).mono ?_;rintro n a2⟨rfl,rfl⟩)
 clear c3 k5 g8;have j2:=aa d7.out.h3 3 A;have j1:=aa d7.out.h0 0 A
 go_upto_region 17 with(go_at_call 110;refine i4.out.mono ?_;rintro n w⟨rfl,f5,g3,f1⟩;have b9:=Xl f5;have h0:=Xl g3;have h8:=Xl f1;clear f5 g3 f1)
 clear j2 j1;have k2:=aa b9.out.h3 4 A;have k7:=frozenAt b9.out.h3 4;obtain⟨a9,c9⟩:∃a9,w.setCell ⟨a.heap.size+1+1,4,F⟩ (.string x)=a9:=by simp
 have c7:ly a.heap.size (rV b ak c f d aE e k (.slice i h g)) (oV ak 0 b 0 x ⟨#[]⟩ Xf 0 0 0 0 0 0 0 (Xm F 0 0) (Xm F 0 0)) w a9:=by rw[<-c9];exact b9.out.set 4 _
 have j9:a9.cell? ⟨u,2,F⟩=C (pt O 0):=by rw[<-c9,QY (λn=>by omega)];exact h0.out
 have e5:=h4.out a9 (i1.out _ _ h8.out c7) c7.base;have h5:=Xl e5;clear e5 c7
 go_upto_region 19 with(go_at_call 58;refine h5.out.mono ?_;rintro n b7⟨a3,a5,a4,rfl,f6,f2⟩;have a6:=Xl (f6 (.cells #[.string a8,i64 T,i64 U,i64 W,i64 X,i64 Y,i64 Z,i64 a0,.slice a3 a5 a4] 154));have h9:=Xl (i2.out b7 (.cells #[.string a8,i64 T,i64 U,i64 W,i64 X,i64 Y,i64 Z,i64 a0,.slice a3 a5 a4] 154) f2);have g1:=Yn b7 (.cells #[.string a8,i64 T,i64 U,i64 W,i64 X,i64 Y,i64 Z,i64 a0,.slice a3 a5 a4] 154);have d2:=Xl g1;clear f6 f2 g1)
 clear k2 k7 c9 j9;generalize b7.alloc (.cells #[.string a8,i64 T,i64 U,i64 W,i64 X,i64 Y,i64 Z,i64 a0,.slice a3 a5 a4] 154)=d0 at*
 rcases i5.out with⟨rfl,rfl⟩|⟨rfl,rfl⟩
 focus
  go_upto_region 20 with fail
  have j0:=aa a6.out.h3 6 A;have k6:=frozenAt a6.out.h3 6;obtain⟨b8,g7⟩:∃b8,d0.setCell ⟨a.heap.size+1+1,6,F⟩ (.bool J)=b8:=by simp
  have f7:ly a.heap.size (rV b ak c f d aE e k (.slice i h g)) (oV ak 0 b 0 x ⟨#[]⟩ J 0 0 0 0 0 0 0 (Xm F 0 0) (Xm F 0 0)) d0 b8:=by rw[<-g7];exact a6.out.set 6 _
  have z:=Xl f7;clear f7
  go_upto_region 21 with fail
  clear j0 k6 g7;have a1:=(z.out.keep b7.heap.size (λn=>by have d8:=a6.out.h3;rw[<-n,d2.out]at d8;cases d8)).trans d2.out;have l3:=aa a1 1 A;have l4:=aa a1 2 A;have l5:=aa a1 3 A;have l6:=aa a1 4 A;have l7:=aa a1 5 A;have l8:=aa a1 6 A;have l9:=aa a1 7 A;have m0:=aa z.out.h3 7 A;have m1:=aa z.out.h3 8 A;have m2:=aa z.out.h3 9 A;have m3:=aa z.out.h3 10 A;have m4:=aa z.out.h3 11 A;have m5:=aa z.out.h3 12 A;have m6:=aa z.out.h3 13 A;have m8:=frozenAt z.out.h3;clear a1;obtain⟨d1,k0⟩:∃d1,(((((((b8.setCell ⟨a.heap.size+1+1,7,F⟩ (i64 T)).setCell ⟨a.heap.size+1+1,8,F⟩ (i64 U)).setCell ⟨a.heap.size+1+1,9,F⟩ (i64 W)).setCell ⟨a.heap.size+1+1,10,F⟩ (i64 X)).setCell ⟨a.heap.size+1+1,11,F⟩ (i64 Y)).setCell ⟨a.heap.size+1+1,12,F⟩ (i64 Z)).setCell ⟨a.heap.size+1+1,13,F⟩ (i64 a0))=d1:=by simp
  have f4:ly a.heap.size (rV b ak c f d aE e k (.slice i h g)) (oV ak 0 b 0 x ⟨#[]⟩ J T U W X Y Z a0 (Xm F 0 0) (Xm F 0 0)) d0 d1:=by rw[<-k0];exact((((((z.out.set 7 _).set 8 _).set 9 _).set 10 _).set 11 _).set 12 _).set 13 _
  have b0:=Xl f4;clear f4
  go_upto_region 22 with fail
 rotate_left
 have b0:=a6
 focus
  go_upto_region 22 with fail
 rotate_left
 all_goals
  refine ZH ?_;refine Zv A 38 _ A (a.heap.size+1+1) A 38 _ (0,0) _ b0.out.h3 A rfl rfl ?_;refine Zc A 38 _ _ A (a.heap.size+1) _ A rfl 38 oZ b0.out.h2 A rfl mX ?_;have g6:=IK A b0.out h9.out;have d4:=Xl g6;clear g6
  go_wp2
  exact Zm (gZ A rfl (pC d4.out.1 A)) A d4.out.2
end
variable{e:fG}{c:M}{b:M}{h:Xe}{f:Out}{i:E}{m:Tree}{a:E}
section
variable[Inhabited aM]
theorem eZ(c:Xg (Xj×Xj))(id:Xj):fL c (Xd K id)=(c.find? λb=>decide (b.1=id)).map λb=>i64 b.2:=A
theorem ti{id:Xj}:(fL y.dE (Xd K id)).isSome=Wt.known y id:=by rw[eZ,Xp.isSome_map,aa0,Xg.find?_isSome];simp[Wt.known]
theorem vE(c:Xg (Xj×Xj))(id now:Xj)(d:Xj):((c.map λb=>if b.1=id then(b.1,now)else b).find? λb=>decide (b.1=d))=(c.find? λb=>decide (b.1=d)).map λb=>if b.1=id then(b.1,now)else b:=by
 induction c with
 |nil=>rfl
 |cons b c e=>grind
theorem zZ{id:Xj}(e:Wt.known y id=J):fL (Wt.heard y id).dE (Xd K id)=C (i64 y.now)/\∀b,b≠Xd K id->fL (Wt.heard y id).dE b=fL y.dE b:=by
 have d:=e;rw[<-ti,eZ,Xp.isSome_map]at d;obtain⟨c,f⟩:=XR.1 d;have hid:c.1=id:=by grind
 refine⟨?_,λb l=>?_⟩
 .show Xp.map _ (Xg.find? _ (y.dE.map _))=_;rw[vE,f];simp[hid]
 cases b with
 |int g i=>
  cases g with
  |i64=>
   rw[eZ,eZ];show Xp.map _ (Xg.find? _ (y.dE.map _))=_;rw[vE];cases k:Xg.find? (λc=>decide (c.1=i)) y.dE with
   |none=>rfl
   |some h=>grind
  |_=>rfl
 |_=>rfl
section
variable{g:Xj}{k:Xg Out}
theorem Hp(f:aK u g y k e c)(id:Xj):Calls TP 64 #[pt u 0,Xd K id] c λd b=>d=Xs (.bool (Wt.known y id))/\aK u g (if Wt.known y id then Wt.heard y id else y) k e b/\aH (aI u y.tree e) (aI u y.tree e) c b:=by
 obtain⟨z,w,r,p⟩:=f.jB;have i:=p.get MW IC (US c) r (k:=Xd K id) ⟨id,A⟩ J;have l:=ti (y:=y) (id:=id);cases o:Wt.known y id with
 |true=>
  rw[o]at l;obtain⟨h,m⟩:=XR.1 l;obtain⟨H,L⟩:=zZ o;obtain⟨q,rfl⟩:∃q,h=i64 q:=by
   rw[eZ]at m;cases W:Xg.find? (λd=>decide (d.1=id)) y.dE with
   |none=>simp_all
   |some d=>grind
  rw[m]at i;have s:c.drew.heap[e.hb]?=C (.map z w):=r;obtain⟨D,x,O,v⟩:=p.put MW IC s (k:=Xd K id) ⟨id,A⟩ (i64 y.now) (g:=fL (Wt.heard y id).dE) H L;refine(JK f.ch i O).mono λd S⟨n,t⟩=>⟨n,?_⟩;obtain⟨q1,R⟩:=abf (o':=.map D x) s;rw[t];exact f.hears (se:=(Wt.heard y id).dE) q1 v (by simp) (λa U N=>R a N)
 |false=>
  rw[o]at l;have m:fL y.dE (Xd K id)=F:=by simpa using l
  rw[m]at i;refine(Nf f.ch i).mono λd S⟨n,t⟩=>⟨n,?_⟩;simp_all [aH.refl]
theorem eY.form{e:Xg B}(d:eY e h c):∃a i b,h=.slice a i b:=by rcases d with⟨rfl,_⟩|⟨_,_,_,_,_,rfl,_⟩<;>exact⟨_,_,_,A⟩
theorem sZ.form{e:Xg (Xj×B)}(d:sZ e h c):∃a i b,h=.slice a i b:=by rcases d with⟨rfl,_⟩|⟨_,_,_,_,_,rfl,_⟩<;>exact⟨_,_,_,A⟩
theorem Gj(i:aK u g y k e c)(t:k.length<2^20){h:Xe×Xe}(l:jX f h c)(r:∀a,h.1.ownBlock=C a\/h.2.ownBlock=C a->¬aI u y.tree e a):
 Calls TP 60 #[pt u 0,.agg (iC f h)] c λm b=>m=Xs (.tuple #[])/\∃d,aK u g y (k++[f]) {e with ov:=d,vs:=e.vs++[h]} b/\aH (aI u y.tree e) (aI u y.tree {e with ov:=d,vs:=e.vs++[h]}) c b:=by
 obtain⟨Q,R⟩:=h;obtain⟨N,H,c1,n⟩:=l.1.form;obtain⟨O,L,c2,o⟩:=l.2.form;subst n o;refine(Oi i.ch A i.row t).mono λm b⟨q,x,s,d,p,w,v⟩=>⟨q,d,?_⟩;exact i.VQ l r p w v x s
theorem Uu(c:M):(binOp .eql 75 .nilFunc .nilFunc).run TP c=.ok (.bool J) c:=A
theorem Nj{v:Xk Xe}(w:c.heap[u]?=C (Xn v 98 (0,0)))(y:v[9]?=C .nilFunc)(d e f g:Xj)(r s:XB)(p:Xo)(h i k l m n o:Xj)(q t:Xe):Calls TP 151 #[pt u 0,.agg (oV d e f g r s p h i k l m n o q t)] c λx b=>x=Xs (.tuple #[])/\b=c.alloc (.cells (oV d e f g r s p h i k l m n o q t) 38):=by
 have z:=(XN.1 w).1
 have D:(c.alloc (.cells (oV d e f g r s p h i k l m n o q t) 38)).cell? ⟨u,9,F⟩=C .nilFunc:=by rw[Yx _ _ _ z];exact aa w 9 y
 have H:=Uu (c.alloc (.cells (oV d e f g r s p h i k l m n o q t) 38));go_enter Tryz.func151,Tryz.ntmps151
 go_wp2
 simp[Zm,aaP]
theorem aK.ghost(b:aK u g y k e c)(d:e.li.v=.nilFunc)(s:Xg Out):aK u g y k {e with hd:=s} c:=by obtain⟨f,i,l,m,n,o,p,q,r,t,h⟩:=b;exact⟨f,i,l,m,n,o,p,q,r,Xh d,h⟩
theorem acr{R l:E}{N:Xe}{c7:Xg Xe}{n o p q:Xj}{O Q:XB}{H:Xo}{r s t v w x z:Xj}(L:c.heap[R]?=C (Xn #[pt l 0] 41 (0,0)))(T:c.heap[l]?=C (Xn #[N] 46 (0,0)))(U:cr NB c 38 16 N i c7)(g2:i<2^28):
 Calls TP 30 #[.agg (oV n o p q O Q H r s t v w x z (Xm F 0 0) (Xm F 0 0)),pt R 0] c λD b=>D=Xs (.tuple #[])/\c.heap.size<=b.heap.size/\(∀a,a<c.heap.size->a≠l->N.ownBlock≠C a->b.heap[a]?=c.heap[a]?)/\
  ∃a9,b.heap[l]?=C (Xn #[a9] 46 (0,0))/\cr NB b 38 16 a9 (i+1) (c7++(oV n o p q O Q H r s t v w x z (Xm F 0 0) (Xm F 0 0)).toList)/\kU c N a9:=by
 obtain⟨g3,g6,d4,d1,d5⟩:=UI;have a6:=(XN.1 L).1;have a7:=(XN.1 T).1
 have b8:N.ownBlock≠C R:=λD=>by obtain⟨b3,W,_⟩:=U.blk R D;simp_all
 have b9:N.ownBlock≠C l:=λD=>by obtain⟨b3,W,_⟩:=U.blk l D;simp_all
 obtain⟨d,d0⟩:∃d,c.alloc (.cells (oV n o p q O Q H r s t v w x z (Xm F 0 0) (Xm F 0 0)) 38)=d:=by simp
 have X:∀a,a<c.heap.size->d.heap[a]?=c.heap[a]?:=by grind [Below.heap_alloc]
 have b6:d.heap[c.heap.size]?=C (Xn (oV n o p q O Q H r s t v w x z (Xm F 0 0) (Xm F 0 0)) 38 (0,0)):=by grind [heap_alloc_new]
 have c6:d.heap.size=c.heap.size+1:=by rw[<-d0];simp
 have c1:=aa ((X R a6).trans L) 0 A;have c2:=aa ((X l a7).trans T) 0 A;obtain⟨e3,e4,f1,f2,f3,f4,f5,f6,f7,f8,e5,e6,e7,e8,e9,f0⟩:=wo b6;have d3:=λf=>(U.stay (w':=d.drew) λa0 a5=>X a0 (U.lt a0 a5)).alloc f
 have b7:∀S,(d.drew.alloc (.cells (oV n o p q O Q H r s t v w x z (Xm F 0 0) (Xm F 0 0)) 38)).grownBy S N.ownBlock->∀a,a<c.heap.size->N.ownBlock≠C a->S.heap[a]?=c.heap[a]?:=λS a4 a a3 d2=>by rw[a4.block a (by show a<(d.heap.push _).size;simp;omega) (λD=>d2 D.symm),XQ _ _ _ (by show a<d.heap.size;omega)];exact X a a3
 have KP:=Xl b7;have a1:=Xl (And.intro L (And.intro b8 a6));have a2:=Xl (And.intro T (And.intro b9 a7));have d6:=Xl U.lt;have c9:=Xl c6;have e1:(d.alloc (.cells (oV n o p q O Q H r s t v w x z (Xm F 0 0) (Xm F 0 0)) 38)).cell? ⟨R,0,F⟩=C (pt l 0):=(Yx d _ _ (show R<d.heap.size by omega)).trans c1;have e2:(d.alloc (.cells (oV n o p q O Q H r s t v w x z (Xm F 0 0) (Xm F 0 0)) 38)).cell? ⟨l,0,F⟩=C N:=(Yx d _ _ (show l<d.heap.size by omega)).trans c2;clear L T U b8 b9 X b6 c6 b7 a6 a7;go_enter Tryz.func30,Tryz.ntmps30
 go_wp2
 go_region_law (first|(refine xX rfl _ _ 43 rfl rfl (d3 _) d4 d1 d5 rfl (oV n o p q O Q H r s t v w x z (Xm F 0 0) (Xm F 0 0)).toList rfl (JV d.drew _ _) Rl (by omega) ?_;intro g5 S a8 Z c0;obtain⟨d7,g4,e0,rfl⟩:=a8.slice;have Y:=(KP.out S Z l a2.out.2.2 a2.out.2.1).trans a2.out.1;have d9:=aa Y 0 A;have f9:=frozenAt Y 0;have d8:=aa ((KP.out S Z R a1.out.2.2 a1.out.2.1).trans a1.out.1) 0 A;have b0:=Xl Y;have b1:=Xl Z;have c8:=Xl c0;have b2:=Xl a8;clear Y c0 a8 Z))
 all_goals
  go_end0
  have b5:(d.drew.alloc (.cells (oV n o p q O Q H r s t v w x z (Xm F 0 0) (Xm F 0 0)) 38)).heap.size=c.heap.size+2:=by show(d.heap.push _).size=_;simp;exact c9.out
  have g1:c.heap.size+2<=S.heap.size:=by rw[<-b5];exact b1.out.size
  refine⟨A,by grind [aS],λa a3 L T=>?_,_,aA b0.out,?_,λb4 a4=>?_⟩
  .rw[ai L];exact KP.out S b1.out a a3 T
  .refine b2.out.stay λa0 a5=>ai λD=>?_;obtain⟨b3,L,_⟩:=b2.out.blk a0 a5;rw[D,b0.out]at L;cases L
  rcases c8.out b4 a4 with W|W
  .exact Xh W
  have g0:c.heap.size+2<=b4:=by rw[<-b5];exact W
  omega
theorem acV(c:M):CallsD TP 182 #[] .returning c λe g b=>e=Xs (.tuple #[])/\g=.returning/\b=c:=by refine callsD_of_wpS Tryz.func182 A λd h f=>?_;apply wpS_region;simp[wpOpsS,go_sem,recoverD,f,Tryz.ntmps182,Exit.thenS,bodyPostS,results,Tryz.results182];cases d;simp_all
theorem acs{O:Xk Xe}{L:E}{Q:M->Prop}(N:c.heap[u]?=C (Xn O 98 (0,0)))(S:O[9]?=C (.func (.func 30) #[] #[pt L 0])){d l n o:Xj}{z D:XB}{x:Xo}{p q r s t v w:Xj}
 (U:∀W,Calls TP 30 #[.agg (oV d l n o z D x p q r s t v w (Xm F 0 0) (Xm F 0 0)),pt L 0] ((c.alloc (.cells (oV d l n o z D x p q r s t v w (Xm F 0 0) (Xm F 0 0)) 38)).drewN W) λH b=>H=Xs (.tuple #[])/\Q b):
 Calls TP 151 #[pt u 0,.agg (oV d l n o z D x p q r s t v w (Xm F 0 0) (Xm F 0 0))] c λH b=>H=Xs (.tuple #[])/\Q b:=by
 have R:=(XN.1 N).1
 have Z:(c.alloc (.cells (oV d l n o z D x p q r s t v w (Xm F 0 0) (Xm F 0 0)) 38)).cell? ⟨u,9,F⟩=C (.func (.func 30) #[] #[pt L 0]):=by rw[Yx _ _ _ R];exact aa N 9 S
 obtain⟨a0,a1,a8,a9,b0,b1,b2,b3,b4,b5,a2,a3,a4,a5,a6,a7⟩:=wo (Yn c (.cells (oV d l n o z D x p q r s t v w (Xm F 0 0) (Xm F 0 0)) 38));have b8:∀c,(binOp .eql 75 (.func (.func 30) #[] #[pt L 0]) .nilFunc).run TP c=.ok (.bool Xf) c:=λ_=>rfl;clear N R
 go_enter_defers Tryz.func151,Tryz.ntmps151
 go_wp2
 generalize b7:c.heap.size=b9 at*
 generalize c.alloc (.cells (oV d l n o z D x p q r s t v w (Xm F 0 0) (Xm F 0 0)) 38)=X at*
 go_still_tail 5,(by kernel_rfl)
 go_wp2_with (go_at_call 30;refine(U 1).mono ?_;rintro _ c7⟨rfl,T⟩)
 refine leaves_cons (f:=182) (args:=#[]) (by simp) (by simp[go_sem]) ?_;refine(acV _).mono ?_;rintro H c0 c6⟨rfl,rfl,rfl⟩;simp[Leaves,settle,results,Tryz.results151,go_sem];exact T
theorem acu(m:aK u g y k e c)(f:Out)(q:e.hd.length<2^28):Calls TP 151 #[pt u 0,.agg (iC f ln)] c λi b=>i=Xs (.tuple #[])/\∃n,aK u g y k n b/\aH (aI u y.tree e) (aI u y.tree n) c b/\(∀a,dw n a->dw e a)/\Ln e n [f]/\n.tw=e.tw:=by
 have s:∀V,(c.alloc (.cells V 38)).heap.size=c.heap.size+1:=λV=>by simp
 have r:∀V a,a<c.heap.size->(c.alloc (.cells V 38)).heap[a]?=c.heap[a]?:=λV a h=>XQ c _ a h;rcases m.acY with d|⟨d,l,t,v⟩
 .refine(Nj m.ch (by rw[d];rfl) _ _ _ _ _ _ _ _ _ _ _ _ _ _ _ _).mono λi b⟨p,H⟩=>⟨p,{e with hd:=e.hd++[f]},?_,?_,λa d=>d,⟨A,A,A⟩,A⟩
  .rw[H];exact(m.old (by rw[s];omega) (r _)).ghost d _
  rw[H];exact⟨by rw[s];omega,λa h _=>r _ a h,λa d=>Xh d⟩
 refine acs (L:=e.li.hv) m.ch (by rw[d];rfl) λL=>?_;show Calls TP 30 #[.agg (iC f ln),pt e.li.hv 0] ((c.alloc (.cells (iC f ln) 38)).drewN L) _;generalize z:(c.alloc (.cells (iC f ln) 38)).drewN L=x;have b0:x.heap.size=c.heap.size+1:=by rw[<-z];exact s _
 have o:∀a,a<c.heap.size->x.heap[a]?=c.heap[a]?:=λa h=>by rw[<-z];exact r _ a h
 have N:=m.old (by omega) o;have lt:=λ(a:E)(f:Obj)(h:c.heap[a]?=C f)=>(XN.1 h).1;refine(acr (n:=f.ak) (o:=f.ev) (p:=f.idx) (q:=f.err) (O:=bs f.path) (Q:=bs f.data) (H:=f.found) (r:=f.stat.made) (s:=f.stat.set) (t:=f.stat.aE) (v:=f.stat.ez) (w:=f.stat.own) (x:=f.stat.size) (z:=f.stat.kids) ((o _ (lt _ _ l)).trans l) ((o _ (lt _ _ t)).trans t) (v.stay λa h=>o a (v.lt a h)) q).mono λi b⟨p,T,D,b2,q1,U,W⟩=>?_;have Q:e.li.v≠.nilFunc:=λi=>by rw[d]at i;cases i
 have R:e.li.hv≠e.li.hs:=λi=>by rw[i,t]at l;simp at l
 have S:e.lw.ownBlock≠C e.li.hv:=λi=>by obtain⟨a8,d,_⟩:=v.blk _ i;rw[l]at d;simp at d
 obtain⟨O,w⟩:=N.adk (h:=f) Q q1 (D _ (by have:=lt _ _ l;omega) R S) U W T D;exact⟨p,_,O,⟨by omega,λa h q=>(w.keep a (by omega) q).trans (o a h),λa h=>(w.more a h).imp id λd=>by omega⟩,λa d=>d,⟨A,A,A⟩,A⟩
theorem zd(of:Xj):∀(c:Xg Wt.Ev)(y:cN)(b:Wt.Ev),Wt.tell of y (c++[b])=((Wt.lu of (Wt.tell of y c).1 b).1,(Wt.tell of y c).2++(Wt.lu of (Wt.tell of y c).1 b).2)
 |[],y,b=>by
  simp[Wt.tell]
 |d::c,y,b=>by simp[Wt.tell,zd]
theorem ze(of:Xj):∀(n:Xg Wt.Ev){y:cN},(∀d l,(y.cd d l).length<=i)->∀d l,((Wt.tell of y n).1.cd d l).length<=i
 |[],y,o=>o
 |p::n,y,o=>by
  refine ze of n (y:=(Wt.lu of y p).1) λd l=>?_;unfold Wt.lu
  grind
theorem Cc(c:Xj):∀b:Xg Xj,(dF c b).length<=b.length+1
 |[]=>by simp[dF]
 |d::b=>by
  unfold dF;split
  .simp
  split
  .simp
  have:=Cc c b;simp only[Yl];omega
theorem mO(b:Xg Xj):∀a:Xg Xj,(a.foldr dF b).length<=a.length+b.length
 |[]=>by simp
 |c::a=>by have d:=Cc c (a.foldr dF b);have e:=mO b a;simp only[aaY,Yl];omega
theorem pR(e:∀c d,(y.cd c d).length<=i)(b:Wt.Ev):(Wt.toldOf y b).length<=i+i:=by grind [Wt.toldOf,mO]
theorem EW(c:Xg Wt.Ev)(b:E)(d:Wt.Ev)(e:c[b]?=C d):(ib c)[b*2]?=C (i64 d.1)/\(ib c)[b*2+1]?=C (.string (bs d.2)):=by
 unfold ib
 induction c generalizing b with
 |nil=>simp at e
 |cons g c f=>
  cases b with
  |zero=>simp_all
  |succ b=>grind
def yq(of:Xj)(b:Wt.Ev)(c:Xj):Out:={ak:=c,ev:=b.1,idx:=of,path:=b.2}
theorem Kd(of:Xj)(b:Wt.Ev)(d:Xj)(c:M):jX (yq of b d) ln c:=⟨Xh ⟨A,A⟩,Xh ⟨A,A⟩⟩
def mD(u:E)(g:Xj)(f:cN)(i:Xg Out)(m:Tree)(e:fG)(h:Xg Out)(c b:M)(d:fG):Prop:=aK u g f i d b/\f.tree=m/\aH (aI u m e) (aI u m d) c b/\(∀a,dw d a->dw e a)/\Ln e d h
theorem mD.step{N p:cN}{L s q h₂:Xg Out}{m:Tree}{n d:fG}{t w₂:M}(o:mD u g N L m e q c t n)(w:aK u g p s d w₂)(D:p.tree=m)(v:aH (aI u m n) (aI u m d) t w₂)(H:∀a,dw d a->dw n a)(z:Ln n d h₂):mD u g p s m e (q++h₂) c w₂ d:=
 ⟨w,D,o.2.2.1.trans v,λa x=>o.2.2.2.1 a (H a x),o.2.2.2.2.trans z⟩
theorem mD.step0{D n:cN}{z p o:Xg Out}{l d:fG}{q w₂:M}(t:mD u g D z m e o c q l)(s:aK u g n p d w₂)(w:n.tree=m)(r:aH (aI u m l) (aI u m d) q w₂)(x:∀a,dw d a->dw l a)(v:Ln l d []):mD u g n p m e o c w₂ d:=by have:=t.step s w r x v;rwa [YT]at this
theorem aH.out{own p:E->Prop}(l:aH own p c b)(n:a<c.heap.size)(o:¬own a):b.heap[a]?=c.heap[a]?/\¬p a/\a<b.heap.size:=
 ⟨l.keep a n o,λd=>by
   rcases l.more a d with d|d
   .exact o d
   omega,XY n l.size⟩
theorem ID{d:Xe}:∀a,dw {e with ov:=d,vs:=e.vs++[ln]} a->dw e a:=λa f=>by
 rcases f with b|b|⟨h,c,b⟩
 .exact Xh b
 .exact Xi (Xh b)
 replace c:=c;rcases YC.1 c with c|c
 .exact Xi (Xi ⟨h,c,b⟩)
 simp at c;subst c;rcases b with b|b<;>cases b
theorem Tn(f2:aK u g y k e c)(h2:∀d5 a1,(y.cd d5 a1).length<=8){m:Xg Wt.Ev}{h4:E}(g1:Ru m h h4 c)(g3:∀a,h.ownBlock=C a->¬aI u y.tree e a)(i2:m.length<2^10)(i4:k.length+16*m.length<2^20)(i3:e.hd.length+16*m.length<2^28)(of:Xj):
 Calls TP 110 #[pt u 0,Xd K of,h] c λW b=>W=Xs (.tuple #[])/\∃n,mD u g (Wt.tell of y m).1 (k++(Wt.tell of y m).2) y.tree e (Wt.tell of y m).2 c b n:=by
 obtain⟨q,h1,d0⟩:∃q,(∃c0,h=.slice c0 m.length m.length/\(0<m.length->c0=C ⟨q,0,F⟩))/\(0<m.length->c.heap[q]?=C (Xn (ib m) 269 (0,0))/\¬aI u y.tree e q):=by
  rcases g1 with⟨rfl,rfl⟩|⟨q,rfl,Y,_,Q⟩
  .exact⟨0,⟨F,A,λl=>absurd l (by simp)⟩,λl=>absurd l (by simp)⟩
  exact⟨q,⟨_,A,λ_=>rfl⟩,λ_=>⟨Q,g3 q A⟩⟩
 obtain⟨c0,rfl,g0⟩:=h1;obtain⟨f,e4⟩:∃f:E->Wt.Ev,∀d,d<m.length->m[d]?=C (f d):=⟨λd=>m.getD d (0,[]),λd v=>by simp[List.getD,v]⟩
 let p:=λd=>(Wt.tell of y (m.take d)).1
 let U:=λd=>(Wt.tell of y (m.take d)).2
 let f1:=λd=>k++U d
 have b7:∀d,(p d).tree=y.tree:=λd=>sP of _ y;have b8:∀d d5 a1,((p d).cd d5 a1).length<=8:=λd=>ze of _ h2
 have g7:∀d,d<m.length->p (d+1)=(Wt.lu of (p d) (f d)).1/\U (d+1)=U d++(Wt.toldOf (p d) (f d)).map (yq of (f d)):=λd v=>by
  have N:m.take (d+1)=m.take d++[f d]:=by rw[ZX,e4 d v];rfl
  show(Wt.tell of y (m.take (d+1))).1=_/\(Wt.tell of y (m.take (d+1))).2=_;rw[N,zd];exact⟨A,A⟩
 have e8:∀d,d<=m.length->(U d).length<=16*d:=λd=>by
  induction d with
  |zero=>intro _;show(Wt.tell of y []).2.length<=_;simp[Wt.tell]
  |succ d i6=>intro v;have Q:=pR (b8 d) (f d);rw[(g7 d (by omega)).2,Yw,ZU];omega
 let P:E->M->Prop:=λd b=>∃n,mD u g (p d) (f1 d) y.tree e (U d) c b n/\n.tw=e.tw/\(0<m.length->b.heap[q]?=C (Xn (ib m) 269 (0,0))/\¬aI u y.tree n q/\q<b.heap.size)
 let d8:E->E->E->Xp Xw->E->E->E->M->Prop:=λf0 d x a H R j b=>d<m.length/\f0<=H/\H=(Wt.toldOf (p d) (f d)).length/\∃n,mD u g (Wt.lu of (p d) (f d)).1 (f1 d++((Wt.toldOf (p d) (f d)).take f0).map (yq of (f d))) y.tree e (U d++((Wt.toldOf (p d) (f d)).take j).map (yq of (f d))) c b n/\n.tw=e.tw/\(0<m.length->b.heap[q]?=C (Xn (ib m) 269 (0,0))/\¬aI u y.tree n q/\q<b.heap.size)/\
  (b.heap[x]?=C (Xn #[i64 (f d).1,.string (bs (f d).2)] 269 (0,0))/\¬aI u y.tree n x/\x<b.heap.size)/\(0<H->∃r L,a=C ⟨r,0,F⟩/\b.heap[r]?=C (Xn L 3 (0,0))/\L.toList.take H=(Wt.toldOf (p d) (f d)).map i64/\¬aI u y.tree n r/\r<b.heap.size)
 let d7:E->E->Xp Xw->E->E->E->M->Prop:=λd x a H R j b=>d8 j d x a H R j b
 let d9:E->E->Xp Xw->E->E->E->M->Prop:=λd x a H R j b=>d8 (j+1) d x a H R j b
 have g2:∀b,P m.length b->∃n,mD u g (Wt.tell of y m).1 (k++(Wt.tell of y m).2) y.tree e (Wt.tell of y m).2 c b n:=λb⟨n,l,_⟩=>by have N:m.take m.length=m:=N_;have e2:mD u g (Wt.tell of y (m.take m.length)).1 (k++(Wt.tell of y (m.take m.length)).2) y.tree e (Wt.tell of y (m.take m.length)).2 c b n:=l;rw[N]at e2;exact⟨n,e2⟩
 refine aaU (Ow (p:=e.tw) (e:=q) (k:=λd=>(f d).1) (i:=λd=>bs (f d).2) (tl:=λd j=>(Wt.toldOf (p d) (f d)).getD j 0) (P:=P) (r:=d7) (L:=d9) g0 (by omega) ?_ ?_ ?_ ?_ ?_ ?_ ?_ ?_) λW b⟨X,l⟩=>⟨X,g2 b l⟩
 ·
  refine⟨e,⟨?_,A,aH.refl _ _,λa l=>l,Ln.refl e⟩,A,λl=>⟨(d0 l).1,(d0 l).2,(XN.1 (d0 l).1).1⟩⟩;show aK u g (Wt.tell of y []).1 (k++(Wt.tell of y []).2) e c;simp only[Wt.tell,YT];exact f2
 ·
  intro d b⟨n,_,_,l⟩ v;obtain⟨Y,_⟩:=l (by omega);obtain⟨q1,h7⟩:=EW m d (f d) (e4 d v);exact⟨aa Y _ q1,aa Y _ h7⟩
 ·
  intro d b⟨n,l,D,_⟩;have a0:=l.1.ch;rw[D]at a0;exact⟨aa a0 3 A,(XN.1 a0).1⟩
 ·
  intro d b v⟨n,l,D,Z⟩ a1;obtain⟨t,T⟩:∃t,t=(b.alloc (.cells #[i64 (f d).1,.string (bs (f d).2)] 269)).drewN a1:=⟨_,A⟩;have g8:t.heap.size=b.heap.size+1:=by rw[T];show(b.heap.push _).size=_;simp
  have S:∀a,a<b.heap.size->t.heap[a]?=b.heap[a]?:=λa z=>by rw[T];exact XQ b _ a z
  have d1:t.heap[b.heap.size]?=C (Xn #[i64 (f d).1,.string (bs (f d).2)] 269 (0,0)):=by rw[T];exact Yn b _
  show Calls TP 150 #[pt e.tw 0,i64 (f d).1,.string (bs (f d).2)] ((b.alloc (.cells #[i64 (f d).1,.string (bs (f d).2)] 269)).drewN a1) _;rw[<-T];have a3:=l.1.old (by omega) S;have e5:=Sm a3.cd (f d).1 (f d).2;rw[D]at e5;refine e5.mono λW b3⟨a,i,R,f5,X,e0,b9,d6,e9⟩=>?_;rw[<-D]at e9;rw[<-D]at e0 d6;obtain⟨a2,s⟩:=a3.watched e0 d6;rw[b7]at s;have f9:tR (p d).cd (f d).1 (f d).2=Wt.toldOf (p d) (f d):=A;rw[f9]at b9
  have g4:i=(Wt.toldOf (p d) (f d)).length:=by
   rcases b9 with⟨Y,f3,c6,Q⟩|⟨r,c6,L,Q,_⟩
   .cases Q;rw[Y];rfl
   cases Q;rfl
  have e7:=pR (b8 d) (f d);have c9:aH (aI u y.tree n) (aI u y.tree n) b t:=⟨by omega,λa z _=>S a z,λa l=>Xh l⟩
  have d3:¬aI u y.tree n b.heap.size:=λa6=>by have:=l.1.bj (c:=b.heap.size) (by rw[b7];exact a6);omega
  refine⟨a,i,R,X,by omega,v,YA _,g4,{n with f:=f5},?_,D,λO=>?_,?_,λO=>?_⟩
  .refine mD.step (h₂:=[]) l (w₂:=b3) ?_ (b7 d) (c9.trans s) (λa l=>l) ⟨A,A,(YT _).symm⟩;rw[aa9,Zl,YT];exact a2
  .obtain⟨b0,b1,b2⟩:=Z O;have o:=aH.out s (a:=q) (by omega) b1;exact⟨o.1.trans ((S q b2).trans b0),o.2.1,o.2.2⟩
  .have o:=aH.out s (a:=b.heap.size) (by omega) d3;exact⟨o.1.trans d1,o.2.1,o.2.2⟩
  rcases b9 with⟨Y,f3,c6,Q⟩|⟨r,c6,L,Q,i1,e3,f6⟩
  .cases Q;omega
  cases Q;refine⟨r,L,A,e3,f6,λa6=>?_,(XN.1 e3).1⟩;have f7:aI u y.tree n r:=by
   rcases a6 with l|l|l|l
   .exact Xh l
   .exact Xi (Xh l)
   .exact Xi (Xi (Xh (e9 r l)))
   exact Xi (Xi (Xi l))
  have:=a3.bj (c:=r) (by rw[b7];exact f7);omega
 ·
  intro d x a H R j b⟨v,d2,b6,n,l,D,Z,⟨N,b4,b5⟩,a8⟩;have a0:=l.1.ch;rw[D]at a0;refine⟨aa N 0 A,aa N 1 A,aa a0 3 A,λe6=>?_⟩;obtain⟨r,L,rfl,a4,a5,_⟩:=a8 (by omega);refine⟨r,A,aa a4 j ?_⟩;have:=YU (λh3=>h3[j]?) a5;simp only[ZQ,XC e6,o_]at this;rw[ZS]at this;rw[this];have a7:j<(Wt.toldOf (p d) (f d)).length:=by omega
  simp[List.getD,a7]
 ·
  intro d x a H R j b e6⟨v,d2,b6,n,l,D,Z,⟨N,b4,b5⟩,a8⟩;have a7:j<(Wt.toldOf (p d) (f d)).length:=by omega
  obtain⟨w,a9⟩:∃w,(Wt.toldOf (p d) (f d)).getD j 0=w:=⟨_,A⟩;have d4:(Wt.toldOf (p d) (f d))[j]?=C w:=by rw[<-a9];simp[List.getD,a7]
  show Calls TP 60 #[pt u 0,.agg (Pu ((Wt.toldOf (p d) (f d)).getD j 0) (f d).1 of (bs (f d).2))] (b.alloc (.cells (Pu ((Wt.toldOf (p d) (f d)).getD j 0) (f d).1 of (bs (f d).2)) 38)) λW h8=>W=Xs (.tuple #[])/\h8.heap[b.heap.size]?=C (Xn (Pu ((Wt.toldOf (p d) (f d)).getD j 0) (f d).1 of (bs (f d).2)) 38 (0,0))/\_;rw[a9];obtain⟨t,T⟩:∃t,t=b.alloc (.cells (Pu w (f d).1 of (bs (f d).2)) 38):=⟨_,A⟩;have g8:t.heap.size=b.heap.size+1:=by rw[T];show(b.heap.push _).size=_;simp
  have S:∀a,a<b.heap.size->t.heap[a]?=b.heap[a]?:=λa z=>by rw[T];exact XQ b _ a z
  have d1:t.heap[b.heap.size]?=C (Xn (Pu w (f d).1 of (bs (f d).2)) 38 (0,0)):=by rw[T];exact Yn b _
  rw[<-T];have a3:=l.1.old (by omega) S;have g5:=e8 d (by omega);have e7:=pR (b8 d) (f d);have g6:=Gj a3 (by rw[Yw,Yw,ZU,Zy];omega) (Kd of (f d) w t) (λa z=>by rcases z with z|z<;>cases z)
  have d3:¬aI u y.tree n b.heap.size:=λa6=>by have:=l.1.bj (c:=b.heap.size) (by rw[l.2.1];exact a6);omega
  refine g6.mono λW b3⟨X,h6,a2,s⟩=>?_;rw[l.2.1]at s;have c9:aH (aI u y.tree n) (aI u y.tree n) b t:=⟨by omega,λa z _=>S a z,λa l=>Xh l⟩;have h5:=aH.out s (a:=b.heap.size) (by omega) d3;refine⟨X,h5.1.trans d1,v,by omega,b6,{n with ov:=h6,vs:=n.vs++[ln]},?_,D,λO=>?_,?_,λO=>?_⟩
  .refine l.step0 (w₂:=b3) ?_ l.2.1 (c9.trans s) ID ⟨A,A,(YT _).symm⟩
   have:((Wt.toldOf (p d) (f d)).take (j+1)).map (yq of (f d))=((Wt.toldOf (p d) (f d)).take j).map (yq of (f d))++[yq of (f d) w]:=by rw[ZX,d4];simp
   rw[this,<-ZJ];exact a2
  .obtain⟨b0,b1,b2⟩:=Z O;have o:=aH.out s (a:=q) (by omega) b1;exact⟨o.1.trans ((S q b2).trans b0),o.2.1,o.2.2⟩
  .have o:=aH.out s (a:=x) (by omega) b4;exact⟨o.1.trans ((S x b5).trans N),o.2.1,o.2.2⟩
  obtain⟨r,L,rfl,a4,a5,c7,c8⟩:=a8 O;have o:=aH.out s (a:=r) (by omega) c7;exact⟨r,L,A,o.1.trans ((S r c8).trans a4),a5,o.2.1,o.2.2⟩
 ·
  intro d x a H R j b⟨v,d2,b6,n,l,D,Z,⟨N,b4,b5⟩,a8⟩;have a7:j<(Wt.toldOf (p d) (f d)).length:=by omega
  obtain⟨w,a9⟩:∃w,(Wt.toldOf (p d) (f d)).getD j 0=w:=⟨_,A⟩;have d4:(Wt.toldOf (p d) (f d))[j]?=C w:=by rw[<-a9];simp[List.getD,a7]
  show Calls TP 151 #[pt u 0,.agg (Pu ((Wt.toldOf (p d) (f d)).getD j 0) (f d).1 of (bs (f d).2))] b _;rw[a9];have g5:=e8 d (by omega);have e7:=pR (b8 d) (f d);refine(acu l.1 (yq of (f d) w) (by rw[l.2.2.2.2.2.2,Yw,Yw,ZU,Zy];omega)).mono λW b3⟨X,e1,a2,s,h0,f8,g9⟩=>⟨X,v,d2,b6,e1,?_,g9.trans D,λO=>?_,?_,λO=>?_⟩
  all_goals rw[l.2.1]at s
  .have f4:U d++((Wt.toldOf (p d) (f d)).take (j+1)).map (yq of (f d))=(U d++((Wt.toldOf (p d) (f d)).take j).map (yq of (f d)))++[yq of (f d) w]:=by
    rw[ZX,d4,aaa,ZJ];rfl
   show mD u g _ _ y.tree e (U d++((Wt.toldOf (p d) (f d)).take (j+1)).map (yq of (f d))) c b3 e1;rw[f4];exact l.step a2 l.2.1 s h0 f8
  .obtain⟨b0,b1,b2⟩:=Z O;have o:=aH.out s b2 b1;exact⟨o.1.trans b0,o.2.1,o.2.2⟩
  .have o:=aH.out s b5 b4;exact⟨o.1.trans N,o.2.1,o.2.2⟩
  obtain⟨r,L,rfl,a4,a5,c7,c8⟩:=a8 O;have o:=aH.out s c8 c7;exact⟨r,L,A,o.1.trans a4,a5,o.2.1,o.2.2⟩
 grind
end
end
variable{a:M}
section
variable{y:E}{b ak d aE p z:Xj}{c o n:XB}{H:Xo}{x:Xp Xw}{v t:E}{f g h i k l m:Xj}{q:Xp Xw}{s r:E}{e:Xe}{KP D:M->Prop}
theorem Du(S:Calls TP 64 #[pt u 0,i64 ak] (jI a (rV b ak d c o aE p Xf (.slice x v t)) (gV n f g h i k l m (.slice q s r) e) ak b) λN w=>N=Xs (.bool J)/\qd a.heap.size 107 158 (rV b ak d c o aE p Xf (.slice x v t)) (gV n f g h i k l m (.slice q s r) e) (oS ak b) w w/\KP w)(R:∀a,Calls TP 104 #[e] a λa2 a3=>a2=Xs (i64 z)/\a=a3)(b3:(z==7)=J)(b4:(d==9)=J)(b2:(d==10)=Xf)(b1:(z !=0)=J):
 Calls TP 61 #[pt u 0,.agg (rV b ak d c o aE p Xf (.slice x v t)),.agg (gV n f g h i k l m (.slice q s r) e)] a (lD a.heap.size (oV ak 0 b 0 c ⟨#[]⟩ Xf 0 0 0 0 0 0 0 (Xm F 0 0) (Xm F 0 0)) KP):=by
 have X:=Xl S;clear S;have W:=Xl R;clear R;go_enter Tryz.func61,Tryz.ntmps61
 go_upto_region 12 with(first|(go_at_call 64;refine X.out.mono ?_;rintro N w⟨rfl,H,T⟩;have y:=H.h0;have U:=H.h1;have a4:=aa y 1 A;have a5:=aa y 2 A;have a6:=aa y 3 A;have a7:=aa y 7 A;have a8:=aa U 9 A;have D:=Xl H;have Y:=Xl T;clear T H y U)|(go_at_call 104;refine(W.out _).mono ?_;rintro N b5⟨rfl,rfl⟩))
 clear a4 a5 a6 a7 a8;have b0:=aa D.out.h0 3 A;have a9:=aa D.out.h3 4 A;have b6:=frozenAt D.out.h3 4;obtain⟨O,a1⟩:∃O,w.setCell ⟨a.heap.size+1+1+1,4,F⟩ (.string c)=O:=by simp
 have Z:qd a.heap.size 107 158 (rV b ak d c o aE p Xf (.slice x v t)) (gV n f g h i k l m (.slice q s r) e) (oV ak 0 b 0 c ⟨#[]⟩ Xf 0 0 0 0 0 0 0 (Xm F 0 0) (Xm F 0 0)) w O:=by rw[<-a1];exact D.out.set 4 _
 have L:=Xl Z
 go_upto_region 14 with fail
 refine ZH ?_;refine Zv A 38 _ A (a.heap.size+1+1+1) A 38 (oV ak 0 b 0 c ⟨#[]⟩ Xf 0 0 0 0 0 0 0 (Xm F 0 0) (Xm F 0 0)) (0,0) _ L.out.h3 A rfl rfl ?_;refine Zc A 38 _ _ A (a.heap.size+1+1) (oV ak 0 b 0 c ⟨#[]⟩ Xf 0 0 0 0 0 0 0 (Xm F 0 0) (Xm F 0 0)) A rfl 38 oZ L.out.h2 A rfl mX ?_;have a0:=rm A L.out Y.out;have Q:=Xl a0
 go_wp2
 exact Zm (gZ A rfl (pC Q.out.1 A)) A Q.out.2
theorem Dv(a3:Calls TP 64 #[pt u 0,i64 ak] (jI a (rV b ak d c o aE p J (.slice x v t)) (gV n f g h i k l m (.slice q s r) e) ak b) λL w=>L=Xs (.bool J)/\qd a.heap.size 107 158 (rV b ak d c o aE p J (.slice x v t)) (gV n f g h i k l m (.slice q s r) e) (oS ak b) w w/\KP w)(a2:∀a,Calls TP 104 #[e] a λc6 c7=>c6=Xs (i64 z)/\a=c7)(d7:(z==7)=J)(d8:(d==9)=J)(d6:(d==10)=Xf)(d5:(z !=0)=J)(a0:∀w,KP w->qd a.heap.size 107 158 (rV b ak d c o aE p J (.slice x v t)) (gV n f g h i k l m (.slice q s r) e) (oS ak b) w w->w.cell? ⟨u,3,F⟩=C (pt y 0)/\∀c0,Calls TP 105 #[pt y 0,i64 ak,.bool Xf,.string c] (w.drewN c0) λL H=>L=Xs (.tuple #[])/\H.cell? ⟨u,3,F⟩=C (pt y 0)/\qd a.heap.size 107 158 (rV b ak d c o aE p J (.slice x v t)) (gV n f g h i k l m (.slice q s r) e) (oS ak b) H H/\D H):
 Calls TP 61 #[pt u 0,.agg (rV b ak d c o aE p J (.slice x v t)),.agg (gV n f g h i k l m (.slice q s r) e)] a (lD a.heap.size (oV ak 0 b 0 c ⟨#[]⟩ Xf 0 0 0 0 0 0 0 (Xm F 0 0) (Xm F 0 0)) D):=by
 have b1:=Xl a3;clear a3;have b0:=Xl a2;clear a2;have a7:=Xl a0;clear a0;go_enter Tryz.func61,Tryz.ntmps61
 go_upto_region 11 with(first|(go_at_call 64;refine b1.out.mono ?_;rintro L w⟨rfl,T,a4⟩;have Q:=T.h0;have a6:=T.h1;have c8:=aa Q 1 A;have c9:=aa Q 2 A;have d0:=aa Q 3 A;have d1:=aa Q 7 A;have d2:=aa a6 9 A;have b5:=Xl T;have b2:=Xl a4;clear a4 T Q a6)|(go_at_call 104;refine(b0.out _).mono ?_;rintro L d9⟨rfl,rfl⟩))
 obtain⟨b6,a1⟩:=a7.out w b2.out b5.out;have X:Calls TP 105 #[pt y 0,i64 ak,.bool Xf,.string c] w.drew λL H=>L=Xs (.tuple #[])/\H.cell? ⟨u,3,F⟩=C (pt y 0)/\qd a.heap.size 107 158 (rV b ak d c o aE p J (.slice x v t)) (gV n f g h i k l m (.slice q s r) e) (oS ak b) H H/\D H:=a1 1;have a8:=Xl X;clear X a1;have b3:w.drew.cell? ⟨u,3,F⟩=C (pt y 0)/\w.drew.cell? ⟨a.heap.size,1,F⟩=C (i64 ak)/\w.drew.cell? ⟨a.heap.size,2,F⟩=C (i64 d)/\w.drew.cell? ⟨a.heap.size,3,F⟩=C (.string c):=by simp_all
 clear b6 c8 c9 d0 d1 d2
 go_region_held3 (λS=>S.cell? ⟨u,3,F⟩=C (pt y 0)/\S.cell? ⟨a.heap.size,1,F⟩=C (i64 ak)/\S.cell? ⟨a.heap.size,2,F⟩=C (i64 d)/\S.cell? ⟨a.heap.size,3,F⟩=C (.string c))
  (first|omega|omega)
  (first|(go_at_call 105;refine a8.out.mono ?_;rintro L N⟨rfl,Z,O,a5⟩;have b4:N.cell? ⟨u,3,F⟩=C (pt y 0)/\N.cell? ⟨a.heap.size,1,F⟩=C (i64 ak)/\N.cell? ⟨a.heap.size,2,F⟩=C (i64 d)/\N.cell? ⟨a.heap.size,3,F⟩=C (.string c):=⟨Z,aa O.h0 1 A,aa O.h0 2 A,aa O.h0 3 A⟩;have R:=Xl O;have a9:=Xl a5;clear O a5 Z))
 clear b3 b4
 go_upto_region 12 with fail
 have d4:=aa R.out.h0 3 A;have d3:=aa R.out.h3 4 A;have e0:=frozenAt R.out.h3 4;obtain⟨W,b9⟩:∃W,N.setCell ⟨a.heap.size+1+1+1,4,F⟩ (.string c)=W:=by simp
 have b7:qd a.heap.size 107 158 (rV b ak d c o aE p J (.slice x v t)) (gV n f g h i k l m (.slice q s r) e) (oV ak 0 b 0 c ⟨#[]⟩ Xf 0 0 0 0 0 0 0 (Xm F 0 0) (Xm F 0 0)) N W:=by rw[<-b9];exact R.out.set 4 _
 have U:=Xl b7
 go_upto_region 14 with fail
 refine ZH ?_;refine Zv A 38 _ A (a.heap.size+1+1+1) A 38 (oV ak 0 b 0 c ⟨#[]⟩ Xf 0 0 0 0 0 0 0 (Xm F 0 0) (Xm F 0 0)) (0,0) _ U.out.h3 A rfl rfl ?_;refine Zc A 38 _ _ A (a.heap.size+1+1) (oV ak 0 b 0 c ⟨#[]⟩ Xf 0 0 0 0 0 0 0 (Xm F 0 0) (Xm F 0 0)) A rfl 38 oZ U.out.h2 A rfl mX ?_;have b8:=rm A U.out a9.out;have Y:=Xl b8
 go_wp2
 exact Zm (gZ A rfl (pC Y.out.1 A)) A Y.out.2
end
variable{T:E}{U:E}{W:E}
section
variable{t:E}{e ak o aE z Q:Xj}{d y p dd:XB}{v R N:Xo}{L:Xp Xw}{H D:E}{f g h i k l m:Xj}{q:Xp Xw}{s r:E}{x S:Xe}{KP O:M->Prop}
theorem qd.Ol{X w V n:Xk Xe}{Y:M}(Z:qd T U W X w V Y c)(a:E)(b:Xe)(a0:V.setIfInBounds a b=n):qd T U W X w n Y (c.setCell ⟨T+1+1+1,a,F⟩ b):=a0▸Z.set a b
theorem fT(d8:Calls TP 64 #[pt u 0,i64 ak] (jI c (rV e ak o d y aE z v (.slice L H D)) (gV p f g h i k l m (.slice q s r) x) ak e) λX a=>X=Xs (.bool J)/\qd c.heap.size 107 158 (rV e ak o d y aE z v (.slice L H D)) (gV p f g h i k l m (.slice q s r) x) (oS ak e) a a/\KP a)(d7:∀c,Calls TP 104 #[x] c λg0 h5=>g0=Xs (i64 Q)/\c=h5)(i4:(Q==7)=Xf)(i2:(Q !=0)=Xf)(i5:(o==8)=R)(i3:(o==10)=N)(e1:J=R/\p=dd\/Xf=R/\⟨#[]⟩=dd)(e2:J=N/\.slice q s r=S\/Xf=N/\Xm F 0 0=S)
 (d9:v=Xf->∀a,KP a->O a)(d5:v=J->∀a,KP a->qd c.heap.size 107 158 (rV e ak o d y aE z v (.slice L H D)) (gV p f g h i k l m (.slice q s r) x) (oS ak e) a a->a.cell? ⟨u,3,F⟩=C (pt t 0)/\∀f9,Calls TP 105 #[pt t 0,i64 ak,.bool N,.string d] (a.drewN f9) λX Z=>X=Xs (.tuple #[])/\Z.cell? ⟨u,3,F⟩=C (pt t 0)/\qd c.heap.size 107 158 (rV e ak o d y aE z v (.slice L H D)) (gV p f g h i k l m (.slice q s r) x) (oS ak e) Z Z/\O Z):
 Calls TP 61 #[pt u 0,.agg (rV e ak o d y aE z v (.slice L H D)),.agg (gV p f g h i k l m (.slice q s r) x)] c (lD c.heap.size (oV ak 0 e 0 d dd J f g h i k l m S (Xm F 0 0)) O):=by
 have d2:=Xl d8;have d0:=Xl d7;have f1:=Xl d9;have e7:=Xl d5;have e9:=Xl (And.intro e1 e2);clear d8 d7 d9 d5 e1 e2;go_enter Tryz.func61,Tryz.ntmps61;cases v
 focus
  go_upto_region 12 with(first|(go_at_call 64;refine d2.out.mono ?_;rintro X a1⟨rfl,Y,a5⟩;have n:=Y.h0;have a7:=Y.h1;have b8:=aa n 1 A;have b9:=aa n 2 A;have c0:=aa n 3 A;have c6:=aa n 7 A;have c7:=aa a7 9 A;have a3:=Xl Y;have c9:=Xl (f1.out (by trivial) a1 a5);clear a5 Y n a7)|(go_at_call 104;refine(d0.out _).mono ?_;rintro X a2⟨rfl,rfl⟩))
  clear b8 b9 c0 c6 c7
 rotate_left
 focus
  go_upto_region 11 with(first|(go_at_call 64;refine d2.out.mono ?_;rintro X a⟨rfl,Y,a5⟩;have n:=Y.h0;have a7:=Y.h1;have b8:=aa n 1 A;have b9:=aa n 2 A;have c0:=aa n 3 A;have c6:=aa n 7 A;have c7:=aa a7 9 A;have f4:=Xl Y;have f0:=Xl a5;clear a5 Y n a7)|(go_at_call 104;refine(d0.out _).mono ?_;rintro X a2⟨rfl,rfl⟩))
  obtain⟨f8,d6⟩:=e7.out (by trivial) a f0.out f4.out;have c8:Calls TP 105 #[pt t 0,i64 ak,.bool N,.string d] a.drew λX Z=>X=Xs (.tuple #[])/\Z.cell? ⟨u,3,F⟩=C (pt t 0)/\qd c.heap.size 107 158 (rV e ak o d y aE z J (.slice L H D)) (gV p f g h i k l m (.slice q s r) x) (oS ak e) Z Z/\O Z:=d6 1;have e8:=Xl c8;clear c8 d6;have f2:a.drew.cell? ⟨u,3,F⟩=C (pt t 0)/\a.drew.cell? ⟨c.heap.size,1,F⟩=C (i64 ak)/\a.drew.cell? ⟨c.heap.size,2,F⟩=C (i64 o)/\a.drew.cell? ⟨c.heap.size,3,F⟩=C (.string d):=by simp_all
  clear f8 b8 b9 c0 c6 c7
  go_region_held3 (λb0=>b0.cell? ⟨u,3,F⟩=C (pt t 0)/\b0.cell? ⟨c.heap.size,1,F⟩=C (i64 ak)/\b0.cell? ⟨c.heap.size,2,F⟩=C (i64 o)/\b0.cell? ⟨c.heap.size,3,F⟩=C (.string d))
   (first|omega|omega)
   (first|(go_at_call 105;refine e8.out.mono ?_;rintro X a1⟨rfl,d4,a6,e0⟩;have f3:a1.cell? ⟨u,3,F⟩=C (pt t 0)/\a1.cell? ⟨c.heap.size,1,F⟩=C (i64 ak)/\a1.cell? ⟨c.heap.size,2,F⟩=C (i64 o)/\a1.cell? ⟨c.heap.size,3,F⟩=C (.string d):=⟨d4,aa a6.h0 1 A,aa a6.h0 2 A,aa a6.h0 3 A⟩;have a3:=Xl a6;have c9:=Xl e0;clear a6 e0 d4))
  clear f2 f3
  go_upto_region 12 with fail
 all_goals
  have f7:=aa a3.out.h0 3 A;have f5:=aa a3.out.h3 4 A;have h6:=frozenAt a3.out.h3 4;obtain⟨b6,e3⟩:∃b6,a1.setCell ⟨c.heap.size+1+1+1,4,F⟩ (.string d)=b6:=⟨_,A⟩;have b4:=a3.out.Ol (n:=(oV ak 0 e 0 d ⟨#[]⟩ Xf 0 0 0 0 0 0 0 (Xm F 0 0) (Xm F 0 0))) 4 _ A;rw[e3]at b4;have b2:=Xl b4;clear b4
  go_upto_region 15 with fail
  clear f5 h6 e3;clear f7;have f6:=aa b2.out.h3 6 A;have h7:=frozenAt b2.out.h3 6;obtain⟨b7,e4⟩:∃b7,b6.setCell ⟨c.heap.size+1+1+1,6,F⟩ (.bool J)=b7:=⟨_,A⟩;have b5:=b2.out.Ol (n:=(oV ak 0 e 0 d ⟨#[]⟩ J 0 0 0 0 0 0 0 (Xm F 0 0) (Xm F 0 0))) 6 _ A;rw[e4]at b5;have b:=Xl b5;clear b5
  go_upto_region 16 with fail
  clear f6 h7 e4;have g1:=aa b.out.h1 1 A;have g2:=aa b.out.h1 2 A;have g3:=aa b.out.h1 3 A;have g4:=aa b.out.h1 4 A;have g5:=aa b.out.h1 5 A;have g6:=aa b.out.h1 6 A;have g7:=aa b.out.h1 7 A;have g8:=aa b.out.h3 7 A;have g9:=aa b.out.h3 8 A;have h0:=aa b.out.h3 9 A;have h1:=aa b.out.h3 10 A;have h2:=aa b.out.h3 11 A;have h3:=aa b.out.h3 12 A;have h4:=aa b.out.h3 13 A;have h8:=frozenAt b.out.h3;obtain⟨a2,e5⟩:∃a2,(((((((b7.setCell ⟨c.heap.size+1+1+1,7,F⟩ (i64 f)).setCell ⟨c.heap.size+1+1+1,8,F⟩ (i64 g)).setCell ⟨c.heap.size+1+1+1,9,F⟩ (i64 h)).setCell ⟨c.heap.size+1+1+1,10,F⟩ (i64 i)).setCell ⟨c.heap.size+1+1+1,11,F⟩ (i64 k)).setCell ⟨c.heap.size+1+1+1,12,F⟩ (i64 l)).setCell ⟨c.heap.size+1+1+1,13,F⟩ (i64 m))=a2:=⟨_,A⟩;have b3:=((((((b.out.set 7 _).set 8 _).set 9 _).set 10 _).set 11 _).set 12 _).Ol (n:=(oV ak 0 e 0 d ⟨#[]⟩ J f g h i k l m (Xm F 0 0) (Xm F 0 0))) 13 _ A;rw[e5]at b3;have w:=Xl b3;clear b3
  go_upto_region 17 with fail
  clear g1 g2 g3 g4 g5 g6 g7 g8 g9 h0 h1 h2 h3 h4 h8 e5;have i0:=aa w.out.h0 2 A;rcases e9.out with⟨⟨rfl,rfl⟩|⟨rfl,rfl⟩,⟨rfl,rfl⟩|⟨rfl,rfl⟩⟩
  .simp_all
  focus
   go_upto_region 19 with fail
   have h9:=aa w.out.h1 0 A;have d3:=aa w.out.h3 5 A;have e6:=frozenAt w.out.h3 5;obtain⟨a8,b1⟩:∃a8,a2.setCell ⟨c.heap.size+1+1+1,5,F⟩ (.string p)=a8:=⟨_,A⟩;have a0:=w.out.Ol (n:=(oV ak 0 e 0 d p J f g h i k l m (Xm F 0 0) (Xm F 0 0))) 5 _ A;rw[b1]at a0;have a4:=Xl a0;clear a0
  rotate_left
  focus
   go_upto_region 21 with fail
   have i1:=aa w.out.h1 8 A;have d3:=aa w.out.h3 14 A;have e6:=frozenAt w.out.h3 14;obtain⟨a8,b1⟩:∃a8,a2.setCell ⟨c.heap.size+1+1+1,14,F⟩ (.slice q s r)=a8:=⟨_,A⟩;have a0:=w.out.Ol (n:=(oV ak 0 e 0 d ⟨#[]⟩ J f g h i k l m (.slice q s r) (Xm F 0 0))) 14 _ A;rw[b1]at a0;have a4:=Xl a0;clear a0
  rotate_left
  have a4:=w
  rotate_left
  all_goals
   go_upto_region 22 with fail
   try clear d3 e6 b1
   refine ZH ?_;refine Zv A 38 _ A (c.heap.size+1+1+1) A 38 _ (0,0) _ a4.out.h3 A rfl rfl ?_;refine Zc A 38 _ _ A (c.heap.size+1+1) _ A rfl 38 oZ a4.out.h2 A rfl mX ?_;have d1:=Xl (rm A a4.out c9.out)
   go_wp2
   exact Zm (gZ A rfl (pC d1.out.1 A)) A d1.out.2
end
variable{b:fG}{k:M}{r:E}{s:E}{q:Tree}{p:Out}
section
variable[Inhabited aM]
theorem Ik(a:M)(f g:Xk Xe)(ak c:Xj):(jI a f g ak c).heap.size=a.heap.size+4/\(∀b,b<a.heap.size->(jI a f g ak c).heap[b]?=a.heap[b]?)/\qd a.heap.size 107 158 f g (oS ak c) (jI a f g ak c) (jI a f g ak c):=by
 have k:(a.alloc (.cells f 107)).heap.size=a.heap.size+1:=by simp
 have l:((a.alloc (.cells f 107)).alloc (.cells g 158)).heap.size=a.heap.size+2:=by simp
 have m:(((a.alloc (.cells f 107)).alloc (.cells g 158)).alloc (.cells oZ 38)).heap.size=a.heap.size+3:=by simp
 have i:=Yn a (.cells f 107);have d:=Yn (a.alloc (.cells f 107)) (.cells g 158);have e:=Yn ((a.alloc (.cells f 107)).alloc (.cells g 158)) (.cells oZ 38);have h:=Yn (((a.alloc (.cells f 107)).alloc (.cells g 158)).alloc (.cells oZ 38)) (.cells (oS ak c) 38);rw[k]at d;rw[l]at e;rw[m]at h;refine⟨by simp,λb n=>?_,⟨?_,?_,?_,h,A,λ_ _=>rfl⟩⟩
 .rw[jI,XQ _ _ _ (by omega),XQ _ _ _ (by omega),XQ _ _ _ (by omega),XQ _ _ _ n]
 .rw[jI,XQ _ _ _ (by omega),XQ _ _ _ (by omega),XQ _ _ _ (by omega)];exact i
 .rw[jI,XQ _ _ _ (by omega),XQ _ _ _ (by omega)];exact d
 rw[jI,XQ _ _ _ (by omega)];exact e
section
variable{l:Xj}{h:cN}{m:Xg Out}{i:fG}{e:M}{f g:Xk Xe}{ak c:Xj}
theorem qd.qQ{own m:E->Prop}{i k:E}{V:Xk Xe}{e h:M}(a:qd r i k f g V e e)(b:aH own m e h)(d:∀c,r<=c->¬own c):qd r i k f g V h h:=
 have lt:=λ(c:E)(p:Obj)(l:e.heap[c]?=C p)=>(XN.1 l).1
 ⟨(b.keep _ (lt _ _ a.h0) (d _ (by omega))).trans a.h0,(b.keep _ (lt _ _ a.h1) (d _ (by omega))).trans a.h1,(b.keep _ (lt _ _ a.h2) (d _ (by omega))).trans a.h2,(b.keep _ (lt _ _ a.h3) (d _ (by omega))).trans a.h3,A,λ_ _=>rfl⟩
def Dk(a b:fG):Prop:=a.vs=b.vs/\a.li=b.li/\a.hd=b.hd
theorem Dk.refl(b:fG):Dk b b:=⟨A,A,A⟩
theorem Qs(q:aK u l y m b a)(r:aK u l h m i e)(L:h.tree=y.tree)(O:Dk i b)(o:aH (aI u y.tree b) (aI u y.tree i) (jI a f g ak c) e)(D:k.heap.size=e.heap.size)(t:∀d,d≠a.heap.size+1+1->d≠a.heap.size+1+1+1->k.heap[d]?=e.heap[d]?):
 aK u l h m i k/\aH (aI u y.tree b) (aI u y.tree i) a k:=by
 obtain⟨x,s,_⟩:=Ik a f g ak c;have w:∀d,a.heap.size<=d->¬aI u y.tree b d:=λd n p=>by have:=q.bj p;omega
 have z:∀d,d=a.heap.size+1+1\/d=a.heap.size+1+1+1->¬aI u y.tree i d:=λd n=>(aH.out o (a:=d) (by omega) (w d (by omega))).2.1;have N:∀d,dw i d->d<a.heap.size:=λd n=>q.iY (by simp_all [dw,Dk]);have H:=o.size;refine⟨r.same ⟨by omega,λd n=>?_,λd n=>?_⟩,⟨by omega,λd n v=>?_,λd n=>?_⟩⟩
 .grind
 .grind
 .rw[t d (by omega) (by omega),o.keep d (by omega) v,s d n]
 rcases o.more d n with p|p
 .exact Xh p
 omega
def yb(u:E)(l:Xj)(f:cN)(p:Out)(m:Xg Out)(q:Tree)(b:fG)(h:E)(a:M)(g:Ending)(k:M):Prop:=∃e d,g=Xs (.agg (iC p e))/\aK u l f m d k/\f.tree=q/\aH (aI u q b) (aI u q d) a k/\Dk d b/\jX p e k/\∀c,e.1.ownBlock=C c\/e.2.ownBlock=C c->¬aI u q d c/\h<=c
theorem zw(y:cN)(id:Xj)(a:Xo)(b:B):dz y id a b={y with cd:=eW y.cd a b (dF id (y.cd a b))}:=by unfold dz eW;simp_all
theorem Nv{d:Xg B}{sl:Xe}(h:gr (d.map bs) s sl a):eY d sl a:=by
 rcases h with⟨b,i⟩|⟨o,f,e,p,g,b,i,k,q,c,l,m⟩
 .exact Xh ⟨b,by simp_all⟩
 rw[ZU]at b c;exact Xi ⟨o,f,e,p,g,b,k,c,l,λn y r=>m n _ (by simp_all)⟩
structure RQ(d:Sim.RV)(n:ew):Prop where
 ak:d.ak=n.ak
 kind:d.kind=n.op.kind
 path:d.path=bs n.op.path
 data:d.data=bs n.op.data
 aE:d.aE=n.op.aE
 flags:d.flags=n.op.flags
 watch:d.watch=n.watch
theorem Nl{c:B}{a:Xj}(b:Wt.look q c=.no a):a=4\/a=7:=by
 unfold Wt.look at b
 grind
theorem qs(b:Xj):∀a,Calls TP 104 #[.iface 32 (i64 b)] a λe k=>e=Xs (i64 b)/\a=k:=λa=>(EV a b).mono λ_ _⟨c,d⟩=>⟨c,d.symm⟩
theorem zO:∀a,Calls TP 104 #[.nilIface] a λd k=>d=Xs (i64 0)/\a=k:=λa=>(EU a).mono λ_ _⟨b,c⟩=>⟨b,c.symm⟩
theorem yZ{g:Bb}{r:E}{s:Xk Xe}(t:cf (od g) r s a):∃b i k l m n o p d f e,s=#[.string b,i64 i,i64 k,i64 l,i64 m,i64 n,i64 o,i64 p,.slice d f e]/\gr (od g).names r (.slice d f e) a/\
 match g with
 |.no _=>True
 |.yes c=>b=bs c.data/\i=c.stat.made/\k=c.stat.set/\l=c.stat.aE/\m=c.stat.ez/\n=c.stat.own/\o=c.stat.size/\p=c.stat.kids:=by
 obtain⟨_,sl,q,h⟩:=t;obtain⟨d,f,e,rfl⟩:∃d f e,sl=.slice d f e:=by rcases h with⟨rfl,_⟩|⟨_,_,_,_,_,rfl,_⟩<;>exact⟨_,_,_,A⟩
 cases g with
 |no u=>exact⟨_,_,_,_,_,_,_,_,d,f,e,YU Xk.mk q,h,trivial⟩
 |yes c=>exact⟨_,_,_,_,_,_,_,_,d,f,e,YU Xk.mk q,h,A,A,A,A,A,A,A,A⟩
theorem tG(b:p.names=[])(c:p.results=[])(a:M):jX p ln a:=⟨Xh ⟨A,b⟩,Xh ⟨A,c⟩⟩
theorem Ku{c:Xj}{a:ew}(f:Wt.known y a.ak=J)(b:Xj):Wt.eN y c a (.no b)=if b=7/\a.op.kind=9 then(if a.watch then dz (Wt.heard y a.ak) a.ak Xf a.op.path else Wt.heard y a.ak,{ak:=a.ak,idx:=c,path:=a.op.path})else(Wt.heard y a.ak,{ak:=a.ak,idx:=c,err:=b}):=by simp_all [Wt.eN]
theorem Ge{c:Xj}{a:ew}(f:Wt.known y a.ak=J)(b:Wt.Seen):Wt.eN y c a (.yes b)=(if a.watch then dz (Wt.heard y a.ak) a.ak (decide (a.op.kind=10)) a.op.path else Wt.heard y a.ak,{ak:=a.ak,idx:=c,path:=a.op.path,found:=J,stat:=b.stat,data:=if a.op.kind=8 then b.data else[],names:=if a.op.kind=10 then b.names else[]}):=by simp_all [Wt.eN]
theorem Qt(c9:aK u l y m b a){d:ew}{rq:Sim.RV}(h2:RQ rq d)(w:d.op.kind=8\/d.op.kind=9\/d.op.kind=10)(h5:Wt.known y d.ak=J->0<d.ak/\d.ak<2^28)(c:Xj){O:Bb}(g8:O=Wt.look y.tree d.op.path){d6:Xk Xe}{a8:E}(h7:cf (od O) a8 d6 a)(g7:nC (aI u y.tree b) d6):
 Calls TP 61 #[pt u 0,.agg (aP c rq),.agg (d6.push (od O).ev)] a (yb u l (Wt.eN y c d O).1 (Wt.eN y c d O).2 m y.tree b a8 a):=by
 obtain⟨ak,j3,j5,i7,aE,j0,j7,i1,i0,h9⟩:=rq;obtain⟨Q,R,d9,e0,e1,e2,a6⟩:=h2;simp only at Q R d9 e0 e1 e2 a6;subst Q R d9 e0 e1 e2 a6;obtain⟨dd,f8,f9,g0,g1,g2,g3,g4,T,W,U,rfl,e7,h6⟩:=yZ h7;obtain⟨Z,d3⟩:∃Z,Z=(od O).ev:=by simp
 rw[<-d3];obtain⟨f,s⟩:∃f,f=rV c d.ak d.op.kind (bs d.op.path) (bs d.op.data) d.op.aE d.op.flags d.watch (.slice i1 i0 h9):=by simp
 obtain⟨g,L⟩:∃g,g=gV dd f8 f9 g0 g1 g2 g3 g4 (.slice T W U) Z:=by simp
 obtain⟨j8,i3,i4⟩:=Ik a f g d.ak c;have f4:=c9.old (by omega) i3;have e8:∀o,a.heap.size<=o->¬aI u y.tree b o:=λo n q=>by have:=c9.bj q;omega
 obtain⟨h,c0⟩:∃h,h=if Wt.known y d.ak then Wt.heard y d.ak else y:=by simp
 have z:h.tree=y.tree:=by rw[c0];split<;>rfl
 have x:Calls TP 64 #[pt u 0,i64 d.ak] (jI a f g d.ak c) λv e=>v=Xs (.bool (Wt.known y d.ak))/\qd a.heap.size 107 158 f g (oS d.ak c) e e/\aK u l h m b e/\aH (aI u y.tree b) (aI u y.tree b) (jI a f g d.ak c) e:=
  (Hp f4 d.ak).mono λv e⟨a1,j2,e3⟩=>⟨a1,i4.qQ e3 e8,by simp_all,e3⟩
 have e6:∀o,(Value.slice T W U).ownBlock=C o->¬aI u y.tree b o:=λo n=>by
  cases T with
  |none=>cases n
  |some f7=>have:=g7 f7 W U A;simp_all [Xe.ownBlock]
 have fin:∀(p:Out)(b3:Xe×Xe)(c7:cN)(KP:M->Prop),(∀e,KP e->∃i,aK u l c7 m i e/\Dk i b/\aH (aI u y.tree b) (aI u y.tree i) (jI a f g d.ak c) e)->c7.tree=y.tree->(b3=ln/\p.names=[]/\p.results=[]\/b3=(.slice T W U,Xm F 0 0)/\p.results=[]/\gr (p.names.map bs) a8 (.slice T W U) a)->
  ∀v k,lD a.heap.size (iC p b3) KP v k->yb u l c7 p m y.tree b a8 a v k:=λp b3 c7 KP g5 f0 h8 v k⟨a1,e,g9,h4,h0⟩=>by
  obtain⟨i,b5,f1,c8⟩:=g5 e g9;obtain⟨f3,a2⟩:=Qs c9 b5 f0 f1 c8 h4 h0;refine⟨b3,i,a1,f3,f0,a2,f1,?_⟩;rcases h8 with⟨rfl,Q,R⟩|⟨rfl,Q,R⟩
  .exact⟨tG Q R k,λo n=>by rcases n with n|n<;>cases n⟩
  have h1:=Nv R
  have d2:∀o,(Value.slice T W U).ownBlock=C o->o<a.heap.size/\a8<=o:=λo n=>by
   rcases R with⟨d0,_⟩|⟨j4,i6,i5,j6,j1,d0,i8,i9,_⟩
   .rw[d0]at n;cases n
   rw[d0]at n;cases n
   grind
  refine⟨⟨h1.stay λo n=>?_,Xh ⟨A,Q⟩⟩,λo n=>?_⟩
  .rw[a2.keep o (d2 o n).1 (e6 o n)]
  rcases n with n|n
  .exact⟨(aH.out a2 (d2 o n).1 (e6 o n)).2.1,(d2 o n).2⟩
  cases n
 cases a7:Wt.known y d.ak with
 |false=>
  rw[a7]at x c0
  have h3:Wt.eN y c d O=(h,{ak:=d.ak,idx:=c,err:=3}):=by simp_all [Wt.eN]
  rw[h3];rw[s,L]at x;have:=xS x;refine this.mono (fin {ak:=d.ak,idx:=c,err:=3} ln h _ (λe⟨Q,R⟩=>⟨b,Q,Dk.refl b,by simp_all⟩) z (Xh ⟨A,A,A⟩))
 |true=>
  rw[a7]at x c0;have e9:h=Wt.heard y d.ak:=by rw[c0];rfl
  obtain⟨q1,i2⟩:=h5 a7
  have b8:∀r:Xo,∀e,(aK u l h m b e/\aH (aI u y.tree b) (aI u y.tree b) (jI a f g d.ak c) e)->qd a.heap.size 107 158 f g (oS d.ak c) e e->e.cell? ⟨u,3,F⟩=C (pt b.tw 0)/\∀d5,Calls TP 105 #[pt b.tw 0,i64 d.ak,.bool r,.string (bs d.op.path)] (e.drewN d5) λv Y=>v=Xs (.tuple #[])/\Y.cell? ⟨u,3,F⟩=C (pt b.tw 0)/\qd a.heap.size 107 158 f g (oS d.ak c) Y Y/\
   ∃N,aK u l (dz h d.ak r d.op.path) m {b with f:=N} Y/\aH (aI u y.tree b) (aI u y.tree {b with f:=N}) (jI a f g d.ak c) Y:=λr e⟨b5,c8⟩ g6=>by
   refine⟨aa b5.ch 3 A,λd5=>?_⟩;have d8:aK u l h m b (e.drewN d5):=b5.old (XS _) (λ_ _=>rfl);refine(RM d8.cd ⟨q1,i2⟩ r d.op.path).mono λv Y⟨a1,N,f6,a2⟩=>?_;obtain⟨f5,b4⟩:=d8.watched f6 a2;rw[z]at b4;have d7:aH (aI u y.tree b) (aI u y.tree {b with f:=N}) e Y:=⟨b4.size,b4.keep,b4.more⟩;refine⟨a1,aa f5.ch 3 A,g6.qQ d7 e8,N,?_,c8.trans d7⟩;simp_all [zw]
  have kp:∀e,(aK u l h m b e/\aH (aI u y.tree b) (aI u y.tree b) (jI a f g d.ak c) e)->∃i,aK u l h m i e/\Dk i b/\aH (aI u y.tree b) (aI u y.tree i) (jI a f g d.ak c) e:=by grind [Dk]
  have b6:∀(r:Xo) e,(∃N,aK u l (dz h d.ak r d.op.path) m {b with f:=N} e/\aH (aI u y.tree b) (aI u y.tree {b with f:=N}) (jI a f g d.ak c) e)->∃i,aK u l (dz h d.ak r d.op.path) m i e/\Dk i b/\aH (aI u y.tree b) (aI u y.tree i) (jI a f g d.ak c) e:=by grind [Dk]
  cases O with
  |no v=>
   have a1:=Nl g8.symm;have b9:Z=.iface 32 (i64 v):=d3;have e4:(v !=0)=J:=by grind
   rw[Ku a7,<-e9];by_cases d4:v=7/\d.op.kind=9
   .rw[XC d4];obtain⟨rfl,e5⟩:=d4;have c6:(d.op.kind==9)=J:=by simp[e5]
    have r:(d.op.kind==10)=Xf:=by simp[e5]
    cases D:d.watch with
    |false=>rw[D]at s;subst s L;refine(Du x (by rw[b9];exact qs 7) A c6 r A).mono ?_;exact fin {ak:=d.ak,idx:=c,path:=d.op.path} ln h _ kp z (Xh ⟨A,A,A⟩)
    |true=>rw[D]at s;subst s L;refine(Dv x (by rw[b9];exact qs 7) A c6 r A (b8 Xf)).mono ?_;exact fin {ak:=d.ak,idx:=c,path:=d.op.path} ln (dz h d.ak Xf d.op.path) _ (b6 Xf) z (Xh ⟨A,A,A⟩)
   rw[Xx d4];subst s L;by_cases a6:v=7
   .have c6:(d.op.kind==9)=Xf:=by
     simp_all
    refine(yV x (by grind [qs]) (Xi ⟨by simp[a6],c6⟩) e4).mono ?_;exact fin {ak:=d.ak,idx:=c,err:=v} ln h _ kp z (Xh ⟨A,A,A⟩)
   refine(yV x (by simp_all [qs]) (Xh (by simp[a6])) e4).mono ?_;exact fin {ak:=d.ak,idx:=c,err:=v} ln h _ kp z (Xh ⟨A,A,A⟩)
  |yes t=>
   have b9:Z=.nilIface:=d3;obtain⟨rfl,rfl,rfl,rfl,rfl,rfl,rfl,rfl⟩:=h6;rw[Ge a7,<-e9];have a0:∀a,Calls TP 104 #[Z] a λd k=>d=Xs (i64 0)/\a=k:=by rw[b9];exact zO
   rcases w with w|w|w
   .have S:(d.op.kind==8)=J:=by simp[w]
    have r:(d.op.kind==10)=Xf:=by simp[w]
    have a3:decide (d.op.kind=10)=Xf:=by simp[w]
    have b1:(if d.op.kind=8 then t.data else[])=t.data:=XC w;have b0:(if d.op.kind=10 then t.names else[])=[]:=by simp_all
    rw[a3,b1,b0];cases D:d.watch with
    |false=>rw[D]at s;subst s L;refine(fT (t:=0) x a0 A rfl S r (Xh ⟨A,A⟩) (Xi ⟨A,A⟩) (λ_ _ q=>q) (λq=>by cases q)).mono ?_;exact fin {ak:=d.ak,idx:=c,path:=d.op.path,found:=J,stat:=t.stat,data:=t.data,names:=[]} ln h _ kp z (Xh ⟨A,A,A⟩)
    |true=>rw[D]at s;subst s L;refine(fT x a0 A rfl S r (Xh ⟨A,A⟩) (Xi ⟨A,A⟩) (λq=>by cases q) (λ_=>b8 Xf)).mono ?_;exact fin {ak:=d.ak,idx:=c,path:=d.op.path,found:=J,stat:=t.stat,data:=t.data,names:=[]} ln (dz h d.ak Xf d.op.path) _ (b6 Xf) z (Xh ⟨A,A,A⟩)
   .have S:(d.op.kind==8)=Xf:=by simp[w]
    have r:(d.op.kind==10)=Xf:=by simp[w]
    have a3:decide (d.op.kind=10)=Xf:=by simp[w]
    have b1:(if d.op.kind=8 then t.data else[])=[]:=by simp_all
    have b0:(if d.op.kind=10 then t.names else[])=[]:=by simp_all
    rw[a3,b1,b0];cases D:d.watch with
    |false=>rw[D]at s;subst s L;refine(fT (t:=0) x a0 A rfl S r (Xi ⟨A,A⟩) (Xi ⟨A,A⟩) (λ_ _ q=>q) (λq=>by cases q)).mono ?_;exact fin {ak:=d.ak,idx:=c,path:=d.op.path,found:=J,stat:=t.stat,data:=[],names:=[]} ln h _ kp z (Xh ⟨A,A,A⟩)
    |true=>rw[D]at s;subst s L;refine(fT x a0 A rfl S r (Xi ⟨A,A⟩) (Xi ⟨A,A⟩) (λq=>by cases q) (λ_=>b8 Xf)).mono ?_;exact fin {ak:=d.ak,idx:=c,path:=d.op.path,found:=J,stat:=t.stat,data:=[],names:=[]} ln (dz h d.ak Xf d.op.path) _ (b6 Xf) z (Xh ⟨A,A,A⟩)
   have S:(d.op.kind==8)=Xf:=by simp[w]
   have r:(d.op.kind==10)=J:=by simp[w]
   have a3:decide (d.op.kind=10)=J:=by simp[w]
   have b1:(if d.op.kind=8 then t.data else[])=[]:=by simp_all
   have b0:(if d.op.kind=10 then t.names else[])=t.names:=XC w;rw[a3,b1,b0];cases D:d.watch with
   |false=>rw[D]at s;subst s L;refine(fT (t:=0) x a0 A rfl S r (Xi ⟨A,A⟩) (Xh ⟨A,A⟩) (λ_ _ q=>q) (λq=>by cases q)).mono ?_;exact fin {ak:=d.ak,idx:=c,path:=d.op.path,found:=J,stat:=t.stat,data:=[],names:=t.names} (.slice T W U,Xm F 0 0) h _ kp z (Xi ⟨A,A,e7⟩)
   |true=>rw[D]at s;subst s L;refine(fT x a0 A rfl S r (Xi ⟨A,A⟩) (Xh ⟨A,A⟩) (λq=>by cases q) (λ_=>b8 J)).mono ?_;exact fin {ak:=d.ak,idx:=c,path:=d.op.path,found:=J,stat:=t.stat,data:=[],names:=t.names} (.slice T W U,Xm F 0 0) (dz h d.ak J d.op.path) _ (b6 J) z (Xi ⟨A,A,e7⟩)
end
variable{k:Path}{c:fG}{q:M}{z:E}{x:E}
theorem LM{c i:Path->E}{u:Xe}(n:bw m c i a)(e:a.heap[O]?=C (Xn #[pt (c []) 0,Xd K m.length,u] 195 (0,0))):
 Calls TP 109 #[pt O 0] a λp q=>p=Xs (.tuple #[])/\pW m c i O [] q/\q.heap.size=a.heap.size/\(∀b,b≠O->q.heap[b]?=a.heap[b]?)/\∀b,¬wH q O b:=by
 have c2:=aa e 2 A;have x:=frozenAt e 2;have o:=Xl e;have d:=Xl n;go_enter Tryz.func109,Tryz.ntmps109
 go_wp2
 go_end0
 have s:∀b,b≠O->(a.setCell ⟨O,2,F⟩ (Xm F 0 0)).heap[b]?=a.heap[b]?:=by grind [ai]
 have g:(a.setCell ⟨O,2,F⟩ (Xm F 0 0)).heap[O]?=C (Xn #[pt (c []) 0,Xd K m.length,Xm F 0 0] 195 (0,0)):=by have:=aA (n:=2) (i:=Xm F 0 0) o.out;simp_all
 refine⟨A,⟨d.out.stay λk t=>?_,Xm F 0 0,[],g,cr.nil _ _ _ _,trivial⟩,aS,s,λb⟨N,y,Q,f,r⟩=>?_⟩
 .obtain⟨z,h⟩:=XR.1 t;obtain⟨w,v,D,_⟩:=d.out.kd k z h;have H:=d.out.nd k z h
  grind
 rw[g]at f;cases f;cases r
theorem QM(a:M)(g:Xk Xe)(ak e:Xj):(ug a g ak e).heap.size=a.heap.size+3/\(∀b,b<a.heap.size->(ug a g ak e).heap[b]?=a.heap[b]?)/\ly a.heap.size g (oS ak e) (ug a g ak e) (ug a g ak e):=by
 have h:(a.alloc (.cells g 140)).heap.size=a.heap.size+1:=by simp
 have i:((a.alloc (.cells g 140)).alloc (.cells oZ 38)).heap.size=a.heap.size+2:=by simp
 have f:=Yn a (.cells g 140);have c:=Yn (a.alloc (.cells g 140)) (.cells oZ 38);have d:=Yn ((a.alloc (.cells g 140)).alloc (.cells oZ 38)) (.cells (oS ak e) 38);rw[h]at c;rw[i]at d;refine⟨by simp,λb k=>?_,⟨?_,?_,d,A,λ_ _=>rfl⟩⟩
 .rw[ug,XQ _ _ _ (by omega),XQ _ _ _ (by omega),XQ _ _ _ k]
 .rw[ug,XQ _ _ _ (by omega),XQ _ _ _ (by omega)];exact f
 rw[ug,XQ _ _ _ (by omega)];exact c
theorem Fw(h:k.length<=4)(i:∀a∈k,cz a=J):(Wt.join k).length<2^31:=by
 have:∀(l:Xg B),(∀a∈l,cz a=J)->([47].intercalate l).length<=l.length*13:=λl b=>by
  induction l with
  |nil=>simp
  |cons d c f=>
   have:=Am (b d (by simp));cases c with
   |nil=>simp[Xg.intercalate];omega
   |cons x c=>
    have g:=f (λa e=>b a (Ym _ e));simp[Xg.intercalate]at g⊢
    omega
 grind [Wt.join]
theorem zE{i:Tree}(c:WF m){b:Wt.Op}(g:qc b){ak aL:Xj}{h:B}{d:Xg Wt.Ev}(e:Wt.change m b ak aL=.yes i h d):d.length<=2/\h.length<2^31:=by
 by_cases f:b.kind=3
 .have a:=e;unfold Wt.change at a;rw[XC f]at a;have n:=nH c a;obtain⟨o,t,T,s,O,v,u,x,y,Q,g,N,H,L,D,r,q,w⟩:=gR a
  have p:Wt.find i ((o::t).dropLast++[s])=C (eV b ak aL):=by rw[r];exact ou (fe c.ord)
  obtain⟨R,S⟩:=n.names _ _ p
  grind [Fw]
 obtain⟨k,z,_,_,q,a⟩:=pj f e;have:=g.path
 grind [kq]
theorem AM{f:Xj}{k:E}{e:Xk Xe}(g:cf (od (.no f)) k e a):∃b d c,e=#[.string ⟨#[]⟩,i64 0,i64 0,i64 0,i64 0,i64 0,i64 0,i64 0,.slice b d c]:=by
 obtain⟨_,sl,h,i⟩:=g;obtain⟨b,d,c,rfl⟩:∃b d c,sl=.slice b d c:=by rcases i with⟨rfl,_⟩|⟨_,_,_,_,_,rfl,_⟩<;>exact⟨_,_,_,A⟩
 exact⟨b,d,c,YU Xk.mk h⟩
section
variable{i:Xj}{h:cN}{s:Xg Out}{R:fG}{f:M}{g S:Xk Xe}{ak e:Xj}
theorem ly.qQ{own k:E->Prop}{V:Xk Xe}{c f:M}(a:ly z g V c c)(d:aH own k c f)(e:∀b,z<=b->b<z+3->¬own b):ly z g V f f:=
 have lt:=λ(b:E)(i:Obj)(h:c.heap[b]?=C i)=>(XN.1 h).1
 ⟨(d.keep _ (lt _ _ a.h0) (e _ (by omega) (by omega))).trans a.h0,(d.keep _ (lt _ _ a.h2) (e _ (by omega) (by omega))).trans a.h2,(d.keep _ (lt _ _ a.h3) (e _ (by omega) (by omega))).trans a.h3,A,λ_ _=>rfl⟩
theorem aK.Uv(b:aK u i y s c a){q:Xk Xe}{r:E×E}(d:a.heap[x]?=C (Xn q 269 r)):¬aI u y.tree c x:=by
 rintro(rfl|e|e|rfl|e|⟨t,e⟩)
 .rw[b.ch]at d;cases d
 .rcases e with rfl|⟨m,h,rfl|rfl⟩
  .obtain⟨H,_,g⟩:=b.top;simp_all
  .obtain⟨z,k⟩:=XR.1 h;rw[b.tree.nd m z k]at d;cases d
  obtain⟨z,k⟩:=XR.1 h;obtain⟨p,n,f,_⟩:=b.tree.kd m z k;simp_all
 .rcases e with rfl|rfl|⟨D,m,h⟩
  .rw[b.cd.tb]at d;cases d
  .obtain⟨p,n,f,_⟩:=b.cd.mp;simp_all
  obtain⟨o,f,_⟩:=b.cd.AJ h;simp_all
 .obtain⟨p,n,f,_⟩:=b.jB;simp_all
 .obtain⟨o,f,_⟩:=b.row.blk x e;simp_all
 rcases b.acY with g|⟨_,g,v,w⟩
 .exact t g
 rcases e with rfl|rfl|e
 .rw[g]at d;cases d
 .rw[v]at d;cases d
 obtain⟨o,f,_⟩:=w.blk x e;simp_all
def nZ(u:E)(i:Xj)(m:Tree)(c:fG)(l:Xg Out)(a:M)(v:cN)(H:Xg Out)(w₂:M):Prop:=∃o,aK u i v H o w₂/\Ln c o l/\aH (aI u m c) (aI u v.tree o) a w₂/\(∀b,dw o b->dw c b)/\a.heap.size+3<=w₂.heap.size/\∀b,a.heap.size<=b->b<a.heap.size+3->¬aI u v.tree o b
variable{w₂ D:M}{v N:cN}{H Q l l':Xg Out}{o L:fG}
theorem nZ.old(d:nZ u i m c l a v H w₂)(p:w₂.heap.size<=D.heap.size)(n:∀b,b<w₂.heap.size->D.heap[b]?=w₂.heap[b]?):nZ u i m c l a v H D:=by obtain⟨o,t,T,r,U,X,W⟩:=d;exact⟨o,t.old p n,T,r.trans ⟨p,λb w _=>n b w,λb d=>Xh d⟩,U,by omega,W⟩
theorem nZ.var(g:nZ u i m c l a v H w₂)(hd:∀b,dw c b->b<a.heap.size)(s:D.heap.size=w₂.heap.size)(p:∀b,b<a.heap.size\/a.heap.size+3<=b->D.heap[b]?=w₂.heap[b]?):nZ u i m c l a v H D:=by
 obtain⟨o,f,h,e,q,t,r⟩:=g;have k:∀b,aI u v.tree o b->D.heap[b]?=w₂.heap[b]?:=by grind
 refine⟨o,f.same ⟨by omega,k,λb d=>by grind⟩,h,⟨by omega,λb d n=>by rw[p b (.inl d),e.keep b d n],e.more⟩,q,by omega,r⟩
theorem nZ.step(t:aK u i v H o w₂/\Ln c o l/\aH (aI u m c) (aI u v.tree o) a w₂/\(∀b,dw o b->dw c b)/\a.heap.size+3<=w₂.heap.size/\∀b,a.heap.size<=b->b<a.heap.size+3->¬aI u v.tree o b)(p:aK u i N Q L D)(W:Ln o L l')(d:aH (aI u v.tree o) (aI u N.tree L) w₂ D)(Y:∀b,dw L b->dw o b):nZ u i m c (l++l') a N Q D:=by obtain⟨a1,X,n,Z,a2,a0⟩:=t;have:=d.size;exact⟨L,p,X.trans W,n.trans d,λb U=>Z b (Y b U),by omega,λb w T=>(aH.out d (a:=b) (by omega) (a0 b w T)).2.1⟩
def IV(u:E)(i:Xj)(e:cN)(told:Xg Out)(b:Out)(s:Xg Out)(m:Tree)(c:fG)(a:M)(d:Ending)(q:M):Prop:=d=Xs (.agg (iC b ln))/\b.names=[]/\b.results=[]/\Wt.lz told=told/\b.ev=0/\nZ u i m c told a e (s++told) q
theorem QN(Z:aK u i y s c a){d:ew}{rq:Sim.RV}(j9:RQ rq d)(j2:d.op.kind≠2)(j3:d.op.kind≠7)(h2:qc d.op)(m3:TD y.tree)(e2:0<=y.aL/\y.aL<2^62)(n2:∀e8 D,(y.cd e8 D).length<=8)(m9:s.length+64<2^20)(m7:c.hd.length+64<2^28)(e:Xj):
 Calls TP 65 #[pt u 0,.agg (aP e rq)] a λr q=>∃h3 told R,Wt.write y e d=(h3,told++[R])/\IV u i h3 told R s y.tree c a r q:=by
 obtain⟨ak,n3,n6,m0,aE,m2,o0,l4,l3,l2⟩:=rq;obtain⟨S,T,b0,Y,g3,g4,g5⟩:=j9;simp only at S T b0 Y g3 g4 g5;subst S T b0 Y g3 g4 g5;obtain⟨g,a6⟩:∃g,g=rV e d.ak d.op.kind (bs d.op.path) (bs d.op.data) d.op.aE d.op.flags d.watch (.slice l4 l3 l2):=by simp
 obtain⟨l8,f3,h5⟩:=QM a g d.ak e;have d7:=Z.old (by omega) f3;have j5:∀b,a.heap.size<=b->¬aI u y.tree c b:=λb t p=>by have:=Z.bj p;omega
 have b6:∀b,dw c b->b<a.heap.size:=λb t=>Z.iY t;have e4:=fH j2;have e5:=fH j3;obtain⟨h,c0⟩:∃h:cN,h={y with aL:=y.aL+1}:=by simp
 have c8:h.tree=y.tree:=by rw[c0]
 have n1:h.cd=y.cd:=by rw[c0]
 obtain⟨b4,g8⟩:∃b4,b4=ug a g d.ak e:=by simp
 rw[<-g8]at l8 f3 h5 d7
 have i9:(b4.setCell ⟨u,6,F⟩ (i64 (y.aL+1))).heap[u]?=C (Xn (EJ y.timeout i c.tb c.tw c.hb y.now (y.aL+1) y.next c.ov c.li.v) 98 (0,0)):=by have:=aA (n:=6) (i:=i64 (y.aL+1)) d7.ch;simp_all
 obtain⟨f5,h8⟩:=d7.nums i9 (by simp) (λb _ e7=>ai e7);have d8:aK u i h s c (b4.setCell ⟨u,6,F⟩ (i64 (y.aL+1))):=by simp_all
 obtain⟨n8,_,k4⟩:=d8.top
 let d6:M->Prop:=λf=>(aK u i h s c f/\Ln c c []/\aH (aI u y.tree c) (aI u h.tree c) a f/\(∀b,dw c b->dw c b)/\a.heap.size+3<=f.heap.size/\∀b,a.heap.size<=b->b<a.heap.size+3->¬aI u h.tree c b)/\pW h.tree c.nb c.mb c.tb [] f/\∀b,¬wH f c.tb b
 have b5:Calls TP 109 #[pt c.tb 0] (b4.setCell ⟨u,6,F⟩ (i64 (y.aL+1))) λr q=>r=Xs (.tuple #[])/\ly a.heap.size g (oS d.ak e) q q/\(q.cell? ⟨u,2,F⟩=C (pt c.tb 0)/\q.cell? ⟨u,6,F⟩=C (i64 (y.aL+1)))/\d6 q:=
  (LM d8.tree k4).mono λr o⟨z,a9,a2,j1,k0⟩=>by
    obtain⟨a8,a3⟩:=d8.Tt a9 (by omega) (λb _ e7=>j1 b e7);rw[c8]at a3;have d5:=h8.trans a3;have a0:=a8.ch;rw[c0]at a0;refine⟨z,h5.qQ d5 (λb S _=>j5 b S),⟨aa a0 2 A,aa a0 6 A⟩,⟨a8,Ln.refl c,?_,λb p=>p,?_,λb S _=>by simp_all⟩,a9,k0⟩
    .rw[c8];exact⟨by have:=d5.size;omega,λb t j4=>by rw[d5.keep b (by omega) j4,f3 b t],λb p=>Xh p⟩
    simp_all
 have c9:∀f,d6 f->∀D,Calls TP 113 #[pt c.tb 0,.agg (ub d.op),i64 d.ak,i64 (y.aL+1)] (f.drewN D) (gN h.tree c.nb c.mb c.tb [] (f.drewN D) (Wt.change h.tree d.op d.ak (y.aL+1))):=λf⟨⟨f5,_⟩,a9,_⟩ D=>by have d9:aK u i h s c (f.drewN D):=f5.old (XS _) (λ_ _=>rfl);obtain⟨⟨l1,e6⟩,k3,Y⟩:=d9.bF;have i2:pW h.tree c.nb c.mb c.tb [] (f.drewN D):=a9.old λ_ _=>rfl;exact Mf i2 (by rw[c8];exact Z.wf) (by simp_all) h2 e6 k3 Y (by decide)
 have k9:Wt.write y e d=(match Wt.change h.tree d.op d.ak (y.aL+1)with
  |.no r=>(h,[{ak:=d.ak,idx:=e,err:=r}])
  |.yes m k H=>match Wt.look m k with
   |.no _=>((Wt.tell e {h with tree:=m} H).1,(Wt.tell e {h with tree:=m} H).2++[{ak:=d.ak,idx:=e,path:=k}])
   |.yes X=>((Wt.tell e {h with tree:=m} H).1,(Wt.tell e {h with tree:=m} H).2++[{ak:=d.ak,idx:=e,path:=k,found:=J,stat:=X.stat}])):=by
  grind [Wt.write]
 rw[k9];have xo:(EJ y.timeout i c.tb c.tw c.hb y.now y.aL y.next c.ov c.li.v)[6]?=C (i64 y.aL):=A;rw[g8]at b5;rw[a6]at b5;cases a0:Wt.change h.tree d.op d.ak (y.aL+1)with
 |no r=>
  rw[a0]at c9
  have j0:(r !=0)=J:=by grind [Jg]
  refine(OG (q:=nZ u i y.tree c [] a h s) e4 e5 Z.ch xo A e2 b5 (λf v n D=>(c9 f v D).mono λl5 o⟨z,g9⟩=>?_) (qs r) j0).mono λl5 q⟨z,f,a1,a2,b7⟩=>⟨h,[],_,A,z,A,A,A,A,by
   rw[YT]
   exact a1.var b6 a2 λb t=>b7 b (by omega) (by omega)⟩
  have j8:nZ u i y.tree c [] a h s f:=⟨c,v.1.1,Ln.refl c,v.1.2.2.1,λb p=>p,v.1.2.2.2.2.1,v.1.2.2.2.2.2⟩;have e3:=v.1.1.ch;rw[c0]at e3;have b9:∀b,b<f.heap.size->o.heap[b]?=f.heap[b]?:=λb t=>g9.block b t;have k1:=g9.size;have lt:=λ(b:E)(R:Obj)(t:f.heap[b]?=C R)=>(XN.1 t).1;have h0:=(b9 u (lt _ _ e3)).trans e3;exact⟨z,⟨(b9 _ (lt _ _ n.h0)).trans n.h0,(b9 _ (lt _ _ n.h2)).trans n.h2,(b9 _ (lt _ _ n.h3)).trans n.h3,A,λ_ _=>rfl⟩,⟨aa h0 2 A,aa h0 6 A⟩,j8.old k1 b9⟩
 |yes b2 k H=>
  rw[a0]at c9;simp only;obtain⟨m6,j7⟩:=zE (by rw[c8];exact Z.wf) h2 a0;have i3:=ym (by rw[c8];exact Z.wf) a0;obtain⟨Q,c6⟩:∃Q:cN,Q={h with tree:=b2}:=by simp
  have k8:∀e8 D,(Q.cd e8 D).length<=8:=by simp_all
  have h1:Wt.lz (Wt.tell e Q H).2=(Wt.tell e Q H).2:=ab3 e H Q (ab5 a0);have k2:Q.tree=b2:=by rw[c6]
  let b3:Xp Xw->E->E->M->Prop:=λL O N o=>nZ u i y.tree c [] a Q s o/\Ru H (.slice L O N) (a.heap.size+3) o
  let W:M->Prop:=λw=>nZ u i y.tree c (Wt.tell e Q H).2 a (Wt.tell e Q H).1 (s++(Wt.tell e Q H).2) w
  have g6:∀f,d6 f->ly a.heap.size g (oS d.ak e) f f->∀D,Calls TP 113 #[pt c.tb 0,.agg (ub d.op),i64 d.ak,i64 (y.aL+1)] (f.drewN D) λr o=>∃L O N,r=Xs (.tuple #[.string (bs k),.slice L O N,.nilIface])/\ly a.heap.size g (oS d.ak e) o o/\(o.cell? ⟨u,2,F⟩=C (pt c.tb 0)/\o.cell? ⟨u,6,F⟩=C (i64 (y.aL+1)))/\b3 L O N o:=λf v n D=>(c9 f v D).mono λr o⟨n5,n4,n7,h4,z,a9,m8,h9,a5⟩=>by
   have d9:aK u i h s c (f.drewN D):=v.1.1.old (XS _) (λ_ _=>rfl);obtain⟨a8,a3⟩:=d9.UN a9 i3 h9 v.2.2;rw[<-c6]at a8;have a2:=v.1.2.2.2.2.1;have l0:=v.1.2.2.2.2.2;have i8:ly a.heap.size g (oS d.ak e) (f.drewN D) (f.drewN D):=⟨n.h0,n.h2,n.h3,A,λ_ _=>rfl⟩;have e1:=a8.ch;rw[c6,c0]at e1;obtain⟨L,O,N,rfl⟩:∃L O N,h4=.slice L O N:=by rcases a5 with⟨_,rfl⟩|⟨x,rfl,_⟩<;>exact⟨_,_,_,A⟩
   refine⟨L,O,N,z,i8.qQ a3 l0,⟨aa e1 2 A,aa e1 6 A⟩,nZ.step (l':=[]) v.1 a8 ⟨A,A,(YT _).symm⟩ ?_ (λb p=>p),?_⟩
   .rw[k2];exact⟨a3.size,a3.keep,a3.more⟩
   rcases a5 with p|⟨x,S,T,b0,Y⟩
   .exact Xh p
   exact Xi ⟨x,S,T,XZ a2 b0,Y⟩
  have g7:∀L O N o,b3 L O N o->ly a.heap.size g (oV d.ak 0 e 0 ⟨#[]⟩ ⟨#[]⟩ Xf 0 0 0 0 0 0 0 (Xm F 0 0) (Xm F 0 0)) o o->Calls TP 110 #[pt u 0,i64 e,.slice L O N] o λr w=>r=Xs (.tuple #[])/\ly a.heap.size g (oV d.ak 0 e 0 ⟨#[]⟩ ⟨#[]⟩ Xf 0 0 0 0 0 0 0 (Xm F 0 0) (Xm F 0 0)) w w/\w.cell? ⟨u,2,F⟩=C (pt c.tb 0)/\W w:=λL O N o⟨⟨l9,T⟩,a5⟩ n=>by
   have f4:=T.1;refine(Tn f4 k8 a5 (λb t=>?_) (by omega) (by omega) (by rw[T.2.1.2.2,YT];omega) e).mono λr w⟨z,i4,a4,n0,h7,k7,d1⟩=>⟨z,n.qQ h7 T.2.2.2.2.2,?_,nZ.step (l:=[]) T a4 d1 (by simp_all) k7⟩
   .rcases a5 with⟨_,p⟩|⟨x,S,_,_,Y⟩
    .cases p;cases t
    rw[S]at t;cases t;exact f4.Uv Y
   have:=aa a4.ch 2 A;rw[d1.1,T.2.1.1]at this;exact this
  have m4:∀L O N o a7,b3 L O N o->ly a.heap.size g (oV d.ak 0 e 0 ⟨#[]⟩ ⟨#[]⟩ Xf 0 0 0 0 0 0 0 (Xm F 0 0) (Xm F 0 0)) o a7->b3 L O N a7:=λL O N o a7⟨p,a5⟩ n=>⟨p.var b6 n.size λb t=>n.keep b (by omega),by
   rcases a5 with p|⟨x,S,T,b0,Y⟩
   .exact Xh p
   exact Xi ⟨x,S,T,b0,(n.keep x (by omega)).trans Y⟩⟩
  have m5:∀o a7,W o->ly a.heap.size g (oV d.ak 0 e 0 (bs k) ⟨#[]⟩ Xf 0 0 0 0 0 0 0 (Xm F 0 0) (Xm F 0 0)) o a7->W a7:=λo a7 p n=>p.var b6 n.size λb t=>n.keep b (by omega);have a1:∀U R,W U->W (U.alloc R):=λU R p=>p.old (by simp) λb t=>XQ _ _ _ t;have k6:(Wt.tell e Q H).1.tree=b2:=by simp_all [sP]
  have d0:∀w,W w->ly a.heap.size g (oV d.ak 0 e 0 (bs k) ⟨#[]⟩ Xf 0 0 0 0 0 0 0 (Xm F 0 0) (Xm F 0 0)) w w->Calls TP 58 #[pt c.tb 0,.string (bs k)] w λr U=>∃b1,r=Xs (.tuple #[.agg b1,(od (Wt.look b2 k)).ev])/\cf (od (Wt.look b2 k)) w.heap.size b1 U/\(∀R,ly a.heap.size g (oV d.ak 0 e 0 (bs k) ⟨#[]⟩ Xf 0 0 0 0 0 0 0 (Xm F 0 0) (Xm F 0 0)) (U.alloc R) (U.alloc R))/\W U:=λw v n=>by
   have i7:=v;obtain⟨i4,a4,d1,_⟩:=v;obtain⟨⟨l1,e6⟩,_,_⟩:=a4.bF;obtain⟨n9,_,k5⟩:=a4.top;have b8:=SI a4.tree (aa k5 0 A) a4.wf (bs k) e6 (by show k.length<2^31;exact j7);rw[k6,d1.1]at b8;refine b8.mono λr U⟨b1,z,c7,d2⟩=>⟨b1,z,c7,λR=>?_,nZ.old i7 d2.size d2.block⟩;have lt:=λ(b:E)(R:Obj)(t:w.heap[b]?=C R)=>(XN.1 t).1
   have kp:∀(b:E)(d4:Obj),w.heap[b]?=C d4->(U.alloc R).heap[b]?=C d4:=λb d4 p=>by have S:=lt b d4 p;rw[XQ _ _ _ (XY S d2.size),d2.block b S];exact p
   exact⟨kp _ _ n.h0,kp _ _ n.h2,kp _ _ n.h3,A,λ_ _=>rfl⟩
  cases b8:Wt.look b2 k with
  |no h6=>rw[b8]at d0;refine(xk (o:=h6) (d5:=W) (d6:=W) (T:=0) (U:=0) (W:=0) (X:=0) (Y:=0) (Z:=0) (a0:=0) (a8:=⟨#[]⟩) e4 e5 Z.ch xo A e2 b5 (by rw[<-a6];exact g6) zO (by rw[<-a6];exact g7) (λw v n=>?_) (by grind) (by grind) a1 (.inr ⟨rfl,rfl⟩)).mono λr q⟨z,f,a1,a2,b7⟩=>⟨(Wt.tell e Q H).1,(Wt.tell e Q H).2,{ak:=d.ak,idx:=e,path:=k},by rw[c6],z,A,A,h1,A,a1.var b6 a2 λb t=>b7 b (by omega) (by omega)⟩;rw[<-a6]at n;refine(d0 w v n).mono λr U⟨b1,z,c7,j6,e0⟩=>?_;obtain⟨e9,f1,f0,rfl⟩:=AM c7;exact⟨e9,f1,f0,z,by simp_all,e0⟩
  |yes X=>rw[b8]at d0;refine(xk (o:=0) (d5:=W) (d6:=W) (T:=X.stat.made) (U:=X.stat.set) (W:=X.stat.aE) (X:=X.stat.ez) (Y:=X.stat.own) (Z:=X.stat.size) (a0:=X.stat.kids) (a8:=bs X.data) e4 e5 Z.ch xo A e2 b5 (by rw[<-a6];exact g6) zO (by rw[<-a6];exact g7) (λw v n=>?_) (by grind) (by grind) a1 (.inl ⟨rfl,rfl⟩)).mono λr q⟨z,f,a1,a2,b7⟩=>⟨(Wt.tell e Q H).1,(Wt.tell e Q H).2,{ak:=d.ak,idx:=e,path:=k,found:=true,stat:=X.stat},by rw[c6],z,A,A,h1,A,a1.var b6 a2 λb t=>b7 b (by omega) (by omega)⟩;rw[<-a6]at n;refine(d0 w v n).mono λr U⟨b1,z,c7,j6,e0⟩=>?_;obtain⟨dd,f6,f7,f8,f9,g0,g1,g2,e9,f1,f0,rfl,_,rfl,rfl,rfl,rfl,rfl,rfl,rfl,rfl⟩:=yZ c7;exact⟨e9,f1,f0,z,by simp_all,e0⟩
end
variable{a:fG}{b:M}{h:Tree}
section
variable{e:Xj}{k:cN}{c i:Xg Out}{g:E}
def Be(u:E)(e:Xj)(k:cN)(c i:Xg Out)(h:Tree)(a:fG)(b f:M):Prop:=∃d,aK u e k (c++i) d f/\aH (aI u h a) (aI u k.tree d) b f/\il (dw a) (dw d) b.heap.size/\Ln a d (Wt.lz i)
def zr(u:E)(e:Xj)(k:cN)(c i:Xg Out)(h:Tree)(a:fG)(b:M)(d:Ending)(f:M):Prop:=d=Xs (.tuple #[])/\Be u e k c i h a b f
theorem RR(a:Wt.TB (512*g) h)(l:g<2^20):TD h:=λd c b=>by obtain⟨⟨e,f⟩,i,k⟩:=a d c b;omega
theorem rA(q:aK u e y c a b)(w:c.length<2^20)(s:f.names=[])(t:f.results=[]):Calls TP 60 #[pt u 0,.agg (iC f ln)] b λo n=>o=Xs (.tuple #[])/\∃d,aK u e y (c++[f]) d n/\aH (aI u y.tree a) (aI u y.tree d) b n/\(∀m,dw d m->dw a m)/\Ln a d []:=
 (Gj q w (tG s t b) λm l=>by rcases l with l|l<;>cases l).mono λo n⟨v,x,r,p⟩=>⟨v,_,r,p,ID,A,A,(YT _).symm⟩
theorem CJ(a0:aK u e y c a b)(b6:Ok y g)(c9:g<2^20)(d8:c.length+64<2^20)(d2:a.hd.length+64<2^28){d:ew}{rq:Sim.RV}(a9:RQ rq d)(d7:qc d.op){h:Xj}(f0:d.op.kind=3\/d.op.kind=4\/d.op.kind=5\/d.op.kind=6)(e9:h<64):
 Calls TP 40 #[pt u 0,.iface 140 (.agg (aP h rq))] b (zr u e (Wt.step y h d).1 c (Wt.step y h d).2 y.tree a b):=by
 have e0:Wt.step y h d=if Wt.known y d.ak=Xf then(y,[{ak:=d.ak,idx:=h,err:=3}])else Wt.write (Wt.heard y d.ak) h d:=by
  have f2:Wt.task h d=.write:=by unfold Wt.task;rw[Xx (by omega),Xx (by omega),Xx (by omega),Xx (by omega),Xx (by omega),XC (by omega)]
  simp_all [Wt.step]
 have d9:=a9;obtain⟨ak,f3,f4,e7,aE,e8,f6,e5,e4,e3⟩:=rq;obtain⟨Q,R,b9,c0,c6,c7,c8⟩:=a9;subst Q R b9 c0 c6 c7 c8;obtain⟨o,b0⟩:∃o,o=rV h d.ak d.op.kind (bs d.op.path) (bs d.op.data) d.op.aE d.op.flags d.watch (.slice e5 e4 e3):=by simp
 have a8:∀i,i<b.heap.size->(b.alloc (.cells o 140)).heap[i]?=b.heap[i]?:=by simp_all [XQ]
 have f1:(b.alloc (.cells o 140)).heap.size=b.heap.size+1:=by simp
 have a6:=Yn b (.cells o 140);have a7:¬aI u y.tree a b.heap.size:=λO=>by have:=a0.bj O;omega
 have s:=Hp (a0.old (by omega) a8) d.ak;have a3:∀{k:M},aH (aI u y.tree a) (aI u y.tree a) (b.alloc (.cells o 140)) k->aH (aI u y.tree a) (aI u y.tree a) b k:=λZ=>⟨by have:=Z.size;omega,λi v d4=>by rw[Z.keep i (by omega) d4,a8 i v],λi O=>Xh O⟩;rw[e0];cases a5:Wt.known y d.ak with
 |false=>
  rw[a5]at s;refine CI (KP:=λk=>aK u e y c a k/\aH (aI u y.tree a) (aI u y.tree a) b k) (p:=λY=>Be u e y c [{ak:=d.ak,idx:=h,err:=3}] y.tree a b Y) ?_ λk⟨L,H⟩=>?_
  .rw[<-b0];exact s.mono λD k⟨l,T,t⟩=>⟨l,(t.keep _ (by omega) a7).trans a6,T,a3 t⟩
  exact(rA L (by omega) (f:={ak:=d.ak,idx:=h,err:=3}) A rfl).mono λD x⟨l,N,r,q,U,w⟩=>⟨l,N,r,H.trans q,λi v=>Xh (U i v),w⟩
 |true=>
  rw[a5]at s;have z:=b6.heard d.ak;have b2:=z.UR;have a2:=RR z.LQ c9;have a4:0<=(Wt.heard y d.ak).aL/\(Wt.heard y d.ak).aL<2^62:=by have:=z.aL;omega
  have S:=(z.write h (r:=d) (by omega) (by omega)).2;obtain⟨n,b1⟩:∃n,n=Wt.heard y d.ak:=by simp
  have e1:n.tree=y.tree:=by rw[b1];rfl
  rw[<-b1]at s b2 a2 a4 S⊢
  refine JY (KP:=λk=>aK u e n c a k/\aH (aI u y.tree a) (aI u y.tree a) b k) (p:=λY=>Be u e (Wt.write n h d).1 c (Wt.write n h d).2 y.tree a b Y)
   (x:=λf b4 x=>b4=ln/\f.names=[]/\f.results=[]/\∃p told m,Wt.write n h d=(p,told++[f])/\aK u e p (c++told) m x/\aH (aI u y.tree a) (aI u p.tree m) b x/\(∀i,dw m i->dw a i)/\Ln a m (Wt.lz (told++[f]))) ?_ (λk⟨L,H⟩=>?_) λf b4 x⟨e2,d5,d6,p,told,m,X,r,q,W,d3⟩=>?_
  .rw[<-b0];exact s.mono λD k⟨l,T,t⟩=>⟨l,(t.keep _ (by omega) a7).trans a6,T,a3 t⟩
  .refine(QN L d9 (by omega) (by omega) d7 a2 a4 b2 d8 d2 h).mono λD x⟨p,told,f,X,l,Q,R,d0,d1,m,r,w,q,W,_⟩=>⟨f,ln,l,A,Q,R,p,told,m,X,r,H.trans (by rw[<-e1];exact q),W,by
    rw[aby,d0,show Wt.lz [f]=[]by simp[Wt.lz,d1],YT]
    exact w⟩
  rw[X]at S⊢
  rw[e2];simp only[Yw,aa7]at S
  refine(rA r (by rw[Yw];omega) d5 d6).mono λD f5⟨l,N,b8,b7,U,w⟩=>⟨l,N,?_,q.trans b7,λi v=>Xh (W i (U i v)),by
   have:=d3.trans w
   rwa [YT]at this⟩
  rw[<-ZJ];exact b8
theorem BY{d:Xg (Xj×Xj)}(a:Xe):a∈d.map (λc=>i64 c.1)↔(fL d a).isSome=J:=by
 constructor
 .intro b;obtain⟨c,e,rfl⟩:=YB.1 b;simp_all [eZ]
 intro b;cases a with
 |int a f=>
  cases a with
  |i64=>simp_all [eZ]
  |_=>cases b
 |_=>cases b
theorem BZ{m:Xg (Xj×Xj)}{d n:Xj}(q:∀o∈m,o.1≠d):fL (m++[(d,n)]) (i64 d)=C (i64 n)/\∀l,l≠i64 d->fL (m++[(d,n)]) l=fL m l:=by
 refine⟨?_,λl r=>?_⟩
 .grind [eZ]
 cases l with
 |int p j=>
  cases p with
  |i64=>grind [eZ]
  |_=>rfl
 |_=>rfl
theorem CH(n:aK u e y c a b)(w:Ok y g)(c0:g<2^20)(d2:c.length+64<2^20)(c8:a.hd.length+64<2^28){v:ew}{rq:Sim.RV}(b2:RQ rq v){h:Xj}(d0:v.op.kind=1)(c9:h<64):
 Calls TP 40 #[pt u 0,.iface 136 (.agg (aP h rq))] b (zr u e (Wt.step y h v).1 c (Wt.step y h v).2 y.tree a b):=by
 have b3:Wt.step y h v=if y.dE.length<8 then({y with aL:=y.aL+1,dE:=y.dE++[(y.next,y.now)],next:=y.next+1},[{ak:=y.next,idx:=h}])else(y,[{idx:=h,err:=13}]):=by simp_all [Wt.task,Xx,Wt.step]
 obtain⟨a6,b9,U,O⟩:=n.jB;have S:=(XN.1 U).1;have x:a.hb≠u:=λm=>by have:=n.ch;simp_all
 have d3:a6.size=y.dE.length:=by
  have b2:=w.xU;have:=O.size (l:=y.dE.map λm=>i64 m.1) ?_ BY
  .rw[this,ZU]
  grind
 have T:∀i:M,i.heap[a.hb]?=b.heap[a.hb]?->(Builtin.len_ #[96] 3 #[.map (C a.hb)]).run TP i=.ok (Xd K ((y.dE.length:E):Xj)) i:=by grind [Od,IC]
 rw[b3];by_cases p:y.dE.length<8
 .rw[XC p]
  obtain⟨b4,b5⟩:=BZ (m:=y.dE) (d:=y.next) (n:=y.now) λm s r=>by have:=w.key m.1 (YB.2 ⟨m,s,A⟩);omega
  have c6:=w.aL;have d4:=w.kR
  refine MA (o:=EJ y.timeout e a.tb a.tw a.hb y.now y.aL y.next a.ov a.li.v) (aL:=y.aL) (kR:=y.next) (now:=y.now) (q:=y.dE.length)
   (p:=λD=>Be u e {y with aL:=y.aL+1,dE:=y.dE++[(y.next,y.now)],next:=y.next+1} c [{ak:=y.next,idx:=h}] y.tree a b D)
   (a0:=λY=>∃l k,Y=.map l k/\Mp OU l k (fL (y.dE++[(y.next,y.now)]))) n.ch A S T A rfl rfl x (by omega) (by omega) (by omega) (λi a7=>?_) λi W a9⟨Y,d1,l,k,c7,Q⟩ N=>?_
  .obtain⟨l,k,z,Q⟩:=O.put MW IC (w:=i) (a7.trans U) (k:=i64 y.next) ⟨_,A⟩ (i64 y.now) b4 b5
   grind
  have d5:(xW b a.hb (.map l k)).heap.size=b.heap.size:=by simp[xW]
  have a8:(xW b a.hb (.map l k)).heap[a.hb]?=C (.map l k):=by simp_all
  have b1:∀d,d≠a.hb->(xW b a.hb (.map l k)).heap[d]?=b.heap[d]?:=by grind
  obtain⟨a3,a1⟩:=n.hears a8 Q (by omega) λd _ x=>b1 d x
  obtain⟨a4,a2⟩:=a3.nums (w':=i) (now:=y.now) (aL:=y.aL+1) (kR:=y.next+1) a9 (by omega) λd o x=>by grind
  refine(rA a4 (by omega) (f:={ak:=y.next,idx:=h}) A rfl).mono λm b7⟨s,L,H,q,z,p⟩=>⟨s,L,H,(a1.trans a2).trans q,λd o=>Xh (z d o),p⟩
 rw[Xx p];refine ET (o:=EJ y.timeout e a.tb a.tw a.hb y.now y.aL y.next a.ov a.li.v) (q:=y.dE.length) (p:=λD=>Be u e y c [{idx:=h,err:=13}] y.tree a b D) n.ch A S T (by omega) λi W N=>?_;have a5:=n.old W N;refine(rA a5 (by omega) (f:={idx:=h,err:=13}) A rfl).mono λm b7⟨s,L,H,q,z,p⟩=>⟨s,L,H,?_,λd o=>Xh (z d o),p⟩
 exact⟨by have:=q.size;omega,λd o b0=>by rw[q.keep d (by omega) b0,N d o],λd r=>by
  rcases q.more d r with r|r
  .exact Xh r
  omega⟩
end
variable{f:fG}{g:M}{l:M}{h:E}{j:E}{o:Xe}{c:E}
structure Sg where
 gI:cN
 outs:Xg Out
 cnt:E
def wm(e:E->ew)(y:Sg)(c:E):Sg:=⟨(Wt.step y.gI c (e c)).1,y.outs++(Wt.step y.gI c (e c)).2,y.cnt+1⟩
def Ga(e:E->ew)(y:Sg)(c:E):Sg:=⟨(Wt.eN y.gI c (e c) (Wt.look y.gI.tree (e c).op.path)).1,y.outs++[(Wt.eN y.gI c (e c) (Wt.look y.gI.tree (e c).op.path)).2],y.cnt+1⟩
def tq(e:E->ew)(c:E):Xo:=decide ((e c).op.kind=8\/(e c).op.kind=9\/(e c).op.kind=10)
def Nk(e:E->ew)(y:Sg)(c:E):LR:=od (Wt.look y.gI.tree (e c).op.path)
def KI(e:E->ew)(rq:E->RV)(c:E):Xe:=.iface (if tq e c then 107 else if(e c).op.kind=1 then 136 else 140) (.agg (aP c (rq c)))
def OV(p:E)(y:cN)(q:Xg Out)(a:E):Prop:=Ok y (p+a)/\q.length<=33*a
def adC(b:adt)(a q:Xg Out)(f:fG):Prop:=f.li=b/\f.hd=a++Wt.lz q
def Wi(b:adt)(a:Xg Out)(p u:E)(m:Xj)(y:Sg)(own c:E->Prop)(g:M):Prop:=∃f,aK u m y.gI y.outs f g/\own=aI u y.gI.tree f/\c=dw f/\OV p y.gI y.outs y.cnt/\adC b a y.outs f
def WI(b:adt)(a:Xg Out)(p u:E)(m:Xj)(e:E->ew)(y:Sg)(c:E)(i:Xe)(own d:E->Prop)(g:M):Prop:=∃f o,i=.agg (iC (Wt.eN y.gI c (e c) (Wt.look y.gI.tree (e c).op.path)).2 o)/\aK u m (Ga e y c).gI y.outs f g/\jX (Wt.eN y.gI c (e c) (Wt.look y.gI.tree (e c).op.path)).2 o g/\(∀h,o.1.ownBlock=C h\/o.2.ownBlock=C h->¬aI u (Ga e y c).gI.tree f h)/\own=aI u (Ga e y c).gI.tree f/\(d=λh=>dw f h\/o.1.ownBlock=C h\/o.2.ownBlock=C h)/\OV p (Ga e y c).gI (Ga e y c).outs (Ga e y c).cnt/\adC b a y.outs f
theorem fP{a:Xk Xe}(d:∀f∈a.toList,NB f):¬aT a:=λ⟨c,b,e⟩=>d (.int .u8 b) (Yz.2 (Ys e)) b A
theorem Gf(y:cN)(b:Xj)(e:ew)(a:Bb):(Wt.eN y b e a).1.tree=y.tree:=by
 unfold Wt.eN;split
 .rfl
 split
 .split
  .split<;>rfl
  rfl
 split<;>rfl
section
variable{m:Xj}{q:Xg Out}
theorem aK.En(b:aK u m y q f g)(a:aI u y.tree f h){x:Xk Xe}{W:Xq}{Q:E×E}(d:g.heap[h]?=C (Xn x W Q)):¬aT x:=by
 refine fP ?_
 have U:NB f.ov:=λs l=>by rcases b.row.2 with⟨a,_⟩|⟨_,_,_,a,_⟩<;>(simp_all)
 have base:∀(w:Xg Xe),(∀k∈w,k=f.ov\/(match k with|.int .u8 _=>False|_=>True))->∀k∈w,NB k:=λw T k e s l=>by
  rcases T k e with a|a
  .exact U s (a.symm.trans l)
  simp_all
 rcases a with rfl|a|a|rfl|a|⟨S,a⟩
 .rw[b.ch]at d;cases d;refine base _ λk e=>?_;simp only[EJ,XV,Yd,YS]at e;rcases b.acY with a|⟨a,_⟩<;>rw[a]at e<;>grind
 .rcases a with rfl|⟨t,n,rfl|rfl⟩
  .obtain⟨Y,o,p⟩:=b.top;rw[p]at d;cases d;refine base _ λk e=>Xi ?_;simp only[XV,Yd,YS]at e;rcases e with rfl|rfl|rfl
   .trivial
   .trivial
   rcases o with rfl|⟨_,_,_,rfl⟩<;>trivial
  .obtain⟨i,v⟩:=XR.1 n;rw[b.tree.nd t i v]at d;cases d;refine base _ λk e=>Xi ?_;simp only[cU,XV,Yd,YS]at e
   grind
  obtain⟨i,v⟩:=XR.1 n;obtain⟨H,z,r,_⟩:=b.tree.kd t i v;simp_all
 .rcases a with rfl|rfl|⟨c,t,n⟩
  .rw[b.cd.tb]at d;grind
  .obtain⟨H,z,r,_⟩:=b.cd.mp;simp_all
  rcases b.cd.row c t with⟨_,N,l⟩|⟨R,O,D,l,o,p,_,_,_,_,X⟩
  .rw[l]at n;cases N<;>cases n
  rw[l]at n;have:R=h:=by
   cases O with
   |zero=>cases n
   |succ i=>simpa[rowOf]using n
  grind
 .obtain⟨H,z,r,_⟩:=b.jB;simp_all
 .obtain⟨D,r,a⟩:=b.row.blk h a;simp_all
 rcases b.acY with o|⟨_,o,p,L⟩
 .exact absurd o S
 rcases a with rfl|rfl|a
 .rw[o]at d;cases d;exactλk e s l=>by simp_all
 .rw[p]at d;cases d;rcases L.2 with⟨a,_⟩|⟨_,_,_,a,_⟩<;>exactλk e s l=>by simp_all
 obtain⟨D,r,a⟩:=L.blk h a;simp_all
theorem aK.forget(b:aK u m y q f g):∃l,nB (aI u y.tree f) g l/\aK u m y q f l/\∃a,(a=.tuple #[]\/∃i d,a=Xm F i d)/\l.heap[f.tb]?=C (Xn #[pt (f.nb []) 0,Xd K y.tree.length,a] 195 (0,0)):=by
 obtain⟨a,N,p⟩:=b.top;have a2:(a=.tuple #[]\/∃i d,a=Xm F i d)->_:=λn=>(⟨g,⟨A,A,λ_=>Xh A⟩,b,a,n,p⟩:∃l,nB (aI u y.tree f) g l/\aK u m y q f l/\∃a,(a=.tuple #[]\/∃i d,a=Xm F i d)/\l.heap[f.tb]?=C (Xn #[pt (f.nb []) 0,Xd K y.tree.length,a] 195 (0,0)));rcases N with rfl|⟨h,i,d,rfl⟩
 .simp_all
 cases h with
 |none=>simp_all
 |some h=>
  have s:(g.setCell ⟨f.tb,2,F⟩ (.tuple #[])).heap[f.tb]?=C (Xn #[pt (f.nb []) 0,Xd K y.tree.length,.tuple #[]] 195 (0,0)):=by have:=aA (n:=2) (i:=.tuple #[]) p;simpa using this
  have t:∀r,r≠f.tb->(g.setCell ⟨f.tb,2,F⟩ (.tuple #[])).heap[r]?=g.heap[r]?:=by grind [ai]
  have L:aK u m y q f (g.setCell ⟨f.tb,2,F⟩ (.tuple #[])):=by obtain⟨H,_,_,R,S,T,U,X,W,Y⟩:=b.jS (w':=g.setCell ⟨f.tb,2,F⟩ (.tuple #[])) (by rw[aS];exact XS _) 0 (·=0) (λh _ n=>t h λk=>n 0 A (Xh k)) y.tree f (λv h n=>Xh n) (by decide);refine⟨b.tree.stay λD O=>?_,⟨_,Xh A,s⟩,b.wf,R (by decide),S (by decide),T (by decide),U (by decide),⟨b.outs.1,W⟩,Y,X (by decide),H⟩;obtain⟨i,x⟩:=XR.1 O;obtain⟨a0,Z,w,_⟩:=b.tree.kd D i x;have z:=b.tree.nd D i x;exact⟨t _ (λk=>by rw[k,p]at z;cases z),t _ (λk=>by rw[k,p]at w;cases w)⟩
  refine⟨_,⟨aS,A,λr=>?_⟩,L,_,Xh A,s⟩;by_cases Q:r=f.tb
  .subst Q;refine Xi ⟨Xi (Xh (Xh A)),_,_,195,(0,0),p,s,A,λv a3 a4 c e=>?_⟩;rcases v with _|_|_|v
   .simp at c e;subst c e;exact Xh A
   .simp at c e;subst c e;exact Xh A
   .simp at c e;subst c e;exact Xi ⟨A,trivial⟩
   simp at c
  simp_all
theorem xh(b:l.heap[r]?=(g.heap[r]?).map Sim.Obj.whole)(a:g.cell? ⟨r,j,F⟩=C o):l.cell? ⟨r,j,F⟩=C o:=by
 unfold M.cell? at a⊢
 rw[b];cases c:g.heap[r]? with
 |none=>simp_all
 |some d=>
  rw[c]at a;cases d with
  |cells e h f=>exact a
  |_=>simp at a
theorem aK.Tv(b:aK u m y q f g){S:Xe}(b2:S=.tuple #[]\/∃i x,S=Xm F i x)(Q:g.heap[f.tb]?=C (Xn #[pt (f.nb []) 0,Xd K y.tree.length,S] 195 (0,0))){s:E->Prop}(b3:s 1){Z:E}(b6:m=Z){rq:E->RV}{e:E->ew}(a9:∀c,c<i->RQ (rq c) (e c))(a7:∀c,c<i->(e c).op.path.length<2^30):
 Lx s (pJ y.tree f.nb f.mb f.tb) (λc=>od (Wt.look y.tree (e c).op.path)) f.tb u Z i rq g:=by
 obtain⟨b9,b0,_⟩:=b.wf.root;have b1:(Wt.find y.tree []).isSome=J:=by rw[b0];rfl
 have v:∀a,(Wt.find y.tree a).isSome=J->pJ y.tree f.nb f.mb f.tb (f.nb a):=λa k=>Xi ⟨a,k,Xh A⟩;have W:∀a,(Wt.find y.tree a).isSome=J->pJ y.tree f.nb f.mb f.tb (f.mb a):=λa k=>Xi ⟨a,k,Xi A⟩;have X:∀{h x b4 a2},pJ y.tree f.nb f.mb f.tb h->g.heap[h]?=C (Xn x b4 a2)->¬aT x:=λO l=>b.En (Xi (Xh O)) l;refine⟨λh O=>?_,Xh A,⟨_,_,_,b.ch,YA _,by simp_all,A,b.En (Xh A) b.ch,λY T o=>?_⟩,λc U b5 D b8=>?_⟩
 .rcases O with rfl|⟨a,k,rfl|rfl⟩
  .refine Xh ⟨_,_,_,Q,by simp,YA _,X (Xh A) Q,λY T o=>?_⟩;have d:=Yz.2 (Ys o);simp only[XV,Yd,YS]at d;rcases d with rfl|rfl|rfl
   .exact .ptr (v _ b1)
   .exact .int _ _
   rcases b2 with rfl|⟨_,_,rfl⟩
   .exact .bS
   exact .aO _ _
  .obtain⟨n,d⟩:=XR.1 k;have l:=b.tree.nd a n d;refine Xh ⟨_,_,_,l,by simp[cU],YA _,X (v a k) l,λY T o=>?_⟩;have t:=Yz.2 (Ys o);simp only[cU,XV,Yd,YS]at t;rcases t with rfl|rfl|rfl|rfl|rfl|rfl|rfl|rfl|rfl|rfl|rfl|rfl
   case inr.inr.inr.inr.inr.inr.inr.inr.inr.inr.inl=>
    split
    .exact .cG
    rename_i a6;exact .ptr (v _ (b.wf.up a a6 k))
   case inr.inr.inr.inr.inr.inr.inr.inr.inr.inr.inr=>exact .map (W a k)
   all_goals first|exact .string _|exact .int _ _
  obtain⟨n,d⟩:=XR.1 k;obtain⟨N,L,l,H⟩:=b.tree.kd a n d;refine Xi ⟨N,L,l,λa1 a5=>?_⟩;obtain⟨T,r,a3,a4,z⟩:=H.key a1 a5;rw[a3,a4];refine⟨.string _,?_⟩;unfold bX at z;split at z
  .rename_i o;cases z;exact .ptr (v _ o)
  cases z
 .have t:=Yz.2 (Ys o);simp only[EJ,XV,Yd,YS]at t;rcases t with rfl|rfl|rfl|rfl|rfl|rfl|rfl|rfl|rfl|rfl
  case inr.inr.inr.inr.inr.inr.inr.inr.inr=>
   rcases b.acY with p|⟨p,_⟩<;>rw[p]
   .exact Xh .nilFunc
   exact Xi trivial
  case inr.inr.inr.inr.inr.inr.inr.inr.inl=>
   rcases b.row.2 with⟨p,_⟩|⟨_,_,_,p,_⟩<;>rw[p]
   .exact Xh (.aO _ _)
   exact Xi trivial
  all_goals first|exact Xh (.int _ _)|exact Xi trivial
 obtain⟨⟨n,d⟩,_,_⟩:=b.bF
 have a0:mg y.tree f.nb f.mb b5:=⟨λw n d=>⟨_,by rw[D _ (.inl (v w (by rw[d];rfl))),b.tree.nd w n d];rfl⟩,λw n d=>by
  obtain⟨N,L,l,H⟩:=b.tree.kd w n d
  exact⟨N,L,by rw[D _ (.inl (W w (by rw[d];rfl))),l];rfl,H⟩⟩
 have a8:=(a9 c U).path;have b7:=a7 c U;have:=Hu a0 (xh (D _ (Xh (Xh A))) (aa Q 0 A)) b.wf (bs (e c).op.path) (xh (D _ (Xi b3)) d) (by show(e c).op.path.length<2^31;omega);rw[a8];exact this
end
section
variable{m p:E}{e:E->ew}{rq:E->RV}{s:E->Prop}
theorem su:tq e c=J↔(e c).op.kind=8\/(e c).op.kind=9\/(e c).op.kind=10:=by simp[tq]
theorem Ij{y:Sg}(a:tq e c=J)(b:c<64):Ga e y c=wm e y c:=by
 have d:=su.1 a
 have k:Wt.task c (e c)=.read:=by unfold Wt.task;rw[Xx (by omega),Xx (by omega),Xx (by omega),XC (by omega)]
 simp_all [Ga,wm,Wt.step]
theorem SB(T:∀c,c<i->RQ (rq c) (e c))(a5:∀c,c<i->qc (e c).op)(Y:∀c,c<i->(e c).op.kind=1\/(e c).op.kind=3\/(e c).op.kind=4\/(e c).op.kind=5\/(e c).op.kind=6\/(e c).op.kind=8\/(e c).op.kind=9\/(e c).op.kind=10)(d2:p<2^16)(d7:i<=64)(c0:s 1)(b7:1<=m/\m<2^16){a1:adt}{O:Xg Out}(d3:O.length<2^27):
 HC (Wi a1 O p u m) (WI a1 O p u m e) (Ga e) (wm e) (Nk e) s u m i rq (tq e) (KI e rq) Sg.cnt where
 UZ:=λ_ _=>rfl
 RZ:=λ_ _=>rfl
 sm:=λy own L g l b⟨f,a,d,k,x⟩=>⟨f,a.same (by simp_all),d,k,x⟩
 lt:=λy own L g⟨f,a,d,k,_⟩ h w=>by
  subst d k;rcases w with b|b
  .exact a.bj b
  exact a.iY b
 En:=λy own L g⟨f,a,d,k,_⟩ h w c9 e6 d1 S=>by subst d k;exact a.En w S
 pre:=λy own L g⟨f,a,d,k,x⟩=>by subst d k;obtain⟨l,b4,D,e7,v,Q⟩:=a.forget;exact⟨l,_,f.tb,b4,⟨f,D,A,A,x⟩,λh w=>Xi (Xh w),D.Tv v Q c0 A T λc Y=>(a5 c Y).path⟩
 ev:=λy c=>by
  unfold Nk;cases Wt.look y.gI.tree (e c).op.path with
  |no n=>exact .iface _ _ _
  |yes b0=>exact .nil
 Ws:=λy c j=>by simp[Nk,Ga,Gf]
 mh:=λy c c6 own L g l n⟨f,o,v,a,Q,b3⟩=>⟨f,o,v,a.old (by simp_all) (λ_ _=>by rw[n]),⟨Q.1.stay λh _=>by rw[n],Q.2.stay λh _=>by rw[n]⟩,b3⟩
 Ro:=λy c t jB S own L g d9 e5⟨f,a,d,k,x,z⟩ b9 b5=>by
  subst d k;have b6:=su.1 jB;have b8:=Ij (y:=y) jB (by omega);obtain⟨H,c8⟩:=x;obtain⟨a2,c7⟩:=Ok.step H c (r:=e c) (by omega) (by omega) (by omega)
  have Z:OV p (Ga e y c).gI (Ga e y c).outs (Ga e y c).cnt:=by rw[b8];refine⟨a2,?_⟩;show(y.outs++_).length<=33*(y.cnt+1);rw[Yw];omega
  refine(Qt a (T c t) b6 (λt=>?_) c A b9 b5).mono λn l⟨o,N,R,D,a6,b1,a7,a0,X⟩=>⟨_,_,_,R,⟨N,o,A,D,a0,λh w=>?_,A,A,Z,a7.2.1.trans z.1,a7.2.2.trans z.2⟩,?_,λh w=>?_⟩
  .have v:=H.key _ (gW.1 t);have Q:=H.kR;omega
  .show¬aI u (Wt.eN _ _ _ _).1.tree N h;rw[a6];exact(X h w).1
  .show aH _ (aI u (Wt.eN _ _ _ _).1.tree N) g l;rw[a6];exact b1
  grind [dw,Dk]
 snd:=λy c t jB S c6 own L g⟨f,o,v,a,a0,X,d,k,x,z⟩=>by
  subst d k v;have d5:=x.2
  have d6:y.outs.length+1<=33*(y.cnt+1):=by simp_all [Ga]
  refine(Gj a (by omega) a0 X).mono λn l⟨R,e1,D,W⟩=>⟨_,_,R,⟨_,D,A,A,x,z.1,?_⟩,W,λh w=>Xh ?_⟩
  .show f.hd=O++Wt.lz (y.outs++[_]);rw[aby,show Wt.lz [(Wt.eN y.gI c (e c) (Wt.look y.gI.tree (e c).op.path)).2]=[]by simp[Wt.lz,acW],YT];exact z.2
  rcases w with b|b|⟨b0,U,b⟩
  .exact Xh (Xh b)
  .exact Xh (Xi (Xh b))
  rcases YC.1 U with U|U
  .exact Xh (Xi (Xi ⟨b0,U,b⟩))
  simp_all
 one:=λy c t jB S own L g⟨f,a,d,k,x,z⟩=>by
  subst d k;have d8:¬((e c).op.kind=8\/(e c).op.kind=9\/(e c).op.kind=10):=λb=>by grind [su]
  have d4:=Y c t;obtain⟨H,c8⟩:=x;obtain⟨a2,c7⟩:=Ok.step H c (r:=e c) (by omega) (by omega) (by omega)
  have Z:OV p (wm e y c).gI (wm e y c).outs (wm e y c).cnt:=by
   refine⟨a2,?_⟩;show(y.outs++_).length<=33*(y.cnt+1)
   grind
  have fin:∀{n l},zr u m (Wt.step y.gI c (e c)).1 y.outs (Wt.step y.gI c (e c)).2 y.gI.tree f g n l->∃a8 a9,n=Xs (.tuple #[])/\Wi a1 O p u m (wm e y c) a8 a9 l/\aH (aI u y.gI.tree f) a8 g l/\il (dw f) a9 g.heap.size:=λ⟨R,N,D,W,b2,a3⟩=>⟨_,_,R,⟨N,D,A,A,Z,a3.2.1.trans z.1,by rw[a3.2.2,z.2,ZJ,<-aby];rfl⟩,W,b2⟩;have a4:f.hd.length+64<2^28:=by have:(Wt.lz y.outs).length<=y.outs.length:=Xg.length_filter_le _ _;rw[z.2,Yw];omega
  unfold KI;rw[Xx (by simp_all)];by_cases v:(e c).op.kind=1
  .rw[XC v];exact(CH a H (by omega) (by omega) a4 (T c t) v (by omega)).mono λn l b=>fin b
  rw[Xx v];exact(CJ a H (by omega) (by omega) a4 (T c t) (a5 c t) (by omega) (by omega)).mono λn l b=>fin b
 yes:=λc t jB=>by simp_all [KI]
 no:=λc t jB=>⟨_,_,A,by grind⟩
 Ib:=b7
 small:=by omega
end
end
variable{c:E}
section
variable{b ak aE e:Xj}{i d:XB}{l:Xo}{h:Xp Xw}{g f:E}
theorem fN(a:M)(b c:Obj):Below a.heap.size a ((a.alloc b).alloc c):=(ck a b).trans ((ck (a.alloc b) c).mono (by simp))
theorem SQ(m:0<=b/\b<64):Calls TP 38 #[i64 b,.agg #[i64 ak,i64 1,.string i,.string d,i64 aE,i64 e,.bool l,.slice h g f]] a λc k=>c=Xs (.iface 136 (.agg (rV b ak 1 i d aE e l (.slice h g f))))/\Below a.heap.size a k:=by
 go_enter Tryz.func38,Tryz.ntmps38
 go_wp2
 go_ret;simp[fN]
theorem SR(m:0<=b/\b<64):Calls TP 38 #[i64 b,.agg #[i64 ak,i64 3,.string i,.string d,i64 aE,i64 e,.bool l,.slice h g f]] a λc k=>c=Xs (.iface 140 (.agg (rV b ak 3 i d aE e l (.slice h g f))))/\Below a.heap.size a k:=by
 go_enter Tryz.func38,Tryz.ntmps38
 go_wp2
 go_ret;simp[fN]
theorem SS(m:0<=b/\b<64):Calls TP 38 #[i64 b,.agg #[i64 ak,i64 4,.string i,.string d,i64 aE,i64 e,.bool l,.slice h g f]] a λc k=>c=Xs (.iface 140 (.agg (rV b ak 4 i d aE e l (.slice h g f))))/\Below a.heap.size a k:=by
 go_enter Tryz.func38,Tryz.ntmps38
 go_wp2
 go_ret;simp[fN]
theorem SU(m:0<=b/\b<64):Calls TP 38 #[i64 b,.agg #[i64 ak,i64 5,.string i,.string d,i64 aE,i64 e,.bool l,.slice h g f]] a λc k=>c=Xs (.iface 140 (.agg (rV b ak 5 i d aE e l (.slice h g f))))/\Below a.heap.size a k:=by
 go_enter Tryz.func38,Tryz.ntmps38
 go_wp2
 go_ret;simp[fN]
theorem SW(m:0<=b/\b<64):Calls TP 38 #[i64 b,.agg #[i64 ak,i64 6,.string i,.string d,i64 aE,i64 e,.bool l,.slice h g f]] a λc k=>c=Xs (.iface 140 (.agg (rV b ak 6 i d aE e l (.slice h g f))))/\Below a.heap.size a k:=by
 go_enter Tryz.func38,Tryz.ntmps38
 go_wp2
 go_ret;simp[fN]
theorem SX(m:0<=b/\b<64):Calls TP 38 #[i64 b,.agg #[i64 ak,i64 8,.string i,.string d,i64 aE,i64 e,.bool l,.slice h g f]] a λc k=>c=Xs (.iface 107 (.agg (rV b ak 8 i d aE e l (.slice h g f))))/\Below a.heap.size a k:=by
 go_enter Tryz.func38,Tryz.ntmps38
 go_wp2
 go_ret;simp[fN]
theorem SY(m:0<=b/\b<64):Calls TP 38 #[i64 b,.agg #[i64 ak,i64 9,.string i,.string d,i64 aE,i64 e,.bool l,.slice h g f]] a λc k=>c=Xs (.iface 107 (.agg (rV b ak 9 i d aE e l (.slice h g f))))/\Below a.heap.size a k:=by
 go_enter Tryz.func38,Tryz.ntmps38
 go_wp2
 go_ret;simp[fN]
theorem Ql(m:0<=b/\b<64):Calls TP 38 #[i64 b,.agg #[i64 ak,i64 10,.string i,.string d,i64 aE,i64 e,.bool l,.slice h g f]] a λc k=>c=Xs (.iface 107 (.agg (rV b ak 10 i d aE e l (.slice h g f))))/\Below a.heap.size a k:=by
 go_enter Tryz.func38,Tryz.ntmps38
 go_wp2
 go_ret;simp[fN]
end
theorem SZ{b:E->ew}{rq:E->RV}(q:RQ (rq c) (b c))(o:(b c).op.kind=1\/(b c).op.kind=3\/(b c).op.kind=4\/(b c).op.kind=5\/(b c).op.kind=6\/(b c).op.kind=8\/(b c).op.kind=9\/(b c).op.kind=10)(t:c<64)(a:M):
 Calls TP 38 #[Xd K c,.agg (rq c).jf] a λp s=>p=Xs (KI b rq c)/\Below a.heap.size a s:=by
 have k:(0:Xj)<=c/\(c:Xj)<64:=by omega
 have m:=q.kind;unfold KI tq;generalize (b c).op.kind=u at o m;obtain⟨n,r⟩:∃n,n=rq c:=by simp
 rw[<-r]at m⊢
 obtain⟨ak,v,i,d,aE,e,l,h,g,f⟩:=n;subst m;rcases o with rfl|rfl|rfl|rfl|rfl|rfl|rfl|rfl
 .exact SQ k
 .exact SR k
 .exact SS k
 .exact SU k
 .exact SW k
 .exact SX k
 .exact SY k
 exact Ql k
theorem Jb(a:M)(c:Obj):Below a.heap.size a (a.alloc c):=⟨A,A,A,by simp,λd b=>XQ _ _ _ b⟩
noncomputable abbrev KP:Xy:=Go.Proofs.Tryz.prog
theorem kM{a b:Xj}(m:-2^63<=a/\a<2^63)(d:0<b/\b<2^31)(f:M):Calls KP 21 #[Xd K a,Xd K b] f λg i=>∃e:E,(e:Xj)<b/\g=Xs (Xd K e)/\i=f:=by
 go_enter Tryz.func21,Tryz.ntmps21
 go_wp2
 all_goals go_ret
 .have c:=Xj.lt_tmod_of_pos (a+1) d.1
  have h:(a+1).tmod b<=0:=by
   have:(a+1).tmod b=-((-(a+1)).tmod b):=by simp
   have l:=Xj.tmod_nonneg b (a:=-(a+1)) (by omega);omega
  exact⟨(-((a+1).tmod b)).toNat,by omega,by rw[Xj.toNat_of_nonneg (by omega)];rfl,A⟩
 have c:=Xj.emod_nonneg a (by omega:b≠0);have h:=Xj.emod_lt_of_pos a d.1;exact⟨(a%b).toNat,by omega,by rw[Xj.toNat_of_nonneg c];rfl,A⟩
def AE:Xg (Xg UInt8):=[[47,97],[47,98],[47,97,47,120],[47,97,47,121],[47,98,47,120],[47,97,47,120,47,122],[47,99]]
theorem Qj{c:Xj}(e:-2^63<=c/\c<2^63)(b:M):Calls KP 35 #[Xd K c] b λd g=>(∃f∈AE,d=Xs (.string ⟨f.toArray⟩))/\Below b.heap.size b g:=by
 go_enter Tryz.func35,Tryz.ntmps35
 go_wp2_with (go_at_call 21;refine(kM e (by decide) _).mono ?_;rintro _ _⟨a,h,rfl,rfl⟩;obtain rfl|rfl|rfl|rfl|rfl|rfl|rfl:a=0\/a=1\/a=2\/a=3\/a=4\/a=5\/a=6:=(by omega))
 all_goals go_ret
 all_goals refine⟨?_,Jb b _⟩
 .exact⟨[47,97],by decide,A⟩
 .exact⟨[47,98],by decide,A⟩
 .exact⟨[47,97,47,120],by decide,A⟩
 .exact⟨[47,97,47,121],by decide,A⟩
 .exact⟨[47,98,47,120],by decide,A⟩
 .exact⟨[47,97,47,120,47,122],by decide,A⟩
 exact⟨[47,99],by decide,A⟩
end Go.Sv
namespace Go.Sv
open Go.MapKept Go.Proofs Go.RowKit Go.Lib Go.WideShapes Go.Sort Go.Sim Wt
open Go
variable{b:E}{a:E}{c:M}{d:M}{f:E}{j:E}{e:Xe}{s:E}
def lk(b:E)(a:Xe):Xg (E×Xe)->Xe
 |[]=>a
 |(j,e)::c=>bif b==j then e else lk b a c
def sl(c:Xg (E×Xe))(d:E->Xe):E->Xg Xe->Xg Xe
 |0,b=>b
 |a+1,b=>sl c d a (lk a (d a) c::b)
def fq(a:E)(b:Xg (E×Xe))(c:E->Xe):Xu:=⟨(sl b c a []).toArray,[]⟩
def sX(a:Xu):Xg (E×Xe)->Prop
 |[]=>True
 |b::c=>a.tmps[b.1]?=C b.2/\sX a c
theorem Ri{a:Xk Xe}(f:b<a.size):∀{c:Xg (E×Xe)},sX ⟨a,[]⟩ c->lk b (a.getD b I) c=a[b]
 |[],_=>by simp[lk,f]
 |(j,e)::c,g=>by
  unfold lk;by_cases d:b=j
  .subst d;have:=g.1;simp_all
  rw[beq_false_of_ne d];exact Ri f g.2
theorem On{c:Xk Xe}{f:Xg (E×Xe)}(e:sX ⟨c,[]⟩ f):∀a,a<=c.size->∀d,sl f (λb=>c.getD b I) a d=c.toList.take a++d
 |0,_,d=>by simp[sl]
 |a+1,g,d=>by rw[sl,On e a (by omega),Ri (by omega) e,ZX];simp[show a<c.size by omega]
theorem bm(i:Xg (E×Xe)){g:Xu}{P:Xu->Prop}(o:g.tmps.size=a)(hd:g.defers=[])(n:sX g i)(l:∀q,P (fq a i q)):P g:=by obtain⟨h,k⟩:=g;have m:k=[]:=hd;subst m;have p:h.size=a:=o;subst p;rw[show(⟨h,[]⟩:Xu)=fq h.size i λb=>h.getD b I by rw[fq,On n _ (XS _),YT,Zs (by simp)]];exact l _
def ja:Xg E->XG->XG
 |[],b=>b
 |0::a,.seq c _=>ja a c
 |_::a,.seq _ d=>ja a d
 |_::a,.block _ b=>ja a b
 |_::a,.loop b=>ja a b
 |0::a,.cond _ c _=>ja a c
 |_::a,.cond _ _ d=>ja a d
 |_,b=>b
noncomputable section
end
def qF(c:E)(b:Xu):E:=match b.tmps[c]? with
 |some (.int _ a)=>a.toNat
 |_=>0
def Kept(c d:M):Prop:=c.heap.size<=d.heap.size/\∀a,a<c.heap.size->d.heap[a]?=c.heap[a]?
theorem Kept.trans{l m:M}(g:Kept c l)(h:Kept l m):Kept c m:=⟨XZ g.1 h.1,λk i=>(h.2 k (XY i g.1)).trans (g.2 k i)⟩
theorem gy(a:d.heap=c.heap):Kept c d:=⟨by rw[a];exact XS _,λb _=>by rw[a]⟩
theorem Kept.cell(g:Kept c d)(i:c.cell? ⟨f,j,F⟩=C e):d.cell? ⟨f,j,F⟩=C e:=by have h:=g.2 f (by grind [World.cell?]);simpa only[M.cell?,h]using i
def GM(a:E)(f:E->Xg (E×Xe))(s:E)(c:M)(e:Xu)(d:M):Prop:=∃(b:E)(g:E->Xe),b<=s/\e=fq a (f b) g/\Kept c d
theorem GM.of{f:E->Xg (E×Xe)}{e:Xu}(b:E)(h:b<=s)(k:e.tmps.size=a)(hd:e.defers=[])(i:sX e (f b))(g:Kept c d):GM a f s c e d:=
 bm (f b) (P:=λe=>GM a f s c e d) k hd i λl=>⟨b,l,h,A,g⟩
def kE(a:E)(e:Xg (E×Xe))(c:M)(b:Xu)(d:M):Prop:=(b.tmps.size=a/\b.defers=[]/\sX b e)/\Kept c d
theorem Jm{b:Xg (E×Xe)}{f:M}(h:c.heap=f.heap){g:Exit}{e:Xu}(i:eP (kE a b c) g e d):eP (kE a b f) g e d:=by rwa [show kE a b f=kE a b c by funext e d;simp only[kE,Kept,h]]
end Go.Sv
namespace Go.Sv
open Go.MapKept Go.Proofs Go.RowKit Go.Lib Go.WideShapes Go.Sort Go.Sim Wt
attribute [local go_sem] Oper.semAt_some
def Nw(a:Path×Nd):Xg Xe:=[.string (bs (Wt.join a.1)),.string (bs a.2.data),Xd K a.2.stat.made,Xd K a.2.stat.set,Xd K a.2.stat.aE,Xd K a.2.stat.ez,Xd K a.2.stat.own,Xd K a.2.stat.size,Xd K a.2.stat.kids]
variable{e:Xe}{d:M}{s:E}{a:E}{f:M}{b:E}
theorem eY.len{b:Xg B}(f:eY b e d):∃c a,e=.slice c b.length a:=by rcases f with⟨rfl,rfl⟩|⟨i,g,a,k,h,rfl,_⟩<;>exact⟨_,_,A⟩
theorem eY.at{l:Xg B}{e:Xp Xw}(m:eY l (.slice e s a) d)(o:Below d.heap.size d f){c:B}(k:l[b]?=C c):∃g,e=C ⟨g,0,F⟩/\f.cell? ⟨g,b,F⟩=C (.string (bs c)):=by
 rcases m with⟨_,rfl⟩|⟨h,q,r,u,t,p,i,_,_,n⟩
 .simp at k
 cases p;exact⟨h,A,aa (by rw[o.block h (XN.1 i).1];exact i) b (n b c k)⟩
variable{a:Xe}{b:M}
noncomputable section
theorem sZ.nil(d:sZ [] a b):∃c e,a=.slice c 0 e:=by rcases d with⟨rfl,_⟩|⟨i,g,f,k,h,rfl,_⟩<;>exact⟨_,_,A⟩
end
variable{b:Tree}{a:Xp Xw}{c:M}
noncomputable section
def oj(b:Tree)(a:Xp Xw)(c:M):Prop:=∀(e:E) g,b[e]?=C g->∃d,a=C ⟨d,0,F⟩/\∀(j:E) f,(Nw g)[j]?=C f->c.cell? ⟨d,e*9+j,F⟩=C f
theorem oj.kept(g:oj b a c)(e:Kept c d):oj b a d:=λm o l=>by obtain⟨f,h,i⟩:=g m o l;exact⟨f,h,λj n k=>e.cell (i j n k)⟩
end
end Go.Sv
