/- Proved here: parts of the proof of the claimed theorem, no conditions; the last text states it -/
import Derived.Test.YtfgpkeppjomkmaaGreatDoorRows
import Derived.Test.YtfgpkeppjomkmaaGreatDoorQ2
set_option linter.all false
set_option maxRecDepth 100000
set_option maxHeartbeats 16000000
open _root_ renaming rfl->A,Nat->E,List->Xg,Int->Xj,Array->Xk,Bool->Xo,Option->Xp,if_neg->Xx,ByteArray->XB,if_pos->XC
open Option renaming some->C,none->F
open Go renaming undef->I,World->M,Value->Xe,TypeId->Xq,Frame->Xr,Goroutine->Xt,Act->Xu,Addr->Xw,Program->Xy,Sem->Xz,Trace->XD,Event->XF,Code->XG,MapEntry->XH,FuncId->XI,Operand->XJ
open Bool renaming true->J,false->Xf
open Go.Lib renaming hid->Xl
open Go.MemOp renaming ofEvents->XE
open Go.Op renaming operands->XK
open Go.MemAct renaming ofEvent->XM
open Go.IntKind renaming i64->K
open Go.Value renaming int->Xd,slice->Xm,pointer->XA
open Or renaming inl->Xh,inr->Xi
open Go.Obj renaming cells->Xn
open Go.Ending renaming returned->Xs
open Go.Item renaming inRegion->Xv
namespace Go.Sim
open Go.Conc Go.Proofs Go.RowKit
open Go.ConcN (PermW PermW.app PermW.of fork_knows WgLive RelBy sumTo)
open Go.ConcR (KK wgBlock WgAt stA smA rd wr mk DC0)
variable{P:Xy}{h:Set}{m:Ren}{a:Xe}{Y:Xe}{T:Xe}
section
variable{b c d e:Type}{f:Ren->b->c->Prop}{N:Ren->d->e->Prop}
theorem ee(d:Base P m)(em:Xo):∀(b:E)(e:Xq)(r s:Xe),an h m r s->ae P h (St m λ_ _=>True) m (Instr.checkKey em b e r) (Instr.checkKey em b e s)
 |0,_,_,_,_=>fi
 |b+1,e,r,s,l=>by
  refine au (ay e) λg=>?_;cases g with
  |interface ms=>
   cases l<;>first|exact ah|exact aq trivial|skip
   rename_i q a Y y;refine ax (bM q) λz L⟨c,_⟩=>?_;subst c;split
   .cases em
    .exact au (tS q) λN=>jK d (λu v f g c=>by cases c)
    exact jK d (λu v f g c=>by cases c)
   exact ee d em b q a Y y
  |array len t=>
   cases l<;>try exact ah
   rename_i f w i p;refine au (forIn_range (λz D=>?_) _ _) λ_=>aq trivial;exact au (aU t) λO=>ax (iD ⟨i,p⟩ _ _) λn o k=>ax (ee d em b t n o k) λ_ _ _=>aq A
  |struct H=>
   cases l<;>try exact ah
   rename_i f w i p;refine au (rZ (λx D=>?_) _ _) λ_=>aq trivial;split
   .exact ax (iD ⟨i,p⟩ _ _) λn o k=>ax (ee d em b x.type n o k) λ_ _ _=>aq A
   exact aq A
  |_=>exact aq trivial
def Li(h:Set)(m:Ren):Xp (E×Xe)->Xp (E×Xe)->Prop
 |F,F=>True
 |C (a,b),C (j,c)=>a=j/\an h m b c
 |_,_=>False
theorem vB(l:Base P m)(n:pV m)(b:Xq){f g:Xe}(o:an h m f g){c d:Xg XH}(k:aZ (iZ h m) c d):∀a,ae P h (St m (Li h m)) m (Instr.findAsking b f c a) (Instr.findAsking b g d a):=by
 induction k with
 |nil=>intro a;exact aq trivial
 |cons e _ p=>
  intro a;refine au (rY l n b o e.1) λi=>?_;cases i
  .exact p _
  exact aq ⟨A,e.2.1⟩
theorem BI{k:TypeDesc}{n:Xq}{h:Xe}(f:Instr.sameNow k h a=C Xf){b:Type}{l:Xo->Xz b}(g:gq (l Xf)):gq (Op.equal n h a >>= l):=by
 unfold Op.equal;cases hd:Op.maxDepth with
 |zero=>exact .lost A
 |succ r=>
  unfold Op.equalIn;refine .program λP=>?_;simp only[program,Bind.bind,Sem.bind];cases q:P.underlying n with
  |none=>exact .lost A
  |some i=>
   cases k<;>cases h<;>first|(cases f;done)|skip
   all_goals (cases a<;>first|(cases f;done)|skip)
   .rename_i c d;have e:(c==d)=Xf:=by simp_all [Instr.sameNow]
    cases i<;>first|exact .lost rfl|(simp only[Sem.bind,Pure.pure,e];exact g)
   .rename_i o c p d;by_cases m:o=p
    .have e:(c==d)=Xf:=by simpa[Instr.sameNow,m]using f
     cases i<;>first|exact .lost rfl|(simp only[Sem.bind,m,Yc,Pure.pure,e];exact g)
    simp_all [Instr.sameNow]
   rename_i c d;have e:(c==d)=Xf:=by simp_all [Instr.sameNow]
   cases i<;>first|exact .lost rfl|(simp only[Sem.bind,Pure.pure,e];exact g)
theorem Dz(e:TypeDesc){c d:Xe}(g:an h m c d)(f:an h m a Y):Instr.sameNow e c a=Instr.sameNow e d Y\/(Instr.sameNow e c a=F/\(c=.tuple #[]\/a=.tuple #[])/\mj c=J/\mj a=J):=by
 cases e with
 |int l=>
  cases g with
  |bS b=>
   cases d<;>first|exact Xh rfl|skip
   cases f<;>first|exact Xh rfl|exact Xi ⟨rfl,Xh rfl,rfl,rfl⟩
  |int i k=>
   cases f with
   |bS b=>cases Y<;>first|exact Xh rfl|exact Xi ⟨rfl,Xi rfl,rfl,rfl⟩
   |_=>exact Xh A
  |_=>exact Xh A
 |string=>
  cases g with
  |bS b=>cases d<;>first|exact Xh rfl|simp_all [bO]
  |string i=>
   cases f with
   |bS b=>cases Y<;>first|exact Xh rfl|simp_all [bO]
   |_=>exact Xh A
  |_=>exact Xh A
 |bool=>
  cases g with
  |bS b=>cases d<;>first|exact Xh rfl|simp_all [bO]
  |bool i=>
   cases f with
   |bS b=>cases Y<;>first|exact Xh rfl|simp_all [bO]
   |_=>exact Xh A
  |_=>exact Xh A
 |_=>exact Xh A
theorem BP(b:TypeDesc){c g:Xe}(s:an h m c g){d e:Xg XH}(q:aZ (iZ h m) d e):∀a,
 (Instr.findNow b c d a=F/\Instr.findNow b g e a=F)\/(∃l n,Instr.findNow b c d a=C l/\Instr.findNow b g e a=C n/\Li h m l n)\/(Instr.findNow b c d a=F/\∀i,gq (Instr.findAsking i c d a)):=by
 induction q with
 |nil=>intro a;exact Xi (Xh ⟨F,F,A,A,trivial⟩)
 |cons k _ w=>
  rename_i p u _ _ _;intro a;unfold Instr.findNow Instr.findAsking;rcases Dz b s k.1 with f|⟨f,r,q1,t⟩
  .rw[<-f];cases v:Instr.sameNow b c p.key with
   |none=>simp
   |some o=>
    cases o
    .grind [BI]
    exact Xi (Xh ⟨_,_,A,A,A,k.2.1⟩)
  rw[f];exact Xi (Xi ⟨A,λi=>(pn i r q1 t).bind _⟩)
theorem mM(n:Base P m)(o:pV m)(a:Xq){e f:Xe}(l:an h m e f){c d:Xg XH}(k:aZ (iZ h m) c d):ae P h (St m (Li h m)) m (Instr.findKey a e c) (Instr.findKey a f d):=by
 refine au (ay a) λg=>?_;rcases BP g l k 0 with⟨b,i⟩|⟨q,r,b,i,p⟩|⟨b,hd⟩
 .simp_all [vB]
 .simp_all [aq]
 rw[b];exact .dead (hd a)
theorem FD(n:iL P)(s:Base P m)(x:pV m)(q:Xq){g:Xe}(D:an h m a Y)(u:an h m T g)(ok:Xo):ae P h (Vr h) m (Instr.lookup q a T ok) (Instr.lookup q Y g ok):=by
 refine au (ay q) λw=>?_;cases w<;>try exact ah
 rename_i c l
 have main:∀{d e:Xk XH},aZ (iZ h m) d.toList e.toList->ae P h (Vr h) m
  (do
    Instr.checkKey d.isEmpty 10000 c T
    let (b,o)<-match<-Instr.findKey c T d.toList with
     |some (_,b)=>pure (b,J)
     |none=>pure (<-zeroValue l,Xf)
    pure (if ok then .tuple #[b,.bool o]else b):Xz Xe)
  (do
    Instr.checkKey e.isEmpty 10000 c g
    let (b,o)<-match<-Instr.findKey c g e.toList with
     |some (_,b)=>pure (b,J)
     |none=>pure (<-zeroValue l,Xf)
    pure (if ok then .tuple #[b,.bool o]else b)):=by
  intro d e r;have z:d.isEmpty=e.isEmpty:=by have:=r.length;simp_all [Xk.isEmpty]
  rw[<-z];refine ax (ee s _ _ c T g u) λ_ _ _=>?_;refine ax (mM s x c u r) λv p f=>?_
  have fin:∀{b k:Xe}(i:Xo),an h m b k->an h m (if ok=J then .tuple #[b,.bool i]else b) (if ok=J then .tuple #[k,.bool i]else k):=by
   intro b k i t;cases ok
   .exact t
   exact gH ((aw.nil.push t).push (.bool i))
  cases v with
  |none=>
   cases p with
   |none=>exact ax (cI n l) λQ R n=>aB (fin Xf n)
   |some H=>exact f.elim
  |some O=>
   cases p with
   |none=>exact f.elim
   |some H=>exact aB (fin J f.2)
 cases D<;>try exact ah
 .exact main .nil
 rename_i v p f;refine ax (bK f) λL N y=>?_;cases y<;>try exact ah
 grind
theorem aZ.mod{d e:Xg XH}(k:aZ (iZ h m) d e)(a:E){f g:XH->XH}(l:∀b c,iZ h m b c->iZ h m (f b) (g c)):aZ (iZ h m) (d.modify a f) (e.modify a g):=by
 induction k generalizing a with
 |nil=>cases a<;>exact .nil
 |cons i n o=>
  cases a with
  |zero=>exact .cons (l _ _ i) n
  |succ a=>exact .cons i (o a)
theorem aZ.erase{b c:Xg XH}(d:aZ (iZ h m) b c)(a:E):aZ (iZ h m) (b.eraseIdx a) (c.eraseIdx a):=by
 induction d generalizing a with
 |nil=>cases a<;>exact .nil
 |cons f e g=>
  cases a with
  |zero=>exact e
  |succ a=>exact .cons f (g a)
theorem QP{f g d e:Xg Xe}(l:aZ (an h m) f g)(k:aZ (an h m) d e){c:Xe->Xe->Xo}(o:∀a Y T i,an h m a Y->an h m T i->c a T=J->c Y i=J):
 ((f.zip d).all λb=>c b.1 b.2)=J->((g.zip e).all λb=>c b.1 b.2)=J:=by
 induction l generalizing d e with
 |nil=>intro _;rfl
 |cons r p t=>
  intro n;cases k with
  |nil=>rfl
  |cons s q=>
   simp only[Xg.zip_cons_cons,abk,Yg]at n⊢
   grind
theorem lX(d:pV m):∀(c:E)(e f g i:Xe),an h m e f->an h m g i->Instr.sameBits c e g=J->Instr.sameBits c f i=J
 |0,e,f,g,i,n,o,b=>by
  cases n<;>cases o<;>first|exact b|(unfold Instr.sameBits at b;cases b;done)|skip
  .rename_i q r k s t l;simp only[Instr.sameBits,aaM,Yh]at b⊢
   have:=addr_eq d k l;rw[aa0]at this;simpa using this.1 (by simpa using b)
  grind [Instr.sameBits,FK]
 |c+1,e,f,g,i,n,o,b=>by
  cases n<;>cases o<;>first|exact b|(unfold Instr.sameBits at b;cases b;done)|skip
  .rename_i q r k s t l;simp only[Instr.sameBits,aaM,Yh]at b⊢
   have:=addr_eq d k l;simp_all
  .grind [Instr.sameBits,FK]
  .rename_i S D H w U a Y p;simp only[Instr.sameBits,Yg]at b⊢
   exact⟨b.1,lX d c D H a Y w p b.2⟩
  rename_i N O u y Q R v z;simp only[Instr.sameBits,Yg]at b⊢
  refine⟨?_,QP (aw.list ⟨u,y⟩) (aw.list ⟨v,z⟩) (λa Y T L p x=>lX d c a Y T L p x) b.2⟩;simp_all
theorem Ab(f:pV m){c d a b:Xe}(g:an h m c d)(e:an h m a b):ae P h (St m (an h m)) m (Instr.keyThatStays c a) (Instr.keyThatStays d b):=by
 unfold Instr.keyThatStays;have i:=lX f 10000 c d a b g e;cases k:Instr.sameBits 10000 c a with
 |true=>simp_all [aq]
 |false=>
  cases l:Instr.sameBits 10000 d b with
  |true=>exact .kl _ A 0 (aq e)
  |false=>grind [au,cj,aq]
theorem oC(s:h.bZ=J)(q:Base P m)(r:pV m)(p:Xq){v w i k:Xe}(S:an h m v w)(g:an h m i k)(t:an h m a Y):ae P h (St m λ_ _=>True) m (Instr.mapUpdate p v i a) (Instr.mapUpdate p w k Y):=by
 refine au (ay p) λz=>?_;cases z<;>try exact ah
 rename_i u Z;cases S<;>try exact ah
 .simp_all [Gg]
 rename_i a2 a3 o;refine ax (bK o) λa0 a1 T=>?_;cases T<;>try exact ah
 rename_i d e cl c;refine ax (ee q _ _ u i k g) λ_ _ _=>?_;refine ax (mM q r u g c) λX y n=>?_;cases X with
 |none=>
  cases y with
  |none=>exact .setObj o (.map _ (by rw[G',G'];exact c.append (.cons ⟨g,t,A⟩ .nil))) (Xh s) (.pure ⟨A,trivial⟩)
  |some x=>exact n.elim
 |some x=>
  cases y with
  |none=>exact n.elim
  |some W=>
   obtain⟨b,a4⟩:=x;obtain⟨j,a5⟩:=W;obtain⟨l,_⟩:=n;subst l
   have R:an h m (((d[b]?).map (·.key)).getD i) (((e[b]?).map (·.key)).getD k):=by
    have H:d[b]?=d.toList[b]?:=by simp
    have L:e[b]?=e.toList[b]?:=by simp
    cases f:d.toList[b]? with
    |none=>
     have:e.toList[b]?=F:=by rw[Xg.getElem?_eq_none_iff]at f⊢;rw[<-c.length];exact f
     simp_all
    |some l=>obtain⟨D,N,O⟩:=c.get f;rw[H,L,f,N];exact O.1
   refine ax (Ab r R g) λa6 a7 U=>?_;refine .setObj o (.map _ ?_) (Xh s) (.pure ⟨A,trivial⟩);rw[Xk.toList_modify,Xk.toList_modify];exact aZ.mod c b λl D Q=>⟨U,t,Q.2.2⟩
theorem EP(n:h.bZ=J)(c:Base P m)(z:pV m)(i:Xk Xq)(r:Xq){a k:Xk Xe}(l:aw h m a k):ae P h (Vr h) m (Builtin.delete_ i r a) (Builtin.delete_ i r k):=by
 unfold Builtin.delete_;cases T:i[0]? with
 |none=>exact ah
 |some Q=>
  cases x:a[0]? with
  |none=>exact ah
  |some U=>
   obtain⟨W,t,D⟩:=l.get x;rw[t];cases y:a[1]? with
   |none=>exact ah
   |some o=>
    obtain⟨p,u,d⟩:=l.get y;rw[u];refine au (ay Q) λs=>?_;cases s<;>try exact ah
    rename_i g S;cases D<;>try exact ah
    .exact ax (ee c _ _ g o p d) λ_ _ _=>aB iJ
    rename_i a0 a1 f;refine ax (bK f) λX Y H=>?_;cases H<;>try exact ah
    rename_i v w cl b;have L:v.isEmpty=w.isEmpty:=by have:=b.length;rw[aa0];grind
    dsimp only;rw[<-L];refine ax (ee c _ _ g o p d) λ_ _ _=>?_;refine ax (mM c z g d b) λO q e=>?_;cases O with
    |none=>
     cases q with
     |none=>exact .setObj f (.map _ b) (Xh n) (.pure iJ)
     |some N=>exact e.elim
    |some N=>
     cases q with
     |none=>exact e.elim
     |some Z=>obtain⟨R,_⟩:=e;refine .setObj f (.map _ ?_) (Xh n) (.pure iJ);simp_all [aZ.erase]
end
variable{b:Xe}
section
variable{c d e f:Type}{g:Ren->c->d->Prop}{N:Ren->e->f->Prop}
theorem sG{a b:Obj}(c:gP h m a b):ae P h (Vr h) m (do pure (XA (C ⟨<-newObj a,0,F⟩)):Xz Xe) (do pure (XA (C ⟨<-newObj b,0,F⟩))):=
 .new c λf g i e d=>.pure (.ptr ⟨d,A,A⟩)
theorem Ko(b:Xq)(d:an h m a Y):ae P h (Vr h) m (Instr.range b a) (Instr.range b Y):=by
 refine au (ay b) λe=>?_;cases e<;>try exact ah
 .cases d<;>try exact ah
  exact sG (.stringIter _ _)
 cases d<;>try exact ah
 .exact sG (.pE _ _ _)
 rename_i k l c;refine ax (bK c) λg i f=>?_;cases f<;>try exact ah
 exact sG (.mapIter c _ _ _)
theorem aZ.filter{l n:Xg XH}(r:aZ (iZ h m) l n){p p':XH->Xo}(t:∀i k,iZ h m i k->p i=p' k):aZ (iZ h m) (l.filter p) (n.filter p'):=by
 induction r with
 |nil=>exact .nil
 |cons o _ q=>
  rename_i i k _ _ _;have s:=t _ _ o;simp only[Xg.filter_cons];rw[<-s];cases p i
  .exact q
  exact .cons o q
theorem aZ.all{c d:Xg XH}(g:aZ (iZ h m) c d){e f:XH->Xo}(i:∀a b,iZ h m a b->e a=f b):c.all e=d.all f:=by
 induction g with
 |nil=>rfl
 |cons k _ l=>grind
def Ln(h:Set)(m:Ren):Xp XH->Xp XH->Prop
 |F,F=>True
 |C a,C b=>iZ h m a b
 |_,_=>False
theorem aZ.QA{a b:Xg XH}(c:aZ (iZ h m) a b):aZ (Ln h m) (a.map C) (b.map C):=by
 induction c with
 |nil=>exact .nil
 |cons d _ e=>exact .cons d e
theorem NA(X:an h m a Y)(x:Xo)(N:Xq):ae P h (Vr h) m (Instr.next a x N) (Instr.next Y x N):=by
 have w:ae P h (Vr h) m (pure (.tuple #[.bool Xf]):Xz Xe) (pure (.tuple #[.bool Xf])):=aB (gH (aw.nil.push (.bool _)));cases X<;>try exact ah
 rename_i O Q R;obtain⟨a8,a1,b0⟩:=O;obtain⟨a9,a7,b1⟩:=Q;obtain⟨v,s,n⟩:=R;subst s;cases a1 with
 |succ g=>exact ah
 |zero=>
  refine ax (bK v) λZ a0 u=>?_;cases u<;>cases x<;>first|exact ah|exact w|skip
  .dsimp only;split
   .refine .setObj v (.stringIter _ _) (Xi A) (.pure ?_);exact gH (((aw.nil.push (.bool _)).push (.int _ _)).push (.int _ _))
   exact w
  rename_i a5 a6 z c seen last;refine ax (bK z) λZ a0 u=>?_;cases u<;>try exact ah
  rename_i d e cl r;dsimp only;have a3:d.size=e.size:=by have:=r.length;omega
  have S:(!seen.isEmpty&&!d.isEmpty&&d.all (λ(b:XH)=>decide (b.born>=last)))=(!seen.isEmpty&&!e.isEmpty&&e.all (λ(b:XH)=>decide (b.born>=last))):=by
   have k:d.isEmpty=e.isEmpty:=by simp_all [Xk.isEmpty]
   have q:d.all (λ(b:XH)=>decide (b.born>=last))=e.all (λ(b:XH)=>decide (b.born>=last)):=by rw[<-Xk.all_toList,<-Xk.all_toList];exact aZ.all r λb i f=>by rw[f.2.2]
   rw[k,q]
  rw[<-S];split
  .exact .lost A
  have y:=aZ.filter r (p:=λ(b:XH)=>!seen.contains b.born) (p':=λ(b:XH)=>!seen.contains b.born) λb i f=>by rw[f.2.2]
  have U:=aZ.filter y (p:=λ(b:XH)=>decide (b.born<c)) (p':=λ(b:XH)=>decide (b.born<c)) λb i f=>by rw[f.2.2]
  have a4:=aZ.filter y (p:=λ(b:XH)=>decide (b.born>=c)) (p':=λ(b:XH)=>decide (b.born>=c)) λb i f=>by rw[f.2.2]
  have o:aZ (Ln h m)
   ((if((d.filter λ(b:XH)=>!seen.contains b.born).filter λ(b:XH)=>decide (b.born<c)).isEmpty=J then #[F]else #[])++(((d.filter λ(b:XH)=>!seen.contains b.born).filter λ(b:XH)=>decide (b.born<c))++((d.filter λ(b:XH)=>!seen.contains b.born).filter λ(b:XH)=>decide (b.born>=c))).map C).toList
   ((if((e.filter λ(b:XH)=>!seen.contains b.born).filter λ(b:XH)=>decide (b.born<c)).isEmpty=J then #[F]else #[])++(((e.filter λ(b:XH)=>!seen.contains b.born).filter λ(b:XH)=>decide (b.born<c))++((e.filter λ(b:XH)=>!seen.contains b.born).filter λ(b:XH)=>decide (b.born>=c))).map C).toList:=by
   rw[ZK,ZK];refine aZ.append ?_ ?_
   .have k:((d.filter λ(b:XH)=>!seen.contains b.born).filter λ(b:XH)=>decide (b.born<c)).isEmpty=((e.filter λ(b:XH)=>!seen.contains b.born).filter λ(b:XH)=>decide (b.born<c)).isEmpty:=by
     have:=U.length;rw[<-z_,<-z_,<-z_,<-z_]at this;simp only[aae]at this;simp only[Xk.isEmpty,this]
    rw[<-k];split
    .exact .cons trivial .nil
    exact .nil
   simp_all [aZ.QA,aZ.append]
  generalize ((if((d.filter λ(b:XH)=>!seen.contains b.born).filter λ(b:XH)=>decide (b.born<c)).isEmpty=J then #[F]else #[])++(((d.filter λ(b:XH)=>!seen.contains b.born).filter λ(b:XH)=>decide (b.born<c))++((d.filter λ(b:XH)=>!seen.contains b.born).filter λ(b:XH)=>decide (b.born>=c))).map C)=l at o⊢
  generalize ((if((e.filter λ(b:XH)=>!seen.contains b.born).filter λ(b:XH)=>decide (b.born<c)).isEmpty=J then #[F]else #[])++(((e.filter λ(b:XH)=>!seen.contains b.born).filter λ(b:XH)=>decide (b.born<c))++((e.filter λ(b:XH)=>!seen.contains b.born).filter λ(b:XH)=>decide (b.born>=c))).map C)=p at o⊢
  have W:l.size=p.size:=by have:=o.length;omega
  rw[<-W];refine au (cj _) λg=>?_;have k:l[g]?=l.toList[g]?:=by simp
  have q:p[g]?=p.toList[g]?:=by simp
  rw[k,q];cases T:l.toList[g]? with
  |none=>exact ah
  |some a2=>
   obtain⟨L,s,n⟩:=o.get T;rw[s];cases a2 with
   |none=>
    cases L with
    |none=>exact w
    |some b=>exact n.elim
   |some b=>
    cases L with
    |none=>exact n.elim
    |some i=>dsimp only;have t:iZ h m b i:=n;rw[<-t.2.2];refine .setObj v (.mapIter z _ _ _) (Xi A) (.pure ?_);exact gH (((aw.nil.push (.bool _)).push t.1).push t.2.1)
theorem Jn(e:an h m a Y):ae P h (Vr h) m (Instr.entry a) (Instr.entry Y):=by
 cases e<;>try exact ah
 rename_i n o t;obtain⟨U,H,Z⟩:=n;obtain⟨W,T,a0⟩:=o;obtain⟨w,s,O⟩:=t;subst s;cases H with
 |succ S=>exact ah
 |zero=>
  refine ax (bK w) λz D f=>?_;cases f<;>try exact ah
  rename_i Q R v X seen last;dsimp only;cases seen.back? with
  |none=>exact ah
  |some c=>
   refine ax (bK v) λz D f=>?_;cases f<;>try exact ah
   rename_i p q cl r;dsimp only;split
   .exact .lost A
   have y:∀{g i:Xg XH},aZ (iZ h m) g i->Ln h m (g.find? λb=>b.born==c) (i.find? λb=>b.born==c):=by
    intro g i u
    induction u with
    |nil=>exact trivial
    |cons e _ x=>
     rename_i b k _ _ _;simp only[Xg.find?_cons];rw[<-e.2.2];cases b.born==c
     .exact x
     exact e
   have d:=y r;rw[<-Xk.find?_toList,<-Xk.find?_toList];generalize p.toList.find? (λb=>b.born==c)=L at d;generalize q.toList.find? (λb=>b.born==c)=N at d;cases L with
   |none=>exact .lost A
   |some b=>
    cases N with
    |none=>exact d.elim
    |some k=>have l:iZ h m b k:=d;exact aB (gH ((aw.nil.push l.1).push l.2.1))
theorem xa(o:iL P)(i c:Xq)(n:an h m a Y):ae P h (Vr h) m (Instr.typeAssert a i c J) (Instr.typeAssert Y i c J):=by
 have q:ae P h (Vr h) m (do pure (.tuple #[<-zeroValue c,.bool Xf]):Xz Xe) (do pure (.tuple #[<-zeroValue c,.bool Xf])):=
  ax (cI o c) λt u p=>aB (gH ((aw.nil.push p).push (.bool _)))
 have l:∀{b d:Xe},an h m b d->ae P h (Vr h) m (pure (.tuple #[b,.bool J]):Xz Xe) (pure (.tuple #[d,.bool J])):=
  λe=>aB (gH ((aw.nil.push e).push (.bool _)))
 refine au (ay c) λg=>?_
 have other:∀{f:Xq}{b d:Xe},an h m b d->ae P h (Vr h) m
  (if f=c then pure (.tuple #[b,.bool J])else(do pure (.tuple #[<-zeroValue c,.bool Xf]):Xz Xe))
  (if f=c then pure (.tuple #[d,.bool J])else(do pure (.tuple #[<-zeroValue c,.bool Xf]):Xz Xe)):=by
  grind
 cases n with
 |nilIface=>grind
 |iface f e=>
  cases g<;>try exact other e
  refine ax (bM f) λr s⟨k,_⟩=>?_;subst k;split
  .exact l (.iface _ e)
  simp_all
 |_=>cases g<;>exact ah
theorem AD:ae P h (St m Eq) m Instr.panicnil Instr.panicnil:=by
 refine ae.env λa=>?_;cases a<;>first|exact ah|skip
 exact bJ (aq A)
theorem yR(c:Base P m)(b:an h m a Y):ae P h (Vr h) m (Instr.panic a) (Instr.panic Y):=by
 cases b<;>try exact ah
 .exact dT (.iface _ ‹_›)
 refine au AD λd=>?_;split
 .exact dT .nilIface
 simp_all [Gg]
theorem xR(c:E){d:Xe}(e:an h m b d):aw h m (Array.replicate c b) (Array.replicate c d):=by
 refine⟨by simp,λi a Y f g=>?_⟩
 grind
theorem rH(a:Xq)(b:XB):ae P h (Vr h) m (Conv.stringToBytes a b) (Conv.stringToBytes a b):=by refine au (cj _) λi=>?_;refine .nQ a ((oL _).append (xR _ (.int _ _))) λe f g k d=>?_;have c:bC g ⟨e,0,F⟩ ⟨f,0,F⟩:=⟨d,A,A⟩;exact aB (.slice c _ _)
theorem Fa{k:Type}{a:Xe->k->Xz (ForInStep k)}(l:∀e f b,an h m e f->ae P h (St m Eq) m (a e b) (a f b)){g i:Xg Xe}(n:aZ (an h m) g i):
 ∀c,ae P h (St m Eq) m (forIn g c a) (forIn i c a):=by
 induction n with
 |nil=>simp[aq]
 |cons o _ p=>
  intro c;simp only[aaZ];refine au (l _ _ _ o) λb=>?_;cases b with
  |done d=>exact aq A
  |yield d=>exact p d
theorem qg(g:an h m a Y):ae P h (Vr h) m (Conv.bytesToString a) (Conv.bytesToString Y):=by
 cases g<;>first|exact ah|exact aB (.string _)|skip
 rename_i k l d b c;refine ax (kK d b) λo p e=>?_;refine au ?_ λr=>aB (.string _);rw[<-g_,<-g_];refine Fa (λc n q f=>?_) e.list _;cases f with
 |int i b=>cases i<;>first|exact .lost rfl|exact aq rfl
 |_=>exact .lost A
end
variable{b:Xk Xe}
section
variable{d e f g:Type}{i:Ren->d->e->Prop}{N:Ren->f->g->Prop}
theorem wP{d e:Xw}(g:bC m d e):ae P h (St m (bC m)) m (Conv.seenAt d) (Conv.seenAt e):=by
 refine ax (jO g.1) λa T w=>?_;cases w with
 |none=>exact aq g
 |some c x=>
  rename_i p N;obtain⟨y,n,o⟩:=d;obtain⟨z,H,L⟩:=e;obtain⟨D,s,t⟩:=g;subst s;subst t;by_cases r:(decide (n=0)&&o.isNone)=J
  .simp_all [aq]
  simp only[r];have v:=c.2.2.symm;have u:=c.2.1.symm;rw[v,u];by_cases k:(o.isSome||p.spot.isSome)=J
  .simp only[k,Yc];exact fi
  simp only[k];refine bJ ?_;cases byteOfCell P P.depth x n with
  |none=>exact fi
  |some q=>
   refine au (cX c.1) λi=>?_;cases i with
   |none=>exact fi
   |some i=>
    obtain⟨f,cells⟩:=i;by_cases l:P.cellsOf f=0
    .simp only[l,Yc];exact fi
    simp only[l,Yf];cases cellAtBytes P P.depth f (cells/P.cellsOf f) p.off q with
    |none=>exact fi
    |some b=>exact aq ⟨c.1,A,A⟩
theorem Bq{c d:E}(b:m c d):ae P h (St m Eq) m (cellsIn c) (cellsIn d):=by
 refine au (cX b) λf=>?_;cases f with
 |some a=>exact aq A
 |none=>refine ax (bK b) λg i e=>?_;cases e<;>exact aq A
theorem mq{b c:Xw}(d:bC m b c)(f:Xq)(e:E):ae P h (St m Eq) m (variablesAt b f e) (variablesAt c f e):=by
 refine bJ ?_;refine au (cX d.1) λg=>?_;cases g with
 |none=>exact aq A
 |some a=>rw[<-d.2.1];exact aq A
theorem mW{b c:Xw}(d:bC m b c)(a:Xq):ae P h (Vr h) m (do pure (XA (C ⟨<-newObj (.view b a),0,F⟩)):Xz Xe) (do pure (XA (C ⟨<-newObj (.view c a),0,F⟩))):=
 .new (.view d a) λg i k f e=>.pure (.ptr ⟨e,A,A⟩)
theorem kC(n l:Xq)(x:(∃k,P.underlying n=C (.pointer k)/\P.underlying l=C .unsafePointer)\/(∃k,P.underlying n=C .unsafePointer/\P.underlying l=C (.pointer k)))
 (t:an h m a Y):ae P h (Vr h) m (Conv.unsafePointer n l a) (Conv.unsafePointer n l Y):=by
 refine ax (cq n) λH L⟨p,hd⟩=>?_;subst p;refine ax (cq l) λO Q⟨p,o⟩=>?_;subst p;rcases x with⟨k,q,r⟩|⟨k,q,r⟩
 .rw[q]at hd;rw[r]at o;cases hd;cases o;cases t<;>try exact ah
  .exact aB .cG
  rename_i v w s;refine ax (wP s) λy z c=>?_;refine au (Bq c.1) λb=>?_;refine au (aU k) λD=>?_;rw[<-c.2.1,<-c.2.2];cases b<;>dsimp only<;>split<;>first|exact mW c k|exact aB (.ptr c)
 rw[q]at hd;rw[r]at o;cases hd;cases o;cases t<;>try exact ah
 .exact aB .cG
 rename_i v w s;refine ax (wP s) λy z c=>?_;refine au (aU k) λD=>?_;refine au (mq c k 1) λR=>?_;split
 .exact aB (.ptr c)
 refine au (cX c.1) λu=>?_;cases u with
 |none=>exact fi
 |some u=>
  refine bJ ?_;refine bJ ?_;split
  .exact fi
  grind [mW]
def EL(P:Xy)(c b:Xq):Xo:=
 match P.underlying c,P.underlying b with
 |C (.int _),C (.int _)=>J
 |C .string,C (.slice a)=>match P.underlying a with|some (.int .u8)=>J|_=>Xf
 |C (.slice a),C .string=>match P.underlying a with|some (.int .u8)=>J|_=>Xf
 |C (.pointer _),C .unsafePointer=>J
 |C .unsafePointer,C (.pointer _)=>J
 |_,_=>Xf
theorem tZ(a:Xj):ae P h (Vr h) m (Conv.intToString a) (Conv.intToString a):=aB (.string _)
theorem Bu(g e:Xq)(b:EL P g e=J)(d:an h m a Y):ae P h (Vr h) m (convert g e a) (convert g e Y):=by
 refine ax (cq g) λv w⟨k,hd⟩=>?_;subst k;refine ax (cq e) λx y⟨k,o⟩=>?_;subst k;unfold EL at b;rw[hd,o]at b;split at b<;>rename_i c f<;>first|cases b|skip
 all_goals simp only[Yh]at c f
 .subst c;subst f;cases d<;>first|exact fi|exact ah|exact aB (.int _ _)
 .subst c;subst f;cases d<;>try exact fi
  refine ax (cq _) λn u⟨eq,l⟩=>?_;subst eq;rw[l]at b;split at b<;>rename_i c<;>first|cases b|skip
  cases c;exact rH _ _
 .subst c;subst f;rename_i i _ _
  have r:ae P h (Vr h) m (do match<-underlying i with|.int .u8=>Conv.bytesToString a|.int .i32=>Conv.runesToString a|_=>stuck "Convert: a slice of what to string?":Xz Xe) (do match<-underlying i with|.int .u8=>Conv.bytesToString Y|.int .i32=>Conv.runesToString Y|_=>stuck "Convert: a slice of what to string?"):=by
   refine ax (cq _) λn u⟨eq,l⟩=>?_;subst eq;rw[l]at b;split at b<;>rename_i c<;>first|cases b|skip
   cases c;exact qg d
  cases d with
  |bS q=>
   have dd:gq (do match<-underlying i with|.int .u8=>Conv.bytesToString (.tuple #[])|.int .i32=>Conv.runesToString (.tuple #[])|_=>stuck "Convert: a slice of what to string?":Xz Xe):=by
    refine .program λP=>?_;simp only[program,Bind.bind,Sem.bind];cases P.underlying i with
    |none=>exact .lost A
    |some n=>
     cases n with
     |int p=>cases p<;>exact .lost A
     |_=>exact .lost A
   cases Y<;>first|exact .dead dd|(simp only[bO]at q)
  |int p s=>exact tZ s
  |string t=>exact aB (.string t)
  |_=>exact r
 .subst c;subst f;have:=kC (P:=P) (m:=m) g e (Xh ⟨_,hd,o⟩) d;cases d<;>first|exact this|exact fi
 simp_all [kC]
theorem oq:∀(b:E){c d:Xw}(e:bC m c d)(acc:XB),ae P h (St m Eq) m (Extern.Bytes.loadBytes c b acc) (Extern.Bytes.loadBytes d b acc)
 |0,_,_,_,_=>aq A
 |b+1,c,d,e,acc=>by
  refine ax (qI e) λi k f=>?_;cases f<;>try exact ah
  rename_i g a;cases g<;>first|exact ah|exact oq b (e.add 1) _
theorem kj(b:an h m a Y):ae P h (St m Eq) m (Extern.Bytes.bytesOf a) (Extern.Bytes.bytesOf Y):=by cases b<;>first|exact ah|exact aq rfl|exact oq _ ‹_› _
theorem uX(b:an h m a Y):ae P h (St m Eq) m (Extern.Bytes.asByte a) (Extern.Bytes.asByte Y):=by
 cases b<;>try exact ah
 rename_i c a;cases c<;>first|exact ah|exact aq rfl
theorem DH{c:Xk Xe}(d:aw h m b c)(e:b=#[a]):∃Y,c=#[Y]/\an h m a Y:=by
 subst e;have f:c.size=1:=d.1.symm;obtain⟨g⟩:=c
 match g,f with
 |[T],_=>exact⟨T,A,d.2 0 a T A rfl⟩
theorem DI{c:Xk Xe}(d:aw h m b c)(i:b=#[a,T]):∃Y f,c=#[Y,f]/\an h m a Y/\an h m T f:=by
 subst i;have k:c.size=2:=d.1.symm;obtain⟨l⟩:=c
 match l,k with
 |[g,e],_=>exact⟨g,e,A,d.2 0 a g A rfl,d.2 1 T e A rfl⟩
def kG(P:Xy)(h:Set)(c:Xk Xe->Xz Xe):Prop:=
 ∀(m:Ren)(a b:Xk Xe),Base P m->pV m->aw h m a b->ae P h (Vr h) m (c a) (c b)
theorem Oe:kG P h Extern.AbiNoEscape.same:=by
 intro m c f g i b;obtain⟨e⟩:=c
 match e,b with
 |[],b=>exact ah
 |[a],b=>obtain⟨Y,rfl,d⟩:=DH b A;exact aB d
 |_::_::_,b=>exact ah
theorem Jk:kG P h Extern.BytealgCount.count:=by
 intro m d i l n c;obtain⟨g⟩:=d
 match g,c with
 |[],c=>exact ah
 |[a],c=>exact ah
 |[a,T],c=>obtain⟨Y,o,rfl,e,f⟩:=DI c A;exact au (kj e) λk=>au (uX f) λb=>aB (.int _ _)
 |_::_::_::_,c=>exact ah
theorem FF(d:Base P m)(e:∀a,P.globals.findIdx? (·.name== "internal/bytealg.MaxLen")=C a->0<a):ae P h (St m Eq) m Extern.BytealgIndex.maxLen Extern.BytealgIndex.maxLen:=by
 refine ax (n:=bC m) ?_ λi k c=>ax (qI c) λl n f=>dL f;refine bJ ?_;cases b:P.globals.findIdx? (·.name== "internal/bytealg.MaxLen")with
 |none=>exact ah
 |some a=>have:=(Xk.findIdx?_eq_some_iff_getElem.1 b).1;exact aq ⟨d.at (e a b) (aaS this),A,A⟩
theorem JI(n:∀e,P.globals.findIdx? (·.name== "internal/bytealg.MaxLen")=C e->0<e):kG P h Extern.BytealgIndex.index:=by
 intro m k t l u b;obtain⟨q⟩:=k
 match q,b with
 |[],b=>exact ah
 |[a],b=>exact ah
 |[a,T],b=>
  obtain⟨Y,v,rfl,o,p⟩:=DI b A;refine au (kj o) λd=>au (kj p) λc=>?_;refine au (FF l n) λr=>?_;by_cases f:(decide (c.size<2)||decide ((c.size:Xj)>r))=J
  .simp only[f,Yc];exact fi
  simp only[f];by_cases g:d.size>=2^32-15
  .simp only[g,Yc];exact fi
  simp only[g,Yf];generalize ((Xg.range (d.size+1-c.size)).find? λi=>d.extract i (i+c.size)==c)=s;cases s<;>exact aB (.int _ _)
 |_::_::_::_,b=>exact ah
theorem xF:kG P h Extern.BytealgIndexByte.indexByte:=by
 intro m e n o p c;obtain⟨k⟩:=e
 match k,c with
 |[],c=>exact ah
 |[a],c=>exact ah
 |[a,T],c=>obtain⟨Y,q,rfl,f,g⟩:=DI c A;refine au (kj f) λd=>au (uX g) λb=>?_;generalize ((Xg.range d.size).find? λi=>d[i]! ==b)=l;cases l<;>exact aB (.int _ _)
 |_::_::_::_,c=>exact ah
theorem vu:∀(a b:E)(acc:Xk Xe),aw h m acc acc->aw h m (Extern.BytealgMakeNoZero.digits a b acc) (Extern.BytealgMakeNoZero.digits a b acc)
 |0,_,_,c=>c
 |a+1,b,acc,c=>vu a (b/256) _ (c.push (.int _ _))
theorem vU(e d:Xk Xq):kG P h (Extern.BytealgMakeNoZero.makeNoZero e d):=by
 intro m f t v w b
 have main:∀c:Xj,ae P h (Vr h) m (Extern.BytealgMakeNoZero.makeNoZero e d #[Xd K c]) (Extern.BytealgMakeNoZero.makeNoZero e d #[Xd K c]):=by
  intro c;unfold Extern.BytealgMakeNoZero.makeNoZero;cases d[0]? with
  |none=>exact ah
  |some q=>
   refine au (ay q) λi=>?_;cases i<;>try exact ah
   rename_i k;dsimp only;split
   .simp_all [jK]
   refine au (cj _) λg=>?_;refine ax (mF g) λ_ _ _=>?_;refine au (cj _) λu=>?_;exact bindM (gY (vu _ _ _ aw.nil) k) λx r s _⟨_,l⟩=>aB (.slice l _ _)
 obtain⟨p⟩:=f
 match p,b with
 |[],b=>exact ah
 |[a],b=>
  obtain⟨Y,rfl,n⟩:=DH b A;cases n with
  |int o c=>cases o<;>first|exact main c|exact ah
  |_=>exact ah
 |_::_::_,b=>exact ah
theorem je{c:Xk Xq}{d e:Xq->E->Xz Xe}(g:∀a f,ae P h (Vr h) m (d a f) (e a f)):
 ae P h (Vr h) m (do let C a:=c[0]?|stuck "slices.overlaps: no parameter types"
                     let .slice b<-underlying a|stuck "slices.overlaps: slice type expected"
                     let size<-sizeOf b
                     d b size)
  (do let C a:=c[0]?|stuck "slices.overlaps: no parameter types"
      let .slice b<-underlying a|stuck "slices.overlaps: slice type expected"
      let size<-sizeOf b
      e b size):=by
 cases c[0]? with
 |none=>exact ah
 |some a=>grind [au,ay,ah,aU]
theorem AB(r s:Xk Xq)(w:pV m){c l d n:Xw}(e:bC m c l)(f:bC m d n)(i b g o:E):
 ae P h (Vr h) m (Extern.SlicesOverlaps.overlaps r s #[Xm (C c) i b,Xm (C d) g o]) (Extern.SlicesOverlaps.overlaps r s #[Xm (C l) i b,Xm (C n) g o]):=by
 refine je λR k=>?_;have N:=w _ _ _ _ e.1 f.1;have u:(l.block !=n.block)=(c.block !=d.block):=by grind
 have v:(l.block==n.block)=(c.block==d.block):=by grind
 dsimp only;rw[u,v,<-e.2.1,<-f.2.1];have fin:ae P h (Vr h) m (pure (.bool (c.block==d.block&&decide (c.off<d.off+g*k)&&decide (d.off<c.off+i*k)))) (pure (.bool (c.block==d.block&&decide (c.off<d.off+g*k)&&decide (d.off<c.off+i*k)))):=aB (.bool _);by_cases p:i=0\/g=0\/k=0
 .simp only[p,Yc];exact aB (.bool _)
 simp only[p,Yf];cases hd:(c.block !=d.block)with
 |false=>refine ax (eU e) λa Y y=>?_;refine ax (eU f) λT t D=>?_;simp_all
 |true=>
  have x:(c.block==d.block)=Xf:=by simp_all
  refine ax (eU e) λa Y y=>?_;refine ax (eU f) λT t D=>?_;simp only[Xo.true_and];by_cases q:(a&&T)=J
  .simp only[q,Yc];exact fi
  have z:¬(Y&&t)=J:=by grind
  simp only[q,z,Yc];refine ax (jE e) λ_ _ _=>ax (jE f) λ_ _ _=>?_;refine ax (qL e f) λH L O=>?_;cases H
  .grind
  cases L
  .simp only[Yc,x,abc];refine .kl _ A 0 ?_;exact aB (.bool _)
  exact au (cj _) λQ=>aB (.bool _)
theorem AA(q r:Xk Xq):kG P h (Extern.SlicesOverlaps.overlaps q r):=by
 intro m l s t u c;obtain⟨o⟩:=l
 match o,c with
 |[],c=>exact ah
 |[a],c=>obtain⟨Y,rfl,d⟩:=DH c A;cases d<;>exact ah
 |[a,T],c=>
  obtain⟨Y,x,rfl,d,g⟩:=DI c A;cases d with
  |aO p b=>
   cases g with
   |aO f e=>exact je λi k=>aB (.bool _)
   |slice n f e=>exact je λi k=>aB (.bool _)
   |_=>exact ah
  |slice v p b=>
   cases g with
   |aO f e=>exact je λi k=>aB (.bool _)
   |slice n f e=>simp_all [AB]
   |_=>exact ah
  |_=>exact ah
 |a::_::_::_,c=>cases c.get (i:=0) (x:=a) A with|intro Y d=>cases d.2<;>exact ah
theorem og(i:Xk Xq)(e:Xq):kG P h (Builtin.unsafeSliceData_ i e):=by
 intro m l q s t d;obtain⟨p⟩:=l
 match p,d with
 |[],d=>exact ah
 |[a],d=>
  obtain⟨Y,rfl,o⟩:=DH d A;cases o with
  |aO g b=>exact aB .cG
  |slice f g b=>
   have k:∀c:Xw,Builtin.unsafeSliceData_ i e #[Xm (C c) g b]=(do
    if b≠0 then pure (XA (C c))
    else if(<-viewAt c.block).isSome then pure (XA (C c))
    else pure (XA (C ⟨<-newObj (.view c (<-elemOf e)),0,F⟩))):=λ_=>rfl
   show ae P h (Vr h) m (Builtin.unsafeSliceData_ i e #[Xm (C _) g b]) _;rw[k,k];split
   .exact aB (.ptr f)
   refine ax (jO f.1) λv w n=>?_;cases n with
   |none=>grind [au,pk,mW]
   |some r u=>exact aB (.ptr f)
  |_=>exact ah
 |a::_::_,d=>exact ah
theorem sS(d:Xk Xq)(o:Xq):kG P h (Builtin.unsafeString_ d o):=by
 intro m g p q r b;obtain⟨l⟩:=g
 match l,b with
 |[],b=>exact ah
 |[a],b=>
  obtain⟨Y,rfl,c⟩:=DH b A;cases c with
  |ptr=>exact ah
  |_=>exact ah
 |[a,T],b=>
  obtain⟨Y,v,rfl,c,f⟩:=DI b A;cases c with
  |cG=>
   refine au (dL f) λn=>?_;cases d[0]? with
   |none=>exact ah
   |some pt=>
    dsimp only;split
    .simp_all [jK]
    split
    .exact fi
    split
    .exact aB (.string _)
    simp_all [Gg]
  |ptr e=>
   refine au (dL f) λn=>?_;cases d[0]? with
   |none=>exact ah
   |some pt=>
    dsimp only;split
    .simp_all [jK]
    split
    .exact fi
    split
    .exact aB (.string _)
    refine au (pk pt) λi=>?_;refine au (mq e i _) λu=>?_;split
    .exact .jR _ e λt=>aB (.string _)
    exact fi
  |_=>exact ah
 |a::_::_::_,b=>obtain⟨Y,c,k⟩:=b.get (i:=0) (x:=a) A;cases k<;>exact ah
end
def bL(fn:XI->Xo):E->Xe->Xo
 |0,_=>Xf
 |_+1,.bool _=>J
 |_+1,.int _ _=>J
 |_+1,.string _=>J
 |_+1,XA F=>J
 |_+1,Xm F _ _=>J
 |_+1,.map F=>J
 |_+1,.chan F=>J
 |_+1,.nilFunc=>J
 |_+1,.nilIface=>J
 |_+1,.func (.func c) d a=>fn c&&d.isEmpty&&a.isEmpty
 |b+1,.iface _ e=>bL fn b e
 |b+1,.agg a=>a.toList.all (bL fn b)
 |b+1,.tuple a=>a.toList.all (bL fn b)
 |_+1,_=>Xf
theorem ir:∀(e:E)(c:Xe),bL h.fn e c=J->an h m c c
 |0,_,d=>by grind [bL]
 |e+1,c,d=>by
  have agg:∀b:Xk Xe,b.toList.all (bL h.fn e)=J->aw h m b b:=by intro b g;refine⟨A,λv l D i k=>?_⟩;rw[i]at k;cases k;rw[Za]at g;exact ir e l (g l (by rw[Yz];exact Ys i))
  cases c with
  |bool s=>exact .bool _
  |int w y=>exact .int _ _
  |string z=>exact .string _
  |pointer a=>cases a with
   |none=>exact .cG
   |some a=>grind [bL]
  |slice a x b=>cases a with
   |none=>exact .aO _ _
   |some a=>grind [bL]
  |map a=>cases a with
   |none=>exact .ft
   |some a=>grind [bL]
  |chan a=>cases a with
   |none=>exact .ed
   |some a=>grind [bL]
  |nilFunc=>exact .nilFunc
  |nilIface=>exact .nilIface
  |func f q b=>cases f with
   |func f=>
    simp only[bL,Yg]at d;obtain⟨⟨p,t⟩,u⟩:=d;have n:q=#[]:=by simp_all
    have o:b=#[]:=by simp_all
    subst n;subst o;exact .func (.func f p) A rfl (by simp) (by simp)
   |_=>simp[bL]at d
  |iface r c=>exact .iface r (ir e c (by simpa[bL]using d))
  |agg b=>simp_all [mE,bL]
  |tuple b=>simp_all [gH,bL]
  |_=>grind [bL]
def du(P:Xy)(fn:XI->Xo):XJ->Xo
 |.tmp _=>J
 |.const c=>bL fn 8 c
 |.global a=>decide (0<a)&&decide (a<P.globals.size)
 |.func b=>fn b
def Jc(P:Xy)(bZ:Xo)(a:Builtin)(b:Xk Xq):Xo:=
 match a with
 |.append|.cap|.copy|.len|.min|.panic|.recover|.unsafeSliceData|.unsafeString=>J
 |.clear|.delete=>bZ
 |_=>Xf
def vh(P:Xy)(c:Builtin->Xk Xq->Xo)(a:Call):Xo:=
 match a.callee with
 |.value _=>J
 |.builtin b=>c b a.argTypes
 |.invoke .. =>Xf
def jd(P:Xy)(fn:XI->Xo)(c:Builtin->Xk Xq->Xo)(bZ:Xo)(b:Op):Xo:=
 b.operands.toList.all (du P fn)&&
 match b with
 |.ready _|.waits _|.sliceToArrayPointer .. |.makeChan .. |.mapEntry .. |.entryStore .. |.go _|.send .. |.recv .. |.select .. =>Xf
 |.convert f d _=>EL P f d
 |.makeFunc (.func e) _ _=>fn e
 |.makeFunc .. =>Xf
 |.mapUpdate .. |.insert .. =>bZ
 |.typeAssert _ _ _ ok=>ok
 |.call a|.defer a=>vh P c a
 |_=>J
def codeOk(P:Xy)(fn:XI->Xo)(b:Builtin->Xk Xq->Xo)(bZ:Xo):XG->Xo
 |.seq a c=>codeOk P fn b bZ a&&codeOk P fn b bZ c
 |.cond d a c=>du P fn d&&codeOk P fn b bZ a&&codeOk P fn b bZ c
 |.block _ a|.loop a|.scope a=>codeOk P fn b bZ a
 |.rangeFunc e _ a c=>du P fn e&&codeOk P fn b bZ a&&codeOk P fn b bZ c&&cJ a&&cJ c
 |.region _ g _=>g.toList.all λf=>jd P fn b bZ f.op
 |_=>J
structure Good(P:Xy)(h:Set):Prop where
 ux:jW P
 zero:iL P
 code:h.code=codeOk P h.fn h.bi h.bZ
 bi:h.bi=Jc P h.bZ
 UG:P.follows .rangeFuncRecover=J
 norace:∀f fn,h.fr f=J->P.funcs[f]?=C fn->fn.norace=Xf
 Fb:∀f,h.fn f=J->h.fr f=J
 maxLen:∀k,P.globals.findIdx? (·.name== "internal/bytealg.MaxLen")=C k->0<k
 funcs:∀f,h.fn f=J->∃fn,P.funcs[f]?=C fn/\(fn.name== "runtime.NumGoroutine")=Xf/\
  ((∃g,fn.body=C g/\h.code g=J)\/(fn.body=F/\Extern.findNext fn=F/\∃i,Extern.find fn=C i/\kG P h i))
inductive Bd(h:Set)(m:Ren):Next->Next->Prop
 |value {u v:Xe} (p:an h m u v):Bd h m (.value u) (.value v)
 |skip:Bd h m .skip .skip
 |enter (f:XI) (w:h.fn f=J) {k l:Xk Xe} (p:aw h m k l):Bd h m (.enter f k) (.enter f l)
 |round {q r:E} (z:m q r) (f:XI) (w:h.fr f=J) {s t:Xk Xe} (D:aw h m s t) (g i:XG) (x:h.code g=J) (y:h.code i=J) (H:cJ g=J) (L:cJ i=J):Bd h m (.round q f s g i) (.round r f t g i)
 |defer {n o:Deferred} (p:rP h m n o):Bd h m (.defer n) (.defer o)
 |recover:Bd h m .recover .recover
def Nr(h:Set):Ren->Next->Next->Prop:=λm a b=>Bd h m a b
section
variable{a b c d:Type}{e:Ren->a->b->Prop}{N:Ren->c->d->Prop}
theorem bf{a b:Xz Xe}(c:ae P h (Vr h) m a b):ae P h (Nr h) m (do pure (.value (<-a))) (do pure (.value (<-b))):=
 bindM c λg e f _ d=>aB (.value d)
theorem sR{a b:Xz Unit}(c:ae P h (St m λ_ _=>True) m a b):ae P h (Nr h) m (do a;pure .skip) (do b;pure .skip):=
 ax c λ_ _ _=>aB .skip
theorem zC(G:Good P h)(o:Base P m)(p:pV m)(a:XI)(e:h.fn a=J){b c:Xk Xe}(f:aw h m b c):ae P h (Nr h) m (callFunc a b) (callFunc a c):=by
 obtain⟨fn,k,l,n⟩:=G.funcs a e;refine bJ ?_;rw[k];dsimp only;rw[l];rcases n with⟨r,d,_⟩|⟨d,g,s,i,q⟩
 .simp only[d,Xp.isNone_some,Yi,Yf];exact aB (.enter a e f)
 simp only[d,Xp.isNone_none,Yc,Yi,Yf];refine .mark (.extern a) (by exact e) ?_;rw[g,i];exact bf (q m b c o p f)
theorem KR{r s:E}(p:m r s){l n:Xk Xe}(o:aw h m l n):ae P h (Nr h) m (Instr.yield r l) (Instr.yield s n):=by
 refine ax (n:=λd t=>zn h m d t) ?_ λd t Q=>?_
 .refine ax (bK p) λZ a0 O=>?_;cases O<;>first|exact ah|grind [aq]
 obtain⟨U,X,y,z,D,H,L,Y,N,u,W,v,w,x⟩:=Q;rw[<-D,<-o.1];split
 .exact ah
 refine aB ?_;rw[<-y,<-H,<-L];refine .round p _ v ?_ _ _ N u w x
 have:∀(b:Xg E)(i k:Xg Xe),aZ (an h m) i k->∀(e f:Xk Xe),aw h m e f->
  aw h m ((b.zip i).foldl (λg(a:E×Xe)=>g.setIfInBounds a.1 a.2) e) ((b.zip k).foldl (λg(a:E×Xe)=>g.setIfInBounds a.1 a.2) f):=by
  intro b
  induction b with
  |nil=>simp
  |cons a b S=>
   intro i k c e f q;cases c with
   |nil=>exact q
   |cons R c=>exact S _ _ c _ _ (q.set a R)
 have:=this d.params.toList _ _ o.list _ _ z
 grind [Array.toList_zip]
theorem LO(G:Good P h)(d:Base P m)(f:pV m)(e:Builtin)(a:Xk Xq)(b:Xq)(k:Xk Xo)(l:h.bi e a=J){g i:Xk Xe}(c:aw h m g i):
 ae P h (Nr h) m (builtin e a b k g) (builtin e a b k i):=by
 rw[G.bi]at l;cases e<;>first|(simp only[Jc,Yi]at l;done)|skip
 .exact bf (EA G.zero d a b c)
 .exact bf (Pe a b c)
 .exact bf (Ji (by simp_all [Jc]) G.zero a b c)
 .exact bf (Mk a b c)
 .exact bf (EP (by simp_all [Jc]) d f a b c)
 .exact bf (PV a b c)
 .exact bf (PZ a b c)
 .exact bf (yR d (c.getD 0 .nilIface))
 .exact aB .recover
 .exact bf (og a b _ _ _ d f c)
 exact bf (sS a b _ _ _ d f c)
theorem pw(G:Good P h)(c:Base P m)(g:pV m){a i:Target}(q:lE h m a i){e f:Xk Xe}(b:aw h m e f):ae P h (Nr h) m (invoke a e) (invoke i f):=by
 cases q with
 |fn d n=>
  cases d with
  |func l d=>exact zC G c g l d (b.append n)
  |yield p=>exact KR p b
 |nil=>exact Gg (g:=.nilDeref) c (by simp)
 |builtin k s a r o=>exact LO G c g k s a r o b
 |collected u=>exact ah
def lB(P:Xy)(h:Set)(m:Ren)(b c:XJ->Xe):Prop:=∀a,du P h.fn a=J->an h m (b a) (c a)
theorem Ai{f g:XJ->Xe}(l:lB P h m f g){a:Xk XJ}(i:∀e∈a.toList,du P h.fn e=J):aw h m (a.map f) (a.map g):=by
 refine⟨by simp,λn e o b c=>?_⟩;rw[Yk]at b c;cases k:a[n]? with
 |none=>simp_all
 |some d=>rw[k]at b c;cases b;cases c;exact l d (i d (by grind))
theorem uz{b c:XJ->Xe}(e:lB P h m b c){a:Xp XJ}(d:∀f∈a.toArray.toList,du P h.fn f=J):mc h m (a.map b) (a.map c):=by
 cases a with
 |none=>trivial
 |some a=>exact e a (d a (by simp))
theorem Dq{f g:XJ->Xe}(d:lB P h m f g):∀{b:Xg (E×XJ)},(∀e∈b.map (·.2),du P h.fn e=J)->aZ (Lp h m) (b.map λa=>(a.1,f a.2)) (b.map λa=>(a.1,g a.2))
 |[],_=>.nil
 |e::b,c=>.cons ⟨A,d _ (c _ (by simp))⟩ (Dq d λi k=>c i (by simp_all))
theorem yQ{d e:XJ->Xe}(g:lB P h m d e){c:Xk (E×XJ)}(f:∀a∈c.toList.map (·.2),du P h.fn a=J):
 aZ (Lp h m) (c.map λ(b,a)=>(b,d a)).toList (c.map λ(b,a)=>(b,e a)).toList:=by
 grind [Array.toList_map,Dq]
theorem tK(G:Good P h){g i:XJ->Xe}(k:lB P h m g i)(a:Call)(l:Xq)(o:∀f∈a.operands.toList,du P h.fn f=J)(d:vh P h.bi a=J):
 ae P h (St m (rP h m)) m (resolve g a l) (resolve i a l):=by
 have p:∀f∈a.args.toList,du P h.fn f=J:=by simp_all [Call.operands]
 have c:=Ai k p;unfold resolve;unfold vh at d;cases r:a.callee with
 |value b=>
  have e:=k b (o b (by simp_all [Call.operands]));dsimp only;generalize g b=z at e⊢
  generalize i b=D at e⊢
  cases e with
  |bS w=>exact ah
  |func s t q v u=>exact aq ⟨.fn s ⟨q,u⟩,aw.append ⟨t,v⟩ c⟩
  |nilFunc=>exact aq ⟨.nil,c⟩
  |_=>exact ah
 |builtin n=>rw[r]at d;exact aq ⟨.builtin n _ _ _ d,c⟩
 |invoke y x=>simp_all
theorem vy(G:Good P h)(k:Base P m)(x:pV m){w H:XJ->Xe}(d:lB P h m w H)(L:Oper)(g:jd P h.fn h.bi h.bZ L.op=J):
 ae P h (Nr h) m (execOp w L) (execOp H L):=by
 obtain⟨b5,u,S,d6⟩:=L;unfold jd at g;rw[Yg,Za]at g;obtain⟨b,g⟩:=g;dsimp only at b g;have v:=G.zero;cases u<;>first|(cases g;done)|skip
 case move a=>exact aB (.value (d a (b a (by simp[XK]))))
 case assign a=>exact aB (.value (d a (b a (by simp[XK]))))
 case pick i f q=>
  refine au (uW (d i (b i (by simp[XK])))) λc=>?_;cases c
  .exact aB (.value (d q (b q (by simp[XK]))))
  exact aB (.value (d f (b f (by simp[XK]))))
 case alloc c=>exact bf (IY v c)
 case box c a=>exact bf (Pb c (d a (b a (by simp[XK]))))
 case build c a8=>exact bf (Je v c (yQ d λa p=>b a (by simp_all [XK])))
 case buildSlice c s a8=>exact bf (vg v c s (yQ d λa p=>b a (by simp_all [XK])))
 case load c f=>exact bf (FB c (d f (b f (by simp[XK]))))
 case store c f a=>exact sR (DS c (d f (b f (by simp[XK]))) (d a (b a (by simp[XK]))))
 case nilCheck a=>
  have p:=d a (b a (by simp[XK]))
  show ae P h (Nr h) m (match w a with
   |XA F|.nilIface|.nilFunc=>runtimePanic .nilDeref
   |.func (.method R) first T=>
    match(first[0]?:Xp Xe)with
    |some .nilIface=>runtimePanic .nilDeref
    |some (.iface c b0)=>do
     if(<-nilAhead ((<-program).types.size+Made.depth) c b0 R)!=C Xf then
      unsupported (.noEntry "op/nilCheck.the method's receiver behind this interface value is a nil pointer, or cannot be seen to be none, and the arguments act or may panic (ledger 612)")
     pure (.value (.func (.method R) first T))
    |_=>pure (.value (.func (.method R) first T))
   |a=>pure (.value a)) _
  unfold execOp;dsimp only;generalize w a=e1 at p⊢
  generalize H a=a9 at p⊢
  cases p with
  |bS o=>
   cases a9<;>first|exact o.elim|skip
   .exact aB (.value (.bS o))
   .rename_i f;cases f with
    |none=>exact o.elim
    |some f=>exact aB (.value (.bS o))
   .exact aB (.value (.bS o))
   .exact aB (.value (.bS o))
   .exact aB (.value (.bS o))
   rename_i fn _ _;cases fn<;>first|exact o.elim|exact aB (.value (.bS o))
  |cG=>simp_all [Gg]
  |nilIface=>simp_all [Gg]
  |nilFunc=>simp_all [Gg]
  |func a5 Y X a1 a0=>cases a5 with
   |func l a4=>exact aB (.value (.func (.func l a4) Y X a1 a0))
   |yield a6=>exact aB (.value (.func (.yield a6) Y X a1 a0))
  |bool q=>exact aB (.value (.bool q))
  |int r s=>exact aB (.value (.int r s))
  |string D=>exact aB (.value (.string D))
  |ptr n=>exact aB (.value (.ptr n))
  |aO s i=>exact aB (.value (.aO s i))
  |slice n s i=>exact aB (.value (.slice n s i))
  |ft=>exact aB (.value .ft)
  |map n=>exact aB (.value (.map n))
  |ed=>exact aB (.value .ed)
  |chan n=>exact aB (.value (.chan n))
  |iface c n=>exact aB (.value (.iface c n))
  |agg O Q=>exact aB (.value (.agg O Q))
  |tuple O Q=>exact aB (.value (.tuple O Q))
 case binOp u c a e a2=>have p:=d a (b a (by simp[XK]));have t:=d e (b e (by simp[XK]));exact bf (ax (BH u c a e p t) λ_ _ _=>Jd k x u c p t)
 case unOp u c a=>exact bf (KN u (d a (b a (by simp[XK]))))
 case convert D N a=>exact bf (Bu D N g (d a (b a (by simp[XK]))))
 case makeInterface c a=>exact bf (qJ c (d a (b a (by simp[XK]))))
 case makeFunc l f q=>
  cases l<;>first|(cases g;done)|skip
  rename_i l;have U:aw h m (f.map w) (f.map H):=by grind [Ai,Op.operands]
  have W:aw h m (q.map w) (q.map H):=by grind [Ai,Op.operands]
  exact bf (aB (.func (.func l g) U.1 W.1 U.2 W.2))
 case makeMap c d7=>exact bf (Cu c (uz d λe t=>b e (by simp_all [XK])))
 case makeSlice c Z i=>exact bf (xK v k c (d Z (b Z (by simp[XK]))) (d i (b i (by simp[XK]))))
 case slice c a c6 b9 d3=>
  refine bf (DJ k c (d a (b a (by simp[XK]))) (uz d λe t=>b e ?_) (uz d λe t=>b e ?_) (uz d λe t=>b e ?_))
  .simp_all [XK]
  .simp_all [XK]
  simp_all [XK]
 case fieldAddr c a l=>exact bf (BL c (d a (b a (by simp[XK]))) l)
 case field c a l=>exact bf (Jp c (d a (b a (by simp[XK]))) l)
 case indexAddr c a e=>exact bf (Ca k c (d a (b a (by simp[XK]))) (d e (b e (by simp[XK]))))
 case index c a e=>exact bf (JH k c (d a (b a (by simp[XK]))) (d e (b e (by simp[XK]))))
 case lookup c a e ok=>exact bf (FD v k x c (d a (b a (by simp[XK]))) (d e (b e (by simp[XK]))) ok)
 case mapUpdate c z r a=>exact sR (oC g k x c (d z (b z (by simp[XK]))) (d r (b r (by simp[XK]))) (d a (b a (by simp[XK]))))
 case insert c z r a=>exact sR (oC g k x c (d z (b z (by simp[XK]))) (d r (b r (by simp[XK]))) (d a (b a (by simp[XK]))))
 case range c a=>exact bf (Ko c (d a (b a (by simp[XK]))))
 case next y D=>exact bf (NA (d y (b y (by simp[XK]))) D S)
 case entry y=>exact bf (Jn (d y (b y (by simp[XK]))))
 case typeAssert a c a2 ok=>
  cases ok
  .cases g
  exact bf (xa v c a2 (d a (b a (by simp[XK]))))
 case extract a a7=>exact bf (BK (d a (b a (by simp[XK]))) a7)
 case call i=>exact ax (tK G d i S b g) λN a3 hd=>pw G k x hd.1 hd.2
 case defer i=>exact ax (tK G d i S b g) λN a3 hd=>aB (.defer hd)
 case panic a=>exact bf (yR k (d a (b a (by simp[XK]))))
end
variable{v:Xe}{c:Xg Item}
def mf(h:Set)(m:Ren)(a b:PanicEntry):Prop:=an h m a.v b.v/\a.recovered=b.recovered/\a.goexit=b.goexit
inductive jV(h:Set)(m:Ren):FrameMode->FrameMode->Prop
 |run:jV h m .run .run
 |returning:jV h m .returning .returning
 |panicking {a d:Xg PanicEntry} (g:aZ (mf h m) a d):jV h m (.panicking a) (.panicking d)
inductive qb(m:Ren):Xp E->Xp E->Prop
 |none:qb m F F
 |some {a d:E} (g:m a d):qb m (C a) (C d)
def qS(a:Oper):Xo:=match a.op with|.defer _=>Xf|_=>J
def CK(h:Set)(b c:Xo)(a:XG):Prop:=b=J\/(h.code a=J/\(c=J->cJ a=J))
def Wf(P:Xy)(h:Set)(b d:Xo)(c:Xk Oper):Prop:=b=J\/∀a∈c.toList,jd P h.fn h.bi h.bZ a.op=J/\(d=J->qS a=J)
inductive qa(P:Xy)(h:Set)(b a:Xo)(m:Ren):Item->Item->Prop
 |code (d:XG) (i:CK h b a d):qa P h b a m (.code d) (.code d)
 |inBlock (id:E):qa P h b a m (.inBlock id) (.inBlock id)
 |inLoop (d:XG) (i:CK h b a d):qa P h b a m (.inLoop d) (.inLoop d)
 |inScope (d:XG) (i:CK h b a d):qa P h b a m (.inScope d) (.inScope d)
 |inRegion (l:Xk Oper) (g:Xg E) (i:Wf P h b a l):qa P h b a m (.inRegion l g) (.inRegion l g)
 |inRangeFunc {g k:E} (i:m g k):qa P h b a m (.inRangeFunc g) (.inRangeFunc k)
 |endRangeFunc {g k:E} (i:m g k):qa P h b a m (.endRangeFunc g) (.endRangeFunc k)
 |beginRound:qa P h b a m .beginRound .beginRound
def wE:Item->Xo
 |.code _|.inBlock _|.inLoop _|.inScope _=>J
 |_=>Xf
def jG(c:Xg Item):Xo:=c.all wE
def encI:Item->XG
 |.code a=>.block 0 a
 |.inBlock id=>.exit id
 |.inLoop a=>.loop a
 |.inScope a=>.scope a
 |_=>.skip
def ES:Xg Item->XG
 |[]=>.skip
 |a::b=>.seq (encI a) (ES b)
theorem BF:∀{c b:Xg Item},jG c=J->jG b=J->ES c=ES b->c=b
 |[],[],_,_,_=>rfl
 |[],_::_,_,_,a=>by grind [ES]
 |_::_,[],_,_,a=>by grind [ES]
 |g::c,j::b,d,e,a=>by
  simp only[ES,XG.seq.injEq]at a;simp only[jG,abk,Yg]at d e;rw[BF d.2 e.2 a.2]
  congr 1
  have f:=a.1;cases g<;>first|(cases d.1;done)|(cases j<;>first|(cases e.1;done)|(simp[encI]at f;try rw[f]))
def df(c:Xg Item):Item:=.code (.cond (.const (XA (C ⟨0,0,F⟩))) (ES c) .skip)
inductive jy(P:Xy)(h:Set)(b d:Xo)(m:Ren):Xg Item->Xg Item->Prop
 |nil:jy P h b d m [] []
 |tail {c:Xg Item} (p:d=Xf) (o:jG c=J):jy P h b d m [df c] c
 |cons {g i:Item} {k l:Xg Item} (n:qa P h b d m g i) (q:jy P h b d m k l):jy P h b d m (g::k) (i::l)
structure bH(P:Xy)(h:Set)(b:Xo)(m:Ren)(a d:Xr):Prop where
 fn:a.fn=d.fn
 mN:h.fr a.fn=J
 tmps:aw h m a.tmps d.tmps
 todo:jy P h b a.roundOf.isSome m a.todo d.todo
 defers:aZ (rP h m) a.defers d.defers
 mode:jV h m a.mode d.mode
 kind:a.kind=d.kind
 kindOk:a.kind=.normal\/a.kind=.deferred
 roundOf:qb m a.roundOf d.roundOf
section
variable{b e:Xo}{f:Ren}
theorem mf.mono(i:m.le f){a d:PanicEntry}(g:mf h m a d):mf h f a d:=⟨g.1.mono i,g.2⟩
theorem jV.mono(i:m.le f){d g:FrameMode}(a:jV h m d g):jV h f d g:=by
 cases a with
 |run=>exact .run
 |returning=>exact .returning
 |panicking a=>exact .panicking (a.mono λ_ _ k=>k.mono i)
theorem qb.mono(i:m.le f){d g:Xp E}(a:qb m d g):qb f d g:=by
 cases a with
 |none=>exact .none
 |some a=>exact .some (i _ _ a)
theorem qa.mono(k:m.le f){g i:Item}(a:qa P h b e m g i):qa P h b e f g i:=by
 cases a with
 |code d a=>exact .code d a
 |inBlock l=>exact .inBlock l
 |inLoop d a=>exact .inLoop d a
 |inScope d a=>exact .inScope d a
 |inRegion o n a=>exact .inRegion o n a
 |inRangeFunc a=>exact .inRangeFunc (k _ _ a)
 |endRangeFunc a=>exact .endRangeFunc (k _ _ a)
 |beginRound=>exact .beginRound
theorem jy.imp{c:Xo}{i k:Xg Item}(a:jy P h b e m i k)(l:∀d g,qa P h b e m d g->qa P h c e f d g):jy P h c e f i k:=by
 induction a with
 |nil=>exact .nil
 |tail o n=>exact .tail o n
 |cons a _ p=>exact .cons (l _ _ a) p
theorem bH.mono(d:m.le f){i k:Xr}(a:bH P h b m i k):bH P h b f i k:=
 ⟨a.fn,a.mN,a.tmps.mono d,a.todo.imp λ_ _ g=>g.mono d,a.defers.mono λ_ _ g=>g.mono d,a.mode.mono d,a.kind,a.kindOk,a.roundOf.mono d⟩
theorem bH.eval(l:Base P m){g k:Xr}(n:bH P h b m g k):lB P h m g.eval k.eval:=by
 intro p a;cases p with
 |tmp o=>exact n.tmps.getD o aY
 |const v=>exact ir 8 v a
 |global q=>simp only[du,Yg,YV]at a;exact .ptr ⟨l.at a.1 (aaS a.2),A,A⟩
 |func g=>exact .func (.func g a) A rfl (by simp) (by simp)
theorem bH.finish{w x:Xr}(a0:bH P h b m w x){u:Xe}(Z:an h m v u):bH P h b m (w.finish v) (x.finish u):=by
 obtain⟨fn,T,a6,a2,a4,a3,a5⟩:=w;obtain⟨L,t,D,H,R,Q,S⟩:=x;obtain⟨d,e,a,W,f,g,i,k,l⟩:=a0;cases W with
 |nil=>exact⟨d,e,a,.nil,f,g,i,k,l⟩
 |tail Y N=>
  have U:Frame.finish ⟨L,t,D,H,R,Q,S⟩ u=⟨L,t,D,H,R,Q,S⟩:=by
   cases D with
   |nil=>rfl
   |cons a1 c=>cases a1<;>first|rfl|(simp[jG,wE]at N)
  rw[U];exact⟨d,e,a,.tail Y N,f,g,i,k,l⟩
 |cons X n=>
  cases X with
  |inRegion s z O=>
   cases z with
   |nil=>exact⟨d,e,a,.cons (.inRegion s [] O) n,f,g,i,k,l⟩
   |cons r z=>
    refine⟨d,e,?_,.cons (.inRegion s z O) n,f,g,i,k,l⟩;show aw h m (match(s[r]?).bind (·.dst)with|some p=>T.setIfInBounds p v|none=>T) (match(s[r]?).bind (·.dst)with|some p=>t.setIfInBounds p u|none=>t);cases(s[r]?).bind (·.dst)with
    |none=>exact a
    |some p=>exact a.set p Z
  |inRangeFunc y=>exact⟨d,e,a,.cons (.endRangeFunc y) n,f,g,i,k,l⟩
  |beginRound=>exact⟨d,e,a,n,f,g,i,k,l⟩
  |code o q=>exact⟨d,e,a,.cons (.code o q) n,f,g,i,k,l⟩
  |inBlock r=>exact⟨d,e,a,.cons (.inBlock r) n,f,g,i,k,l⟩
  |inLoop o q=>exact⟨d,e,a,.cons (.inLoop o q) n,f,g,i,k,l⟩
  |inScope o q=>exact⟨d,e,a,.cons (.inScope o q) n,f,g,i,k,l⟩
  |endRangeFunc y=>exact⟨d,e,a,.cons (.endRangeFunc y) n,f,g,i,k,l⟩
theorem bH.raise{a c:Xr}(t:bH P h b m a c){p q:Xg PanicEntry}(o:aZ (mf h m) p q):bH P h b m (a.raise p) (c.raise q):=by
 obtain⟨fn,O,R,u,D,y,L⟩:=a;obtain⟨x,Q,S,w,H,z,N⟩:=c;obtain⟨d,e,f,g,i,s,k,l,n⟩:=t;cases s with
 |run=>exact⟨d,e,f,g,i,.panicking o,k,l,n⟩
 |returning=>exact⟨d,e,f,g,i,.panicking o,k,l,n⟩
 |panicking r=>exact⟨d,e,f,g,i,.panicking (o.append r),k,l,n⟩
theorem aw.replicate(a:E){b:Xe}(c:an h m v b):aw h m (Array.replicate a v) (Array.replicate a b):=by
 refine⟨by simp,λf g i d e=>?_⟩
 grind
theorem bH.enter(G:Good P h){a:XI}(g:h.fn a=J){d e:Xk Xe}(q:aw h m d e)(c:CallKind)(n:c=.normal\/c=.deferred):
 bH P h b m (Frame.enter P a d c) (Frame.enter P a e c):=by
 obtain⟨fn,k,p,l⟩:=G.funcs a g;unfold Frame.enter;refine⟨A,G.Fb a g,?_,.cons (.code _ (Xi ⟨?_,λi=>by cases i⟩)) .nil,.nil,.run,A,n,.none⟩
 .grind [aw,aY]
 rw[k];rcases l with⟨o,f,r⟩|⟨f,_⟩
 .simp_all
 simp only[ZO,f,Xp.getD_none];rw[G.code];rfl
theorem bH.round(G:Good P h){f g:E}(q:m f g){e:XI}(o:h.fr e=J){i k:Xk Xe}(r:aw h m i k){a d:XG}(l:h.code a=J)(n:h.code d=J)
 (s:cJ a=J)(t:cJ d=J)(c:CallKind)(p:c=.normal\/c=.deferred):
 bH P h b m (Frame.round f e i a d c) (Frame.round g e k a d c):=
 ⟨A,o,r,.cons (.code _ (Xi ⟨l,λ_=>s⟩)) (.cons .beginRound (.cons (.code _ (Xi ⟨n,λ_=>t⟩)) .nil)),.nil,.run,A,p,.some q⟩
theorem pG(d:E):∀(g c:XG),cJ g=J->findLabel g d=C c->cJ c=J
 |.seq f h,c,b,a=>by
  simp only[cJ,Yg]at b;simp only[findLabel]at a;cases e:findLabel f d with
  |some i=>rw[e]at a;cases a;simp only[cJ,Yg];exact⟨pG d f i b.1 e,b.2⟩
  |none=>rw[e]at a;exact pG d h c b.2 a
 |.label k,c,b,a=>by
  simp only[findLabel]at a;split at a
  .cases a;rfl
  cases a
 |.skip,_,_,a|.region ..,_,_,a|.cond ..,_,_,a|.block ..,_,_,a|.loop ..,_,_,a|.rangeFunc ..,_,_,a|.exit ..,_,_,a
 |.scope ..,_,_,a|.goto ..,_,_,a|.ret,_,_,a|.refuse ..,_,_,a=>by simp[findLabel]at a
theorem EY(id:E){a:Xg Item}(g:jy P h b e m c a):(exitTo id c=F/\(exitTo id a=F\/e=Xf))\/∃d f,exitTo id c=C d/\exitTo id a=C f/\jy P h b e m d f:=by
 induction g with
 |nil=>exact Xh ⟨A,Xh A⟩
 |tail k n=>exact Xh ⟨A,Xi k⟩
 |cons i o l=>
  cases i with
  |inBlock p=>
   simp only[exitTo]
   grind
  |_=>exact l
theorem mG{fn:XI->Xo}{g:Builtin->Xk Xq->Xo}{bZ:Xo}(d:E):∀(h c:XG),codeOk P fn g bZ h=J->findLabel h d=C c->codeOk P fn g bZ c=J
 |.seq f i,c,b,a=>by
  simp only[codeOk,Yg]at b;simp only[findLabel]at a;cases e:findLabel f d with
  |some k=>rw[e]at a;cases a;simp only[codeOk,Yg];exact⟨mG d f k b.1 e,b.2⟩
  |none=>rw[e]at a;exact mG d i c b.2 a
 |.label l,c,b,a=>by
  simp only[findLabel]at a;split at a
  .cases a;rfl
  cases a
 |.skip,_,_,a|.region ..,_,_,a|.cond ..,_,_,a|.block ..,_,_,a|.loop ..,_,_,a|.rangeFunc ..,_,_,a|.exit ..,_,_,a
 |.scope ..,_,_,a|.goto ..,_,_,a|.ret,_,_,a|.refuse ..,_,_,a=>by simp[findLabel]at a
theorem Fj(G:Good P h)(d:E){i:Xg Item}(g:jy P h b e m c i):(gotoIn d c=F/\(gotoIn d i=F\/e=Xf))\/∃n o,gotoIn d c=C n/\gotoIn d i=C o/\jy P h b e m n o:=by
 induction g with
 |nil=>exact Xh ⟨A,Xh A⟩
 |tail s u=>exact Xh ⟨A,Xi s⟩
 |cons q t k=>
  cases q with
  |inScope f a=>
   simp only[gotoIn];cases p:findLabel f d with
   |none=>exact k
   |some l=>
    refine Xi ⟨_,_,A,A,.cons (.code l ?_) (.cons (.inScope f a) t)⟩;rcases a with a|⟨a,r⟩
    .exact Xh a
    rw[G.code]at a;exact Xi ⟨by rw[G.code];grind [mG],λg=>pG d f l (r g) p⟩
  |_=>exact k
end
def kept(b:Xg XF):Xg XF:=b.filter λa=>match a.loc with|.mark (.extern _)=>Xf|_=>J
section
variable{a:Xo}{b:Ren}
theorem seen_eq(G:Good P h){fn:XI}(i:h.fr fn=J){e a:Xg XF}(f:aZ (ma h m) e a):seen P fn a.toArray=(kept a).toArray:=by
 have r:∀c,h.fr c=J->(P.funcs[c]?).any (·.norace)=Xf:=by
  intro c i;cases t:P.funcs[c]? with
  |none=>rfl
  |some d=>simp[G.norace c d i t]
 have u:∀(e a:Xg XF),aZ (ma h m) e a->∀acc:Xk XF,
  (a.foldl (λ(d:Xo×Xk XF) b=>match b.loc with
    |.mark (.extern c)=>((P.funcs[c]?).any (·.norace),d.2)
    |_=>(d.1,if d.1&&!b.sync then d.2 else d.2.push b)) (Xf,acc)).2=acc++(kept a).toArray:=by
  intro e a f
  induction f with
  |nil=>intro acc;simp[kept]
  |@cons b s e a g v k=>
   intro acc;rw[ZW];obtain⟨p,y,x⟩:=s;obtain⟨o,wr,w⟩:=b;replace g:=g.1;have l:dX h m o p:=g;clear g;cases p with
   |mark q=>
    have n:Ak h q=J:=by cases o<;>simp only[dX]at l;obtain⟨b,f⟩:=l;exact b▸f
    cases q<;>first|(cases n;done)|skip
    .simp only[r _ (G.Fb _ n)];rw[k acc];simp[kept]
    simp only[abc,Yi,Yf];rw[k _];simp[kept]
   |_=>simp only[abc,Yi,Yf];rw[k _];simp[kept]
 have:=u e a f #[];unfold seen;simp only[Xg.foldl_toArray',r fn i];rw[E']at this;rw[<-this];rfl
structure cK(P:Xy)(h:Set)(a:Xo)(m:Ren)(d e:Xg Xr):Prop where
 rel:aZ (bH P h a m) d e
 bot:∀c,d.getLast?=C c->c.kind=.normal/\c.roundOf=F
def tag(a:Xr):CallKind×Xp E:=(a.kind,a.roundOf)
theorem cK.Ao{g q e k:Xg Xr}(o:cK P h a m g q)(r:aZ (bH P h a b) e k)(n:e.map tag=g.map tag):cK P h a b e k:=by
 refine⟨r,λi p=>?_⟩;have c:(e.map tag).getLast?=C (tag i):=by rw[Xg.getLast?_map,p];rfl
 rw[n,Xg.getLast?_map]at c;cases f:g.getLast? with
 |none=>rw[f]at c;cases c
 |some l=>
  rw[f]at c;have d:tag l=tag i:=by simpa using c
  have:=o.bot l f;unfold tag at d;rw[Prod.mk.injEq]at d;exact⟨d.1▸this.1,d.2▸this.2⟩
theorem np{f g:Xr}{d l:Xg Xr}(t:cK P h a m (f::d) (g::l))(n:Xg Xr)(base:Xg Xr):
 (tryRecover f (d++n)=F/\tryRecover g (l++base)=F)\/
 ∃i k c e,tryRecover f (d++n)=C (i,c++n)/\tryRecover g (l++base)=C (k,e++base)/\an h m i k/\aZ (bH P h a m) c e/\c.map tag=d.map tag:=by
 cases t.rel with
 |cons p a0=>
  rcases p.kindOk with b|b
  .have q:=p.kind▸b;exact Xh ⟨by unfold tryRecover;rw[b],by unfold tryRecover;rw[q]⟩
  have q:g.kind=.deferred:=p.kind▸b;cases a0 with
  |nil=>have:=(t.bot f A).1;rw[b]at this;cases this
  |@cons O Q c e L Y=>
   unfold tryRecover;rw[b,q];simp only[Yp];have N:=L.mode;obtain⟨fn,b4,b6,a2,a8,a6,b2⟩:=O;obtain⟨a4,b5,b7,a3,a9,a7,b3⟩:=Q;obtain⟨u,v,w,x,y,U,z,D,H⟩:=L;simp only at u v w x y U z D H N;cases N with
   |run=>exact Xh ⟨A,A⟩
   |returning=>exact Xh ⟨A,A⟩
   |panicking W=>
    cases W with
    |nil=>exact Xh ⟨A,A⟩
    |@cons R S old b0 X Z=>
     obtain⟨i,a1,T⟩:=R;obtain⟨k,b1,a5⟩:=S;obtain⟨o,r,s⟩:=X;simp only at o r s;subst r;subst s;cases a1
     .cases T
      .refine Xi ⟨i,k,_::c,_::e,A,A,o,.cons ⟨u,v,w,x,y,.panicking (.cons ⟨o,A,A⟩ Z),z,D,H⟩ Y,?_⟩;simp[tag]
      exact Xh ⟨A,A⟩
     exact Xh ⟨A,A⟩
theorem tL(u:Base P m)(fn:Func){g i:Xk Xe}(r:aw h m g i):ae P h (St m (an h m)) m (results fn g) (results fn i):=by
 unfold results
 have one:∀d:ResultVar,ae P h (St m (an h m)) m
  (match d with|.tmp c=>pure (g.getD c I)|.cell e c=>do loadVar c (<-asAddr (g.getD e I)):Xz Xe)
  (match d with|.tmp c=>pure (i.getD c I)|.cell e c=>do loadVar c (<-asAddr (i.getD e I))):=by
  intro d;cases d with
  |tmp c=>exact aq (r.getD c aY)
  |cell e c=>exact ax (uV u (r.getD e aY)) λx y p=>tz p c
 refine ax (n:=aw h m) ?_ λw s k=>?_
 .rw[T_,T_,<-aaf,<-aaf]
  have:∀(l:Xg ResultVar)(acc n:Xk Xe),aw h m acc n->ae P h (St m (aw h m)) m
   (l.foldlM (λbs d=>Functor.map bs.push (match d with|.tmp c=>pure (g.getD c I)|.cell e c=>do loadVar c (<-asAddr (g.getD e I)):Xz Xe)) acc)
   (l.foldlM (λbs d=>Functor.map bs.push (match d with|.tmp c=>pure (i.getD c I)|.cell e c=>do loadVar c (<-asAddr (i.getD e I)):Xz Xe)) n):=by
   intro l
   induction l with
   |nil=>intro acc n f;exact aq f
   |cons d l v=>intro acc n f;simp only[O_];refine ax (n:=aw h m) ?_ λx y p=>v _ _ p;exact ax (one d) λz D k=>aq (f.push k)
  exact this _ _ _ aw.nil
 have q:=k.1;by_cases f:w.size=1
 .have o:s.size=1:=by rw[<-q];exact f
  simp only[f,o,abi];exact aq (k.2 0 _ _ (XP (by omega)) (XP (by omega)))
 have o:¬s.size=1:=by rw[<-q];exact f
 simp only[f,o,dif_neg,G_];exact aq (gH k)
end
variable{a:M}{q:M}{l:Xe}{i:Xr}
def rg(e:Xr)(a:Xg Xr):Xt:={frame:=e,callers:=a,status:=.running,dying:=F}
def Ry(sl:M->GStep)(a:M)(h:Xr)(f:Xg Xr)(d:M):Prop:=
 a.drawn<=d.drawn/\∃i:E->Question->E,∀c:E->Question->E,(∀b e,a.drawn<=b->b<d.drawn->c b e=i b e)->
  ∃g,sl {a with tape:=c}=.go (rg h f) {d with tape:=c} g
def Lj(sl:M->GStep)(a:M):Prop:=
 ∃(f:E->Question->E)(g:E),∀d:E->Question->E,(∀b c,a.drawn<=b->b<g->d b c=f b c)->
  ∃h i e,sl {a with tape:=d}=.ended h i e
def nX(P:Xy)(h:Set)(c:Xo)(m:Ren)(d base:Xg Xr)(a q:M)(sl:M->GStep)(o:GStep):Prop:=
 Lj sl a\/∃n g i b e l f new k,Ry sl a g (b++d) l/\
  o=.go (rg i (e++base)) f (kept k).toArray/\bD h m n a l q f new k/\cK P h c n (g::b) (i::e)
def RB(P:Xy)(h:Set)(c:Xo)(m:Ren)(main:Xo)(d base:Xg Xr)(e k:Xr)(f g:Xg Xr)(a q:M):Prop:=
 nX P h c m d base a q (stepG P J (rg e (f++d))) (stepG P main (rg k (g++base)) q)
def Jr{a:Type}:Result a->Prop
 |.ok .. =>True
 |.halt (.panic _) _=>True
 |.halt .goexit _=>True
 |_=>False
section
variable{c:Xo}{main:Xo}{d base:Xg Xr}{e k:Xr}{f g:Xg Xr}
theorem cM{sl:M->GStep}{r:GStep}(v:aV h m a q){o p:Xr}{b n:Xg Xr}(t:∀a,sl a=.go (rg o (b++d)) a)
 (u:r=.go (rg p (n++base)) q)(s:cK P h c m (o::b) (p::n)):nX P h c m d base a q sl r:=
 Xi ⟨m,o,p,b,n,a,q,[],[],⟨XS _,a.tape,λw _=>⟨_,t _⟩⟩,u,bD.refl v,s⟩
theorem mV(u:aV h m a q){o p:Xr}{b n:Xg Xr}(s:∀a,stepG P J (rg e (f++d)) a=.go (rg o (b++d)) a)
 (t:∀a,stepG P main (rg k (g++base)) a=.go (rg p (n++base)) a)(r:cK P h c m (o::b) (p::n)):RB P h c m main d base e k f g a q:=
 cM u s (t q) r
theorem eD{sl:M->GStep}{g:GStep}(f:∀a,∃b e,sl a=.ended b e):nX P h c m d base a q sl g:=
 Xh ⟨a.tape,0,λi _=>by obtain⟨b,e,k⟩:=f {a with tape:=i};simp_all⟩
theorem Ce(a i:Xg XF):kept (a++i)=kept a++kept i:=by simp[kept]
def QT(h:Set){a g:Type}(b:Ren->a->g->Prop):Result a->Prop
 |.ok c _=>∃m d,b m c d
 |.halt e _=>∃m f,lC h m e f
def Lg(h:Set){g a:Type}(b:Ren->g->a->Prop):Result a->Prop
 |.ok d _=>∃m c,b m c d
 |.halt f _=>∃m e,lC h m e f
theorem Lg.Jr{i d:Type}{e:Ren->i->d->Prop}{c:Result d}(b:Lg h e c):Sim.Jr c:=by
 cases c with
 |ok k a=>trivial
 |halt f a=>obtain⟨m,b,g⟩:=b;cases b<;>cases f<;>first|exact g.elim|trivial
theorem vX(G:Good P h){fn:XI}(b2:h.fr fn=J){a9 b0:Type}{N:Ren->a9->b0->Prop}{Z:Xz a9}{a0:Xz b0}(x:ae P h N m Z a0)(d3:aV h m a q){W:Result a9->GStep}{a1:Result b0->GStep}
 {sl:M->GStep}{U:GStep}
 (left:∀a,QT h N (Z.runT P a #[]).1->∃w,sl a=GStep.after w (W (Z.runT P a #[]).1))
 (right:Lg h N (a0.runT P q #[]).1->U=GStep.after (seen P fn (a0.runT P q #[]).2) (a1 (a0.runT P q #[]).1))
 (ok:∀n O Q b p new t,bD h m n a b q p new t->N n O Q->nX P h c n d base b p (λa=>W (.ok O a)) (a1 (.ok Q p)))
 (halt:∀n x T b p,m.le n->lC h n x T->aV h n b p->nX P h c n d base b p (λa=>W (.halt x a)) (a1 (.halt T p)))
 (lost:∀a x b S,Z.runT P a #[]=(.halt x b,S)->Halt.lost x=J->∃a7 a8 S,sl a=.ended a7 a8 S):nX P h c m d base a q sl U:=by
 obtain⟨a4,L,⟨hd,Y⟩,b5⟩:=sound G.ux x a q #[] #[] d3
 have e0:(∃D b w,L=(.halt D b,w)/\Halt.lost D=J)->nX P h c m d base a q sl U:=by rintro⟨D,b,w,rfl,b4⟩;exact Xh ⟨a4,b.drawn,λo H=>lost _ _ _ _ (Y o H) b4⟩
 have b1:(∀o,QT h N (iR o L).1)->∀(b:M)(p:M)(n:Ren)(a2:M->GStep)(a3:GStep)(new t:Xg XF),dr L=b.drawn->a.drawn<=b.drawn->(∀o,W (iR o L).1=a2 {b with tape:=o})->U=GStep.after (kept t).toArray a3->
  bD h m n a b q p new t->nX P h c n d base b p a2 a3->nX P h c m d base a q sl U:=by
  intro tY b p n a2 a3 new t e1 c9 hF v u d1;rcases d1 with⟨a5,d4,c7⟩|⟨d9,c0,c6,b6,b7,a8,b8,vY,d5,⟨d0,a5,c8⟩,e2,d7,d2⟩
  .refine Xh ⟨λr s=>if r<b.drawn then a4 r s else a5 r s,max (dr L) d4,λo H=>?_⟩;have b3:=tY o;obtain⟨w,y⟩:=left {a with tape:=o} (by grind)
   rw[Y o (λr s z X=>by grind),hF]at y
   obtain⟨a7,d8,S,a6⟩:=c7 o (λr s z X=>by grind)
   rw[a6]at y;exact⟨a7,d8,_,y⟩
  refine Xi ⟨d9,c0,c6,b6,b7,a8,b8,new++vY,t++d5,⟨XZ c9 d0,λr s=>if r<b.drawn then a4 r s else a5 r s,λo H=>?_⟩,?_,u.trans d7,d2⟩
  .have b3:=tY o
   obtain⟨w,y⟩:=left {a with tape:=o} (by rw[Y o (λr s z X=>by
    have:=H r s z (by omega)
    dsimp only at this;rw[XC (by omega)]at this;exact this)];exact b3)
   rw[Y o (λr s z X=>by
    have:=H r s z (by omega)
    dsimp only at this;rw[XC (by omega)]at this;exact this),hF]at y
   obtain⟨S,a6⟩:=c8 o (λr s z X=>by
    have:=H r s (by omega) (by omega)
    dsimp only at this;rw[Xx (by omega)]at this;exact this)
   rw[a6]at y;exact⟨_,y⟩
  simp_all [Ce,GStep.after]
 obtain⟨d6,w⟩:=L;cases d6 with
 |ok O b=>obtain⟨n,Q,p,new,t,R,b9,v,u⟩:=b5;refine b1 (λo=>⟨n,Q,v⟩) b p n _ _ new t A hd (λo=>rfl) ?_ u (ok n O Q b p new t u v);rw[right (by rw[R];exact⟨n,O,v⟩),R];dsimp only;rw[E',seen_eq G b2 u.lz]
 |halt D b=>
  rcases b5 with b4|⟨n,T,p,new,t,R,b9,v,u⟩
  .simp_all
  refine b1 (λo=>⟨n,T,v⟩) b p n _ _ new t A hd (λo=>rfl) ?_ u (halt n D T b p u.le v u.rel);rw[right (by rw[R];exact⟨n,D,v⟩),R];dsimp only;rw[E',seen_eq G b2 u.lz]
theorem yM(G:Good P h){fn:XI}(U:h.fr fn=J){x y:Type}{D:Ren->x->y->Prop}{Q:Xz x}{t:Xz y}(b:ae P h D m Q t)(Y:aV h m a q){r:Result x->GStep}{u:Result y->GStep}
 {sl:M->GStep}{R:GStep}
 (left:∀a,∃z,sl a=GStep.after z (r (Q.runT P a #[]).1))
 (right:Jr (t.runT P q #[]).1->R=GStep.after (seen P fn (t.runT P q #[]).2) (u (t.runT P q #[]).1))
 (ok:∀n H L p o new Z,bD h m n a p q o new Z->D n H L->nX P h c n d base p o (λa=>r (.ok H a)) (u (.ok L o)))
 (halt:∀n b O p o,m.le n->lC h n b O->aV h n p o->nX P h c n d base p o (λa=>r (.halt b a)) (u (.halt O o)))
 (lost:∀b a,Halt.lost b=J->∃v w N,r (.halt b a)=.ended v w N):nX P h c m d base a q sl R:=
 vX G U b Y (λa _=>left a) (λb=>right b.Jr) ok halt λa W p N S X=>by obtain⟨z,s⟩:=left a;obtain⟨v,w,a0,T⟩:=lost W p X;rw[S]at s;dsimp only at s;rw[T]at s;exact⟨v,w,_,s⟩
theorem nP(G:Good P h){fn:XI}(Z:h.fr fn=J){N O:Type}{Q:Ren->N->O->Prop}{R:Xz N}{z:Xz O}(b:ae P h Q m R z)(a3:aV h m a q){t:Result N->GStep}{D:Result O->GStep}
 {sl:M->GStep}{S:GStep}
 (left:∀a,∃U,sl a=GStep.after U (t (R.runT P a #[]).1))
 (right:Jr (z.runT P q #[]).1->S=GStep.after (seen P fn (z.runT P q #[]).2) (D (z.runT P q #[]).1))
 (ok:∀n w x,m.le n->Q n w x->(∃r s o p,(∀a,t (.ok w a)=.go (rg r (o++d)) a)/\(∀a,D (.ok x a)=.go (rg s (p++base)) a)/\cK P h c n (r::o) (s::p))\/∀a,∃u v,t (.ok w a)=.ended u v)
 (halt:∀n b y,m.le n->lC h n b y->(∃r s o p,(∀a,t (.halt b a)=.go (rg r (o++d)) a)/\(∀a,D (.halt y a)=.go (rg s (p++base)) a)/\cK P h c n (r::o) (s::p))\/∀a,∃u v,t (.halt b a)=.ended u v)
 (lost:∀b a,Halt.lost b=J->∃u v,t (.halt b a)=.ended u v):nX P h c m d base a q sl S:=by
 refine yM G Z b a3 left right ?_ ?_ (λb a a0=>by obtain⟨u,v,a6⟩:=lost b a a0;simp_all)
 .intro n w x a5 W new a7 T L;have a4:=T.rel;rcases ok n w x T.le L with⟨r,s,o,p,X,Y,a2⟩|H
  .grind [cM]
  exact eD H
 intro n b y a5 W a1 L a4;rcases halt n b y a1 L with⟨r,s,o,p,X,Y,a2⟩|H
 .grind [cM]
 exact eD H
theorem BE:∀{b c:Xg PanicEntry},aZ (mf h m) b c->aZ (mf h m) (b.dropWhile (!·.goexit)) (c.dropWhile (!·.goexit))
 |_,_,.nil=>.nil
 |_,_,.cons (a:=e) (a':=f) a d=>by
  simp only[Xg.dropWhile_cons];rw[<-a.2.2];split
  .exact BE d
  exact .cons a d
theorem fK(a:Xr)(l:Xe):tag (a.finish l)=tag a:=by grind [Frame.finish,tag]
theorem js(a:Xr)(l:Xg PanicEntry):tag (a.raise l)=tag a:=by grind [Frame.raise,tag]
theorem AH{z D:Xr}(T:bH P h c m e k)(a6:bH P h c m z D){O:Xe}(b4:an h m l O):
 ∃i H,(∀n b a,doReturn P n e (z::b) F l a=.go (rg i b) a)/\(∀n b a,doReturn P n k (D::b) F O a=.go (rg H b) a)/\bH P h c m i H/\tag i=tag z:=by
 rcases T.kindOk with o|o
 .have y:k.kind=.normal:=T.kind▸o;exact⟨z.finish l,D.finish O,λn b a=>by simp_all [doReturn,rg],λn b a=>by simp_all [doReturn,rg],a6.finish b4,fK _ _⟩
 have y:k.kind=.deferred:=T.kind▸o;obtain⟨fn,X,Z,Q,b7,L,N⟩:=z;obtain⟨S,Y,a0,R,b8,U,W⟩:=D;obtain⟨p,r,s,t,u,a5,v,w,x⟩:=a6;simp only at p r s t u a5 v w x
 have same:∃i H,(∀n b a,doReturn P n e (⟨fn,X,Z,Q,b7,L,N⟩::b) F l a=.go (rg i b) a)/\(∀n b a,doReturn P n k (⟨S,Y,a0,R,b8,U,W⟩::b) F O a=.go (rg H b) a)/\bH P h c m i H/\tag i=(L,N):=by
  cases a5 with
  |run=>exact⟨_,_,λn b a=>by simp only[doReturn,o];rfl,λn b a=>by simp only[doReturn,y];rfl,⟨p,r,s,t,u,.run,v,w,x⟩,A⟩
  |returning=>exact⟨_,_,λn b a=>by simp only[doReturn,o];rfl,λn b a=>by simp only[doReturn,y];rfl,⟨p,r,s,t,u,.returning,v,w,x⟩,A⟩
  |panicking b2=>
   cases b2 with
   |nil=>exact⟨_,_,λn b a=>by simp only[doReturn,o];rfl,λn b a=>by simp only[doReturn,y];rfl,⟨p,r,s,t,u,.panicking .nil,v,w,x⟩,A⟩
   |@cons b0 b1 old b9 b3 a7=>
    obtain⟨c6,c0,a4⟩:=b0;obtain⟨c7,d5,d4⟩:=b1;obtain⟨a1,a2,a3⟩:=b3;simp only at a1 a2 a3;subst a2;subst a3;cases c0 with
    |false=>exact⟨_,_,λn b a=>by simp only[doReturn,o];rfl,λn b a=>by simp only[doReturn,y];rfl,⟨p,r,s,t,u,.panicking (.cons (a:=⟨c6,Xf,a4⟩) (a':=⟨c7,Xf,a4⟩) ⟨a1,A,A⟩ a7),v,w,x⟩,A⟩
    |true=>
     have hd:=BE a7;generalize a8:old.dropWhile (!·.goexit)=d2 at hd;generalize a9:b9.dropWhile (!·.goexit)=d3 at hd;cases hd with
     |nil=>exact⟨⟨fn,X,Z,Q,.returning,L,N⟩,⟨S,Y,a0,R,.returning,U,W⟩,λn b a=>by simp only[doReturn,o,a8];rfl,λn b a=>by simp only[doReturn,y,a9];rfl,⟨p,r,s,t,u,.returning,v,w,x⟩,A⟩
     |@cons c8 c9 d0 d1 b5 b6=>exact⟨⟨fn,X,Z,Q,.panicking (c8::d0),L,N⟩,⟨S,Y,a0,R,.panicking (c9::d1),U,W⟩,λn b a=>by simp only[doReturn,o,a8];rfl,λn b a=>by simp only[doReturn,y,a9];rfl,⟨p,r,s,t,u,.panicking (.cons b5 b6),v,w,x⟩,A⟩
 exact same
def eQ(P:Xy)(e:Xr)(b:Xg Xr):Result Next->GStep
 |.ok d a=>stepG.apply P J e b F (.pure d) a
 |.halt c a=>stepG.apply P J e b F (.halt c) a
theorem aN(a:GStep):GStep.after #[] a=a:=by cases a<;>simp[GStep.after]
theorem aX(fn:XI):seen P fn #[]=#[]:=by simp[seen]
theorem fM(e:Xr)(s:Xg Xr)(n:Xz Next)(a:M):∃r,stepG.apply P J e s F n a=GStep.after r (eQ P e s (n.runT P a #[]).1)/\
 (e.kind≠.early->Jr (n.runT P a #[]).1->r=seen P e.fn (n.runT P a #[]).2):=by
 unfold stepG.apply;simp only[Yc];generalize n.runT P a #[]=w;obtain⟨t,p⟩:=w;cases t with
 |ok y v=>
  refine⟨seen P e.fn (if(e.kind==.early)=J then #[]else p),?_,λo _=>?_⟩
  .unfold eQ stepG.apply;simp only[Xz.runT,Yc,YW,aX,aN]
  simp_all
 |halt b v=>
  cases b with
  |blocked=>exact⟨#[],by unfold eQ stepG.apply;simp[aN],λ_ b=>b.elim⟩
  |waiting=>exact⟨#[],by unfold eQ stepG.apply;simp[aN],λ_ b=>b.elim⟩
  |unsupported u=>
   cases u with
   |initOrder x=>exact⟨#[],by unfold eQ stepG.apply;simp[aN],λ_ b=>b.elim⟩
   |_=>
    exact⟨seen P e.fn (if(e.kind==.early)=J then #[]else p),by unfold eQ stepG.apply;simp only[Xz.runT,Yc,YW,aX,aN],λo _=>by
     have:(e.kind==CallKind.early)=Xf:=by simpa using o
     simp[this]⟩
  |_=>
   exact⟨seen P e.fn (if(e.kind==.early)=J then #[]else p),by unfold eQ stepG.apply;simp only[Xz.runT,Yc,YW,aX,aN],λo _=>by
    have:(e.kind==CallKind.early)=Xf:=by simpa using o
    simp[this]⟩
theorem Fy{f:Ren}{a b:Xr}(d:bH P h c f a b):(match a.todo with|.call _ J _ _::_=>CallKind.wrapped|_=>.normal)=.normal/\(match b.todo with|.call _ J _ _::_=>CallKind.wrapped|_=>.normal)=.normal:=by
 have:=d.todo;generalize a.todo=k at this;generalize b.todo=l at this;cases this with
 |nil=>simp
 |tail i g=>exact⟨A,by
   grind [jG,wE]⟩
 |cons e _=>cases e<;>exact⟨A,A⟩
theorem cK.top{b:Ren}{g i:Xg Xr}{e l:Xr}(f:cK P h c m (e::g) (l::i))(o:m.le b){a d:Xr}(n:bH P h c b a d)(k:tag a=tag e):cK P h c b (a::g) (d::i):=by
 cases f.rel with
 |cons _ p=>exact f.Ao (.cons n (p.mono λ_ _ q=>q.mono o)) (by simp[k])
theorem cK.push{b:Ren}{s t:Xg Xr}{r w:Xr}(x:cK P h c m (r::s) (w::t))(z:m.le b){n o p:Xr}(y:bH P h c b n o)(v:tag n=tag r)(D:bH P h c b i p):cK P h c b (i::n::s) (p::o::t):=by have u:=x.top z y v;exact⟨.cons D u.rel,λH L=>u.bot H (by simp_all)⟩
theorem rS(G:Good P h)(b1:aV h m a q)(s:cK P h c m (e::f) (k::g)){n b:Xr}(v:bH P h c m n b)(t:tag n=tag e)(c8:b.fn=k.fn)
 {R S:Xz Next}(r:ae P h (Nr h) m R S){sl:M->GStep}{a0:GStep}
 (left:∀a,sl a=stepG.apply P J n (f++d) F R a)
 (right:a0=stepG.apply P J b (g++base) F S q):nX P h c m d base a q sl a0:=by
 have X:bH P h c m e k:=by cases s.rel with|cons r _=>exact r
 have c9:b.kind≠.early:=by rw[<-v.kind];rcases v.kindOk with r|r<;>rw[r]<;>simp
 have a8:h.fr k.fn=J:=X.fn▸X.mN;refine nP G a8 r b1 (t:=eQ P n (f++d)) (D:=eQ P b (g++base)) (λa=>?_) (λc7=>?_) ?_ ?_ ?_
 .obtain⟨a1,a5,_⟩:=fM (P:=P) n (f++d) R a
  grind
 .obtain⟨a1,a5,c0⟩:=fM (P:=P) b (g++base) S q;simp_all
 .intro y d2 d3 p a9;left;have o:=v.mono p;obtain⟨d0,d1⟩:=Fy v;cases a9 with
  |value Q=>
   refine⟨n.finish _,b.finish _,f,g,λa=>?_,λa=>?_,s.top p (o.finish Q) (by rw[fK,t])⟩
   .simp only[eQ,stepG.apply,Xz.runT,Yc,YW,aX,aN,rg]
   simp only[eQ,stepG.apply,Xz.runT,Yc,YW,aX,aN,rg]
  |skip=>
   refine⟨n.finish I,b.finish I,f,g,λa=>?_,λa=>?_,s.top p (o.finish aY) (by rw[fK,t])⟩
   .simp only[eQ,stepG.apply,Xz.runT,Yc,YW,aX,aN,rg]
   simp only[eQ,stepG.apply,Xz.runT,Yc,YW,aX,aN,rg]
  |enter w O L=>
   refine⟨Frame.enter P w _ .normal,Frame.enter P w _ .normal,n::f,b::g,λa=>?_,λa=>?_,s.push p o t (bH.enter G O L .normal (Xh A))⟩
   .simp only[eQ,stepG.apply,Xz.runT,Yc,YW,aX,aN,rg,Yp]
    grind
   simp only[eQ,stepG.apply,Xz.runT,Yc,YW,aX,aN,rg,Yp]
   grind
  |round x w O b0 T i L a7 b3 b4=>
   refine⟨Frame.round _ w _ T i .normal,Frame.round _ w _ T i .normal,n::f,b::g,λa=>?_,λa=>?_,s.push p o t (bH.round G x O b0 L a7 b3 b4 .normal (Xh A))⟩
   .simp only[eQ,stepG.apply,Xz.runT,Yc,YW,aX,aN,rg,Yp]
   simp only[eQ,stepG.apply,Xz.runT,Yc,YW,aX,aN,rg,Yp]
  |@defer U W hd=>
   have b2:bH P h c y {n with defers:=U::n.defers} {b with defers:=W::b.defers}:=⟨o.fn,o.mN,o.tmps,o.todo,.cons hd o.defers,o.mode,o.kind,o.kindOk,o.roundOf⟩;refine⟨({n with defers:=U::n.defers}:Xr).finish I,({b with defers:=W::b.defers}:Xr).finish I,f,g,λa=>?_,λa=>?_,s.top p (b2.finish aY) (by rw[fK,<-t];rfl)⟩
   .simp only[eQ,stepG.apply,Xz.runT,Yc,YW,aX,aN,rg]
   simp only[eQ,stepG.apply,Xz.runT,Yc,YW,aX,aN,rg]
  |recover=>
   have Z:=s.top p o t;rcases np Z d base with⟨D,H⟩|⟨l,b7,a2,a3,D,H,Q,a6,c6⟩
   .refine⟨n.finish .nilIface,b.finish .nilIface,f,g,λa=>?_,λa=>?_,s.top p (o.finish .nilIface) (by rw[fK,t])⟩
    .cases u:n.roundOf<;>simp only[eQ,stepG.apply,Xz.runT,Yc,YW,aX,aN,rg,u,G.UG,D]
    cases u:b.roundOf<;>simp only[eQ,stepG.apply,Xz.runT,Yc,YW,aX,aN,rg,u,G.UG,H]
   refine⟨n.finish l,b.finish b7,a2,a3,λa=>?_,λa=>?_,Z.Ao (.cons (o.finish Q) a6) (by grind [fK])⟩
   .cases u:n.roundOf<;>simp only[eQ,stepG.apply,Xz.runT,Yc,YW,aX,aN,rg,u,G.UG,D]
   cases u:b.roundOf<;>simp only[eQ,stepG.apply,Xz.runT,Yc,YW,aX,aN,rg,u,G.UG,H]
 .intro y r a4 p Y;left;have o:=v.mono p;cases r<;>cases a4<;>first|exact Y.elim|skip
  .have N:aZ (mf h y) [{v:=_,recovered:=Xf}] [{v:=_,recovered:=Xf}]:=.cons ⟨Y,A,A⟩ .nil;refine⟨n.raise _,b.raise _,f,g,λa=>?_,λa=>?_,s.top p (o.raise N) (by rw[js,t])⟩
   .simp only[eQ,stepG.apply,Xz.runT,Yc,YW,aX,aN,rg]
   simp only[eQ,stepG.apply,Xz.runT,Yc,YW,aX,aN,rg]
  have N:aZ (mf h y) [goexitEntry] [goexitEntry]:=.cons ⟨aY,A,A⟩ .nil;refine⟨n.raise _,b.raise _,f,g,λa=>?_,λa=>?_,s.top p (o.raise N) (by rw[js,t])⟩
  .simp only[eQ,stepG.apply,Xz.runT,Yc,YW,aX,aN,rg]
  simp only[eQ,stepG.apply,Xz.runT,Yc,YW,aX,aN,rg]
 intro r a x;cases r<;>first|(cases x;done)|skip
 .rename_i b6;cases b6<;>first|(cases x;done)|exact⟨_,_,by simp only[eQ,stepG.apply,Xz.runT,Yc,YW,aX,aN];rfl⟩
 exact⟨_,_,by simp only[eQ,stepG.apply,Xz.runT,Yc,YW,aX,aN];rfl⟩
end
variable{i:Xg Xr}{l:Xg Item}
section
variable{d:Xo}
theorem ky{a b:E}(c:m a b):ae P h (St m (zn h m)) m (Instr.getLoop a) (Instr.getLoop b):=by unfold Instr.getLoop;refine ax (bK c) λe f d=>?_;cases d<;>first|exact ah|grind [aq]
def Rs(h:Set)(m:Ren):Ren->E×Xg Deferred->E×Xg Deferred->Prop:=λa b c=>m.le a/\a b.1 c.1/\aZ (rP h a) b.2 c.2
theorem xA(fn:XI)(R:h.fr fn=J){w x:Xk Xe}(U:aw h m w x)(s:Xk Tmp){k n:XG}(O:h.code k=J)(Q:h.code n=J)(a1:cJ k=J)(a2:cJ n=J)
 {z D:Xp E}(T:qb m z D):ae P h (Rs h m) m (Instr.enterLoop fn w s k n z) (Instr.enterLoop fn x s k n D):=by
 unfold Instr.enterLoop
 have mk:∀(o:Ren)(t u:E),m.le o->o t u->gP h o (.loop {state:=.ready,pending:=F,fn,tmps:=w,params:=s,assign:=k,body:=n,defers:=t}) (.loop {state:=.ready,pending:=F,fn,tmps:=x,params:=s,assign:=k,body:=n,defers:=u}):=
  λo t u p hd=>.loop ⟨A,A,A,U.mono p,A,A,A,hd,O,Q,by simp,R,a1,a2⟩
 cases T with
 |none=>refine ae.new (.deferred .nil) λZ a0 o p y=>?_;exact .new (mk o Z a0 p y) λX Y a7 r v=>.pure ⟨Ren.le_trans p r,v,.cons ⟨.collected (r _ _ y),aw.nil⟩ .nil⟩
 |some S=>dsimp only;refine ax (ky S) λa8 a9 W=>?_;exact .new (mk m _ _ (Ren.le_refl _) W.2.2.2.2.2.2.2.1) λX Y a7 r v=>.pure ⟨r,v,.nil⟩
theorem vc(n:Base P m){c d:E}(a:m c d):ae P h (St m λ_ _=>True) m (Instr.beginRound c) (Instr.beginRound d):=by
 unfold Instr.beginRound;refine ax (ky a) λi o b=>?_;refine ax (n:=λ_ _=>True) (.setObj a (.loop ?_) (Xi A) (.pure ⟨A,trivial⟩)) λ_ _ _=>?_
 .obtain⟨l,e,f,g⟩:=b;exact⟨A,e,f,g⟩
 rw[<-b.1];cases i.state with
 |ready=>exact aq trivial
 |done=>simp_all [bA]
 |busy=>simp_all [bA]
 |exhausted=>simp_all [bA]
theorem zN{b d:E}(a:m b d)(j:Xp XG)(q:∀c,j=C c->h.code c=J/\cJ c=J):ae P h (St m (an h m)) m (Instr.endRound b j) (Instr.endRound d j):=by unfold Instr.endRound;refine ax (ky a) λw x r=>?_;refine ax (n:=λ_ _=>True) (.setObj a (.loop ?_) (Xi A) (.pure ⟨A,trivial⟩)) λ_ _ _=>aq (.bool _);obtain⟨t,v,g,i,k,l,n,o,p,e,u,f⟩:=r;exact⟨A,A,g,i,k,l,n,o,p,e,q,f⟩
theorem BG(s:Base P m){d e:E}(b:m d e):ae P h (St m λj n=>j=n/\∀c,j=C c->h.code c=J/\cJ c=J) m (Instr.endLoop d) (Instr.endLoop e):=by
 unfold Instr.endLoop;refine ax (ky b) λo p a=>?_;have l:=a.1;have f:(p.state==LoopState.busy)=(o.state==LoopState.busy):=by rw[l]
 dsimp only;rw[f];split
 .simp_all [jK]
 refine ax (n:=λ_ _=>True) (.setObj b (.loop ?_) (Xi A) (.pure ⟨A,trivial⟩)) λ_ _ _=>aq ⟨a.2.1,a.2.2.2.2.2.2.2.2.2.2.1⟩;obtain⟨r,g,i,k⟩:=a;exact⟨A,g,i,k⟩
theorem sN{b c:E}(a:m b c):ae P h (St m (aZ (rP h m))) m (Instr.takeDeferred b) (Instr.takeDeferred c):=by
 unfold Instr.takeDeferred;refine ax (bK a) λf g d=>?_;cases d<;>first|exact ah|skip
 exact ax (n:=λ_ _=>True) (.setObj a .lJ (Xi A) (.pure ⟨A,trivial⟩)) λ_ _ _=>aq ‹_›
end
def Bh(P:Xy)(h:Set)(b:Xr):Prop:=
 match b.todo with
 |.code (.cond k _ _)::_=>du P h.fn k=J
 |.code (.rangeFunc e i c d)::_=>h.code (.rangeFunc e i c d)=J
 |Xv g (f::_)::_=>∀a,g[f]?=C a->jd P h.fn h.bi h.bZ a.op=J/\(b.roundOf.isSome=J->qS a=J)
 |_=>True
section
variable{d:Xo}{main:Xo}{c base:Xg Xr}{b e:Xr}{f g:Xg Xr}
theorem Base.jS{v:Ren}{H w:M}{new D:Xg XF}(k:Base P m)(t:aV h m a q)(u:bD h m v a H q w new D):Base P v:=by
 refine⟨λx p s=>u.le _ _ (k.1 x p s),λn o z=>?_⟩;rcases u.fresh n o z with y|⟨p,s⟩
 .exact k.2 n o y
 have L:=t.left k.types;have N:=t.right k.types;omega
theorem aV.SD(f:aV h m a q):pV m:=λb c d e=>f.inj b c d e
theorem bu{c:Xo}{b:Xr}(d:b.mode=.run):stepG P c (rg b i) a=stepG.exec P c J b i F a:=by simp_all [stepG,rg]
theorem ia{c:Xo}{b:Xr}(d:b.mode≠.run):stepG P c (rg b i) a=unwind P c b i F a:=by simp[stepG,rg]
theorem cK.head(a:cK P h d m (b::f) (e::g)):bH P h d m b e:=by cases a.rel with|cons a _=>exact a
theorem cK.tail(a:cK P h d m (b::f) (e::g)):aZ (bH P h d m) f g:=by cases a.rel with|cons _ a=>exact a
theorem bH.xi{b c:Xr}(a:bH P h d m b c){e:Xg Item}(f:jy P h d b.roundOf.isSome m l e):bH P h d m {b with todo:=l} {c with todo:=e}:=
 ⟨a.fn,a.mN,a.tmps,f,a.defers,a.mode,a.kind,a.kindOk,a.roundOf⟩
theorem gz(x:aV h m a q)(i:cK P h d m (b::f) (e::g))(o:b.mode=.run){k:Xg Item}(t:jy P h d b.roundOf.isSome m l k)
 (u:∀a,stepG.exec P J J b (f++c) F a=.go {frame:={b with todo:=l},callers:=f++c,status:=.running,dying:=F} a)
 (w:∀a,stepG.exec P main J e (g++base) F a=.go {frame:={e with todo:=k},callers:=g++base,status:=.running,dying:=F} a):RB P h d m main c base b e f g a q:=by
 have v:e.mode=.run:=by have:=i.head.mode;rw[o]at this;cases s:e.mode<;>rw[s]at this<;>first|rfl|cases this
 refine mV x (o:={b with todo:=l}) (p:={e with todo:=k}) (λa=>?_) (λa=>?_) (i.top (Ren.le_refl _) (i.head.xi t) A)
 .rw[bu o];exact u a
 rw[bu v];exact w a
def Us:Xp XG->Xo
 |none=>J
 |some .ret=>J
 |_=>Xf
def py(P:Xy)(f:Xo)(b:Xr)(i:Xg Xr)(c:Xp XG)(a:M):GStep:=
 match b.roundOf with
 |none=>if Us c=J then .go (rg {b with mode:=.returning} i) a else .ended (.stuck "exit, goto: no such block or label" (b.pos P)) a
 |some e=>
  let (g,d):=(Instr.endRound e c).runT P a #[]
  GStep.after (seen P b.fn d)<|match g with
  |.ok h a=>doReturn P f b i F h a
  |.halt _ a=>.ended (.stuck "range over a function: no such loop" (b.pos P)) a
theorem nN(G:Good P h)(b2:Base P m)(D:aV h m a q)(k:cK P h d m (b::f) (e::g))(n:b.mode=.run)(j:Xp XG)(W:b.roundOf.isSome=J->∀c,j=C c->h.code c=J/\cJ c=J)
 (t:∀a,stepG.exec P J J b (f++c) F a=py P J b (f++c) j a)
 (a1:∀a,stepG.exec P main J e (g++base) F a=py P main e (g++base) j a):RB P h d m main c base b e f g a q:=by
 have i:=k.head;have Z:e.mode=.run:=by have:=i.mode;rw[n]at this;cases l:e.mode<;>rw[l]at this<;>first|rfl|cases this
 have v:=i.roundOf;generalize o:b.roundOf=b6 at v;generalize a0:e.roundOf=b7 at v;cases v with
 |none=>
  by_cases z:Us j=J
  .refine mV D (o:={b with mode:=.returning}) (p:={e with mode:=.returning}) (λa=>?_) (λa=>?_) (k.top (Ren.le_refl _) ⟨i.fn,i.mN,i.tmps,i.todo,i.defers,.returning,i.kind,i.kindOk,i.roundOf⟩ A)
   .rw[bu n,t];unfold py;rw[o];simp only[z,Yc]
   simp_all [bu,py]
  refine eD λa=>⟨_,_,by rw[bu n,t];unfold py;rw[o];simp only[z];rfl⟩
 |@some a5 b5 Y=>
  have b4:f≠[]:=by intro l;subst l;have:=(k.bot b A).2;simp_all
  cases k.tail with
  |nil=>simp_all
  |@cons w x r s y U=>
   refine nP G (fn:=e.fn) (i.fn▸i.mN) (zN Y j (W (by rw[o];rfl))) D
    (t:=λu=>match u with|.ok p a=>doReturn P J b (w::r++c) F p a|.halt _ a=>.ended (.stuck "range over a function: no such loop" (b.pos P)) a)
    (D:=λu=>match u with|.ok p a=>doReturn P main e (x::s++base) F p a|.halt _ a=>.ended (.stuck "range over a function: no such loop" (e.pos P)) a) (λa=>⟨seen P b.fn ((Instr.endRound a5 j).runT P a #[]).2,?_⟩) (λ_=>?_) ?_ ?_ ?_
   .rw[bu n,t];unfold py;rw[o]
   .rw[bu Z,a1];unfold py;rw[a0]
   .rintro H p b8 X⟨rfl,a3⟩;left;obtain⟨L,N,Q,R,S,T⟩:=AH (P:=P) i y a3;refine⟨L,N,r,s,λa=>Q J _ a,λa=>R main _ a,?_⟩;have a2:cK P h d H (w::r) (x::s):=⟨.cons y U,λO a4=>k.bot O (by rw[Xg.getLast?_cons_cons];exact a4)⟩;exact a2.top (Ren.le_refl _) S T
   .intro H l b1 X b3;exact Xi λa=>⟨_,_,A⟩
   simp
theorem NR{c a:Xr}(b:bH P h d m c a)(e:c.mode=.run):a.mode=.run:=by have:=b.mode;rw[e]at this;cases b:a.mode<;>rw[b]at this<;>first|rfl|cases this
theorem CK.of{e:Xo}{b c:XG}(a:CK h d e b)(f:h.code b=J->h.code c=J)(g:cJ b=J->cJ c=J):CK h d e c:=by
 rcases a with a|⟨a,i⟩
 .exact Xh a
 exact Xi ⟨f a,λk=>g (i k)⟩
theorem MB(G:Good P h)(U:Base P m)(g8:pV m)(o:aV h m a q)(l:cK P h d m (b::f) (e::g))(b3:b.mode=.run)(d3:Bh P h b)(hd:d=J->b.roundOf=F):RB P h d m main c base b e f g a q:=by
 have s:=l.head;have e8:=NR s b3;have f0:=s.todo;have a4:=G.code;obtain⟨fn,y,j1,H,i5,Q,r⟩:=b;obtain⟨b2,z,j2,L,i6,R,D⟩:=e;simp only at b3 e8 f0;subst b3;subst e8;have i8:r.isSome=J->d=Xf:=by grind
 cases f0 with
 |nil=>exact nN G U o l A F (by simp) (λa=>rfl) (λa=>rfl)
 |tail Y v=>exact eD λa=>⟨_,_,by rw[bu A];rfl⟩
 |@cons i2 i3 N O hit v=>
  cases hit with
  |inBlock id=>exact gz o l A v (λa=>rfl) (λa=>rfl)
  |inScope k _=>exact gz o l A v (λa=>rfl) (λa=>rfl)
  |inLoop k n=>exact gz o l A (.cons (.code k n) (.cons (.inLoop k n) v)) (λa=>rfl) (λa=>rfl)
  |inRangeFunc n=>exact eD λa=>⟨_,_,A⟩
  |beginRound=>
   refine rS G o l s A rfl (R:=(do r.elim (stuck "beginRound: no round") Instr.beginRound;pure .skip)) (S:=(do D.elim (stuck "beginRound: no round") Instr.beginRound;pure .skip)) ?_ (λa=>by rfl) (by rfl);have Y:qb m r D:=s.roundOf;cases Y with
   |none=>exact ah
   |some b0=>exact ax (vc U b0) λ_ _ _=>aB .skip
  |@endRangeFunc p b7 n=>
   have a6:fn=b2:=s.fn;subst a6
   refine nP G (fn:=fn) s.mN (BG U n) o
    (t:=λw=>match w with|.ok d8 a=>.go (rg ⟨fn,y,(d8.map Item.code).toList++N,H,.run,Q,r⟩ (f++c)) a|.halt (.panic b1) a=>.go (rg (Frame.raise ⟨fn,y,.endRangeFunc p::N,H,.run,Q,r⟩ [{v:=b1,recovered:=Xf}]) (f++c)) a|.halt _ a=>.ended (.stuck "range over a function: no such loop" (Xr.pos P ⟨fn,y,.endRangeFunc p::N,H,.run,Q,r⟩)) a)
    (D:=λw=>match w with|.ok d8 a=>.go (rg ⟨fn,z,(d8.map Item.code).toList++O,L,.run,R,D⟩ (g++base)) a|.halt (.panic b1) a=>.go (rg (Frame.raise ⟨fn,z,.endRangeFunc b7::O,L,.run,R,D⟩ [{v:=b1,recovered:=Xf}]) (g++base)) a|.halt _ a=>.ended (.stuck "range over a function: no such loop" (Xr.pos P ⟨fn,z,.endRangeFunc b7::O,L,.run,R,D⟩)) a)
    (λa=>⟨seen P fn ((Instr.endLoop p).runT P a #[]).2,by rfl⟩) (λ_=>by rfl) ?_ ?_ ?_
   .rintro Z j i4 W⟨rfl,rfl,b9⟩;refine Xh ⟨_,_,f,g,λa=>rfl,λa=>rfl,l.top (Ren.le_refl _) (s.xi ?_) A⟩;cases j with
    |none=>exact v
    |some a2=>exact .cons (.code a2 (Xi ⟨(b9 a2 A).1,λ_=>(b9 a2 A).2⟩)) v
   .intro Z n T W b8;cases n<;>cases T<;>first|exact b8.elim|skip
    .have d1:aZ (mf h Z) [{v:=_,recovered:=Xf}] [{v:=_,recovered:=Xf}]:=.cons ⟨b8,A,A⟩ .nil;exact Xh ⟨_,_,f,g,λa=>rfl,λa=>rfl,l.top W ((s.mono W).raise d1) (by rw[js])⟩
    simp
   intro n a b0;cases n<;>first|(cases b0;done)|simp
  |inRegion x p n=>
   cases p with
   |nil=>exact gz o l A v (λa=>rfl) (λa=>rfl)
   |cons c6 rest=>
    have d7:yielded x y=yielded x z:=by
     funext j
     unfold yielded;cases i0:(x[j]?).bind (·.dst)with
     |none=>rfl
     |some a3=>
      dsimp only[Option.bind_some];have f1:aw h m y z:=s.tmps;cases b5:y[a3]? with
      |none=>rw[f1.none b5]
      |some a2=>
       obtain⟨f6,t,w⟩:=f1.get b5;rw[t];cases w with
       |bS b9=>cases f6<;>first|exact b9.elim|rfl
       |_=>rfl
    by_cases d5:(((x[c6]?).map (Region.wanted · (yielded x y))).getD Xf)=J
    .have c0:(((x[c6]?).map (Region.wanted · (yielded x z))).getD Xf)=J:=by simp_all
     cases a8:x[c6]? with
     |none=>simp_all
     |some c7=>
      rw[a8]at d5 c0;obtain⟨h1,e9⟩:=d3 c7 a8;refine rS G o l s A rfl (vy G U g8 (s.eval U) c7 h1) (λa=>?_) ?_
      .rw[bu A];simp only[stepG.exec,d5,Yc,stepG.oper,Xr.oper?,a8];cases r with
       |none=>rfl
       |some p=>
        have:=e9 A
        grind [qS]
      rw[bu A];simp only[stepG.exec,c0,Yc,stepG.oper,Xr.oper?,a8];have Y:qb m r D:=s.roundOf;cases Y with
      |none=>rfl
      |some p=>
       have:=e9 A
       grind [qS]
    have c0:¬(((x[c6]?).map (Region.wanted · (yielded x z))).getD Xf)=J:=by simp_all
    refine mV o (λa=>?_) (λa=>?_) (l.top (Ren.le_refl _) (s.finish aY) (fK _ _))
    .rw[bu A];simp only[stepG.exec,d5];rfl
    rw[bu A];simp only[stepG.exec,c0];rfl
  |code a2 n=>
   cases a2 with
   |skip=>exact gz o l A v (λa=>rfl) (λa=>rfl)
   |label p=>exact gz o l A v (λa=>rfl) (λa=>rfl)
   |refuse j4=>exact eD λa=>⟨_,_,A⟩
   |seq i k=>
    refine gz o l A (.cons (.code i (n.of (λt=>?_) λt=>?_)) (.cons (.code k (n.of (λt=>?_) λt=>?_)) v)) (λa=>rfl) (λa=>rfl)
    all_goals first|(rw[a4]at t⊢;simp_all [codeOk])|simp_all [cJ]
   |block id i=>
    refine gz o l A (.cons (.code i (n.of (λt=>?_) λt=>?_)) (.cons (.inBlock id) v)) (λa=>rfl) (λa=>rfl)
    all_goals simp_all [codeOk,cJ]
   |loop i=>have T:CK h d r.isSome i:=n.of (λt=>by simp_all [codeOk]) (λt=>by simp_all [cJ]);exact gz o l A (.cons (.code i T) (.cons (.inLoop i T) v)) (λa=>rfl) (λa=>rfl)
   |scope i=>have T:CK h d r.isSome i:=n.of (λt=>by simp_all [codeOk]) (λt=>by simp_all [cJ]);exact gz o l A (.cons (.code i T) (.cons (.inScope i T) v)) (λa=>rfl) (λa=>rfl)
   |ret=>exact nN G U o l A (C .ret) (λ_ c t=>by cases t;exact⟨by rw[a4];rfl,A⟩) (λa=>rfl) (λa=>rfl)
   |cond a0 i k=>
    have b4:an h m (Frame.eval ⟨fn,y,.code (.cond a0 i k)::N,H,.run,Q,r⟩ a0) (Frame.eval ⟨b2,z,.code (.cond a0 i k)::O,L,.run,R,D⟩ a0):=s.eval U a0 d3;have h8:CK h d r.isSome i:=n.of (λt=>by simp_all [codeOk]) (λt=>by simp_all [cJ]);have h9:CK h d r.isSome k:=n.of (λt=>by simp_all [codeOk]) (λt=>by simp_all [cJ]);generalize b5:Frame.eval ⟨fn,y,.code (.cond a0 i k)::N,H,.run,Q,r⟩ a0=a2 at b4;generalize i1:Frame.eval ⟨b2,z,.code (.cond a0 i k)::O,L,.run,R,D⟩ a0=f6 at b4;cases b4 with
    |bool a1=>
     refine gz o l A (.cons (.code (if a1 then i else k) (by cases a1<;>assumption)) v) (λa=>?_) (λa=>?_)
     .simp only[stepG.exec,b5]
     simp_all [stepG.exec]
    |_=>exact eD λa=>⟨_,_,by rw[bu A];simp only[stepG.exec,b5];rfl⟩
   |exit id=>
    rcases EY id v with⟨S,a5|a5⟩|⟨a1,f5,S,a5,Y⟩
    rotate_left
    .have d2:r=F:=by
      simp_all
     subst d2;exact eD λa=>⟨_,_,by rw[bu A];simp only[stepG.exec,S,e_];rfl⟩
    rotate_left
    .refine nN G U o l A (C (.exit id)) (λ_ c t=>by cases t;exact⟨by rw[a4];rfl,A⟩) (λa=>?_) (λa=>?_)
     .simp only[stepG.exec,S,e_];rfl
     simp only[stepG.exec,a5,e_];rfl
    refine gz o l A Y (λa=>?_) (λa=>?_)
    .simp only[stepG.exec,S,Xp.elim_some]
    simp_all [stepG.exec]
   |goto id=>
    rcases Fj G id v with⟨S,a5|a5⟩|⟨a1,f5,S,a5,Y⟩
    rotate_left
    .have d2:r=F:=by
      simp_all
     subst d2;exact eD λa=>⟨_,_,by rw[bu A];simp only[stepG.exec,S,e_];rfl⟩
    rotate_left
    .refine nN G U o l A (C (.goto id)) (λ_ c t=>by cases t;exact⟨by rw[a4];rfl,A⟩) (λa=>?_) (λa=>?_)
     .simp only[stepG.exec,S,e_];rfl
     simp only[stepG.exec,a5,e_];rfl
    refine gz o l A Y (λa=>?_) (λa=>?_)
    .simp only[stepG.exec,S,Xp.elim_some]
    simp_all [stepG.exec]
   |region id x g0=>
    have a8:Wf P h d r.isSome x:=by
     rcases n with n|⟨n,T⟩
     .exact Xh n
     refine Xi λc7 b3=>⟨?_,λY=>?_⟩
     .rw[a4]at n;grind [codeOk]
     have:=T Y;simp only[cJ,Za]at this;exact this c7 b3
    cases g0 with
    |false=>exact gz o l A (.cons (.inRegion x _ a8) v) (λa=>rfl) (λa=>rfl)
    |true=>
     have a6:fn=b2:=s.fn;subst a6
     refine nP G (fn:=fn) s.mN (cj (.order fn id)) o
      (t:=λw=>match w with|.ok a1 a=>.go (rg ⟨fn,y,Xv x (Region.schedule (P.follows .mixedOrders) x a1)::N,H,.run,Q,r⟩ (f++c)) a|.halt _ a=>.ended (.stuck "order" "") a)
      (D:=λw=>match w with|.ok a1 a=>.go (rg ⟨fn,z,Xv x (Region.schedule (P.follows .mixedOrders) x a1)::O,L,.run,R,D⟩ (g++base)) a|.halt _ a=>.ended (.stuck "order" "") a)
      (λa=>⟨#[],?_⟩) (λ_=>?_) ?_ ?_ ?_
     .rw[bu A];simp only[stepG.exec,choose,Sem.run,Xz.runT,Question.forced,aN];rfl
     .rw[bu A];simp only[stepG.exec,choose,Sem.run,Xz.runT,Question.forced,aX,aN];rfl
     .rintro Z a1 f5 W⟨rfl,rfl⟩;exact Xh ⟨_,_,f,g,λa=>rfl,λa=>rfl,l.top (Ren.le_refl _) (s.xi (.cons (.inRegion x _ a8) v)) A⟩
     .intro Z n T W b8;exact Xi λa=>⟨_,_,A⟩
     simp
   |rangeFunc u X i k=>
    have d0:h.code (.rangeFunc u X i k)=J:=d3;rw[a4]at d0;simp only[codeOk,Yg]at d0;obtain⟨⟨⟨⟨g1,g2⟩,g3⟩,g4⟩,g5⟩:=d0;have a6:fn=b2:=s.fn;subst a6;have b4:an h m (Frame.eval ⟨fn,y,.code (.rangeFunc u X i k)::N,H,.run,Q,r⟩ u) (Frame.eval ⟨fn,z,.code (.rangeFunc u X i k)::O,L,.run,R,D⟩ u):=s.eval U u g1
    refine yM G (fn:=fn) s.mN (xA fn s.mN s.tmps X (k:=i) (n:=k) (by rw[a4];exact g2) (by rw[a4];exact g3) g4 g5 s.roundOf) o
     (r:=λw=>match w with
       |.ok (p,mark) a=>stepG.apply P J ⟨fn,y,.inRangeFunc p::N,mark++H,.run,Q,r⟩ (f++c) F (do let a3<-resolve (Frame.eval ⟨fn,y,.inRangeFunc p::N,mark++H,.run,Q,r⟩) {callee:=.value u,args:=#[.const (.func (.yield p) #[] #[])],argTypes:=#[]} 0;invoke a3.target a3.args) a
       |.halt _ a=>.ended (.stuck "range over a function: no such loop" (Xr.pos P ⟨fn,y,.code (.rangeFunc u X i k)::N,H,.run,Q,r⟩)) a)
     (u:=λw=>match w with
       |.ok (p,mark) a=>stepG.apply P J ⟨fn,z,.inRangeFunc p::O,mark++L,.run,R,D⟩ (g++base) F (do let a3<-resolve (Frame.eval ⟨fn,z,.inRangeFunc p::O,mark++L,.run,R,D⟩) {callee:=.value u,args:=#[.const (.func (.yield p) #[] #[])],argTypes:=#[]} 0;invoke a3.target a3.args) a
       |.halt _ a=>.ended (.stuck "range over a function: no such loop" (Xr.pos P ⟨fn,z,.code (.rangeFunc u X i k)::O,L,.run,R,D⟩)) a)
     (λa=>⟨seen P fn ((Instr.enterLoop fn y X i k r).runT P a #[]).2,by rw[bu A];rfl⟩) (λ_=>by rw[bu A];rfl) ?_ ?_ ?_
    .rintro Z⟨p,f2⟩⟨b7,f3⟩ h5 f7 new i7 e2⟨_,b0,h0⟩;have W:=e2.le;have d6:=e2.rel;have a7:=s.mono W;have h2:=l.top W a7 A;have g6:Base P Z:=U.jS o e2;have g9:pV Z:=λi f8 k f9=>d6.inj i f8 k f9
     refine rS G d6 h2 (n:=⟨fn,y,.inRangeFunc p::N,f2++H,.run,Q,r⟩) (b:=⟨fn,z,.inRangeFunc b7::O,f3++L,.run,R,D⟩)
      ⟨A,a7.mN,a7.tmps,.cons (.inRangeFunc b0) (v.imp λ_ _ a2=>a2.mono W),h0.append a7.defers,.run,a7.kind,a7.kindOk,a7.roundOf⟩ A rfl ?_ (λa=>rfl) A
     refine ax (n:=rP h Z) ?_ λa3 h6 hd=>pw G g6 g9 hd.1 hd.2;have d7:aw h Z #[.func (.yield p) #[] #[]] #[.func (.yield b7) #[] #[]]:=aw.push aw.nil (.func (.yield b0) A rfl (by simp) (by simp));have d4:=b4.mono W
     have f4:∀(a9:Xk Xe)(d9 e0:Xg Item)(c8 c9:Xg Deferred)(b6:CallKind)(w:Xp E)(p:E),resolve (Frame.eval ⟨fn,a9,.inRangeFunc p::d9,c8,.run,b6,w⟩) {callee:=.value u,args:=#[.const (.func (.yield p) #[] #[])],argTypes:=#[]} 0
      =Deferred.ofValue (Frame.eval ⟨fn,a9,.code (.rangeFunc u X i k)::e0,c9,.run,b6,w⟩ u) #[.func (.yield p) #[] #[]]:=by
      intro a9 d9 e0 c8 c9 b6 w p;unfold resolve;have S:Frame.eval ⟨fn,a9,.inRangeFunc p::d9,c8,.run,b6,w⟩ u=Frame.eval ⟨fn,a9,.code (.rangeFunc u X i k)::e0,c9,.run,b6,w⟩ u:=by cases u<;>rfl
      simp[S,Frame.eval]
     rw[f4 y N N (f2++H) H,f4 z O O (f3++L) L];generalize Frame.eval ⟨fn,y,.code (.rangeFunc u X i k)::N,H,.run,Q,r⟩ u=b1 at d4;generalize Frame.eval ⟨fn,z,.code (.rangeFunc u X i k)::O,L,.run,R,D⟩ u=j3 at d4;unfold Deferred.ofValue;cases d4 with
     |func a6 d1 g7 h4 h3=>exact aq ⟨.fn a6 ⟨g7,h3⟩,aw.append ⟨d1,h4⟩ d7⟩
     |nilFunc=>exact aq ⟨.nil,d7⟩
     |_=>exact ah
    .intro Z n T h5 f7 W b8 d6;exact eD λa=>⟨_,_,A⟩
    simp
end
variable{S:Xk XF}
section
variable{f:Xo}{main:Xo}{e base:Xg Xr}{b g:Xr}{c d:Xg Xr}
def Al:Target->Xo
 |.nil=>J
 |_=>Xf
def Qi:FrameMode->Xo
 |.panicking _=>J
 |_=>Xf
def rW(P:Xy)(b:Xr)(c:Xg Xr):Result Next->GStep
 |.ok (.enter d f) a=>.go (rg (Frame.enter P d f .deferred) (b::c)) a
 |.ok (.round h d i e g) a=>.go (rg (Frame.round h d i e g .deferred) (b::c)) a
 |.ok .recover a=>match b.mode,tryRecover b c with
  |.returning,C (_,c)=>.go (rg b c) a
  |_,_=>.go (rg b c) a
 |.ok _ a=>.go (rg b c) a
 |.halt (.panic k) a=>.go (rg (b.raise [{v:=k,recovered:=Xf}]) c) a
 |.halt .goexit a=>.go (rg (b.raise [goexitEntry]) c) a
 |.halt _ a=>.ended (.stuck "" "") a
def Kg:Halt->Xo
 |.panic _=>J
 |.goexit=>J
 |_=>Xf
theorem mi(d:Xr)(f:Xg Xr)(b:Deferred)(a:M)(i:(Al b.target&&Qi d.mode)=Xf)
 (c:match((invoke b.target b.args).runT P a #[]).1 with
   |.ok e _=>(match e with|.value _|.skip|.enter .. |.round .. |.defer _|.recover=>True|_=>False)
   |.halt c _=>Kg c=J):callDeferred P d f F b a=GStep.after (seen P d.fn ((invoke b.target b.args).runT P a #[]).2) (rW P d f ((invoke b.target b.args).runT P a #[]).1):=by
 unfold callDeferred;generalize (invoke b.target b.args).runT P a #[]=m at c;obtain⟨k,S⟩:=m;cases k with
 |ok e l=>cases e<;>first|exact c.elim|(rw[Xx (λc=>by have g:(Al b.target&&Qi d.mode)=J:=c;rw[i]at g;cases g)];rfl)
 |halt h l=>cases h<;>first|(cases c;done)|(rw[Xx (λc=>by grind [Al,Qi])];rfl)
theorem qh(d:Xr)(g:Xg Xr)(b:Deferred)(a:M)(m:(Al b.target&&Qi d.mode)=Xf){c:Halt}{k:M}
 (e:(invoke b.target b.args).runT P a #[]=(.halt c k,S))(h:Halt.lost c=J):∃i l f,callDeferred P d g F b a=.ended i l f:=by
 unfold callDeferred;rw[Xx (λe=>by grind [Al,Qi])];simp only[e];cases c<;>first|(cases h;done)|exact⟨_,_,_,rfl⟩
theorem rX(G:Good P h)(w:Base P m)(c0:pV m)(d0:aV h m a q)(a0:cK P h f m (b::c) (g::d)){o s:Deferred}(hd:rP h m o s){i k:Xr}(Y:bH P h f m i k)(a1:tag i=tag b)
 {sl:M->GStep}{b1:GStep}(left:∀a,sl a=callDeferred P i (c++e) F o a)(right:b1=callDeferred P k (d++base) F s q):nX P h f m e base a q sl b1:=by
 have a5:=Y.mode;have L:Al o.target=Al s.target:=by have:=hd.1;generalize o.target=p at this;generalize s.target=r at this;cases this<;>rfl
 have T:Qi i.mode=Qi k.mode:=by generalize i.mode=p at a5;generalize k.mode=r at a5;cases a5<;>rfl
 cases D:Al o.target&&Qi i.mode with
 |true=>refine eD λa=>⟨.unsupported (.noEntry "machine/Return: a deferred call of a nil function value, made while the frame is unwinding") (Xr.pos P i),a,?_⟩;rw[left];refine XC ?_;exact D
 |false=>
  have c6:(Al s.target&&Qi k.mode)=Xf:=by simp_all
  have d8:∀N l O,Nr h l N O->(match N with|.value _|.skip|.enter .. |.round .. |.defer _|.recover=>True|_=>False)/\(match O with|.value _|.skip|.enter .. |.round .. |.defer _|.recover=>True|_=>False):=by intro N l O Z;cases Z<;>exact⟨trivial,trivial⟩
  refine vX G (fn:=k.fn) (Y.fn▸Y.mN) (pw G w c0 hd.1 hd.2) d0 (W:=rW P i (c++e)) (a1:=rW P k (d++base)) (λa y=>⟨_,(left a).trans (mi i _ o a D ?_)⟩) (λy=>right.trans (mi k _ s q c6 ?_)) ?_ ?_ (λa z H S b5 a4=>by rw[left];exact qh i _ o a D b5 a4)
  .generalize (invoke o.target o.args).runT P a #[]=a9 at y;obtain⟨a8,S⟩:=a9;cases a8 with
   |ok N H=>obtain⟨l,O,Z⟩:=y;grind
   |halt z H=>obtain⟨l,X,a7⟩:=y;cases z<;>cases X<;>first|exact a7.elim|rfl
  .generalize (invoke s.target s.args).runT P q #[]=a9 at y;obtain⟨a8,S⟩:=a9;cases a8 with
   |ok N H=>obtain⟨l,O,Z⟩:=y;grind
   |halt z H=>obtain⟨l,X,a7⟩:=y;cases X<;>cases z<;>first|exact a7.elim|rfl
  .intro l N O H a3 new d7 n Z;have t:=n.le;have x:=Y.mono t;have u:=a0.top t x a1;cases Z with
   |value c9=>exact cM n.rel (λa=>rfl) A u
   |skip=>exact cM n.rel (λa=>rfl) A u
   |defer hd=>exact cM n.rel (λa=>rfl) A u
   |enter a2 D v=>exact cM n.rel (o:=Frame.enter P a2 _ .deferred) (p:=Frame.enter P a2 _ .deferred) (b:=i::c) (n:=k::d) (λa=>rfl) A (a0.push t x a1 (bH.enter G D v .deferred (Xi A)))
   |round a4 a2 D c8 p r v w d1 d2=>exact cM n.rel (o:=Frame.round _ a2 _ p r .deferred) (p:=Frame.round _ a2 _ p r .deferred) (b:=i::c) (n:=k::d) (λa=>rfl) A (a0.push t x a1 (bH.round G a4 D c8 v w d1 d2 .deferred (Xi A)))
   |recover=>
    rcases np u e base with⟨L,T⟩|⟨b2,d9,b3,b4,L,T,c9,b7,b8⟩
    .refine cM n.rel (o:=i) (p:=k) (b:=c) (n:=d) (λa=>?_) ?_ u
     .simp only[rW,L];cases i.mode<;>rfl
     simp_all [rW]
    have c7:=u.Ao (.cons x b7) (by simp[b8])
    have d6:∀p r,jV h m p r->i.mode=p->k.mode=r->nX P h f l e base H a3 (λa=>rW P i (c++e) (.ok .recover a)) (rW P k (d++base) (.ok .recover a3)):=by
     intro p r b9 v w;cases b9 with
     |returning=>exact cM n.rel (o:=i) (p:=k) (b:=b3) (n:=b4) (λa=>by simp only[rW,L,v]) (by simp only[rW,T,w]) c7
     |run=>exact cM n.rel (o:=i) (p:=k) (b:=c) (n:=d) (λa=>by simp only[rW,L,v]) (by simp only[rW,T,w]) u
     |panicking _=>exact cM n.rel (o:=i) (p:=k) (b:=c) (n:=d) (λa=>by simp only[rW,L,v]) (by simp only[rW,T,w]) u
    grind
  intro l b6 X H a3 t z b0;have x:=Y.mono t;cases b6<;>cases X<;>first|exact z.elim|skip
  .have a6:aZ (mf h l) [{v:=_,recovered:=Xf}] [{v:=_,recovered:=Xf}]:=.cons ⟨z,A,A⟩ .nil;exact cM b0 (λa=>rfl) A (a0.top t (x.raise a6) (by rw[js,a1]))
  have a6:aZ (mf h l) [goexitEntry] [goexitEntry]:=.cons ⟨aY,A,A⟩ .nil;exact cM b0 (λa=>rfl) A (a0.top t (x.raise a6) (by rw[js,a1]))
theorem EH{a b:Xr}(c:bH P h f m a b):a.catches P=Xf/\b.catches P=Xf:=by
 have:=c.todo;unfold Xr.catches;generalize a.todo=l at this;generalize b.todo=n at this;cases this with
 |nil=>simp
 |tail k i=>
  constructor
  .split<;>rename_i c<;>first|rfl|cases c
  grind [jG,wE]
 |cons e _=>cases e<;>(constructor<;>(split<;>rename_i g d<;>first|rfl|cases d))
theorem GB(G:Good P h)(T:Base P m)(a8:pV m)(p:aV h m a q)(o:cK P h f m (b::c) (g::d))(a9:b.mode≠.run)(e9:¬(c=[]/\b.defers=[])):RB P h f m main e base b g c d a q:=by
 have i:=o.head;have U:=i.mode;have d7:g.mode≠.run:=by intro H;rw[H]at U;generalize b.mode=O at U a9;cases U;exact a9 A
 have y:∀a,stepG P J (rg b (c++e)) a=unwind P J b (c++e) F a:=λa=>ia a9;have N:∀a,stepG P main (rg g (d++base)) a=unwind P main g (d++base) F a:=λa=>ia d7;obtain⟨fn,l,w,e4,W,r,t⟩:=b;obtain⟨e6,v,x,e5,X,s,u⟩:=g;have d5:=i.fn;subst d5;have d4:=i.defers;cases d4 with
 |@cons c7 c8 a2 a3 hd b4=>
  have a7:bH P h f m ⟨fn,l,w,a2,W,r,t⟩ ⟨fn,v,x,a3,X,s,u⟩:=⟨A,i.mN,i.tmps,i.todo,b4,i.mode,i.kind,i.kindOk,i.roundOf⟩;obtain⟨f3,e2⟩:=c7;obtain⟨f4,e3⟩:=c8;have d9:=hd.1;cases d9 with
  |@collected k f1 d8=>
   refine nP G (fn:=fn) i.mN (sN d8) p
    (t:=λk=>match k with|.ok a1 a=>.go (rg ⟨fn,l,w,a1++a2,W,r,t⟩ (c++e)) a|.halt _ a=>.ended (.stuck "the deferred calls of a range-over-func loop have been taken" (Xr.pos P ⟨fn,l,w,_,W,r,t⟩)) a)
    (D:=λk=>match k with|.ok a1 a=>.go (rg ⟨fn,v,x,a1++a3,X,s,u⟩ (d++base)) a|.halt _ a=>.ended (.stuck "the deferred calls of a range-over-func loop have been taken" (Xr.pos P ⟨fn,v,x,_,X,s,u⟩)) a)
    (λa=>⟨seen P fn ((Instr.takeDeferred k).runT P a #[]).2,by rw[y];rfl⟩) (λ_=>by rw[N];rfl) ?_ ?_ ?_
   .rintro n b2 e1 L⟨rfl,b5⟩;exact Xh ⟨_,_,c,d,λa=>rfl,λa=>rfl,o.top (Ren.le_refl _) (⟨A,i.mN,i.tmps,i.todo,b5.append b4,i.mode,i.kind,i.kindOk,i.roundOf⟩:bH P h f n ⟨fn,l,w,b2++a2,W,r,t⟩ ⟨fn,v,x,e1++a3,X,s,u⟩) A⟩
   .intro n H e7 L e8;exact Xi λa=>⟨_,_,A⟩
   simp
  |fn R a4=>exact rX G T a8 p o hd a7 A (λa=>by rw[y];rfl) (by rw[N];rfl)
  |nil=>exact rX G T a8 p o hd a7 A (λa=>by rw[y];rfl) (by rw[N];rfl)
  |builtin Q f5 f2 f0 H=>exact rX G T a8 p o hd a7 A (λa=>by rw[y];rfl) (by rw[N];rfl)
 |nil=>
  cases o.tail with
  |nil=>simp_all
  |@cons O Z z D S d2=>
   have b0:∀n,m.le n->cK P h f n (O::z) (Z::D):=λn L=>⟨.cons (S.mono L) (d2.mono λ_ _ b2=>b2.mono L),λc9 b5=>o.bot c9 (by simp_all)⟩
   obtain⟨c0,c6⟩:=EH i;cases U with
   |run=>simp_all
   |panicking d3=>
    refine mV p (o:=O.raise _) (p:=Z.raise _) (b:=z) (n:=D) (λa=>?_) (λa=>?_) ((b0 m (Ren.le_refl _)).top (Ren.le_refl _) (S.raise d3) (js _ _))
    .rw[y];simp only[unwind,c0,Yi,Yf,Yp];rfl
    rw[N];simp only[unwind,c6,Yi,Yf,Yp];rfl
   |returning=>
    cases d6:P.funcs[fn]? with
    |none=>
     obtain⟨Q,a0,R,a4,a5,a6⟩:=AH (P:=P) i S (i.tmps.getD 0 aY);refine mV p (o:=Q) (p:=a0) (b:=z) (n:=D) (λa=>?_) (λa=>?_) ((b0 m (Ren.le_refl _)).top (Ren.le_refl _) a5 a6)
     .rw[y];simp only[unwind,d6];exact R J _ a
     grind [unwind]
    |some b3=>
     refine nP G (fn:=fn) i.mN (tL T b3 i.tmps) p
      (t:=λk=>match k with|.ok Y a=>doReturn P J ⟨fn,l,w,[],.returning,r,t⟩ (O::z++e) F Y a|.halt (.stuck b1) a=>.ended (.stuck b1 (Xr.pos P ⟨fn,l,w,[],.returning,r,t⟩)) a|.halt _ a=>.ended (.stuck "return: the result variables cannot be read" (Xr.pos P ⟨fn,l,w,[],.returning,r,t⟩)) a)
      (D:=λk=>match k with|.ok Y a=>doReturn P main ⟨fn,v,x,[],.returning,s,u⟩ (Z::D++base) F Y a|.halt (.stuck b1) a=>.ended (.stuck b1 (Xr.pos P ⟨fn,v,x,[],.returning,s,u⟩)) a|.halt _ a=>.ended (.stuck "return: the result variables cannot be read" (Xr.pos P ⟨fn,v,x,[],.returning,s,u⟩)) a)
      (λa=>⟨seen P fn ((results b3 l).runT P a #[]).2,by grind [unwind]⟩) (λ_=>by grind [unwind]) ?_ ?_ ?_
     .rintro n Y f6 L⟨rfl,e0⟩;left;obtain⟨Q,a0,R,a4,a5,a6⟩:=AH (P:=P) i S e0;exact⟨Q,a0,z,D,λa=>R J _ a,λa=>a4 main _ a,(b0 n (Ren.le_refl _)).top (Ren.le_refl _) a5 a6⟩
     .grind
     intro H a _;cases H<;>exact⟨_,_,A⟩
theorem DQ(G:Good P h)(n:Base P m)(k:aV h m a q)(o:cK P h f m (b::c) (g::d))(r:b.mode=.run->Bh P h b)(hd:f=J->b.roundOf=F)(p:¬(c=[]/\b.mode≠.run/\b.defers=[])):
 RB P h f m main e base b g c d a q:=by
 by_cases i:b.mode=.run
 .exact MB G n k.SD k o i (r i) hd
 exact GB G n k.SD k o i λl=>p ⟨l.1,i,l.2⟩
theorem AT(G:Good P h){a f:Xr}(k:bH P h Xf m a f):Bh P h a\/∃e,a.todo=[df e]:=by
 have d:=k.todo;generalize i:a.todo=n at d
 suffices r:(∃e,n=[df e])\/Bh P h a by grind
 subst i;unfold Bh;generalize a.todo=e at d;generalize f.todo=t at d;cases d with
 |nil=>simp
 |tail q p=>grind
 |cons l _=>
  right;cases l with
  |code o b=>
   rcases b with b|⟨b,_⟩
   .cases b
   cases o<;>first|trivial|skip
   rw[G.code]at b;simp_all [codeOk]
  |inRegion u g c=>
   cases g with
   |nil=>trivial
   |cons s g=>
    rcases c with c|c
    .cases c
    grind
  |_=>trivial
theorem mo(G:Good P h)(o:Base P m)(r:aV h m a q)(l:cK P h Xf m (b::c) (g::d))(p:¬(c=[]/\b.mode≠.run/\b.defers=[])):RB P h Xf m main e base b g c d a q:=by
 rcases AT G l.head with i|⟨s,i⟩
 .simp_all [DQ]
 by_cases k:b.mode=.run
 .obtain⟨fn,w,x,n,u,t,v⟩:=b;subst k i;exact eD λa=>⟨_,_,by rw[bu A];rfl⟩
 simp_all [DQ]
end
variable{e:Xg Xr}{d:M}
def dp:Xr:={fn:=0,tmps:=#[],todo:=[.code (.cond (.const .nilFunc) .skip .skip)],defers:=[{target:=.nil,args:=#[]}],mode:=.run,kind:=.normal}
def Shape(a:Xr)(b:Xg Xr):Prop:=b=[]/\((a.mode≠.run/\a.defers=[]/\a.kind=.normal)\/(a.mode=.run/\∃c,a.todo=[df c]))
inductive xq(P:Xy)(c:Xr->M->Prop):Xr->Xg Xr->M->Prop
 |stop {b:Xr} {f:Xg Xr} {a:M} (q:Shape b f) (t:∃(p:E)(o:E->Question->E),∀m:E->Question->E,(∀g k,p<=g->g<a.drawn->m g k=o g k)->c b {a with tape:=m}):xq P c b f a
 |step {b:Xr} {f:Xg Xr} {a:M} (q:¬Shape b f) (s:¬Lj (stepG P J (rg b (f++[dp]))) a)
   (u:∀i h n,Ry (stepG P J (rg b (f++[dp]))) a i (h++[dp]) n->xq P c i h n):xq P c b f a
def TN(P:Xy)(c:Xr->M->Prop)(l:Xr)(k:Xg Xr)(a:M)(f:E)(i:E->Question->E):Prop:=
 f<=a.drawn/\∀h:E->Question->E,(∀b g,f<=b->b<a.drawn->h b g=i b g)->
  ∃m e d,runN P m (lone l (k++[dp]) {a with tape:=h})=.next (lone e [dp] d)/\c e d/\Shape e []
section
variable{c:Xr->M->Prop}
theorem lh{c d:Xr}{b:Xg Xr}{f:M}(i:stepG P J (rg c e) a=.go (rg d b) f S):step P (lone c e a)=.next (lone d b f):=by refine step_lone_go ?_;have:stepG P J {frame:=c,callers:=e,status:=.running,dying:=F} a=.go {frame:=d,callers:=b,status:=.running,dying:=F} f S:=i;simp_all
theorem gX{b:Xr}{d:M}{c:Outcome}(f:stepG P J (rg b e) a=.ended c d S):step P (lone b e a)=.ended c d:=by refine step_lone_ended ?_;have:stepG P J {frame:=b,callers:=e,status:=.running,dying:=F} a=.ended c d S:=f;simp_all
theorem mR{c f:Xr}{b:Xg Xr}(g:lone c e a=lone f b d):c=f/\e=b/\a=d:=by simp_all [lone]
theorem Gk{b:Xr}(w:(b.mode≠.run/\b.defers=[]/\b.kind=.normal)\/(b.mode=.run/\∃y,b.todo=[df y])):∀e,e≠0->∀n d,runN P e (lone b [dp] a)≠.next (lone n [dp] d):=by
 rcases w with⟨p,hd,v⟩|⟨p,Q,x⟩
 rotate_left
 .intro e q n d k;cases e with
  |zero=>exact q A
  |succ e=>
   have r:∃f c,step P (lone b [dp] a)=.ended f c:=by obtain⟨fn,U,W,L,R,O,T⟩:=b;subst p x;exact⟨_,_,gX (by rw[bu A];rfl)⟩
   grind [runN]
 have z:(∃f c,step P (lone b [dp] a)=.ended f c)\/∃m c,step P (lone b [dp] a)=.next (lone m [] c)/\∃f l,step P (lone m [] c)=.ended f l:=by
  have h:stepG P J (rg b [dp]) a=unwind P J b [dp] F a:=ia p
  have fin:∀(g:Xe) c,∃f l,step P (lone (dp.finish g) [] c)=.ended f l:=λg c=>⟨_,_,gX (by rw[bu A];rfl)⟩
  cases i:b.mode with
  |run=>simp_all
  |panicking u=>
   cases s:b.catches P with
   |true=>exact Xh ⟨_,_,gX (by rw[h];simp only[unwind,hd,i,s,Yc];rfl)⟩
   |false=>refine Xi ⟨dp.raise u,a,lh (by rw[h];simp only[unwind,hd,i,s,Yi,Yf];rfl),?_⟩;refine⟨_,_,gX (by rw[ia (by simp[Frame.raise,dp])];rfl)⟩
  |returning=>
   have dr:∀g c,doReturn P J b [dp] F g c=.go (rg (dp.finish g) []) c:=by intro g c;simp only[doReturn,v];rfl
   cases o:P.funcs[b.fn]? with
   |none=>exact Xi ⟨_,_,lh (by rw[h];simp only[unwind,hd,i,o];exact dr _ _),fin _ _⟩
   |some fn=>
    generalize t:(results fn b.tmps).runT P a #[]=H;obtain⟨D,S⟩:=H;cases D with
    |ok g c=>exact Xi ⟨_,_,lh (by rw[h];simp only[unwind,hd,i,o,t,dr];rfl),fin _ _⟩
    |halt k c=>cases k<;>exact Xh ⟨_,_,gX (by rw[h];simp only[unwind,hd,i,o,t];rfl)⟩
 intro e q n d k;cases e with
 |zero=>exact q A
 |succ e=>
  simp only[runN]at k;rcases z with⟨f,c,r⟩|⟨m,c,r,f,l,N⟩
  .simp_all
  cases e with
  |zero=>grind [runN,mR]
  |succ e=>simp_all [runN]
structure zm(P:Xy)(c:Xr->M->Prop) where
 fr:Xr
 L:Xg Xr
 w:M
 b:E
 H:E->Question->E
 runs:TN P c fr L w b H
 no:¬xq P c fr L w
theorem zm.CF(a:zm P c):¬Shape a.fr a.L:=by
 intro b;obtain⟨e,g⟩:=b;obtain⟨o,f⟩:=a.runs;refine a.no (.stop ⟨e,g⟩ ⟨a.b,a.H,λi h=>?_⟩);obtain⟨p,k,d,l,m,n⟩:=f i h
 grind [runN,mR,Gk]
theorem zm.next(b:zm P c):∃g:zm P c,g.b=b.b/\b.w.drawn<=g.w.drawn/\(∀a e,b.b<=a->a<b.w.drawn->g.H a e=b.H a e)/\
 ∀f:E->Question->E,(∀a e,b.w.drawn<=a->a<g.w.drawn->f a e=g.H a e)->step P (lone b.fr (b.L++[dp]) {b.w with tape:=f})=.next (lone g.fr (g.L++[dp]) {g.w with tape:=f}):=by
 have O:=b.CF;obtain⟨D,u⟩:=b.runs
 have H:¬Lj (stepG P J (rg b.fr (b.L++[dp]))) b.w:=by
  rintro⟨p,R,m⟩
  let f:E->Question->E:=λa e=>if a<b.w.drawn then b.H a e else p a e
  obtain⟨o,x,d,q,y,z⟩:=u f λa e _ l=>by grind
  obtain⟨T,U,S,h⟩:=m f λa e l _=>by grind
  have h:=gX h;cases o with
  |zero=>obtain⟨v,w,_⟩:=mR (aaE q);simp_all
  |succ o=>simp_all [runN]
 have L:∃k i n,Ry (stepG P J (rg b.fr (b.L++[dp]))) b.w k (i++[dp]) n/\¬xq P c k i n:=by refine Classical.byContradiction λN=>b.no (.step O H λk i n m=>Classical.byContradiction λr=>N ⟨k,i,n,m,r⟩)
 obtain⟨k,i,n,⟨hd,p,m⟩,r⟩:=L
 let s:E->Question->E:=λa e=>if a<b.w.drawn then b.H a e else p a e
 refine⟨⟨k,i,n,b.b,s,⟨XZ D hd,λf Q=>?_⟩,r⟩,A,hd,λa e _ l=>by simp only[s,l,Yc],λf Q=>?_⟩
 .obtain⟨o,x,d,q,y,z⟩:=u f λa e t l=>by
   grind
  obtain⟨S,h⟩:=m f λa e t l=>by grind
  have h:=lh h;cases o with
  |zero=>obtain⟨v,w,_⟩:=mR (aaE q);simp_all
  |succ o=>grind [runN]
 obtain⟨S,h⟩:=m f λa e t l=>by grind
 exact lh h
theorem qH{t:Xr}{s:Xg Xr}{p:E}{x:E->Question->E}(k:TN P c t s a p x):xq P c t s a:=by
 refine Classical.byContradiction λQ=>?_
 let Y:zm P c:=⟨t,s,a,p,x,k,Q⟩
 let n:zm P c->zm P c:=λh=>Classical.choose h.next
 have w:∀h,(n h).b=h.b/\h.w.drawn<=(n h).w.drawn/\(∀f g,h.b<=f->f<h.w.drawn->(n h).H f g=h.H f g)/\
  ∀m:E->Question->E,(∀f g,h.w.drawn<=f->f<(n h).w.drawn->m f g=(n h).H f g)->step P (lone h.fr (h.L++[dp]) {h.w with tape:=m})=.next (lone (n h).fr ((n h).L++[dp]) {(n h).w with tape:=m}):=by grind
 let i:E->zm P c:=λb=>E.rec Y (λ_ h=>n h) b
 have T:∀b,i (b+1)=n (i b):=λb=>rfl
 have O:∀b,(i b).b=p:=by
  intro b;induction b with
  |zero=>rfl
  |succ b r=>rw[T,(w _).1,r]
 have mono:∀l b,l<=b->(i l).w.drawn<=(i b).w.drawn/\∀f g,p<=f->f<(i l).w.drawn->(i b).H f g=(i l).H f g:=by
  intro l b a2
  induction b with
  |zero=>obtain rfl:l=0:=by omega
         exact⟨XS _,λ_ _ _ _=>rfl⟩
  |succ b r=>
   by_cases v:l=b+1
   .subst v;exact⟨XS _,λ_ _ _ _=>rfl⟩
   obtain⟨H,U⟩:=r (by omega);obtain⟨_,W,X,_⟩:=w (i b);refine⟨XZ H W,λf g o k=>?_⟩;rw[X f g (by rw[O];exact o) (XY k H)];exact U f g o k
 let m:E->Question->E:=λf g=>open Classical in if k:∃b,f<(i b).w.drawn then(i (Classical.choose k)).H f g else 0
 have D:∀b f g,p<=f->f<(i b).w.drawn->m f g=(i b).H f g:=by
  intro b f g o q;have u:∃b,f<(i b).w.drawn:=⟨b,q⟩;have v:m f g=(i (Classical.choose u)).H f g:=by simp only[m];rw[abi u]
  rw[v];have z:=Classical.choose_spec u;generalize Classical.choose u=l at z;rcases E.le_total l b with k|k
  .exact((mono l b k).2 f g o z).symm
  exact(mono b l k).2 f g o q
 have R:p<=(i 0).w.drawn:=k.1
 have run:∀b,runN P b (lone t (s++[dp]) {a with tape:=m})=.next (lone (i b).fr ((i b).L++[dp]) {(i b).w with tape:=m}):=by
  intro b
  induction b with
  |zero=>rfl
  |succ b r=>
   rw[runN_add,r];simp only[runN]
   have:=(w (i b)).2.2.2 m λf g o q=>by exact D (b+1) f g (XZ (XZ R (mono 0 b (YA _)).1) o) q
   rw[this]
 obtain⟨b,a0,d,y,a1,N⟩:=k.2 m λf g o q=>D 0 f g o q;rw[run b]at y;obtain⟨L,Z,_⟩:=mR (aaE y);refine(i b).CF ⟨?_,L▸N.2⟩;simp_all
def Rr(P:Xy)(e:XI)(c:Ending->M->Prop)(d:Xr)(a:M):Prop:=∃b,(∀f:b=.outgrown,False)/\c b a/\d.fn=e/\d.leaving P a b
def Tp(g:M->Prop)(a:M):Prop:=∃(f:E)(e:E->Question->E),∀d:E->Question->E,(∀b c,f<=b->b<a.drawn->d b c=e b c)->g {a with tape:=d}
theorem Tp.all{c:M->Prop}(d:∀b,c {a with tape:=b}):Tp c a:=⟨0,λ_ _=>0,λb _=>d b⟩
theorem Tp.mono{f g:M->Prop}(b:Tp f a)(k:∀a,f a->g a):Tp g a:=by obtain⟨i,h,b⟩:=b;exact⟨i,h,λm l=>k _ (b m l)⟩
theorem Tp.low{h:M->Prop}(g:Tp h a):∃(c:E)(f:E->Question->E),c<=a.drawn/\∀e:E->Question->E,(∀b d,c<=b->b<a.drawn->e b d=f b d)->h {a with tape:=e}:=by obtain⟨c,f,g⟩:=g;exact⟨min c a.drawn,f,E.min_le_right _ _,λe l=>g e λb d i k=>l b d (XZ (E.min_le_left _ _) i) k⟩
theorem Tp.one{d:M->Prop}(b:Tp d a):∃e,d {a with tape:=e}:=by obtain⟨f,c,b⟩:=b;exact⟨c,b c λ_ _ _ _=>rfl⟩
theorem oy{f:XI}{k:Xk Xe}{c:Ending->M->Prop}(g:Tp (λa=>Calls P f k a c) a)(w:∀a,¬c .outgrown a)(r:∀b a,c b a->∃h,b=Xs h):
 xq P (Rr P f c) (Frame.enter P f k .normal) [] a:=by
 obtain⟨l,i,q,g⟩:=g.low;refine qH (p:=l) (x:=i) ⟨q,λv t=>?_⟩;obtain⟨b,d,n,m,o,p,e⟩:=g v t [dp];obtain⟨h,rfl⟩:=r b d m;obtain⟨u,s⟩:=o;refine⟨u,n,d,s,⟨Xs h,by simp,m,p,e⟩,A,Xh ⟨?_,e.2.1,e.2.2.1⟩⟩;rw[e.1];simp
end
variable{f:E->Prop}{b:Xt}
inductive xm(P:Xy)(h:Set)(main:Xo)(f:E->Prop)(Stop:Ren->M->Xt->Prop):Ren->M->Xt->Prop
 |stop {m:Ren} {a:M} {b:Xt} (t:Stop m a b):xm P h main f Stop m a b
 |step {m:Ren} {a:M} {b:Xt} (u:b.status=.running) (p:M->Ren->M->Xt->Prop)
   (t:∀q,aV h m a q->∃e i g n new o,stepG P main b q=.go e n (kept o).toArray/\bD h m i a g q n new o/\(∀d,f d->g.heap[d]?=a.heap[d]?)/\(∀k∈new,k.write=J->∀d,f d->k.loc≠.obj d/\∀s,k.loc=.cell s->s.block≠d)/\e.status=.running/\p q i g e)
   (v:∀q i g e,p q i g e->xm P h main f Stop i g e):xm P h main f Stop m a b
section
variable{main:Xo}{Stop c:Ren->M->Xt->Prop}
theorem xm.bind(d:xm P h main f Stop m a b)(o:∀i g e,Stop i g e->xm P h main f c i g e):xm P h main f c m a b:=by
 induction d with
 |stop d=>simp_all
 |step k n d _ l=>exact .step k n d l
theorem xm.pure{g₁:Xt}(i:b.status=.running)(k:g₁.status=.running)(e:∀q,stepG P main b q=.go g₁ q)(o:xm P h main f Stop m a g₁):xm P h main f Stop m a b:=
 .step i (λ_ n l d=>n=m/\l=a/\d=g₁) (λq g=>⟨g₁,m,a,q,[],[],e q,bD.refl g,λ_ _=>rfl,by simp,k,A,A,A⟩) (by simp_all)
def my(g:Set)(f:E->Prop)(a:M):Prop:=∀c,f c->∃d,a.heap[c]?=C d/\match d with
 |.cells b _ e=>e=(0,b.size)/\0<b.size/\¬aT b
 |.map .. =>True
 |_=>False
def kF(h:Set)(f:E->Prop)(a:M):Prop:=h.bZ=Xf\/∀b,f b->∀c d,a.heap[b]?≠C (.map c d)
theorem kF.keep{d:M}(c:kF h f a)(e:∀b,f b->d.heap[b]?=a.heap[b]?):kF h f d:=by
 rcases c with c|c
 .exact Xh c
 exact Xi λb i g k=>by simp_all
theorem my.keep{d:M}(g:my h f a)(e:∀b,f b->d.heap[b]?=a.heap[b]?):my h f d:=λb c=>by rw[e b c];exact g b c
theorem bD.kL{L:Ren}{r s:M}{new D:Xg XF}(i:bD h m L a r q s new D)(y:h.bZ=Xf){d:E}{o:Obj}(x:a.heap[d]?=C o)(O:Sim.kL o=J):
 ∃p,r.heap[d]?=C p/\Sim.kL p=J:=by
 by_cases k:∃b∈new,b.write=J/\b.loc=.obj d
 .exact i.oe y d k
 by_cases l:∃b∈new,b.write=J/\∃c,b.loc=.cell c/\c.block=d
 .obtain⟨b,e,f,c,g,rfl⟩:=l;obtain⟨t,H,u,n,_⟩:=i.iq b e f c g;exact⟨_,n,A⟩
 rcases i.iG d (XN.1 x).1 (λb e f=>⟨λz=>k ⟨b,e,f,z⟩,λc g w=>l ⟨b,e,f,c,g,w⟩⟩)with n|⟨t,H,u,N,_,v⟩
 .simp_all
 exact⟨_,v,A⟩
structure kT(h:Set)(a k:M):Prop where
 jR:∀d,a.frozen? d=J->k.frozen? d=J
 nm:h.bZ=Xf->∀(e:E)(g:Obj),a.heap[e]?=C g->kL g=J->∃i,k.heap[e]?=C i/\kL i=J
theorem kT.refl(a:M):kT h a a:=⟨λ_ b=>b,λ_ f e c d=>⟨e,c,d⟩⟩
theorem kT.trans{w₁ l:M}(g:kT h a w₁)(i:kT h w₁ l):kT h a l:=
 ⟨λd s=>i.jR d (g.jR d s),λk e t p r=>by obtain⟨u,n,o⟩:=g.nm k e t p r;exact i.nm k e u n o⟩
theorem bD.later{k:Ren}{c d:M}{new i:Xg XF}(b:bD h m k a c q d new i):kT h a c:=⟨b.jR,λg l n e f=>b.kL g e f⟩
def gO(h:Set)(f:E->Prop)(d a:M):Prop:=∃c,kT h a c/\∀b,f b->c.heap[b]?=d.heap[b]?
theorem Cj(G:Good P h){t:Xr->M->Prop}{b:Xr}{c:Xg Xr}(e:xq P t b c a):∀{m:Ren}{k:Xr}{p:Xg Xr}{q:M},Base P m->aV h m a q->cK P h Xf m (b::c) (k::p)->
 ∃i d v g u,Shape d []/\bH P h Xf i d v/\Base P i/\aV h i g u/\m.le i/\Tp (t d) g/\kT h a g:=by
 induction e with
 |@stop b c a e w=>intro m k p q l n x;obtain⟨rfl,f⟩:=e;exact⟨m,b,k,a,q,⟨A,f⟩,x.head,l,n,Ren.le_refl _,w,.refl _⟩
 |@step b c a e a1 x W=>
  intro m k p q l n y
  have T:¬(c=[]/\b.mode≠.run/\b.defers=[]):=by rintro⟨r,f,s⟩;subst r;exact e ⟨A,Xh ⟨f,s,(y.bot b A).1⟩⟩
  rcases mo G (main:=J) (e:=[dp]) (base:=[]) l n y T with a2|⟨i,d,v,z,Z,g,u,new,a3,S,w,o,U⟩
  .simp_all
  obtain⟨Y,H,L,X,D,r,f,s,N,O,Q,R⟩:=W d z g S (l.jS n o) o.rel U;exact⟨Y,H,L,X,D,r,f,s,N,Ren.le_trans o.le O,Q,o.later.trans R⟩
theorem iE{a6:Ren}{w T:M}{new a3:Xg XF}(Q:my h f a)(a1:kF h f a)(n:bD h m a6 a w q T new a3)
 (a0:gO h f a w):
 (∀b,f b->w.heap[b]?=a.heap[b]?)/\∀d∈new,d.write=J->∀b,f b->d.loc≠.obj b/\∀c,d.loc=.cell c->c.block≠b:=by
 obtain⟨b7,⟨Z,a2⟩,Y⟩:=a0;have N:∀b,f b->∀d∈new,d.write=J->d.loc≠.obj b/\∀c,d.loc=.cell c->c.block≠b:=by
  intro b o d e g;obtain⟨S,l,t⟩:=Q b o;have z:=(XN.1 l).1;cases S with
  |cells r D b1=>
   refine⟨λk=>n.qU d e g b k r D _ l,λc k p=>?_⟩;subst p;have b2:=n.wr d e g c k z;obtain⟨c1,a4,X,i,s⟩:=n.iq d e g c k;obtain⟨c2,b0,x,H⟩:=n.qn _ r D _ l
   grind [World.frozen?]
  |map a8 b4=>
   have O:h.bZ=Xf:=by
    rcases a1 with v|v
    .exact v
    grind
   have L:=Y b o;rw[l]at L;have no:∀u,w.heap[b]?=C u->kL u=J->False:=by intro u i s;obtain⟨b5,x,H⟩:=a2 O b u i s;rw[L]at x;cases x;cases H
   refine⟨λk=>?_,λc k p=>?_⟩
   .obtain⟨u,i,s⟩:=n.oe O b ⟨d,e,g,k⟩;simp_all
   subst p;obtain⟨c1,a4,X,i,_⟩:=n.iq d e g c k;exact no _ i A
  |_=>exact t.elim
 refine⟨λb o=>?_,λd e g b o=>N b o d e g⟩;obtain⟨S,l,t⟩:=Q b o;have z:=(XN.1 l).1;rcases n.iG b z (λd e g=>N b o d e g)with v|⟨r,D,a9,W,i,s⟩
 .exact v
 rw[l]at i;cases i;obtain⟨t,b3,_⟩:=t;subst t;obtain⟨R,y⟩:=W
 have a5:∀c,(decide (R<=c)&&decide (c<y))=J->c<r.size:=by intro c p;have:=Z ⟨b,c,F⟩ (by unfold M.frozen?;rw[s];exact p);simp_all [M.frozen?]
 have U:∀c,c<r.size->R<=c/\c<y:=by intro c p;have:=n.jR ⟨b,c,F⟩ (by unfold M.frozen?;rw[l];simp;exact p);simp_all [M.frozen?]
 have a7:=U (r.size-1) (by omega);have b6:=a5 (y-1) (by simp;omega)
 grind
def zk(P:Xy)(h:Set)(l:Xr->M->Prop)(base:Xg Xr)(f:E->Prop)(k:Ren)(e:M)(m:Ren)(a:M)(b:Xt):Prop:=
 ∃d i,b=rg i base/\Shape d []/\bH P h Xf m d i/\Base P m/\k.le m/\(∀c g,m c g->k c g\/e.heap.size<=c)/\e.heap.size<=a.heap.size/\(∀c,f c->a.heap[c]?=e.heap[c]?)/\Tp (l d) a
theorem tP(G:Good P h){v:Xr->M->Prop}{base:Xg Xr}{u:Ren}{k:M}(c6:my h f k)(b8:kF h f k)
 (b6:∀l o S e D,Shape o []->bH P h Xf l o S->Base P l->aV h l e D->u.le l->Tp (v o) e->gO h f k e)
 {g:Xr}{p:Xg Xr}(n:xq P v g p a):∀{m:Ren}{s:Xr}{r:Xg Xr},Base P m->cK P h Xf m (g::p) (s::r)->(∀d,f d->a.heap[d]?=k.heap[d]?)->
 u.le m->(∀d w,m d w->u d w\/k.heap.size<=d)->k.heap.size<=a.heap.size->xm P h main f (zk P h v base f u k) m a (rg s (r++base)):=by
 induction n with
 |@stop g p a n N=>
  intro m s r x t z y W O;obtain⟨b2,L⟩:=n;subst b2;have b3:r=[]:=by cases t.tail;rfl
  subst b3;exact .stop ⟨g,s,A,⟨A,L⟩,t.head,x,y,W,O,z,N⟩
 |@step g p a n d5 c7 c8=>
  intro m s r x t z y W O
  have b9:¬(p=[]/\g.mode≠.run/\g.defers=[]):=by rintro⟨H,L,b1⟩;subst H;exact n ⟨A,Xh ⟨L,b1,(t.bot g A).1⟩⟩
  refine .step A (λ_ l e b0=>xm P h main f (zk P h v base f u k) l e b0) (λq T=>?_) (λ_ _ _ _ n=>n);rcases mo G (main:=main) (e:=[dp]) (base:=base) x T t b9 with d6|⟨l,o,S,R,d3,e,D,new,c9,X,N,i,Y⟩
  .simp_all
  have U:=x.jS T i;obtain⟨d2,a8,a9,d0,a0,a1,a2,a3,a4,a5,a6,a7⟩:=Cj G (c7 o R e X) U i.rel Y;have c0:=c6.keep z;have b7:=b8.keep z;obtain⟨d1,Q,Z⟩:=b6 d2 a8 a9 d0 a0 a1 a2 a3 a4 (Ren.le_trans y (Ren.le_trans i.le a5)) a6;obtain⟨Q,Z⟩:=iE c0 b7 i ⟨d1,a7.trans Q,λd b4=>by simp_all⟩;refine⟨_,l,e,D,new,c9,N,i,Q,Z,A,c8 o R e X U Y (λd b4=>by simp_all) (Ren.le_trans y i.le) (λd w b5=>?_) (XZ O i.size)⟩;rcases i.fresh d w b5 with H|⟨H,_⟩
  .simp_all
  omega
def Rq(P:Xy)(h:Set)(n:Xe->M->Prop)(c:Xr)(rest:Xg Xr)(f:E->Prop)(l:Ren)(d:M)(m:Ren)(a:M)(b:Xt):Prop:=
 ∃g i,b=rg (c.finish i) rest/\an h m g i/\Base P m/\l.le m/\(∀e k,m e k->l e k\/d.heap.size<=e)/\d.heap.size<=a.heap.size/\(∀c,f c->a.heap[c]?=d.heap[c]?)/\Tp (n g) a
theorem nO(G:Good P h){u:Xe->M->Prop}{n z:Xr}(T:Base P m)(W:bH P h Xf m n z)(S:aV h m a q)(p:Tp (λa=>∃g,u g a/\n.leaving P a (Xs g)) a):
 ∃fn g t w i o new s,P.funcs[n.fn]?=C fn/\(results fn z.tmps).runT P q #[]=(.ok t o,s.toArray)/\an h m g t/\bD h m w a i q o new s/\w=m/\i.heap=a.heap/\Tp (u g) i/\n.mode=.returning:=by
 obtain⟨y,l,p⟩:=p;obtain⟨b5,_,a0,_,_,fn,X,_⟩:=p l λ_ _ _ _=>rfl;obtain⟨D,a5,L,a1⟩:=sound G.ux (tL T fn W.tmps (h:=h)) a q #[] #[] S
 have H:∀k:E->Question->E,(∀d e,y<=d->d<a.drawn->k d e=l d e)->∃g,u g {a with tape:=k}/\(results fn n.tmps).run P {a with tape:=k}=.ok g {a with tape:=k}:=by intro k r;obtain⟨g,R,_,_,_,a8,b1,v⟩:=p k r;simp_all
 obtain⟨g,R,v⟩:=H (λd e=>if d<a.drawn then l d e else D d e) λd e _ O=>by rw[XC O]
 have Q:=L.2 (λd e=>if d<a.drawn then l d e else D d e) (λd e Z _=>by grind);rw[<-aaT P _ _ #[],Q]at v;obtain⟨a3,N⟩:=a5;cases a3 with
 |halt b2 i=>simp_all [iR]
 |ok x i=>
  simp only[iR,Result.ok.injEq]at v;obtain⟨w,t,o,new,s,a6,a7,⟨rfl,a2⟩,a4⟩:=a1;have Y:i.heap=a.heap:=by simp_all
  have U:i.drawn=a.drawn:=by simp_all
  refine⟨fn,x,t,_,i,o,new,s,X,by simp_all,a2,a4,A,Y,⟨y,l,λk r=>?_⟩,a0⟩;rw[U]at r;obtain⟨b6,b0,b4⟩:=H k r
  have a9:=L.2 k (λd e Z b3=>by
   exfalso;have:dr (Result.ok x i,N)=i.drawn:=A
   omega)
  simp_all [iR]
theorem Of(G:Good P h){n:Xe->M->Prop}{d:Xr}{rest:Xg Xr}{p:Ren}{l:M}(a2:my h f l)(a0:kF h f l)
 (c:zk P h (λi a=>∃k,n k a/\i.leaving P a (Xs k)) (d::rest) f p l m a b):xm P h main f (Rq P h n d rest f p l) m a b:=by
 obtain⟨i,e,rfl,⟨_,a3⟩,g,t,Y,S,b3,u,s⟩:=c;have a4:i.mode≠.run/\i.defers=[]/\i.kind=.normal:=by
  rcases a3 with c|⟨c,_⟩
  .exact c
  obtain⟨b5,k,_,X⟩:=s.one;rw[X.1]at c;cases c
 obtain⟨b2,hd,U⟩:=a4;have O:e.defers=[]:=by have:=g.defers;rw[hd]at this;generalize e.defers=b0 at this;cases this;rfl
 have W:=g.kind▸U;refine .step A (λ_ y a9 H=>Rq P h n d rest f p l y a9 H) (λq N=>?_) (λ_ _ _ _ c=>.stop c);obtain⟨fn,k,w,y,x,r,new,v,Q,D,a5,o,rfl,T,L,a1⟩:=nO G t g N s;have Z:e.mode=.returning:=by have:=g.mode;rw[a1]at this;cases c:e.mode<;>rw[c]at this<;>first|rfl|cases this
 have z:stepG P main (rg e (d::rest)) q=unwind P main e (d::rest) F q:=by grind [ia]
 have R:=g.fn▸Q
 have a8:stepG P main (rg e (d::rest)) q=.go (rg (d.finish w) rest) r (kept v).toArray:=by rw[z];simp only[unwind,O,Z,R,D,doReturn,W,GStep.after];rw[seen_eq G (g.fn▸g.mN) o.lz];simp[rg]
 obtain⟨a6,a7⟩:=iE (a2.keep u) (a0.keep u) o ⟨x,.refl _,λb1 _=>by rw[T]⟩;exact⟨_,_,x,r,new,v,a8,o,a6,a7,A,k,w,A,a5,t,Y,S,by simp_all,λb0 b4=>by simp_all,L⟩
theorem Kx(G:Good P h){e:XI}{o p:Xk Xe}{c:Ending->M->Prop}{l:Xr}{rest:Xg Xr}(W:Tp (λa=>Calls P e o a c) a)(a4:∀a,¬c .outgrown a)(a5:∀k a,c k a->∃b,k=Xs b)
 (Y:h.fn e=J)(T:Base P m)(S:aw h m o p)(v:my h f a)(u:kF h f a)
 (X:∀i b s d t,Base P i->aV h i d t->m.le i->an h i b s->Tp (c (Xs b)) d->gO h f a d):
 xm P h main f (Rq P h (λb a=>c (Xs b) a) l rest f m a) m a (rg (Frame.enter P e p .normal) (l::rest)):=by
 have a2:=oy W a4 a5
 have a7:cK P h Xf m [Frame.enter P e o .normal] [Frame.enter P e p .normal]:=⟨.cons (bH.enter G Y S .normal (Xh A)) .nil,λc8 n=>by simp only[E_,Yh]at n;subst n;exact⟨A,A⟩⟩
 have conv:∀g d,Rr P e c g d->∃b,c (Xs b) d/\g.leaving P d (Xs b):=by
  rintro g d⟨k,_,b9,_,q⟩
  grind
 have b2:=tP (main:=main) (base:=l::rest) (f:=f) (u:=m) (k:=a) G v u (v:=Rr P e c) (λi z b7 d t _ H q L N O=>by
  obtain⟨fn,b,s,d0,b3,x,new,c6,_,_,a9,w,rfl,c0,R,_⟩:=nO (u:=λb a=>c (Xs b) a) G q H L (O.mono λa r=>conv z a r);obtain⟨b4,b0,b1⟩:=X _ b s b3 x q w.rel N a9 R
  exact⟨b4,w.later.trans b0,b1⟩) a2 T a7 (λ_ _=>rfl) (Ren.le_refl _) (λl b6 D=>Xh D) (XS _)
 refine b2.bind λi d b8 n=>?_;obtain⟨g,y,k,a6,Z,U,a3,a0,a8,a1,Q⟩:=n;exact Of G v u ⟨g,y,k,a6,Z,U,a3,a0,a8,a1,Q.mono λa r=>conv g a r⟩
end
variable{i:E}{c:E}{b:XD}{j:E}
section
inductive Own where
 |iM (i:E)
 |ro
 |sync
 |void
 deriving DecidableEq
structure WD where
 ty:Xq
 Wg:E
 gv:E
 gs:Xe
 gb:E
 yA:Xq
 gn:E
 own:E->E->Prop
 gh:E->Obj->Prop:=λ_ _=>False
 g0:Xp M:=F
structure dm where
 D:WD
 wt:E
 pend:E
 vb:E
 lo:E
 hi:E
 fin:E->Xg (E×Xk Xe)->M->Prop
structure bR where
 S:Set
 β:Ren
 w:M
 ro:E->Prop
 tag:Xp dm:=F
def az(b:Loc)(a:E):Prop:=b=.obj a\/∃c,b=.cell c/\c.block=a
def Af(B:E):Loc->Prop
 |.cell a=>a.block<B
 |.obj b=>b<B
 |_=>True
structure aM where
 W0:M
 Im:E->Prop
variable[Inhabited aM]
def dA:M:=(default:aM).W0
def Im:E->Prop:=(default:aM).Im
def Rz(b:Loc):Prop:=∃a,az b a/\a<dA.heap.size
structure UX(q:M)(U:Loc->Own):Prop where
 ro:∀l d,az l d->d<dA.heap.size->U l=.ro
 heap:∀d,d<dA.heap.size->q.heap[d]?=dA.heap[d]?
 size:dA.heap.size<=q.heap.size
 os:q.os=dA.os
 out:q.output=dA.output
structure cQ(b:XD)(q:M)(U:Loc->Own):Prop where
 clean:∀k,¬Race k b
 mine:∀e i,e.isMemory=J->U e=.iM i->Perm b i e
 low:∀i a,touchAt b i=C a->Af q.heap.size a.loc
 OO:∀d a,touchAt b d=C a->a.loc.isMemory=J->U a.loc=.sync->a.kind=.atomic\/(a.kind=.said/\b.g? d=C 0)
 norel:∀g,NoRelease g b
 PQ:∀(d:E) f a i,b[d]?=C f->f.act.touch?=C a->a.loc.isMemory=J->U a.loc=.iM i->f.g=i\/Knows b 0 d
 jB:∀d a,touchAt b d=C a->a.loc.isMemory=J->U a.loc≠.sync->b.heard d
 row:∀e,e.isMemory=J->U e=.ro->PermW b 0 e
 jP:UX q U
structure aG(P:Xy)(b:XD)(q:M)(U:Loc->Own)(i:E)(a:bR):Prop where
 base:Base P a.β
 rel:aV a.S a.β a.w q
 cO:my a.S a.ro a.w
 dv:∀e d,a.β e d->∀f,az f d->U f=.iM i\/(U f=.ro/\a.ro e)
 dV:∀e d,a.β e d->∀f,az f d->U f=.ro->PermW b i f
 low:dA.heap.size<=q.heap.size/\∀e d,a.β e d->d<dA.heap.size->Im e
def Own.more(U:Loc->Own)(i c f:E):Loc->Own:=λa=>
 match a with
 |.cell d=>if c<=d.block/\d.block<f then .iM i else U a
 |.obj e=>if c<=e/\e<f then .iM i else U a
 |_=>U a
theorem qP{U:Loc->Own}{e:E}{a:Loc}{b:E}(d:az a b)(f:b<c):Own.more U i c e a=U a:=by
 rcases d with rfl|⟨g,rfl,rfl⟩
 .simp only[Own.more];grind
 simp only[Own.more];grind
theorem qO{U:Loc->Own}{d:E}{b:Loc}{a:E}(e:az b a)(f:c<=a)(g:a<d):Own.more U i c d b=.iM i:=by
 rcases e with rfl|⟨h,rfl,rfl⟩
 .simp only[Own.more];rw[XC ⟨f,g⟩]
 simp_all [Own.more]
section
variable{U:Loc->Own}
theorem wY{a:XF}{d:Touch}(b:(XM a).touch?=C d):(d.loc=a.loc/\d.write=a.write/\∀c,a.loc≠.mark c)\/∃c,a.loc=.mark c:=by
 obtain⟨e,wr,f⟩:=a;cases e with
 |mark c=>simp
 |obj h=>cases wr<;>cases f<;>simp[XM,MemAct.touch?]at b<;>(grind)
 |cell g=>simp[XM,MemAct.touch?]at b;grind
 |output=>simp[XM,MemAct.touch?]at b;grind
 |goroutines=>simp[XM,MemAct.touch?]at b;grind
theorem wZ{a:XF}{b:Mark}(d:Ak h b=J)(c:a.loc=.mark b):(XM a).touch?=F:=by obtain⟨e,wr,f⟩:=a;simp only at c;subst c;cases b<;>first|(cases d;done)|rfl
theorem iz{f a:Type}{b:f->a->Prop}{c:Xg f}{d:Xg a}(g:aZ b c d){e:a}(h:e∈d):∃k∈c,b k e:=by
 induction g with
 |nil=>cases h
 |cons l _ m=>grind
theorem wV{f:bR}(u:aG P b q U i f){D:Ren}{a1 r:M}{new v:Xg XF}(x:bD f.S f.β D f.w a1 q r new v)
 (S:∀g∈new,g.write=J->∀a,f.ro a->g.loc≠.obj a/\∀d,g.loc=.cell d->d.block≠a){fn:XI}{a0:String}{w:MemOp}(R:w∈XE i fn a0 (kept v).toArray){d:Touch}(X:w.act.touch?=C d):
 w.g=i/\(d.loc.isMemory=J->∃c,az d.loc c/\c<r.heap.size/\(q.heap.size<=c\/(c<q.heap.size/\(U d.loc=.iM i\/(U d.loc=.ro/\d.write=Xf/\PermW b i d.loc/\∃a,f.β a c/\f.ro a))))):=by
 obtain⟨g,a3,rfl⟩:=Go.Conc.mem_ofEvents R;refine⟨A,λt=>?_⟩;have Q:g∈v:=by simp_all [kept]
 obtain⟨h,N,hrel⟩:=iz x.lz Q;rcases wY X with⟨n,H,a2⟩|⟨a6,n⟩
 .have m:∀a c,D a c->(h.loc=.obj a\/∃p,h.loc=.cell p/\p.block=a)->az d.loc c->∃c,az d.loc c/\c<r.heap.size/\(q.heap.size<=c\/(c<q.heap.size/\(U d.loc=.iM i\/(U d.loc=.ro/\d.write=Xf/\PermW b i d.loc/\∃a,f.β a c/\f.ro a)))):=by
   intro a c z l s;refine⟨c,s,x.rel.right z,?_⟩;rcases x.fresh a c z with k|⟨_,k⟩
   .right;refine⟨u.rel.right k,?_⟩;rcases u.dv a c k d.loc s with o|⟨o,y⟩
    .exact Xh o
    right;refine⟨o,?_,u.dV a c k d.loc s o,a,k,y⟩;rw[H];cases T:g.write with
    |false=>rfl
    |true=>
     have W:h.write=J:=by rw[hrel.2.1];exact T
     have:=S h N W a y;rcases l with l|⟨p,l,O⟩
     .exact absurd l this.1
     exact absurd O (this.2 p l)
   exact Xh k
  have e:=hrel.1;rw[n];rw[n]at m t;generalize a4:h.loc=Z at e m;generalize a5:g.loc=Y at e m t;cases Z<;>cases Y<;>simp only[dX]at e
  .exact m _ _ e.1 (Xi ⟨_,A,A⟩) (Xi ⟨_,A,A⟩)
  .exact m _ _ e (Xh A) (Xh A)
  .cases t
  simp_all
 have e:=hrel.1;rw[n]at e;cases L:h.loc<;>rw[L]at e<;>simp only[dX]at e
 grind [wZ]
theorem bn{b:Loc}{a B:E}(c:az b a):Af B b↔a<B:=by rcases c with rfl|⟨d,rfl,rfl⟩<;>exact Iff.rfl
theorem bQ{a:Loc}{b:E}(c:az a b):a.isMemory=J:=by rcases c with rfl|⟨d,rfl,_⟩<;>rfl
theorem de{d:Loc}{b c:E}(e:az d b)(a:az d c):b=c:=by rcases e with rfl|⟨f,rfl,rfl⟩<;>rcases a with a|⟨g,a,rfl⟩<;>cases a<;>rfl
theorem cL{a:Loc}(c:a.isMemory=J):∃b,az a b:=by
 cases a with
 |cell d=>exact⟨_,Xi ⟨_,A,A⟩⟩
 |obj b=>exact⟨_,Xh A⟩
 |_=>cases c
structure jU(b:XD)(q g:M)(U n:Loc->Own)(i:E)(k:XD):Prop where
 size:q.heap.size<=g.heap.size
 os:g.os=q.os
 heap:∀d,d<q.heap.size->U (.obj d)=.iM i\/(U (.obj d)=.sync\/U (.obj d)=.void)\/g.heap[d]?=q.heap[d]?\/False
 old:∀l d,az l d->d<q.heap.size->n l=U l
 new:∀l d,az l d->q.heap.size<=d->d<g.heap.size->n l=.iM i
 touch:∀f∈k,∀e,f.act.touch?=C e->e.loc.isMemory=J->f.g=i/\∃d,az e.loc d/\d<g.heap.size/\
  (q.heap.size<=d\/(d<q.heap.size/\(U e.loc=.iM i\/(U e.loc=.ro/\e.write=Xf/\PermW b i e.loc)\/(U e.loc=.sync/\(e.kind=.atomic\/(e.kind=.said/\i=0))))))
 norel:∀f∈k,∀a,f.act≠.mark (.release a)
 jB:(∀f∈k,∀e,f.act.touch?=C e->e.loc.isMemory=J->n e.loc=.sync)\/(Deaf b i=0/\∀f∈k,f.g=i/\f.act≠.mark .disable/\f.act≠.mark .enable)
 out:g.output=q.output
theorem UX.step{b s:XD}{q o:M}{U n:Loc->Own}{i:E}(d:UX q U)(g:jU b q o U n i s):UX o n where
 ro:=λl e p f=>by rw[g.old l e p (XY f d.size)];exact d.ro l e p f
 heap:=λe f=>by
  have k:=d.ro (.obj e) e (Xh A) f;rcases g.heap e (XY f d.size)with a|(a|a)|a|a
  .rw[k]at a;cases a
  .rw[k]at a;cases a
  .rw[k]at a;cases a
  .exact a.trans (d.heap e f)
  simp_all
 size:=XZ d.size g.size
 os:=g.os.trans d.os
 out:=g.out.trans d.out
theorem tD{o:Xo}{e:XD}{p:E}(y:¬Race o b)(Q:∀g∈e,∀k,g.act.touch?=C k->k.loc.isMemory=J->g.g=p)
 (L:∀i d,touchAt b i=C d->∀g∈e,∀a,g.act.touch?=C a->d.conflicts o a->Knows b p i):¬Race o (b++e):=by
 rintro⟨i,j,r,⟨d,a,z,D,f⟩,w,T⟩;obtain⟨k,R,S⟩:=ZL z;obtain⟨x,t,u⟩:=ZL D;have N:=f.2.1;have O:a.loc.isMemory=J:=f.1▸N;rcases XU t with⟨n,X⟩|⟨n,v⟩
 .have H:i<b.size:=E.lt_trans r n;have s:b[i]?=C k:=by grind
  exact y ⟨i,j,r,⟨d,a,by simp_all [XD.act?],by simp_all [XD.act?],f⟩,λl=>w (hb_app e l),λl=>T (hb_app e l)⟩
 rcases XU R with⟨H,s⟩|⟨_,W⟩
 .exact w ((L i d (by rw[YM s];exact S) x v a u f).hb_new n t (Q x v a u O))
 simp_all [hb_po]
theorem fB{c:XD}{a:E}{d:MemOp}(e:(b++c)[a]?=C d):(b++c).g? a=C d.g:=by simp[XD.g?,e]
theorem qp{a:XD}(e:Deaf b i=0)(g:∀d∈a,d.g=i/\d.act≠.mark .disable/\d.act≠.mark .enable):∀j,j<=a.size->(b++a).deaf i (b.size+j)=0
 |0,_=>by rw[E.add_zero,deaf_old (XS _)];exact e
 |j+1,m=>by
  have f:j<a.size:=by omega
  have l:(b++a)[b.size+j]?=C a[j]:=by rw[r_ (by omega),show b.size+j-b.size=j by omega,XP f]
  rw[<-abl,deaf_succ l,qp e g j (by omega)];obtain⟨_,h,k⟩:=g a[j] (Xk.getElem_mem f);unfold deafStep;split
  .rename_i c;exact absurd c h
  .rename_i c;exact absurd c k
  rfl
theorem cQ.step{a2:M}{a1:Loc->Own}{i:E}{R:XD}(G:cQ b q U)(f:jU b q a2 U a1 i R):cQ (b++R) a2 a1 where
 jP:=G.jP.step f
 clean:=by
  intro b4;refine tD (p:=i) (G.clean b4) (λy z n p w=>(f.touch y z n p w).1) λa e u y z t g b1=>?_;obtain⟨k,w,c6,Q⟩:=b1;have a8:t.loc.isMemory=J:=k▸w;obtain⟨W,s,X,a4,Y⟩:=f.touch y z t g a8;rcases Y with Y|⟨Y,T|⟨T,a9,b0⟩|⟨T,a9⟩⟩
  .have:=G.low a e u;rw[k,bn X]at this;omega
  .exact G.mine _ _ a8 T a e u k
  .refine b0 a e u k ?_;simp_all
  have b7:=G.OO a e u w (by rw[k];exact T)
  grind [Trace.g?,knows_own]
 mine:=by
  intro l j L k a e u x;obtain⟨n,p,D⟩:=ZL u;obtain⟨t,g⟩:=cL L;rcases XU p with⟨Q,a0⟩|⟨_,N⟩
  .have o:=G.low a e (by simp_all [YM]);rw[x,bn g]at o;rw[f.old l t g o]at k;exact(G.mine l j L k a e (by simp_all [YM]) x).app R
  obtain⟨W,s,q1,H,d⟩:=f.touch n N e D (x▸L);rw[x]at q1;have:=de q1 g;subst this;have b9:j=i:=by
   rcases d with d|⟨O,d⟩
   .rw[f.new l s g d H]at k;cases k;rfl
   rw[f.old l s g O]at k;rw[x,k]at d;rcases d with d|⟨d,_⟩|⟨d,_⟩<;>cases d
   rfl
  grind [knows_own]
 row:=by
  intro l L k a e u x b3;obtain⟨n,p,D⟩:=ZL u;obtain⟨t,g⟩:=cL L;rcases XU p with⟨Q,a0⟩|⟨_,N⟩
  .have o:=G.low a e (by simp_all [YM]);rw[x,bn g]at o;rw[f.old l t g o]at k;exact(G.row l L k a e (by simp_all [YM]) x b3).app R
  obtain⟨W,s,q1,H,d⟩:=f.touch n N e D (x▸L);rw[x]at q1;have:=de q1 g;subst this;rcases d with d|⟨O,d⟩
  .rw[f.new l s g d H]at k;cases k
  rw[f.old l s g O]at k;simp_all
 low:=by
  intro a e u;obtain⟨n,p,D⟩:=ZL u;rcases XU p with⟨Q,a0⟩|⟨_,N⟩
  .have:=G.low a e (by simp_all [YM]);have c0:=f.size;cases k:e.loc<;>rw[k]at this<;>simp only[Af]at this⊢<;>omega
  by_cases S:e.loc.isMemory=J
  .obtain⟨_,s,q1,H,d⟩:=f.touch n N e D S
   grind [bn]
  cases k:e.loc<;>rw[k]at S<;>first|exact absurd rfl S|trivial
 OO:=by
  intro a e u Z v;obtain⟨n,p,D⟩:=ZL u;rcases XU p with⟨Q,a0⟩|⟨_,N⟩
  .have o:=G.low a e (by simp_all [YM]);have gk:(b++R).g? a=b.g? a:=by simp_all [XD.g?]
   rw[gk];refine G.OO a e (by simp_all [YM]) Z ?_;obtain⟨t,g⟩:=cL Z;rw[bn g]at o;rw[<-f.old _ t g o];exact v
  have S:=Z;obtain⟨W,s,q1,H,d⟩:=f.touch n N e D S;rcases d with d|⟨O,d⟩
  .rw[f.new _ s q1 d H]at v;cases v
  rw[f.old _ s q1 O]at v;simp_all [fB]
 norel:=λe=>(G.norel e).app λy z=>f.norel y z e
 jB:=by
  intro a n p w v;obtain⟨y,z,D⟩:=ZL p;rcases XU z with⟨a7,a5⟩|⟨b8,a6⟩
  .have o:=G.low a n (by simp_all [YM]);obtain⟨t,g⟩:=cL w;rw[bn g]at o;rw[f.old _ t g o]at v;exact(ZA a7).2 (G.jB a n (by simp_all [YM]) w v)
  rcases f.jB with a3|⟨X,a4⟩
  .grind
  have b2:=aag z;rw[p_]at b2;have:=qp X a4 (a-b.size) (by omega);rw[show b.size+(a-b.size)=a by omega]at this;exact⟨i,by simp_all [XD.g?],this⟩
 PQ:=by
  intro a y n j Q p w v;rcases XU Q with⟨a7,a5⟩|⟨_,a6⟩
  .have o:=G.low a n (by simp_all [YM]);obtain⟨t,g⟩:=cL w;rw[bn g]at o;rw[f.old _ t g o]at v;exact(G.PQ a y n j a5 p w v).imp id λa3=>a3.app R
  obtain⟨W,s,q1,H,d⟩:=f.touch y a6 n p w;left;rcases d with d|⟨O,d⟩
  .rw[f.new _ s q1 d H]at v;simp_all
  rw[f.old _ s q1 O]at v;simp_all
theorem fE{a:XF}{c:Mark}(b:XM a=.mark c):a.loc=.mark c:=by obtain⟨d,wr,e⟩:=a;cases d<;>cases wr<;>cases e<;>simp[XM]at b<;>(subst b;rfl)
theorem Fx{new c:Xg XF}(b:aZ (ma h m) new c)(i:E)(fn:XI)(q:String):∀e∈XE i fn q (kept c).toArray,∀d,e.act≠.mark (.release d):=by
 intro e o d k;obtain⟨f,s,rfl⟩:=Go.Conc.mem_ofEvents o;have l:f∈c:=by simp_all [kept]
 obtain⟨g,r,p⟩:=iz b l;have a:=p.1;rw[fE k]at a;cases b:g.loc<;>rw[b]at a<;>simp only[dX]at a;obtain⟨rfl,n⟩:=a;cases n
theorem Cy{U:Loc->Own}{f:E}:∀a b,az a b->b<c->Own.more U i c f a=U a:=λa b d e=>qP d e
theorem fR{f:bR}(y:aG P b q U i f){u:Ren}{H o:M}{new s:Xg XF}(m:bD f.S f.β u f.w H q o new s){a:E}(x:a<q.heap.size)(h:U (.obj a)=.sync\/U (.obj a)=.void):o.heap[a]?=q.heap[a]?:=by
 have no:∀c,f.β c a->False:=λc e=>by rcases h with h|h<;>rcases y.dv c a e (.obj a) (Xh A)with k|⟨k,_⟩<;>(rw[h]at k;cases k)
 have t:∀c,u c a->False:=λc e=>by
  rcases m.fresh c a e with r|⟨_,r⟩
  .exact no c r
  omega
 have D:∀g∈s,g.write=J->g.loc≠.obj a/\∀n,g.loc=.cell n->n.block≠a:=by
  intro g w Q;obtain⟨p,N,hrel⟩:=iz m.lz w;have d:=hrel.1;refine⟨λl=>?_,λn l z=>?_⟩
  .rw[l]at d;cases e:p.loc<;>rw[e]at d<;>simp only[dX]at d;exact t _ d
  rw[l]at d;subst z;cases e:p.loc<;>rw[e]at d<;>simp only[dX]at d;exact t _ d.1
 rcases m.same a x D with v|⟨⟨L,O,_⟩,_⟩
 .exact v
 simp_all
theorem fy{g:bR}(s:aG P b q U i g){H:Ren}{z r:M}{new p:Xg XF}(h:bD g.S g.β H g.w z q r new p)
 (b5:∀k,g.ro k->z.heap[k]?=g.w.heap[k]?)(b4:∀e∈new,e.write=J->∀k,g.ro k->e.loc≠.obj k/\∀m,e.loc=.cell m->m.block≠k)(Y:Deaf b i=0)(fn:XI)(a9:String):
 jU b q r U (Own.more U i q.heap.size r.heap.size) i (XE i fn a9 (kept p).toArray) where
 size:=h.uP
 os:=h.os
 norel:=Fx h.lz _ _ _
 jB:=Xi ⟨Y,λa7 y=>by
  obtain⟨e,w,rfl⟩:=Go.Conc.mem_ofEvents y;have Z:e∈p:=by simp_all [kept]
  obtain⟨l,L,a1⟩:=iz h.lz Z;have a:=a1.1;refine⟨A,λu=>?_,λu=>?_⟩<;>
  .rw[fE u]at a;cases f:l.loc<;>rw[f]at a<;>simp only[dX]at a;obtain⟨rfl,x⟩:=a
   cases x⟩
 old:=Cy
 new:=λb8 c f N O=>qO f N O
 touch:=λa7 y m o x=>by grind [wV]
 heap:=by
  intro c a0;by_cases v:U (.obj c)=.iM i
  .simp_all
  right;have a6:∀e∈p,e.write=J->e.loc≠.obj c/\∀m,e.loc=.cell m->m.block≠c:=by
   intro e w a3;obtain⟨l,L,hrel⟩:=iz h.lz w;have b6:l.write=J:=by rw[hrel.2.1];exact a3
   have a5:∀d,H d c->(l.loc=.obj d\/∃D,l.loc=.cell D/\D.block=d)->False:=by
    intro d W R;rcases h.fresh d c W with t|⟨_,t⟩
    .rcases s.dv d c t (.obj c) (Xh A)with n|⟨_,n⟩
     .exact v n
     grind
    omega
   have a:=hrel.1;refine⟨λo=>?_,λm o a4=>?_⟩
   .rw[o]at a;cases f:l.loc<;>rw[f]at a<;>simp only[dX]at a
    grind
   rw[o]at a;subst a4;cases f:l.loc<;>rw[f]at a<;>simp only[dX]at a;exact a5 _ a.1 (Xi ⟨_,f,A⟩)
  rcases h.same c a0 a6 with Q|⟨⟨d,T,X⟩,b0,d0,b1,b2,b7,Q,R⟩
  .simp_all
  exfalso;have a2:g.ro d:=by
   rcases s.dv d c T (.obj c) (Xh A)with n|⟨n,S⟩
   .exact absurd n v
   exact S
  obtain⟨c0,a8,c7⟩:=s.cO d a2;obtain⟨cl,tl,b3,q1,c8⟩:=X (XN.1 a8).1
  grind
 out:=h.out
theorem pK{e:Loc->Own}{d:XD}{f:M}(l:jU b q f U e i d){a:Loc}(h:a.isMemory=J)(t:U a=.ro){c:E}(s:az a c)(u:c<q.heap.size)(g:PermW b j a):PermW (b++d) j a:=by
 refine g.app λo k p m n v=>?_;obtain⟨_,r,q1,w,x⟩:=l.touch o k p m (n▸h)
 grind [de]
theorem aG.own{k:bR}(e:aG P b q U i k){u:Ren}{r p:M}{new x:Xg XF}(l:bD k.S k.β u k.w r q p new x)
 (w:∀c,k.ro c->r.heap[c]?=k.w.heap[c]?){s:Loc->Own}{t:XD}(n:jU b q p U s i t):aG P (b++t) p s i {k with β:=u,w:=r} where
 base:=e.base.jS e.rel l
 low:=⟨XZ e.low.1 n.size,λc d g v=>by
  rcases l.fresh c d g with a|⟨_,a⟩
  .exact e.low.2 c d a v
  have:=e.low.1;omega⟩
 rel:=l.rel
 cO:=e.cO.keep w
 dv:=by
  intro c d g h f;rcases l.fresh c d g with a|⟨_,a⟩
  .rw[n.old h d f (e.rel.right a)];exact e.dv c d a h f
  exact Xh (n.new h d f a (l.rel.right g))
 dV:=by
  intro c d g h f o;rcases l.fresh c d g with a|⟨_,a⟩
  .rw[n.old h d f (e.rel.right a)]at o;exact pK n (bQ f) o f (e.rel.right a) (e.dV c d a h f o)
  rw[n.new h d f a (l.rel.right g)]at o;cases o
theorem aG.stay{p:bR}(d:aG P b q U j p){n:M}{r:Loc->Own}{t:XD}(k:jU b q n U r i t)(x:∀e a,p.β e a->n.heap[a]?=q.heap[a]?):aG P (b++t) n r j p where
 base:=d.base
 low:=⟨XZ d.low.1 k.size,d.low.2⟩
 cO:=d.cO
 dv:=by intro e a f l g;rw[k.old l a g (d.rel.right f)];exact d.dv e a f l g
 dV:=by intro e a f l g o;have s:=d.rel.right f;rw[k.old l a g s]at o;exact pK k (bQ g) o g s (d.dV e a f l g o)
 rel:=⟨d.rel.inj,λe a f=>by
  obtain⟨y,z,u,v,w⟩:=d.rel.obj e a f
  grind,by rw[d.rel.os,k.os]⟩
theorem aG.other(D:i≠j){v:bR}(a:aG P b q U j v){t:M}{s:Loc->Own}{w:XD}(n:jU b q t U s i w):aG P (b++w) t s j v where
 base:=a.base
 low:=⟨XZ a.low.1 n.size,a.low.2⟩
 cO:=a.cO
 dv:=by intro l d g o k;rw[n.old o d k (a.rel.right g)];exact a.dv l d g o k
 dV:=by intro l d g o k r;have p:=a.rel.right g;rw[n.old o d k p]at r;exact pK n (bQ k) r k p (a.dV l d g o k r)
 rel:=by
  refine⟨a.rel.inj,λl d g=>?_,by rw[a.rel.os,n.os]⟩;obtain⟨H,L,x,y,z⟩:=a.rel.obj l d g;have p:=a.rel.right g;have u:=a.dv l d g (.obj d) (Xh A);rcases n.heap d p with e|e|e|e
  .rcases u with f|⟨f,_⟩
   .rw[e]at f;cases f;exact absurd A D
   rw[e]at f;cases f
  .rcases e with e|e<;>rcases u with f|⟨f,_⟩<;>(rw[e]at f;cases f)
  .exact⟨H,L,x,by rw[e];exact y,z⟩
  simp_all
end
end
variable{b:Xt}{a:XD}{U:Loc->Own}{y:bR}{W:Xk Xt}
section
variable[Inhabited aM]
inductive Tr where
 |leaf
 |node (g:M->Tr)
inductive Tr.lt:Tr->Tr->Prop
 |mk (g:M->Tr) (q:M):Tr.lt (g q) (.node g)
theorem Tr.acc:∀a:Tr,Acc Tr.lt a
 |.leaf=>⟨_,λd b=>by cases b⟩
 |.node c=>⟨_,λd b=>by cases b with|mk _ q=>exact Tr.acc (c q)⟩
theorem Tr.wf:WellFounded Tr.lt:=⟨Tr.acc⟩
inductive OK{g i:Type}(o:g->g->Prop)(y:i->i->Prop):g×i->g×i->Prop
 |left {l p:g} {n:i} (s:o p l):OK o y (p,n) (l,n)
 |right {l:g} {n r:i} (s:y r n):OK o y (l,r) (l,n)
theorem OK.acc{d e:Type}{f:d->d->Prop}{y:e->e->Prop}{c:d}(g:Acc f c):∀{b:e},Acc y b->Acc (OK f y) (c,b):=by
 induction g with
 |intro c _ k=>
  intro b h
  induction h with
  |intro b i l=>
   refine⟨_,λm a=>?_⟩;cases a with
   |left a=>exact k _ a ⟨_,i⟩
   |right a=>exact l _ a
theorem OK.wf{b c:Type}{a:b->b->Prop}{y:c->c->Prop}(f:WellFounded a)(g:WellFounded y):WellFounded (OK a y):=⟨λ⟨d,e⟩=>OK.acc (f.apply d) (g.apply e)⟩
inductive dR{g:Type}(n:g->g->Prop):Xg g->Xg g->Prop
 |head {i o:g} {l:Xg g} (r:n o i):dR n (o::l) (i::l)
 |tail {i:g} {l p:Xg g} (r:dR n p l):dR n (i::p) (i::l)
theorem dR.acc{c:Type}{f:c->c->Prop}(e:WellFounded f):∀b:Xg c,Acc (dR f) b
 |[]=>⟨_,λm a=>by cases a⟩
 |d::b=>by
  have g:=e.apply d;have h:=dR.acc e b
  induction g generalizing b with
  |intro d _ k=>
   induction h with
   |intro b i l=>
    refine⟨_,λm a=>?_⟩;cases a with
    |head a=>exact k _ a b ⟨_,i⟩
    |tail a=>exact l _ a
theorem dR.wf{b:Type}{a:b->b->Prop}(c:WellFounded a):WellFounded (dR a):=⟨dR.acc c⟩
theorem dR.set{f:Type}{h:f->f->Prop}:∀{e:Xg f}{c:E}{b d:f},e[c]?=C b->h d b->dR h (e.set c d) e
 |[],c,b,d,a,_=>by simp at a
 |i::e,0,b,d,a,g=>by simp at a;subst a;exact .head g
 |i::e,c+1,b,d,a,g=>by exact .tail (dR.set a g)
def Lt(P:Xy)(h:Set)(main:Xo)(f:E->Prop)(Stop:Ren->M->Xt->Prop):Tr->Ren->M->Xt->Prop
 |.leaf,m,d,b=>Stop m d b
 |.node o,m,d,b=>Stop m d b\/(b.status=.running/\∀q,aV h m d q->∃e n g i new k,stepG P main b q=.go e i (kept k).toArray/\bD h m n d g q i new k/\(∀a,f a->g.heap[a]?=d.heap[a]?)/\
   (∀c∈new,c.write=J->∀a,f a->c.loc≠.obj a/\∀l,c.loc=.cell l->l.block≠a)/\e.status=.running/\Lt P h main f Stop (o q) n g e)
theorem xm.tree{main:Xo}{Stop:Ren->M->Xt->Prop}(c:xm P h main f Stop m d b):∃i,Lt P h main f Stop i m d b:=by
 induction c with
 |stop c=>exact⟨.leaf,c⟩
 |@step m d b D L c _ H=>
  have r:∀q,∃i,aV h m d q->∃e k g l new o,stepG P main b q=.go e l (kept o).toArray/\bD h m k d g q l new o/\(∀a,f a->g.heap[a]?=d.heap[a]?)/\
   (∀p∈new,p.write=J->∀a,f a->p.loc≠.obj a/\∀s,p.loc=.cell s->s.block≠a)/\e.status=.running/\Lt P h main f Stop i k g e:=by
   intro q;by_cases n:aV h m d q
   .obtain⟨e,k,g,l,new,o,t,u,v,w,x,y⟩:=c q n;obtain⟨i,z⟩:=H q k g e y;exact⟨i,λ_=>⟨e,k,g,l,new,o,t,u,v,w,x,z⟩⟩
   exact⟨.leaf,λc=>absurd c n⟩
  exact⟨.node λq=>Classical.choose (r q),Xi ⟨D,λq n=>Classical.choose_spec (r q) n⟩⟩
structure uK(P:Xy)(k:Type) where
 lt:k->k->Prop
 wf:WellFounded lt
 Ok:k->Xk Xt->M->XD->(Loc->Own)->bR->Prop
 awake:∀{g W q a U y},Ok g W q a U y->∀c b,0<c->W[c]?=C b->awake b
 at_:∀{g W q a U y}(D:E),Ok g W q a U y->Ok g W (q.at D) a U y
 step:∀{g W q a U y n c b}(sl:Xp (E×E)),Ok g W q a U y->cQ a q U->aG P a q U 0 y->W[0]?=C n->n.status=.running->0<c->W[c]?=C b->b.status=.running->
  ∃v t i p s,runT P (crowd W q sl) c=(.next (crowd t i sl),p)/\lt v g/\t[0]?=C n/\Ok v t i (a++p) s y/\cQ (a++p) i s/\aG P (a++p) i s 0 y/\Deaf (a++p) 0=Deaf a 0
 main:∀{g W q a U y n g₁ z u i new w},Ok g W q a U y->cQ a q U->aG P a q U 0 y->W[0]?=C n->Deaf a 0=0->n.status=.running->g₁.status=.running->bD y.S y.β z y.w u q i new w->(∀o,y.ro o->u.heap[o]?=y.w.heap[o]?)->
  (∀g∈new,g.write=J->∀o,y.ro o->g.loc≠.obj o/\∀x,g.loc=.cell x->x.block≠o)->
  Ok g ((W.map (woken P n g₁ i)).setIfInBounds 0 g₁) i (a++XE 0 n.frame.fn n.frame.place (kept w).toArray) (Own.more U 0 q.heap.size i.heap.size) {y with β:=z,w:=u}
structure dG{P:Xy}{k:Type}(e:uK P k)(g:E)(i:k)(W:Xk Xt)(q:M)(a:XD)(U:Loc->Own)(y:bR)(b:Xt):Prop where
 ok:e.Ok i W q a U y
 bF:cQ a q U
 bg:aG P a q U 0 y
 me:W[0]?=C b
 hears:Deaf a 0=g
section
variable{k:Type}{e:uK P k}
theorem aG.at(b:aG P a q U c y)(d:E):aG P a (q.at d) U c y:=
 ⟨b.base,⟨b.rel.inj,b.rel.obj,b.rel.os⟩,b.cO,b.dv,b.dV,b.low⟩
theorem cQ.at(b:cQ a q U)(c:E):cQ a (q.at c) U:=⟨b.clean,b.mine,b.low,b.OO,b.norel,b.PQ,b.jB,b.row,⟨b.jP.ro,b.jP.heap,b.jP.size,b.jP.os,b.jP.out⟩⟩
def bV(P:Xy)(W:Xk Xt)(q:M)(sl:Xp (E×E))(a:XD)(f:Xk Xt->M->Xp (E×E)->XD->Prop):Prop:=
 ∃g c b d e,runNT P g (crowd W q sl) a=(.next (crowd c b d),e)/\f c b d e
theorem bV.now{sl:Xp (E×E)}{b:Xk Xt->M->Xp (E×E)->XD->Prop}(c:b W q sl a):bV P W q sl a b:=⟨0,W,q,sl,a,A,c⟩
theorem bV.head{d:Xk Xt}{c:M}{sl e:Xp (E×E)}{f:XD}{b:Xk Xt->M->Xp (E×E)->XD->Prop}(o:stepT P (crowd W q sl)=(.next (crowd d c e),f))(k:bV P d c e (a++f) b):bV P W q sl a b:=by obtain⟨g,i,h,m,n,p,l⟩:=k;exact⟨g+1,i,h,m,n,by simp_all [runNT],l⟩
theorem bV.bind{sl:Xp (E×E)}{b c:Xk Xt->M->Xp (E×E)->XD->Prop}(h:bV P W q sl a b)(l:∀W q sl a,b W q sl a->bV P W q sl a c):bV P W q sl a c:=by obtain⟨e,p,o,t,u,r,i⟩:=h;obtain⟨d,g,f,m,n,s,k⟩:=l _ _ _ _ i;refine⟨e+d,g,f,m,n,?_,k⟩;simp_all [runNT_add]
theorem Jl{new d:Xg XF}(c:aZ (ma h m) new d):∀a∈(kept d).toArray,a.loc≠.mark .disable/\a.loc≠.mark .enable:=by
 intro a n;have f:a∈d:=by simp_all [kept]
 obtain⟨e,l,i⟩:=iz c f;have b:=i.1;constructor<;>(intro k;rw[k]at b;cases c:e.loc<;>rw[c]at b<;>simp only[dX]at b;obtain⟨rfl,g⟩:=b;cases g)
theorem jj{new d:Xg XF}(k:aZ (ma h m) new d)(a:XD)(c j:E)(fn:XI)(g:String):Deaf (a++XE c fn g (kept d).toArray) j=Deaf a j:=by
 by_cases e:j=c
 .grind [Deaf_own,deafBehind_still,Jl]
 exact ZR a (g':=c) (λb=>e b.symm) _ (λl f=>by obtain⟨b,_,rfl⟩:=Go.Conc.mem_ofEvents f;rfl)
theorem yL{Stop:Ren->M->Xt->Prop}:∀(v:Tr)(s:k)(W:Xk Xt)(q:M)(sl:Xp (E×E))(a:XD)(U:Loc->Own)(y:bR)(b:Xt),
 dG e 0 s W q a U y b->Lt P y.S J y.ro Stop v y.β y.w b->b.status=.running->
 bV P W q sl a λp w _ H=>∃o l f g,dG e 0 o p w H l f g/\Stop f.β f.w g/\f.S=y.S/\f.ro=y.ro/\f.tag=y.tag:=by
 have wf:=OK.wf Tr.wf e.wf
 have b0:∀(i:Tr×k)(W:Xk Xt)(q:M)(sl:Xp (E×E))(a:XD)(U:Loc->Own)(y:bR)(b:Xt),
  dG e 0 i.2 W q a U y b->Lt P y.S J y.ro Stop i.1 y.β y.w b->b.status=.running->
  bV P W q sl a λp w _ H=>∃o l f g,dG e 0 o p w H l f g/\Stop f.β f.w g/\f.S=y.S/\f.ro=y.ro/\f.tag=y.tag:=by
  intro i
  induction wf.apply i with
  |intro i _ a2=>
   obtain⟨v,s⟩:=i;intro W q sl a U y b h u z
   have b1:Stop y.β y.w b->bV P W q sl a λp w _ H=>∃o l f g,dG e 0 o p w H l f g/\Stop f.β f.w g/\f.S=y.S/\f.ro=y.ro/\f.tag=y.tag:=
    λa3=>.now ⟨s,U,y,b,h,a3,A,A,A⟩
   cases v with
   |leaf=>exact b1 u
   |node R=>
    rcases u with u|⟨_,u⟩
    .simp_all
    have a5:∀i∈W,Go.Conc.awake i:=by
     intro i a9;obtain⟨c,r,rfl⟩:=YQ.1 a9;rcases Ye c with rfl|Y
     .have:W[0]=b:=by have:=h.me;simp_all
      exactλa b5=>by simp_all
     exact e.awake h.ok c _ Y (XP r)
    obtain⟨c,g,n,Q,r,a6,a1⟩:=h_ (P:=P) (w:=q) (sl:=sl) a5 ⟨0,b,h.me,z⟩;have Z:=e.at_ n h.ok;have AZ:=h.bF.at n;have D:=h.bg.at n;rcases Ye c with rfl|Y
    .obtain rfl:g=b:=by have:=h.me;rw[r]at this;exact YF this
     obtain⟨S,b4,b3,L,new,b6,T,t,x,N,O,X⟩:=u (q.at n) D.rel;have a8:=A_ (P:=P) (sl:=Q) (i:=0) r (show stepG P (0==0) g (q.at n)=_ from T);have a0:=fy D t x N h.hears g.frame.fn g.frame.place;have a7:=(XN.1 r).1;refine bV.head (a1.trans a8) ?_
     have:=a2 (R (q.at n),s) (.left (.mk R (q.at n))) ((W.map (woken P g S L)).setIfInBounds 0 S) L Q _ _ {y with β:=b4,w:=b3} S
      ⟨e.main Z AZ D r h.hears z O t x N,AZ.step a0,D.own t x a0,by simp[a7],by rw[jj t.lz];exact h.hears⟩ X O
     omega
    obtain⟨o,p,L,b2,l,T,t,x,N,O,X,a4⟩:=e.step Q Z AZ D h.me z Y r a6;refine bV.head (a1.trans T) ?_;have:=a2 (.node R,o) (.right t) p L Q (a++b2) l y b ⟨N,O,X,x,a4.trans h.hears⟩ (Xi ⟨z,u⟩) z;omega
 intro v s W q sl a U y b;exact b0 (v,s) W q sl a U y b
end
end
end Go.Sim
namespace Go.Sim
open Go.Conc Go.Proofs Go.RowKit
open Go.ConcN (PermW PermW.app PermW.of fork_knows WgLive RelBy sumTo)
open Go.ConcR (KK wgBlock WgAt stA smA rd wr mk DC0)
open Go.SimW (RL QS UW)
variable{P:Xy}{h:Set}{f:E->Prop}{m:Ren}{w:M}{g:Xt}{j:E}{q:M}{d:E}{e:XD}{U:Loc->Own}{s:E}
section
variable[Inhabited aM]
inductive jx(P:Xy)(h:Set)(f:E->Prop)(n:M->Prop)(Stop:Ren->M->Xt->Prop):Ren->M->Xt->Prop
 |stop {m:Ren} {w:M} {g:Xt} (D:Stop m w g):jx P h f n Stop m w g
 |step {m:Ren} {w:M} {g:Xt} (H:g.status=.running) (y:M->Ren->M->Xt->Prop)
   (D:∀q,aV h m w q->n q->∃i o k c new v,stepG P Xf g q=.go i c (kept v).toArray/\bD h m o w k q c new v/\(∀a,f a->k.heap[a]?=w.heap[a]?)/\(∀t∈new,t.write=J->∀a,f a->t.loc≠.obj a/\∀z,t.loc=.cell z->z.block≠a)/\i.status=.running/\y q o k i)
   (L:∀q o k i,y q o k i->jx P h f n Stop o k i):jx P h f n Stop m w g
def yc(P:Xy)(h:Set)(f:E->Prop)(n:M->Prop)(Stop:Ren->M->Xt->Prop):Tr->Ren->M->Xt->Prop
 |.leaf,m,w,g=>Stop m w g
 |.node o,m,w,g=>Stop m w g\/(g.status=.running/\∀q,aV h m w q->n q->∃d l e c new i,stepG P Xf g q=.go d c (kept i).toArray/\bD h m l w e q c new i/\(∀a,f a->e.heap[a]?=w.heap[a]?)/\
   (∀b∈new,b.write=J->∀a,f a->b.loc≠.obj a/\∀k,b.loc=.cell k->k.block≠a)/\d.status=.running/\yc P h f n Stop (o q) l e d)
section
variable{n:M->Prop}{Stop x:Ren->M->Xt->Prop}
theorem jx.tree(a:jx P h f n Stop m w g):∃i,yc P h f n Stop i m w g:=by
 induction a with
 |stop a=>exact⟨.leaf,a⟩
 |@step m w g H N a _ L=>
  have r:∀q,∃i,aV h m w q->n q->∃d k e c new o,stepG P Xf g q=.go d c (kept o).toArray/\bD h m k w e q c new o/\(∀b,f b->e.heap[b]?=w.heap[b]?)/\
   (∀p∈new,p.write=J->∀b,f b->p.loc≠.obj b/\∀s,p.loc=.cell s->s.block≠b)/\d.status=.running/\yc P h f n Stop i k e d:=by
   intro q;by_cases l:aV h m w q
   .by_cases hF:n q
    .obtain⟨d,k,e,c,new,o,t,u,v,x,y,z⟩:=a q l hF;obtain⟨i,D⟩:=L q k e d z;exact⟨i,λ_ _=>⟨d,k,e,c,new,o,t,u,v,x,y,D⟩⟩
    exact⟨.leaf,λ_ a=>absurd a hF⟩
   exact⟨.leaf,λa=>absurd a l⟩
  exact⟨.node λq=>Classical.choose (r q),Xi ⟨H,λq l hF=>Classical.choose_spec (r q) l hF⟩⟩
theorem jx.SM(a:xm P h Xf f Stop m w g):jx P h f n Stop m w g:=by
 induction a with
 |stop a=>exact .stop a
 |step c e a i d=>exact .step c e (λq b _=>a q b) d
theorem jx.bind(a:jx P h f n Stop m w g)(i:∀d c b,Stop d c b->jx P h f n x d c b):jx P h f n x m w g:=by
 induction a with
 |stop a=>exact i _ _ _ a
 |step e l a _ k=>exact .step e l a λq d c b o=>k q d c b o
end
def tW(b:WD)(q:M):Prop:=∃c a,q.heap[b.gv]?=C (Xn #[b.gs] c a)
def tU(b:WD)(q:M):Prop:=∃c a,q.heap[b.gb]?=C (Xn c b.yA a)/\a.1=a.2/\c.size=b.gn
structure TL(b:WD)(y:E)(z:Xk Xe)(q c:M):Prop where
 os:c.os=q.os
 out:c.output=q.output
 size:c.heap.size=q.heap.size
 block:∀r,r≠b.gb->c.heap[r]?=q.heap[r]?
 put:∀t H D,q.heap[b.gb]?=C (Xn t H D)->∃i,c.heap[b.gb]?=C (Xn i H D)/\i.size=t.size/\(∀k,k<y\/y+z.size<=k->i[k]?=t[k]?)/\∀k,k<z.size->i[y+k]?=z[k]?
abbrev bE:=Xg (E×Xk Xe)
def di(b:WD)(h:Set)(m:Ren)(cl:bE)(q:M):Prop:=
 ∀d∈cl,∀(c:E) e,d.2[c]?=C e->∃a k i f,q.heap[b.gb]?=C (Xn a k i)/\a[d.1+c]?=C f/\an h m e f
def kV(P:Xy)(b:WD)(fin:bE->M->Prop)(d:E)(h:Set)(f:E->Prop):E->bE->Ren->M->Xt->Prop
 |0,cl,m,w,g=>g.status=.running/\(∃s,∀q,WgLive b.ty b.Wg q->Go.Conc.Goes P Xf (RL b.ty b.Wg) DC0 (UW P b.ty b.Wg) s g q)/\fin cl w
 |s+1,cl,m,w,g=>g.status=.running/\∃a o i k,aw h m o i/\(∀e,e<i.size->b.own d (a+e))/\(∀l∈cl,l.1+l.2.size<=a\/a+i.size<=l.1)/\k.status=.running/\
   (∀q,tU b q->∃c n,stepG P Xf g q=.go k c n/\TL b a i q c/\∀p∈n,∃e,e<i.size/\p=⟨.cell ⟨b.gb,a+e,F⟩,J,Xf⟩)/\
   jx P h f (tW b) (kV P b fin d h f s (cl++[(a,o)])) m w k
inductive nD where
 |work (s:E) (cl:bE) (k:Tr) (a:bR)
 |done (l s i:E) (cl:bE) (a:bR)
 |quit (o i:E) (cl:bE) (a:bR)
abbrev Fin:=E->bE->M->Prop
def Em(P:Xy)(b:WD)(fin:Fin)(d:E)(g:Xt)(q:M)(e:XD)(U:Loc->Own):nD->Prop
 |.work s cl h a=>g.status=.running/\Deaf e d=0/\aG P e q U d a/\di b a.S a.β cl q/\yc P a.S a.ro (tW b) (kV P b (fin d) d a.S a.ro s cl) h a.β a.w g
 |.done c s f cl a=>c<=5/\Deaf e d=(if c<=1 then 0 else 1)/\(1<=c->RelBy (stA b.Wg) e d f)/\aG P e q U d a/\di b a.S a.β cl q/\fin d cl a.w/\Go.Conc.Goes P Xf (RL b.ty b.Wg) DC0 (QS P b.ty b.Wg c) s g q
 |.quit i f cl a=>RelBy (stA b.Wg) e d f/\aG P e q U d a/\di b a.S a.β cl q/\fin d cl a.w/\QuitsD P i (Deaf e d) g
def nD.cnt:nD->E
 |.work .. =>1
 |.done a .. =>if a<=2 then 1 else 0
 |.quit .. =>0
def nD.iK:nD->E
 |.done a .. =>if 3<=a then 1 else 0
 |_=>0
def nD.wW:nD->E
 |.done a .. =>if 3<=a then a else 0
 |_=>0
structure fw(b:WD)(j:E)(q c:M):Prop where
 live:WgLive b.ty b.Wg q->WgLive b.ty b.Wg c
 gb:∀a o l,q.heap[b.gb]?=C (Xn a o l)->∃i,c.heap[b.gb]?=C (Xn i o l)/\i.size=a.size/\∀d k,d≠j->b.own d k->i[k]?=a[k]?
theorem fw.same{b:WD}{c:M}(h:c.heap[b.Wg]?=q.heap[b.Wg]?)(i:c.heap[b.gb]?=q.heap[b.gb]?):fw b j q c:=
 ⟨λ⟨d,e,a⟩=>⟨d,e,a.of_block h⟩,λf l k a=>⟨f,i.trans a,A,λ_ _ _ _=>rfl⟩⟩
def uI(b:WD)(d:E)(cl:bE):Prop:=∀c∈cl,∀a,a<c.2.size->b.own d (c.1+a)
theorem di.stay{b:WD}{cl:bE}{c:M}(y:di b h m cl q)(O:uI b d cl)(L:d≠j)(Q:fw b j q c):di b h m cl c:=by intro i l a S o;obtain⟨t,r,k,T,z,D,H⟩:=y i l a S o;obtain⟨v,q1,_,R⟩:=Q.gb t r k z;have N:a<i.2.size:=(XN.1 o).1;exact⟨v,r,k,T,q1,by rw[R d _ L (O i l a N)];exact D,H⟩
theorem di.mono{b:WD}{β₁:Ren}{cl:bE}(k:di b h m cl q)(t:m.le β₁):di b h β₁ cl q:=λD v z L y=>by obtain⟨a,H,i,N,l,o,r⟩:=k D v z L y;exact⟨a,H,i,N,l,o,r.mono t⟩
theorem di.same{b:WD}{cl:bE}{c:M}(e:di b h m cl q)(o:c.heap[b.gb]?=q.heap[b.gb]?):di b h m cl c:=λr l p t n=>by obtain⟨a,s,d,u,f,i,k⟩:=e r l p t n;exact⟨a,s,d,u,o.trans f,i,k⟩
theorem di.VK{b:WD}{cl:bE}{c:M}{f:E}{u p:Xk Xe}(k:di b h m cl q)(z:tU b q)(H:TL b f p q c)(t:aw h m u p)(hd:∀a∈cl,a.1+a.2.size<=f\/f+p.size<=a.1):di b h m (cl++[(f,u)]) c:=by
 obtain⟨v,y,s,T,U⟩:=z;obtain⟨r,q1,W,N,O⟩:=H.put v _ y s;intro a L n Q l;have D:n<a.2.size:=(XN.1 l).1;rcases YC.1 L with d|d
 .obtain⟨R,X,S,o,e,i,x⟩:=k a d n Q l;rw[s]at e;cases e;refine⟨r,_,_,o,q1,?_,x⟩;rw[N _ (by rcases hd a d with k|k<;>omega)];exact i
 simp only[YI]at d;subst d;obtain⟨o,e,i⟩:=t.get l;exact⟨r,_,_,o,q1,by rw[O n (by rw[<-t.1];exact D)];exact e,i⟩
section
variable{p:XD}{c:M}{u:Loc->Own}{b:WD}{fin:Fin}
theorem yz{a:E}(h:Go.Conc.Goes P Xf (RL b.ty b.Wg) DC0 (QS P b.ty b.Wg a) s g q)(i:WgLive b.ty b.Wg q->WgLive b.ty b.Wg c):Go.Conc.Goes P Xf (RL b.ty b.Wg) DC0 (QS P b.ty b.Wg a) s g c:=
 h.rely (λd e f=>Go.SimW.RL.trans d e f) i
def nD.cl:nD->bE
 |.work _ cl _ _|.done _ _ _ cl _|.quit _ _ cl _=>cl
theorem Em.frame(f:j≠d)(y:jU e q c U u j p)(O:∀z∈p,z.g≠d)(hd:Deaf (e++p) d=Deaf e d)(o:fw b j q c){r:nD}(n:uI b d r.cl)(t:Em P b fin d g q e U r):Em P b fin d g c (e++p) u r:=by
 have H:∀a,RelBy (stA b.Wg) e d a->RelBy (stA b.Wg) (e++p) d a:=λa T=>T.app λW D Q=>by
  obtain⟨z,n,R⟩:=YE.1 Q;rcases XU n with⟨Y,_⟩|⟨_,S⟩
  .omega
  exact absurd R (O z S)
 cases r with
 |work s cl X L=>obtain⟨v,i,k,l,m⟩:=t;exact⟨v,by rw[hd];exact i,k.other f y,l.stay n (λh=>f h.symm) o,m⟩
 |done W s a cl L=>obtain⟨N,v,i,k,l,m,x⟩:=t;exact⟨N,by rw[hd];exact v,λD=>H a (i D),k.other f y,l.stay n (λh=>f h.symm) o,m,yz x o.live⟩
 |quit Z a cl L=>obtain⟨i,k,l,m,x⟩:=t;exact⟨H a i,k.other f y,l.stay n (λh=>f h.symm) o,m,by rw[hd];exact x⟩
theorem Em.at{n:nD}(a:Em P b fin d g q e U n)(k:E):Em P b fin d g (q.at k) e U n:=by
 cases n with
 |work s cl t o=>obtain⟨l,c,f,h,i⟩:=a;exact⟨l,c,f.at k,h,i⟩
 |done u s r cl o=>obtain⟨p,l,c,f,h,i,m⟩:=a;exact⟨p,l,c,f.at k,h,i,yz m λa=>a⟩
 |quit v r cl o=>obtain⟨c,f,h,i,m⟩:=a;exact⟨c,f.at k,h,i,m⟩
theorem Em.status{f:nD}(a:Em P b fin d g q e U f):g.status=.running\/g.status=.finished:=by
 cases f with
 |work s cl i c=>exact Xh a.1
 |done k s h cl c=>exact Xh (Go.SimW.qC a.2.2.2.2.2.2)
 |quit l h cl c=>exact a.2.2.2.2.status
theorem Em.woken{i:nD}(h:Em P b fin d g q e U i)(a f:Xt):Go.Conc.woken P a f c g=g:=by
 unfold Go.Conc.woken;split
 .exact again_running _ h.status
 rfl
end
end
end Go.Sim
namespace Go.Sim
open Go.Conc Go.Proofs Go.RowKit
open Go.ConcN (PermW PermW.app PermW.of fork_knows WgLive RelBy sumTo)
open Go.ConcR (KK wgBlock WgAt stA smA rd wr mk DC0)
variable{h:Set}{m:Ren}{o:Xe}{q:M}{k:E}{U:Loc->Own}{b:XD}{j:E}{P:Xy}{y:bR}{a:E}{c:Xt}{x:E}{W:Xk Xt}{w:E}{S:Xk XF}{s:E}
section
variable[Inhabited aM]
inductive fj(d:E->Prop):Xe->Prop
 |bool (p:Xo):fj d (.bool p)
 |int (r:IntKind) (k:Xj):fj d (.int r k)
 |string (y:XB):fj d (.string y)
 |cG:fj d (XA F)
 |ptr {i:Xw} (l:d i.block):fj d (XA (C i))
 |aO (k g:E):fj d (Xm F k g)
 |slice {i:Xw} (l:d i.block) (k g:E):fj d (Xm (C i) k g)
 |iface (b:Xq) {o:Xe} (l:fj d o):fj d (.iface b o)
 |nilIface:fj d .nilIface
 |agg {g:Xk Xe} (l:∀(a:E) n,g[a]?=C n->fj d n):fj d (.agg g)
theorem an.to{s:Set}{r:Ren}{l:E->Prop}(n:∀d e,l d->m d e->r d e){i:Xe}(v:fj l o)(c:an h m o i):an s r o i:=by
 induction v generalizing i with
 |bool e=>cases c;exact .bool _
 |int H k=>cases c;exact .int _ _
 |string y=>cases c;exact .string _
 |cG=>cases c;exact .cG
 |ptr f=>cases c with|ptr c=>exact .ptr ⟨n _ _ f c.1,c.2⟩
 |aO k t=>cases c;exact .aO _ _
 |slice f k t=>cases c with|slice c=>exact .slice ⟨n _ _ f c.1,c.2⟩ _ _
 |iface b _ g=>cases c with|iface _ c=>exact .iface b (g c)
 |nilIface=>cases c;exact .nilIface
 |agg D g=>cases c with|agg u x=>exact .agg u λa q z p w=>g a q p (x a q z p w)
structure PD where
 rc:E
 n:E
 τ:E->Xe
 sh:E->Prop
 mine:Loc->Prop
 bx:E
def IQ(a:PD)(q:M):Prop:=∃c b,q.heap[a.bx]?=C (Xn #[.chan (C a.rc)] c b)
def iW(P:Xy)(a:PD)(h:Set)(i:E->Prop):E->Ren->M->Xt->Prop
 |0,m,d,c=>c.status=.running/\mayWake P c=J/\∃b,b.status=.running/\
    (∀(q:M) f e y g k,q.heap[a.rc]?=C (.chan f e Xf y g k)->stepG P Xf c q=.go b (q.setChan a.rc f e J y g k) #[⟨.obj a.rc,Xf,J⟩,⟨.obj a.rc,J,J⟩])/\∃n,QuitsD P n 0 b
 |s+1,m,d,c=>c.status=.running/\∃l o,(∀q,aV h m d q->stepG P Xf c q=.comm c #[scase a.rc l o] J .send q #[])/\an h m (a.τ (a.n-(s+1))) l/\fj a.sh (a.τ (a.n-(s+1)))/\
   jx P h i (IQ a) (iW P a h i s) m d (Go.Conc.served c I)
inductive aF where
 |lv (i:E)
 |pr (d:PD) (s:E) (g:Tr) (l:bR)
 |pb (d:PD) (s:E) (g:Tr) (l:bR) (c:Xt) (n r:Xe)
 |pq (d:PD) (i:E)
 |wk (p:nD)
abbrev Ms:=E×E×Tr
def aF.ms:aF->Ms
 |.lv b=>(0,b,.leaf)
 |.pr _ s a _=>(2*s+2,0,a)
 |.pb _ s a _ _ _ _=>(2*s+3,0,a)
 |.pq _ b=>(1,b,.leaf)
 |.wk (.work s _ a _)=>(s+10,0,a)
 |.wk (.done c s _ _ _)=>(9-c,s,.leaf)
 |.wk (.quit b _ _ _)=>(1,b,.leaf)
def Ms.lt:Ms->Ms->Prop:=Prod.Lex Nat.lt (Prod.Lex Nat.lt Tr.lt)
theorem lex_wf{c d:Type}{b:c->c->Prop}{y:d->d->Prop}(f:WellFounded b)(g:WellFounded y):WellFounded (Prod.Lex b y):=⟨λ⟨e,a⟩=>Prod.lexAccessible (f.apply e) (λa=>g.apply a) a⟩
theorem Ms.wf:WellFounded Ms.lt:=lex_wf E.lt_wfRel.wf (lex_wf E.lt_wfRel.wf Tr.wf)
structure kD(g:PD)(q:M)(U:Loc->Own)(y:bR)(l i:E)(p:Xo)(d:Xk Xe):Prop where
 heap:q.heap[g.rc]?=C (.chan 4 d p l i Xf)
 count:d.size+i=l
 room:d.size<=4
 own:U (.obj g.rc)=.sync
 msgs:∀(a:E) n,d[a]?=C n->an y.S y.β (g.τ (i+a)) n
def Told(b:XD)(U:Loc->Own)(a:E):Prop:=∀(c:E) d e,b[c]?=C d->d.g=a->d.act.touch?=C e->e.loc.isMemory=J->(U e.loc≠.sync\/b.heard c)->Knows b 0 c
def kI(b:XD)(U:Loc->Own)(a x:E):Prop:=∀(c:E) d e,b[c]?=C d->d.g=a->d.act.touch?=C e->e.loc.isMemory=J->(U e.loc≠.sync\/b.heard c)->Before b c x
def kH(b:PD)(d y:bR):Prop:=(∀a c,b.sh a->d.β a c->y.β a c)/\∀a,b.sh a->a<d.w.heap.size
structure ui(g:PD)(b:XD)(q:M)(U:Loc->Own)(a:E):Prop where
 KJ:∀(n:E) l i,b[n]?=C l->l.g=a->l.act.touch?=C i->i.loc.isMemory=J->U i.loc≠.sync->U i.loc=.iM a\/g.mine i.loc
 ro:∀d,g.mine d->U d=.ro
 low:∀d,g.mine d->d.isMemory=J/\Af q.heap.size d
 kn:IQ g q
 KT:∀d,az d g.bx->g.mine d
def uN(e:PD)(d:bR):Prop:=∀a b,d.β a b->d.ro a->∀c,az c b->e.mine c
def cw(P:Xy)(a:E)(c:Xt)(q:M)(b:XD)(U:Loc->Own)(y:bR):aF->Prop
 |.lv k=>QuitsD P k (Deaf b a) c/\Told b U a
 |.pr d s f e=>c.status=.running/\s<=d.n/\(∃h g,kD d q U y (d.n-s) h Xf g)/\aG P b q U a e/\Deaf b a=0/\(kH d e y/\ui d b q U a/\uN d e)/\yc P e.S e.ro (IQ d) (iW P d e.S e.ro s) f e.β e.w c
 |.pb d s f e i l n=>s+1<=d.n/\c=parked i #[scase d.rc l n] .send/\i.status=.running/\(∃h g,kD d q U y (d.n-(s+1)) h Xf g/\g.size=4)/\aG P b q U a e/\Deaf b a=0/\(kH d e y/\ui d b q U a/\uN d e)/\
   an y.S y.β (d.τ (d.n-(s+1))) l/\yc P e.S e.ro (IQ d) (iW P d e.S e.ro s) f e.β e.w (Go.Conc.served i I)
 |.pq d k=>(∃h g,kD d q U y d.n h J g)/\QuitsD P k (Deaf b a) c/\∃x,b.act? x=C (.close d.rc)/\b.heard x/\kI b U a x/\ui d b q U a
 |.wk m=>∃f,y.tag=C f/\uI f.D a m.cl/\Em P f.D f.fin a c q b U m
def aF.cnt:aF->E
 |.wk a=>a.cnt
 |_=>0
def aF.iK:aF->E
 |.wk a=>a.iK
 |_=>0
def aF.wW:aF->E
 |.wk a=>a.wW
 |_=>0
inductive dY(d:dm)(g:E->aF)(k:E)(q:M):E->Prop
 |opn {o:E} (i:d.wt=0) (t:d.pend<=1) (l:∀j,0<j->j<k->(g j).iK=0) (n:WgAt d.D.ty d.D.Wg q (((o+d.pend:E):Xj)*KK) 0):dY d g k q o
 |reg {o:E} (i:d.wt=1) (z:1<=o) (l:∀j,0<j->j<k->(g j).iK=0) (n:WgAt d.D.ty d.D.Wg q (o*KK+1) 0):dY d g k q o
 |last (a:E) (i:d.wt=1) (p:0<a) (r:a<k) (l:∀j,0<j->j<k->j≠a->(g j).iK=0) (v:(g a).iK=1) (n:WgAt d.D.ty d.D.Wg q (if(g a).wW<=4 then 1 else 0) 0):dY d g k q 0
 |fin (i:d.wt=1) (l:∀j,0<j->j<k->(g j).iK=0) (n:WgAt d.D.ty d.D.Wg q 0 1):dY d g k q 0
 |By (i:d.wt=2) (l:∀j,0<j->j<k->(g j).iK=0) (n:WgAt d.D.ty d.D.Wg q 0 0):dY d g k q 0
def Bf(b:Obj)(q:M)(a:E):Prop:=q.heap[a]?=C b
def IP(b:WD)(q:M)(U:Loc->Own):Prop:=(∀c,b.g0=C c->q.os=c.os)/\∀a e,b.gh a e->(∀d,az d a->U d=.ro)/\Bf e q a
theorem Bf.lt{c:Obj}{a:E}(b:Bf c q a):a<q.heap.size:=by exact(XN.1 b).1
theorem IP.step{p:WD}{b f:XD}{q e:M}{U u:Loc->Own}{a:E}(t:IP p q U)(n:jU b q e U u a f):IP p e u:=by
 refine⟨λH L=>n.os.trans (t.1 H L),λg O N=>?_⟩;obtain⟨v,i⟩:=t.2 g O N;refine⟨λl z=>by rw[n.old l g z i.lt];exact v l z,?_⟩;have D:=v (.obj g) (Xh A);rcases n.heap g i.lt with d|d|d|d
 .rw[D]at d;cases d
 .rcases d with d|d<;>(rw[D]at d;cases d)
 .exact d.trans i
 simp_all
structure dS(d:dm)(l:E->aF)(k:E)(q:M)(U:Loc->Own):Prop where
 zero:(l 0).cnt=0
 mode:dY d l k q (sumTo k λa=>(l a).cnt)
 rJ:∀g,az g d.D.Wg->U g=.sync
 zQ:U (.obj d.D.gb)=.void
 own:∀a n,0<a->a<k->l a=.wk n->∀i p,d.D.own a i->U (.cell ⟨d.D.gb,i,p⟩)=.iM a
 gb:tU d.D q
 gv:tW d.D q
 KV:U (.obj d.D.gv)=.ro
 ne:d.D.gb≠d.D.Wg
 apart:∀a j i,d.D.own a i->d.D.own j i->a=j
 yt:d.hi<d.lo+1000000
 bound:(sumTo k λa=>(l a).cnt)<=d.vb
 tT:0<d.lo/\d.lo<=d.hi/\d.hi=k/\∀a,d.lo<=a->a<d.hi->∃n,l a=.wk n
 Ia:∀a n,0<a->a<k->l a=.wk n->d.lo<=a/\a<d.hi
 gh:IP d.D q U
 KU:∀g,az g d.D.gb->g=.obj d.D.gb\/U g=.iM 0\/∃a i p,d.lo<=a/\a<d.hi/\g=.cell ⟨d.D.gb,i,p⟩/\d.D.own a i/\U g=.iM a
theorem dY.live{e:dm}{f:E->aF}{o:E}(c:dY e f k q o):WgLive e.D.ty e.D.Wg q:=by
 cases c with
 |opn c i d b=>exact⟨_,_,b⟩
 |reg c m d b=>exact⟨_,_,b⟩
 |last a c g h d l b=>exact⟨_,_,b⟩
 |fin c d b=>exact⟨_,_,b⟩
 |By c d b=>exact⟨_,_,b⟩
theorem dY.same{f:dm}{l m:E->aF}{e:M}{o:E}(b:dY f l k q o)(d:e.heap[f.D.Wg]?=q.heap[f.D.Wg]?)(s:∀a,(m a).iK=(l a).iK/\(m a).wW=(l a).wW):dY f m k e o:=by
 cases b with
 |opn b r i c=>exact .opn b r (λj g h=>by simp_all) (c.of_block d)
 |reg b t i c=>exact .reg b t (λj g h=>by simp_all) (c.of_block d)
 |last a b n p i v c=>exact .last a b n p (λj g h u=>by simp_all) (by simp_all) (by rw[(s a).2];exact c.of_block d)
 |fin b i c=>exact .fin b (λj g h=>by simp_all) (c.of_block d)
 |By b i c=>exact .By b (λj g h=>by simp_all) (c.of_block d)
theorem dS.pU{a:dm}{c:E->aF}(b:dS a c k q U):a.D.Wg<q.heap.size:=by obtain⟨d,e,b⟩:=b.mode.live;exact(XN.1 (show q.heap[a.D.Wg]?=_ from b)).1
theorem dS.tX{a:dm}{c:E->aF}(b:dS a c k q U):a.D.gb<q.heap.size:=by
 obtain⟨d,e,b,_⟩:=b.gb
 grind
theorem dS.Um{a:dm}{c:E->aF}(b:dS a c k q U):a.D.gv<q.heap.size:=by
 obtain⟨d,e,b⟩:=b.gv
 grind
theorem IQ.step{g:PD}{b f:XD}{q e:M}{U u:Loc->Own}{a:E}(i:IQ g q)(t:jU b q e U u a f)(n:U (.obj g.bx)=.ro):IQ g e:=by
 obtain⟨v,p,i⟩:=i;rcases t.heap g.bx (XN.1 i).1 with d|d|d|d
 .rw[n]at d;cases d
 .rcases d with d|d<;>(rw[n]at d;cases d)
 .exact⟨v,p,d.trans i⟩
 simp_all
theorem tW.step{g:WD}{b f:XD}{q e:M}{U u:Loc->Own}{a:E}(i:tW g q)(t:jU b q e U u a f)(n:U (.obj g.gv)=.ro):tW g e:=by
 obtain⟨v,p,i⟩:=i;rcases t.heap g.gv (XN.1 i).1 with d|d|d|d
 .rw[n]at d;cases d
 .rcases d with d|d<;>(rw[n]at d;cases d)
 .exact⟨v,p,d.trans i⟩
 simp_all
theorem dS.keep{d:dm}{g h:E->aF}{f:XD}{e:M}{u:Loc->Own}(c:dS d g k q U)(l:jU b q e U u j f)(H:e.heap[d.D.Wg]?=q.heap[d.D.Wg]?)(L:tU d.D q->tU d.D e)
 (p:∀a,(h a).cnt=(g a).cnt/\(h a).iK=(g a).iK/\(h a).wW=(g a).wW)(x:∀a i,h a=.wk i->∃m,g a=.wk m)(X:∀a i,g a=.wk i->∃m,h a=.wk m):dS d h k e u where
 zero:=by rw[(p 0).1];exact c.zero
 mode:=by have v:(λa=>(h a).cnt)=λa=>(g a).cnt:=funext λa=>(p a).1;rw[v];exact c.mode.same H λa=>(p a).2
 rJ:=λo n=>by rw[l.old o _ n c.pU];exact c.rJ o n
 zQ:=by rw[l.old _ _ (.inl A) c.tX];exact c.zQ
 own:=λa i D N r y z O=>by obtain⟨m,w⟩:=x a i r;rw[l.old (.cell ⟨d.D.gb,y,z⟩) d.D.gb (.inr ⟨_,A,A⟩) c.tX];exact c.own a m D N w y z O
 gb:=L c.gb
 gv:=c.gv.step l c.KV
 KV:=by rw[l.old _ _ (.inl A) c.Um];exact c.KV
 ne:=c.ne
 apart:=c.apart
 yt:=c.yt
 bound:=by have v:(λa=>(h a).cnt)=λa=>(g a).cnt:=funext λa=>(p a).1;rw[v];exact c.bound
 tT:=⟨c.tT.1,c.tT.2.1,c.tT.2.2.1,λa s t=>by obtain⟨i,r⟩:=c.tT.2.2.2 a s t;simp_all⟩
 Ia:=λa i s t r=>by obtain⟨m,w⟩:=x a i r;exact c.Ia a m s t w
 gh:=c.gh.step l
 KU:=λo n=>by rw[l.old o _ n c.tX];exact c.KU o n
theorem tU.same{a:WD}{e:M}(d:tU a q)(h:e.heap[a.gb]?=q.heap[a.gb]?):tU a e:=by obtain⟨b,c,f,g⟩:=d;exact⟨b,c,h.trans f,g⟩
def aF.chan:aF->Xp E
 |.lv _=>F
 |.pr a .. =>C a.rc
 |.pb a .. =>C a.rc
 |.pq a .. =>C a.rc
 |.wk _=>F
def aF.pd:aF->Xp PD
 |.lv _=>F
 |.pr a .. =>C a
 |.pb a .. =>C a
 |.pq a .. =>C a
 |.wk _=>F
theorem aF.cA(a:aF):a.chan=a.pd.map (·.rc):=by cases a<;>rfl
def Lr(q:M)(b d:E):Prop:=∃c a cl e f,q.heap[b]?=C (.chan c a cl e d f)
section
variable{e:M}{u:Loc->Own}{s':bR}{f:XD}
def iV(y s':bR):Prop:=s'.S=y.S/\y.β.le s'.β/\s'.tag=y.tag
theorem iV.refl(y:bR):iV y y:=⟨A,Ren.le_refl _,A⟩
theorem kD.frame{d:PD}{l k:E}{h:Xo}{g:Xk Xe}(c:kD d q U y l k h g)(m:jU b q e U u j f)(n:e.heap[d.rc]?=q.heap[d.rc]?)(i:iV y s'):kD d e u s' l k h g where
 heap:=by rw[n];exact c.heap
 count:=c.count
 room:=c.room
 own:=by rw[m.old _ _ (.inl A) (XN.1 c.heap).1];exact c.own
 msgs:=λa p o=>by rw[i.1];exact(c.msgs a p o).mono i.2.1
theorem Told.frame(G:cQ b q U)(r:Told b U a)(l:jU b q e U u j f)(s:j≠a):Told (b++f) u a:=by
 intro n o d t h m c k;rcases XU t with⟨x,v⟩|⟨_,w⟩
 .obtain⟨p,g⟩:=cL c;have i:=G.low n d (by simp_all [YM]);rw[bn g]at i;rw[l.old _ p g i]at k;exact(r n o d v h m c (k.imp id (ZA x).1)).app f
 exact absurd ((l.touch o w d m c).1.symm.trans h) s
theorem kI.frame(G:cQ b q U)(r:kI b U a x)(l:jU b q e U u j f)(s:j≠a):kI (b++f) u a x:=by
 intro n o d t h m c k;rcases XU t with⟨y,v⟩|⟨_,w⟩
 .obtain⟨p,g⟩:=cL c;have i:=G.low n d (by simp_all [YM]);rw[bn g]at i;rw[l.old _ p g i]at k;exact(r n o d v h m c (k.imp id (ZA y).1)).app f
 exact absurd ((l.touch o w d m c).1.symm.trans h) s
theorem Told.mine(G:cQ b q U)(e:Told b U a)(r:∀c∈f,∀d,c.act.touch?=C d->False):Told (b++f) U a:=by
 intro o c d h g n l m;rcases XU h with⟨k,i⟩|⟨_,p⟩
 .exact(e o c d i g n l (m.imp id (ZA k).1)).app f
 simp_all
theorem kI.mine(G:cQ b q U)(e:kI b U a x)(r:∀c∈f,∀d,c.act.touch?=C d->False):kI (b++f) U a x:=by
 intro o c d h g n l m;rcases XU h with⟨k,i⟩|⟨_,p⟩
 .exact(e o c d i g n l (m.imp id (ZA k).1)).app f
 simp_all
theorem ui.frame{m:PD}(G:cQ b q U)(c:ui m b q U a)(k:jU b q e U u j f)(x:∀l∈f,l.g≠a):ui m (b++f) e u a where
 KJ:=by
  intro s l t w v r o p;rcases XU w with⟨z,n⟩|⟨_,y⟩
  .obtain⟨i,g⟩:=cL o;have d:=G.low s t (by rw[YM n];exact r);rw[bn g]at d;rw[k.old _ i g d]at p⊢
   exact c.KJ s l t n v r o p
  simp_all
 ro:=λh d=>by obtain⟨i,g⟩:=cL (c.low h d).1;have:=(c.low h d).2;rw[bn g]at this;rw[k.old _ i g this];exact c.ro h d
 low:=λh d=>⟨(c.low h d).1,by
  obtain⟨i,g⟩:=cL (c.low h d).1;have:=(c.low h d).2;rw[bn g]at this⊢
  exact XY this k.size⟩
 kn:=c.kn.step k (c.ro _ (c.KT _ (Xh A)))
 KT:=c.KT
theorem ui.own{m:PD}(G:cQ b q U)(c:ui m b q U a)(l:jU b q e U u a f)(z:∀n∈f,∀g,n.act.touch?=C g->g.loc.isMemory=J->u g.loc≠.sync->u g.loc=.iM a\/m.mine g.loc):ui m (b++f) e u a where
 KJ:=by
  intro t n g w v s p r;rcases XU w with⟨y,o⟩|⟨_,x⟩
  .obtain⟨k,h⟩:=cL p;have d:=G.low t g (by rw[YM o];exact s);rw[bn h]at d;rw[l.old _ k h d]at r⊢
   exact c.KJ t n g o v s p r
  grind
 ro:=λi d=>by obtain⟨k,h⟩:=cL (c.low i d).1;have:=(c.low i d).2;rw[bn h]at this;rw[l.old _ k h this];exact c.ro i d
 low:=λi d=>⟨(c.low i d).1,by
  obtain⟨k,h⟩:=cL (c.low i d).1;have:=(c.low i d).2;rw[bn h]at this⊢
  exact XY this l.size⟩
 kn:=c.kn.step l (c.ro _ (c.KT _ (Xh A)))
 KT:=c.KT
theorem ui.VJ{f:PD}{d:bR}(G:cQ b q U)(x:ui f b q U a)(s:uN f d)(i:aG P b q U a d){w:Ren}{n:M}{new u:Xg XF}(l:bD d.S d.β w d.w n q e new u)(O:∀c,d.ro c->n.heap[c]?=d.w.heap[c]?)
 (t:∀h∈new,h.write=J->∀c,d.ro c->h.loc≠.obj c/\∀o,h.loc=.cell o->o.block≠c)(D:Deaf b a=0)(fn:XI)(v:String):
 ui f (b++XE a fn v (kept u).toArray) e (Own.more U a q.heap.size e.heap.size) a/\uN f {d with β:=w,w:=n}:=by
 refine⟨x.own G (fy i l O t D fn v) λZ N o Q L X=>?_,λc g y r R H=>?_⟩
 .obtain⟨_,z⟩:=wV i l t N Q;obtain⟨g,q1,a1,k⟩:=z L;rcases k with k|⟨a0,k|⟨_,_,_,c,S,T⟩⟩
  .grind [qO]
  .grind [qP]
  exact Xi (s c g S T _ q1)
 rcases l.fresh c g y with p|⟨p,_⟩
 .exact s c g p r R H
 obtain⟨Y,W,_⟩:=i.cO c r;simp_all
theorem kH.frame{a:PD}{c:bR}(b:kH a c y)(h:iV y s'):kH a c s':=⟨λd e f g=>h.2.1 _ _ (b.1 d e f g),b.2⟩
theorem kH.step{p:PD}{g:bR}(n:kH p g y){H:Ren}{D q e:M}{new N:Xg XF}(z:bD g.S g.β H g.w D q e new N):kH p {g with β:=H,w:=D} y:=by
 refine⟨λd t i L=>?_,λd i=>XY (n.2 d i) z.size⟩;rcases z.fresh d t L with v|⟨v,_⟩
 .exact n.1 d t i v
 have:=n.2 d i;omega
theorem cw.frame(G:cQ b q U){D:aF}(l:cw P a c q b U y D)(g:jU b q e U u j f)(t:j≠a)(hd:Deaf (b++f) a=Deaf b a)(h:iV y s')(N:∀H,D.chan=C H->e.heap[H]?=q.heap[H]?)(z:∀T∈f,T.g≠a)(S:∀i,y.tag=C i->fw i.D j q e):cw P a c e (b++f) u s' D:=by
 cases D with
 |wk a4=>obtain⟨i,m,n,k⟩:=l;exact⟨i,by rw[h.2.2];exact m,n,k.frame t g z hd (S i m) n⟩
 |lv W=>exact⟨by rw[hd];exact l.1,l.2.frame G g t⟩
 |pr O s i X=>obtain⟨m,n,⟨v,o,k⟩,L,p,d,r⟩:=l;exact⟨m,n,⟨v,o,k.frame g (N _ A) h⟩,L.other t g,by rw[hd];exact p,⟨d.1.frame h,d.2.1.frame G g z,d.2.2⟩,r⟩
 |pb O s i X Y a3 a5=>obtain⟨m,n,Q,⟨v,o,k,R⟩,L,p,d,r,w⟩:=l;exact⟨m,n,Q,⟨v,o,k.frame g (N _ A) h,R⟩,L.other t g,by rw[hd];exact p,⟨d.1.frame h,d.2.1.frame G g z,d.2.2⟩,by rw[h.1];exact r.mono h.2.1,w⟩
 |pq O W=>obtain⟨⟨v,o,k⟩,p,x,d,r,w⟩:=l;refine⟨⟨v,o,k.frame g (N _ A) h⟩,by rw[hd];exact p,x,?_,((ZA (i_ d)).2 r),w.1.frame G g t,w.2.frame G g z⟩;rw[abd (i_ d)];exact d
theorem cw.woken{k:aF}(d:cw P a c q b U y k)(f g:Xt)(p:∀h,k.chan=C h->e.heap[h]?=q.heap[h]?):woken P f g e c=c:=by
 cases k with
 |wk Q=>obtain⟨m,o,n,i⟩:=d;exact i.woken f g
 |lv r=>exact woken_quitsD d.1
 |pr l s m t=>exact woken_run d.1
 |pb l s m t v O R=>obtain⟨o,n,w,⟨N,u,i,x⟩,_⟩:=d;rw[n];exact woken_send_open f g (by rw[p _ A];exact i.heap)
 |pq l r=>exact woken_quitsD d.2.1
theorem cw.awake{i:aF}(d:cw P a c q b U y i):Go.Conc.awake c:=by
 cases i with
 |wk f=>obtain⟨h,o,p,k⟩:=d;rcases k.status with d|d<;>(intro f e;simp_all)
 |lv l=>rcases d.1.status with d|d<;>(intro f e;simp_all)
 |pr g s h m=>intro f e;rw[d.1]at e;cases e
 |pb g s h m n w x=>rw[d.2.1];intro f e;cases e
 |pq g l=>rcases d.2.1.status with d|d<;>(intro f e;simp_all)
structure bB(P:Xy)(W:Xk Xt)(q:M)(b:XD)(U:Loc->Own)(y:bR)(d:E->aF):Prop where
 each:∀a c,0<a->W[a]?=C c->cw P a c q b U y (d a)
 one:∀a j l w,0<a->0<j->a<W.size->j<W.size->(d a).chan=C l->(d j).chan=C w->a=j
 above:∀j,W.size<=j->Deaf b j=0
 wg:∀g,y.tag=C g->dS g d W.size q U
 ops:∀(n:E) i,b[n]?=C i->i.g<W.size
def ua(b:E->aF)(k:E):Xg Ms:=(Xg.range k).map λa=>(b a).ms
theorem lj{d:E->aF}{e:aF}(g:a<k)(i:Ms.lt e.ms (d a).ms):dR Ms.lt (ua (λb=>if b=a then e else d b) k) (ua d k):=by
 have f:ua (λb=>if b=a then e else d b) k=(ua d k).set a e.ms:=by
  refine Xg.ext_getElem? λb=>?_;unfold ua;rw[o_,List.getElem?_set,o_];by_cases h:b<k
  .rw[Xg.getElem?_range h];by_cases c:a=b
   .subst c;simp[g]
   have:¬b=a:=λf=>c f.symm;simp[c,this]
  have:(Xg.range k)[b]?=F:=by simp;omega
  rw[this];by_cases c:a=b
  .omega
  simp[c]
 simp_all [dR.set,ua]
theorem bB.jS{gs':Xk Xt}{v:E->aF}(G:cQ b q U)(l:bB P W q b U y v)(b1:jU b q e U u j f)(a4:iV y s')(a5:gs'.size=W.size)(a7:∀d,d≠j->0<d->gs'[d]?=W[d]?)
 (hd:∀d,d≠j->Deaf (b++f) d=Deaf b d)(b2:∀d g,0<d->d<W.size->d≠j->(v d).chan=C g->e.heap[g]?=q.heap[g]?)(b6:j<W.size){r:aF}(b8:∀c,0<j->gs'[j]?=C c->cw P j c e (b++f) u s' r)
 (N:∀g,r.chan=C g->∃w,(v j).chan=C w)(a8:∀d,d≠j->0<d->∀a1∈f,a1.g≠d)(b0:∀i,y.tag=C i->fw i.D j q e)
 (b3:∀i,y.tag=C i->dS i (λd=>if d=j then r else v d) gs'.size e u):bB P gs' e (b++f) u s' (λd=>if d=j then r else v d) where
 wg:=λi a2=>b3 i (by rw[a4.2.2]at a2;exact a2)
 ops:=by
  intro d a1 a3;rw[a5];rcases XU a3 with⟨_,a9⟩|⟨_,b7⟩
  .exact l.ops d a1 a9
  grind
 each:=by
  intro a c O Y;by_cases t:a=j
  .simp_all
  simp only[t,Yf];rw[a7 a t O]at Y;exact(l.each a c O Y).frame G b1 (λa6=>t a6.symm) (hd a t) a4 (λg N=>b2 a g O (XN.1 Y).1 t N) (a8 a t O) b0
 one:=by
  intro z D g w T X H L n p;rw[a5]at H L;by_cases Z:z=j<;>by_cases a0:D=j
  .omega
  .subst Z;simp only[Yc]at n;simp only[a0,Yf]at p;obtain⟨Q,R⟩:=N g n;exact l.one z D Q w T X H L R p
  .subst a0;simp only[Yc]at p;simp only[Z,Yf]at n;obtain⟨Q,R⟩:=N w p;exact l.one z D g Q T X H L n R
  simp only[Z,Yf]at n;simp only[a0,Yf]at p;exact l.one z D g w T X H L n p
 above:=λd a3=>by rw[hd d (by omega)];exact l.above d (by omega)
theorem mK(h:∀c∈f,∀d,c.act.touch?=C d->False)(l:∀c∈f,∀i,c.act≠.mark (.release i)):jU b q q U U a f where
 norel:=l
 jB:=Xh λc e d g _=>(h c e d g).elim
 size:=XS _
 os:=A
 out:=A
 heap:=λk _=>Xi (Xi (Xh A))
 old:=λ_ _ _ _=>rfl
 new:=λo k _ m n=>by omega
 touch:=λc e d g _=>(h c e d g).elim
theorem mQ{d:Xt->Xt}{e:Xt}(b:E)(g:b≠a)(f:∀c,W[b]?=C c->d c=c):((W.map d).setIfInBounds a e)[b]?=W[b]?:=by grind
theorem lU{b:E}(a:QuitsD P b w c)(h:c.status=.running):∃e d S,b=e+1/\(∀g∈S,XF.mute g=J)/\(∀f,stepG P Xf c f=.go d f S)/\QuitsD P e (deafBehind w S) d:=by
 cases b with
 |zero=>have:=a.1;simp_all
 |succ b=>
  rcases a with a|⟨_,d,S,i,k,l⟩
  .have:=a.1;rw[h]at this;cases this
  grind
def uY(P:Xy)(c:Xt):aF->Prop
 |.pr b s d a=>iW P b a.S a.ro s a.β a.w c
 |_=>False
def QC(P:Xy)(W:Xk Xt)(q:M)(sl:Xp (E×E))(b:XD)(U:Loc->Own)(y:bR)(h:E->aF)(a:E)(n:Xt):Prop:=
 ∃m g e f u,runT P (crowd W q sl) a=(.next (crowd g e sl),f)/\Ms.lt (aF.ms m) (h a).ms/\g.size=W.size/\(∃i p,g[0]?=C (Go.Conc.woken P i p e n))/\bB P g e (b++f) u y (λo=>if o=a then m else h o)/\cQ (b++f) e u/\aG P (b++f) e u 0 y/\Deaf (b++f) 0=Deaf b 0/\aF.pd m=(h a).pd/\(∀l d k,0<l->l<W.size->(h l).chan=C d->(e.heap[d]?=q.heap[d]?/\(Lr q d k->Lr e d k)))/\(∀c,y.tag=C c->(∃i,WgAt c.D.ty c.D.Wg q i 0)->(∃r,WgAt c.D.ty c.D.Wg e r 1)->g[0]?=C (n.again e))
theorem tF(a:E)(fn:XI)(d:String)(S:Xk XF):∀b∈XE a fn d S,b.g=a:=λb c=>by obtain⟨e,_,rfl⟩:=Go.Conc.mem_ofEvents c;rfl
theorem jL{f:Xt}(g:∀a,y.tag=C a->e.heap[a.D.Wg]?=q.heap[a.D.Wg]?):∀a,y.tag=C a->(∃b,WgAt a.D.ty a.D.Wg q b 0)->(∃d,WgAt a.D.ty a.D.Wg e d 1)->mayWake P c=J/\f.status≠.blocked/\f.status≠.waiting:=by intro a h⟨b,i⟩⟨d,k⟩;have:=(i.of_block (g a h)).unique k;omega
theorem tJ{i:E->aF}{t h:Xt}(sl:Xp (E×E))(v:bB P W q b U y i)(G:cQ b q U)(a5:aG P b q U 0 y)(b6:W[0]?=C t)(c0:0<a)(x:W[a]?=C c)
 (a7:stepG P Xf c q=.go h e S)(r:jU b q e U u a (XE a c.frame.fn c.frame.place S))(m:aF)(a2:Ms.lt m.ms (i a).ms)(c7:cw P a h e (b++XE a c.frame.fn c.frame.place S) u y m)(D:m.pd=(i a).pd)
 (p:∀d g,0<d->d<W.size->(i d).chan=C g->e.heap[g]?=q.heap[g]?)(a6:∀f,y.tag=C f->fw f.D a q e)(a8:∀f,y.tag=C f->dS f (λd=>if d=a then m else i d) W.size e u)
 (c8:∀f,y.tag=C f->(∃L,WgAt f.D.ty f.D.Wg q L 0)->(∃X,WgAt f.D.ty f.D.Wg e X 1)->mayWake P c=J/\h.status≠.blocked/\h.status≠.waiting):QC P W q sl b U y i a t:=by
 have a3:a<W.size:=(XN.1 x).1;have a1:(a==0)=Xf:=by simp;omega
 have c6:¬a=0:=by omega
 have s:∀d,d≠a->Deaf (b++XE a c.frame.fn c.frame.place S) d=Deaf b d:=λd l=>ZR b (g':=a) (λo=>l o.symm) _ (tF _ _ _ _);refine⟨m,_,e,_,u,A_ (P:=P) (sl:=sl) (i:=a) x (by rw[a1];exact a7),a2,by simp,⟨c,h,?_⟩,?_,G.step r,a5.other (by omega) r,s 0 (by omega),D,λd g k q1 b0 b1=>⟨p d g q1 b0 b1,λ⟨N,O,Q,R,T,b3⟩=>⟨N,O,Q,R,T,by grind⟩⟩,λf w b7 b8=>?_⟩
 rotate_right
 .grind [Go.Conc.woken]
 .simp_all
 refine v.jS G r (iV.refl y) (by simp) (λd l z=>mQ d l λb2 H=>(v.each d b2 z H).woken c h λg n=>p d g z (XN.1 H).1 n) s (λd g Y Z _ a0=>p d g Y Z a0) a3 (λb5 _ b9=>?_) (λg n=>by rw[aF.cA,D,<-aF.cA]at n;exact⟨g,n⟩)
  (λd l _ a9 a4=>by rw[tF _ _ _ _ a9 a4];exactλo=>l o.symm) a6 (λf w=>by simpa using a8 f w)
 simp_all
theorem fF{n:E->aF}{v:aF}(T:bB P W q b U y n)(a1:jU b q e U u j f)(X:∀r,r<q.heap.size->(U (.obj r)=.sync\/U (.obj r)=.void)->(∀Q N cl L O w,q.heap[r]?≠C (.chan Q N cl L O w))->e.heap[r]?=q.heap[r]?)(a0:v.cnt=(n j).cnt/\v.iK=(n j).iK/\v.wW=(n j).wW)(Z:(∀p,v=.wk p->∃R,n j=.wk R)/\∀p,n j=.wk p->∃R,v=.wk R):
 (∀d,y.tag=C d->fw d.D j q e)/\∀d,y.tag=C d->dS d (λl=>if l=j then v else n l) W.size e u:=by
 have H:∀d,y.tag=C d->e.heap[d.D.Wg]?=q.heap[d.D.Wg]?/\e.heap[d.D.gb]?=q.heap[d.D.gb]?:=by
  intro d i;have t:=T.wg d i;refine⟨X _ t.pU (Xh (t.rJ _ (Xh A))) λQ N cl L O w g=>?_,X _ t.tX (Xi t.zQ) λQ N cl L O w g=>?_⟩
  .obtain⟨_,_,D⟩:=t.mode.live;have:q.heap[d.D.Wg]?=_:=D;rw[g]at this;cases this
  obtain⟨_,_,D,_⟩:=t.gb;rw[g]at D;cases D
 refine⟨λd i=>fw.same (H d i).1 (H d i).2,λd i=>(T.wg d i).keep a1 (H d i).1 (λY=>Y.same (H d i).2) (λl=>?_) (λl p g=>?_) λl p g=>?_⟩
 .by_cases z:l=j
  .subst z;simp only[Yc];exact a0
  simp only[z,Yf];simp
 .by_cases z:l=j
  .subst z;simp only[Yc]at g;exact Z.1 p g
  simp only[z,Yf]at g;exact⟨p,g⟩
 grind
theorem dU{fn:XI}{f:String}(g:∀c∈S,∀b,c.loc≠.mark (.release b)):∀d∈XE a fn f S,∀b,d.act≠.mark (.release b):=by
 intro d e b h;obtain⟨c,i,rfl⟩:=Go.Conc.mem_ofEvents e
 grind [fE]
theorem qR{a:XF}(b:a.mute=J):a.loc=.mark .disable\/a.loc=.mark .enable:=by
 obtain⟨c,d,y⟩:=a;cases c with
 |mark s=>cases s<;>first|(cases b;done)|simp|simp
 |_=>cases b
theorem nI{fn:XI}{g:String}(i:∀c∈S,(XM c).touch?=F)(f:∀c∈S,∀d,c.loc≠.mark (.release d)):jU b q q U U a (XE a fn g S):=
 mK (λl e m k=>by
  obtain⟨c,h,rfl⟩:=Go.Conc.mem_ofEvents e
  simp_all) (dU f)
theorem yU{d:Xw}{c f:E}(g:RelBy d b c f){fn:XI}{e:String}(i:∀a∈S,(XM a).touch?=F):RelBy d (b++XE c fn e S) c f:=
 g.appOwn fn e S λj a h=>Xh (i a (Ys h))
theorem tC{a b:Ms}(c:a.1<b.1):Ms.lt a b:=by obtain⟨d,e⟩:=a;obtain⟨f,g⟩:=b;exact .left _ _ c
theorem zG{g:E->aF}{i:aF}(l:a<k):sumTo k (λd=>(if d=a then i else g d:aF).cnt)+(g a).cnt=sumTo k (λd=>(g d).cnt)+i.cnt:=
 Go.ConcN.sumTo_upd g i aF.cnt l
theorem dS.zF{b:dm}{c:E->aF}(e:dS b c k q U):sumTo k (λd=>(c d).cnt)<=b.hi-b.lo:=by
 have one:∀a,a<k->(c a).cnt<=if b.lo<=a/\a<b.hi then 1 else 0:=by
  intro a l;rcases Ye a with rfl|h
  .rw[e.zero];exact YA _
  have f:=e.Ia a;generalize c a=n at f;cases n with
  |wk g=>rw[XC (f g h l A)];cases g<;>simp only[aF.cnt,nD.cnt]<;>(try split)<;>omega
  |_=>simp[aF.cnt]
 have r:∀j,j<=k->sumTo j (λd=>(c d).cnt)<=min j b.hi-b.lo:=by
  intro j
  induction j with
  |zero=>intro _;simp[sumTo]
  |succ j m=>intro p;have o:=m (by omega);have i:=one j (by omega);simp only[sumTo];split at i<;>omega
 grind
theorem zF(b:E->aF)(k:E):sumTo k (λa=>(b a).cnt)<=k:=by
 have:=Go.ConcN.sumTo_le (f:=λa=>(b a).cnt) (c:=1) (j:=k) λa _=>by
  show(b a).cnt<=1;generalize b a=c;cases c with
  |wk d=>cases d<;>simp only[aF.cnt,nD.cnt]<;>(try split)<;>omega
  |_=>simp[aF.cnt]
 omega
theorem Sk{f:dm}{x:E->aF}{u:E}{fn:XI}{w:String}(g:dS f x k q U)(n:∀c∈S,(XM c).touch?=F\/∃d wr,c=⟨.cell d,wr,J⟩/\d.block=f.D.Wg)(t:∀c∈S,∀p,c.loc≠.mark (.release p)):
 jU b q (q.setCell ⟨f.D.Wg,u,F⟩ o) U U a (XE a fn w S) where
 size:=by simp
 os:=A
 out:=A
 heap:=λm D=>by
  by_cases r:m=f.D.Wg
  .subst r;exact Xi (Xh (Xh (g.rJ _ (Xh A))))
  grind [Go.RowKit.Below.heap_setCell]
 old:=λ_ _ _ _=>rfl
 new:=λH m _ e z=>by grind [World.size_setCell]
 touch:=λv l y h s=>by
  obtain⟨c,i,rfl⟩:=Go.Conc.mem_ofEvents l;rcases n c i with e|⟨d,wr,rfl,e⟩
  .simp_all
  simp[XM,MemAct.touch?]at h;subst h;refine⟨A,f.D.Wg,Xi ⟨d,A,e⟩,by rw[M.size_setCell];exact g.pU,Xi ⟨g.pU,Xi (Xi ⟨g.rJ _ (Xi ⟨d,A,e⟩),Xh A⟩)⟩⟩
 norel:=dU t
 jB:=Xh λv l y h s=>by
  obtain⟨c,i,rfl⟩:=Go.Conc.mem_ofEvents l;rcases n c i with e|⟨d,wr,rfl,e⟩
  .simp_all
  simp[XM,MemAct.touch?]at h;subst h;exact g.rJ _ (Xi ⟨d,A,e⟩)
theorem AW{d:dm}{g:E->aF}{l:aF}{p x:nD}(b:dS d g k q U)(a5:0<a)(s:g a=.wk p)(R:l=.wk x)(a3:fw d.D a q e)(H:tU d.D e)(N:tW d.D e)(m:∀f h,az f h->h<q.heap.size->u f=U f)(L:IP d.D e u)(Q:dY d (λc=>if c=a then l else g c) k e (sumTo k λc=>(if c=a then l else g c:aF).cnt))(O:a<k)(a4:x.cnt<=p.cnt):dS d (λc=>if c=a then l else g c) k e u where
 zero:=by have:¬0=a:=by omega
          simp only[this,Yf];exact b.zero
 mode:=Q
 rJ:=λf n=>by rw[m f _ n b.pU];exact b.rJ f n
 zQ:=by rw[m _ _ (.inl A) b.tX];exact b.zQ
 own:=λc w y z o t v D=>by
  rw[m (.cell ⟨d.D.gb,t,v⟩) d.D.gb (.inr ⟨_,A,A⟩) b.tX];by_cases i:c=a
  .subst i;exact b.own c p y z s t v D
  simp only[i,Yf]at o;exact b.own c w y z o t v D
 gb:=H
 gv:=N
 KV:=by rw[m _ _ (.inl A) b.Um];exact b.KV
 ne:=b.ne
 apart:=b.apart
 yt:=b.yt
 bound:=by
  have Z:=zG (g:=g) (i:=l) O;have a0:l.cnt=x.cnt:=by rw[R];rfl
  have a1:(g a).cnt=p.cnt:=by rw[s];rfl
  have a2:=b.bound;omega
 tT:=⟨b.tT.1,b.tT.2.1,b.tT.2.2.1,λc r h=>by
  by_cases i:c=a
  .simp_all
  simp only[i,Yf];exact b.tT.2.2.2 c r h⟩
 Ia:=λc w r h o=>by
  by_cases i:c=a
  .subst i;exact b.Ia c p r h s
  simp only[i,Yf]at o;exact b.Ia c w r h o
 gh:=L
 KU:=λf n=>by rw[m f _ n b.tX];exact b.KU f n
theorem AN{d:dm}{r:E->aF}(g:dS d r k q U){i:E}(p:WgLive d.D.ty d.D.Wg (q.setCell ⟨d.D.Wg,i,F⟩ o)):fw d.D a q (q.setCell ⟨d.D.Wg,i,F⟩ o)/\tU d.D (q.setCell ⟨d.D.Wg,i,F⟩ o):=
 ⟨⟨λ_=>p,λl v t n=>⟨l,(Go.RowKit.Below.heap_setCell q _ o _ g.ne).trans n,A,λ_ _ _ _=>rfl⟩⟩,g.gb.same (Go.RowKit.Below.heap_setCell q _ o _ g.ne)⟩
theorem nU{a:dm}{e:E->aF}(c:dS a e k q U){d:E}{cl:bE}(b:di a.D h m cl q):di a.D h m cl (q.setCell ⟨a.D.Wg,d,F⟩ o):=b.same (Go.RowKit.Below.heap_setCell q _ o _ c.ne)
theorem Ky{c:dm}{s:E->aF}{l:bR}(n:dS c s k q U)(h:aG P b q U a l){i:E}(r:jU b q (q.setCell ⟨c.D.Wg,i,F⟩ o) U U a f):aG P (b++f) (q.setCell ⟨c.D.Wg,i,F⟩ o) U a l:=
 h.stay r λm g p=>Go.RowKit.Below.heap_setCell q _ o g λd=>by have d:g=c.D.Wg:=d;subst d;rcases h.dv m _ p _ (Xh A)with e|⟨e,_⟩<;>(rw[n.rJ _ (.inl A)]at e;cases e)
theorem QJ{l:E->aF}{m:Xt}{d:dm}{s f:E}{cl:bE}{h:bR}(sl:Xp (E×E))(n:bB P W q b U y l)(G:cQ b q U)(T:aG P b q U 0 y)(u:W[0]?=C m)(N:0<a)(L:W[a]?=C c)(R:c.status=.running)
 (g:l a=.wk (.quit s f cl h))(H:y.tag=C d)(Q:uI d.D a cl)(O:Em P d.D d.fin a c q b U (.quit s f cl h)):QC P W q sl b U y l a m:=by
 obtain⟨v,w,x,z,D⟩:=O;obtain⟨t,a2,S,rfl,q1,Z,a3⟩:=lU D R;have r:∀e∈S,(XM e).touch?=F:=λe i=>touch_mute (q1 e i)
 have k:jU b q q U U a (XE a c.frame.fn c.frame.place S):=nI r λe i a1 o=>by rcases qR (q1 e i)with p|p<;>(rw[p]at o;cases o)
 obtain⟨X,Y⟩:=fF (v:=.wk (.quit t f cl h)) n k (λ_ _ _ _=>rfl) (by rw[g];exact⟨A,A,A⟩) ⟨λa0 _=>⟨_,g⟩,λa0 _=>⟨_,A⟩⟩;refine tJ sl n G T u N L (Z q) k (.wk (.quit t f cl h)) (by rw[g];exact .right _ (.left _ _ (Zx _))) ⟨d,H,Q,yU v r,w.stay k λ_ _ _=>rfl,x,z,?_⟩ (by rw[g];rfl) (λ_ _ _ _ _=>rfl) X Y (jL λ_ _=>rfl);simp_all [ZM]
theorem II{n:E->aF}{c8:Xt}{d:dm}{p R:E}{cl:bE}{Q:bR}(sl:Xp (E×E))(z:bB P W q b U y n)(G:cQ b q U)(h8:aG P b q U 0 y)(g7:W[0]?=C c8)(a2:0<a)(f3:W[a]?=C c)(m3:c.status=.running){a7:nD}
 (b5:n a=.wk a7)(j6:9-p<(n a).ms.1\/a7=.done p s R cl Q)(H:a7.cnt=(nD.done p s R cl Q).cnt/\a7.iK=(nD.done p s R cl Q).iK/\a7.wW=(nD.done p s R cl Q).wW)(c9:y.tag=C d)(h6:uI d.D a cl)(j9:Em P d.D d.fin a c q b U (.done p s R cl Q)):QC P W q sl b U y n a c8:=by
 have a3:=(XN.1 f3).1;have D:=z.wg d c9;obtain⟨j3,b0,hrel,h9,c0,c6,d3⟩:=j9
 have h5:∀l:Ms,l.1<9-p\/(l.1=9-p/\l.2.1<s)->Ms.lt l (n a).ms:=by
  intro l d4;rcases j6 with a8|a8
  .exact tC (by rcases d4 with z|⟨z,_⟩<;>omega)
  rw[b5,a8];obtain⟨i5,i6,i7⟩:=l;rcases d4 with z|⟨z,g6⟩
  .exact .left _ _ z
  simp only at z g6;subst z;exact .right _ (.left _ _ g6)
 have e5:∀(r:nD)(b7:Xt)(S:Xk XF),stepG P Xf c q=.go b7 q S->(∀g∈S,(XM g).touch?=F\/∃N wr,g=⟨.cell N,wr,J⟩/\N.block=d.D.Wg)->(∀g∈S,∀l,g.loc≠.mark (.release l))->
  ((aF.wk r).ms.1<9-p\/((aF.wk r).ms.1=9-p/\(aF.wk r).ms.2.1<s))->r.cl=cl->r.cnt<=a7.cnt->dY d (λj=>if j=a then .wk r else n j) W.size q (sumTo W.size λj=>(if j=a then .wk r else n j:aF).cnt)->
  (∀(f:XD),f=XE a c.frame.fn c.frame.place S->aG P (b++f) q U a Q->Em P d.D d.fin a b7 q (b++f) U r)->QC P W q sl b U y n a c8:=by
  intro r b7 S X a5 f4 d4 g0 f2 e1 f9
  have d1:jU b q q U U a (XE a c.frame.fn c.frame.place S):=by
   refine⟨XS _,A,λt _=>Xi (Xi (Xh A)),λ_ _ _ _=>rfl,λm4 t _ v a8=>by omega,λk9 f5 l2 b8 b3=>?_,dU f4,Xh λk9 f5 l2 b8 b3=>?_,A⟩
   rotate_left
   .obtain⟨g,i,rfl⟩:=Go.Conc.mem_ofEvents f5;rcases a5 g i with v|⟨N,wr,rfl,v⟩
    .rw[v]at b8;cases b8
    simp[XM,MemAct.touch?]at b8;subst b8;exact D.rJ _ (Xi ⟨N,A,v⟩)
   obtain⟨g,i,rfl⟩:=Go.Conc.mem_ofEvents f5;rcases a5 g i with v|⟨N,wr,rfl,v⟩
   .rw[v]at b8;cases b8
   simp[XM,MemAct.touch?]at b8;subst b8;exact⟨A,d.D.Wg,Xi ⟨N,A,v⟩,D.pU,Xi ⟨D.pU,Xi (Xi ⟨D.rJ _ (Xi ⟨N,A,v⟩),Xh A⟩)⟩⟩
  refine tJ sl z G h8 g7 a2 f3 X d1 (.wk r) (h5 _ d4) ⟨d,c9,by rw[g0];exact h6,f9 _ A (h9.stay d1 λ_ _ _=>rfl)⟩ (by rw[b5];rfl) (λ_ _ _ _ _=>rfl) (λd9 a9=>fw.same A rfl) (λd9 a9=>?_) (jL λ_ _=>rfl);rw[c9]at a9;cases a9;exact AW D a2 b5 A (fw.same A rfl) D.gb D.gv (λ_ _ _ _=>rfl) D.gh e1 a3 f2
 have jS:∀(r:nD)(b7:Xt)(S:Xk XF)(b9:E)(o:Xe),stepG P Xf c q=.go b7 (q.setCell ⟨d.D.Wg,b9,F⟩ o) S->(∀g∈S,(XM g).touch?=F\/∃N wr,g=⟨.cell N,wr,J⟩/\N.block=d.D.Wg)->(∀g∈S,∀l,g.loc≠.mark (.release l))->
  (aF.wk r).ms.1<9-p->((∃t,WgAt d.D.ty d.D.Wg (q.setCell ⟨d.D.Wg,b9,F⟩ o) t 0)\/(mayWake P c=J/\b7.status≠.blocked/\b7.status≠.waiting))->r.cl=cl->r.cnt<=a7.cnt->dY d (λj=>if j=a then .wk r else n j) W.size (q.setCell ⟨d.D.Wg,b9,F⟩ o) (sumTo W.size λj=>(if j=a then .wk r else n j:aF).cnt)->
  (∀(f:XD),f=XE a c.frame.fn c.frame.place S->aG P (b++f) (q.setCell ⟨d.D.Wg,b9,F⟩ o) U a Q->Em P d.D d.fin a b7 (q.setCell ⟨d.D.Wg,b9,F⟩ o) (b++f) U r)->QC P W q sl b U y n a c8:=by
  intro r b7 S b9 o X a5 f4 d4 f6 g0 f2 e1 f9;have d1:jU b q (q.setCell ⟨d.D.Wg,b9,F⟩ o) U U a (XE a c.frame.fn c.frame.place S):=Sk D a5 f4;obtain⟨i3,l1⟩:=AN (a:=a) (i:=b9) (o:=o) D e1.live
  refine tJ sl z G h8 g7 a2 f3 X d1 (.wk r) (h5 _ (Xh d4)) ⟨d,c9,by rw[g0];exact h6,f9 _ A (Ky D h9 d1)⟩ (by rw[b5];rfl) (λj L O j1 d0=>Go.RowKit.Below.heap_setCell q _ o L λg=>?_) (λd9 a9=>by rw[c9]at a9;cases a9;exact i3) (λd9 a9=>?_) (λd9 a9 _⟨t,i9⟩=>by
   rw[c9]at a9;cases a9;rcases f6 with⟨L,d0⟩|f6
   .have:=(d0.unique i9).2;omega
   exact f6)
  .have g:L=d.D.Wg:=g;subst g;rw[aF.cA]at d0;cases b4:(n j).pd with
   |none=>rw[b4]at d0;cases d0
   |some g2=>
    rw[b4]at d0;obtain⟨_,_,k5⟩:=D.mode.live;have e4:q.heap[d.D.Wg]?=_:=k5;have e2:=z.each j _ O (XP j1)
    have:∃l t L w g d5,q.heap[g2.rc]?=C (.chan l t L w g d5):=by
     generalize n j=l0 at e2 b4;cases l0 with
     |lv c7=>cases b4
     |wk r=>cases b4
     |pr g3 s d Q=>cases b4;obtain⟨_,_,⟨i2,g4,a0⟩,_⟩:=e2;exact⟨_,_,_,_,_,_,a0.heap⟩
     |pb g3 s d Q l6 m9 n1=>cases b4;obtain⟨_,_,_,⟨i2,g4,a0,_⟩,_⟩:=e2;exact⟨_,_,_,_,_,_,a0.heap⟩
     |pq g3 c7=>cases b4;obtain⟨⟨i2,g4,a0⟩,_⟩:=e2;exact⟨_,_,_,_,_,_,a0.heap⟩
    obtain⟨i5,i6,i7,l3,l4,l5,a0⟩:=this;have j0:g2.rc=d.D.Wg:=YF d0;rw[j0,e4]at a0;cases a0
  rw[c9]at a9;cases a9;exact AW D a2 b5 A i3 l1 (D.gv.step d1 D.KV) (λ_ _ _ _=>rfl) (D.gh.step d1) e1 a3 f2
 have same:∀(r:nD),r.cnt=a7.cnt->r.iK=a7.iK->r.wW=a7.wW->dY d (λj=>if j=a then .wk r else n j) W.size q (sumTo W.size λj=>(if j=a then .wk r else n j:aF).cnt):=by
  intro r v a8 a0
  have e8:(λj=>(if j=a then .wk r else n j:aF).cnt)=λj=>(n j).cnt:=by
   funext j;by_cases O:j=a
   .subst O;simp only[Yc,b5];exact v
   simp only[O,Yf]
  rw[e8];refine D.mode.same A λj=>?_;by_cases O:j=a
  .subst O;simp only[Yc,b5];exact⟨a8,a0⟩
  simp only[O,Yf];simp
 have e0:(n a).cnt=a7.cnt:=by rw[b5];rfl
 have d2:(n a).iK=a7.iK:=by rw[b5];rfl
 have f7:(n a).wW=a7.wW:=by rw[b5];rfl
 have k8:∀Z T,Z<s->stepG P Xf c q=.go T q #[]->Go.Conc.Goes P Xf (Go.SimW.RL d.D.ty d.D.Wg) Go.ConcR.DC0 (Go.SimW.QS P d.D.ty d.D.Wg p) Z T q->QC P W q sl b U y n a c8:=by
  intro Z T j5 X b2;refine e5 (.done p Z R cl Q) T #[] X (by simp) (by simp) (Xi ⟨A,j5⟩) A (ZZ H.1.symm) (same _ H.1.symm H.2.1.symm H.2.2.symm) λf a1 Y=>?_;have k3:b++f=b:=by rw[a1];simp[XE]
  rw[k3]at Y⊢
  exact⟨j3,b0,hrel,Y,c0,c6,b2⟩
 have g1:(n a).iK=1->(n a).wW=p->(∀j,0<j->j<W.size->j≠a->(n j).iK=0)/\sumTo W.size (λp=>(n p).cnt)=0/\WgAt d.D.ty d.D.Wg q (if p<=4 then 1 else 0) 0:=by
  intro v a8;have b3:=D.mode;generalize g9:(sumTo W.size λp=>(n p).cnt)=V at b3;cases b3 with
  |opn l x t L=>rw[t a a2 a3]at v;cases v
  |reg l i4 t L=>rw[t a a2 a3]at v;cases v
  |fin l t L=>rw[t a a2 a3]at v;cases v
  |By l t L=>rw[t a a2 a3]at v;cases v
  |last i1 l t L w g d5=>
   have:a=i1:=Classical.byContradiction λj8=>by rw[w a a2 a3 j8]at v;cases v
   subst this;exact⟨w,A,by rw[a8]at d5;exact d5⟩
 have e6:∀r:aF,r.cnt=0->sumTo W.size (λp=>(n p).cnt)=0->(n a).cnt=0->sumTo W.size (λj=>(if j=a then r else n j:aF).cnt)=0:=λr v a8 a0=>by have:=zG (g:=n) (i:=r) a3;omega
 have f0:(n a).iK=1->d.wt=1:=by
  intro v;have b3:=D.mode;generalize g9:(sumTo W.size λp=>(n p).cnt)=V at b3;cases b3 with
  |opn l x t L=>rw[t a a2 a3]at v;cases v
  |reg l i4 t L=>exact l
  |fin l t L=>exact l
  |By l t L=>rw[t a a2 a3]at v;cases v
  |last i1 l t L w g d5=>exact l
 have stop:Go.SimW.QS P d.D.ty d.D.Wg p c q->QC P W q sl b U y n a c8:=by
  intro a4;have j2:p=0\/p=1\/p=2\/p=3\/p=4\/p=5:=by omega
  rcases j2 with rfl|rfl|rfl|rfl|rfl|rfl
  ·
   obtain⟨_,T,X,Z,b2⟩:=a4;refine e5 (.done 1 Z b.size cl Q) T _ X (λg i=>?_) (λg i l f1=>?_) (Xh (by show 9-1<9-0;omega)) A (ZZ H.1.symm) (same _ H.1.symm H.2.1.symm (H.2.2.symm)) λf a1 Y=>?_
   .simp[Go.ConcR.mk]at i;subst i;exact Xh A
   .simp[Go.ConcR.mk]at i;subst i;cases f1
   subst a1;refine⟨by omega,?_,λ_=>RelBy.new (by simpa using b0) _ _,Y,c0,c6,b2⟩;rw[ZM,b0];rfl
  .obtain⟨_,T,X,Z,b2⟩:=a4;refine e5 (.done 2 Z R cl Q) T _ X (λg i=>?_) (λg i l f1=>?_) (Xh (by show 9-2<9-1;omega)) A (ZZ H.1.symm) (same _ H.1.symm H.2.1.symm (H.2.2.symm)) λf a1 Y=>?_
   .simp[Go.ConcR.mk]at i;subst i;exact Xh A
   .simp[Go.ConcR.mk]at i;subst i;cases f1
   subst a1;refine⟨by omega,?_,λ_=>yU (hrel (by omega)) (λg i=>by simp[Go.ConcR.mk]at i;subst i;rfl),Y,c0,c6,b2⟩;rw[ZM,b0];rfl
  ·
   obtain⟨_,a4⟩:=a4;have l7:(n a).cnt=1:=by rw[e0,H.1];rfl
   have m0:(n a).iK=0:=by rw[d2,H.2.1];rfl
   have e3:∀r:aF,r.cnt=0->sumTo W.size (λj=>(if j=a then r else n j:aF).cnt)+1=sumTo W.size λp=>(n p).cnt:=λr e4=>by have:=zG (g:=n) (i:=r) a3;omega
   have jB:∀g∈#[Go.ConcR.rd (stA d.D.Wg),Go.ConcR.wr (stA d.D.Wg)],((XM g).touch?=F\/∃N wr,g=⟨.cell N,wr,J⟩/\N.block=d.D.Wg)/\∀l,g.loc≠.mark (.release l):=by intro g i;simp[Go.ConcR.rd,Go.ConcR.wr]at i;rcases i with rfl|rfl<;>exact⟨Xi ⟨_,_,A,A⟩,λl z=>by cases z⟩
   have h3:Deaf b a=1:=b0
   have h2:RelBy (stA d.D.Wg) (b++XE a c.frame.fn c.frame.place #[Go.ConcR.rd (stA d.D.Wg),Go.ConcR.wr (stA d.D.Wg)]) a R:=(hrel (by omega)).appOwn _ _ _ λj g i=>by
    have O:j=0\/j=1:=by have:=(XN.1 i).1;simp at this;omega
    rcases O with rfl|rfl<;>(simp[Go.ConcR.rd,Go.ConcR.wr]at i;subst i;exact Xi ⟨⟨_,_,A⟩,by rw[h3];exact E.one_pos⟩)
   have h4:Deaf (b++XE a c.frame.fn c.frame.place #[Go.ConcR.rd (stA d.D.Wg),Go.ConcR.wr (stA d.D.Wg)]) a=1:=by rw[ZM,h3];rfl
   have l8:=D.zF;have l9:=D.yt
   have g5:∀(o a6 pd:E),a6<=1->pd<=1->(a6=1->pd=0)->(a6=0->d.pend=pd)->o+1=sumTo W.size (λp=>(n p).cnt)+pd->WgAt d.D.ty d.D.Wg q ((o+1)*KK+a6) 0->d.wt=a6->(∀j,0<j->j<W.size->(n j).iK=0)->QC P W q sl b U y n a c8:=by
    intro o a6 pd k7 m1 k6 k1 k4 i0 g8 h0;obtain⟨T,X,j4,k2⟩:=a4 o a6 k7 (by omega) i0;have b6:WgAt d.D.ty d.D.Wg (q.setCell ⟨d.D.Wg,0,F⟩ (.int .u64 ((o:Xj)*KK+a6))) ((o:Xj)*KK+a6) 0:=i0.setSt ((o:Xj)*KK+a6);by_cases f8:o=0/\a6=1
    .obtain⟨Z,b2⟩:=j4 f8;refine jS (.done 3 Z R cl Q) T _ 0 _ X (λg i=>(jB g i).1) (λg i=>(jB g i).2) (by show 9-3<9-2;omega) (Xh ⟨_,b6⟩) A (YA _) ?_ λf a1 Y=>?_
     .have e7:sumTo W.size (λj=>(if j=a then aF.wk (.done 3 Z R cl Q)else n j:aF).cnt)=0:=by
       have:=e3 (.wk (.done 3 Z R cl Q)) A;omega
      rw[e7];refine .last a (by omega) a2 a3 (λj l t L=>by simp only[L,Yf];exact h0 j l t) (by simp only[Yc];rfl) ?_;obtain⟨rfl,rfl⟩:=f8;simpa[aF.wW,nD.wW]using b6
     subst a1;exact⟨by omega,h4,λ_=>h2,Y,nU D c0,c6,b2⟩
    obtain⟨c7,d7⟩:=k2 f8;refine jS (.quit c7 R cl Q) T _ 0 _ X (λg i=>(jB g i).1) (λg i=>(jB g i).2) (by show 1<9-2;omega) (Xh ⟨_,b6⟩) A (YA _) ?_ λf a1 Y=>?_
    .have e7:sumTo W.size (λj=>(if j=a then aF.wk (.quit c7 R cl Q)else n j:aF).cnt)=o-pd:=by
      have:=e3 (.wk (.quit c7 R cl Q)) A;omega
     rw[e7]
     have h1:∀j,0<j->j<W.size->(if j=a then aF.wk (.quit c7 R cl Q)else n j:aF).iK=0:=λj l t=>by
      by_cases O:j=a
      .simp only[O,Yc];rfl
      simp only[O,Yf];exact h0 j l t
     obtain rfl|rfl:a6=0\/a6=1:=by omega
     .have h7:=k1 A;refine .opn g8 (by omega) h1 ?_;have m2:1<=sumTo W.size λp=>(n p).cnt:=by have:=e3 (.lv 0) A;omega
      have e9:((o-pd+d.pend:E):Xj)=(o:Xj):=by omega
      rw[e9];simpa using b6
     have h7:=k6 A;subst h7;exact .reg g8 (by omega) h1 (by simpa using b6)
    subst a1;exact⟨h2,Y,nU D c0,c6,by rw[h4];exact d7⟩
   have k0:1<=sumTo W.size λp=>(n p).cnt:=by have:=e3 (.lv 0) A;omega
   have b3:=D.mode;generalize g9:(sumTo W.size λp=>(n p).cnt)=V at b3 k0;obtain⟨o,rfl⟩:∃o,V=o+1:=⟨V-1,by omega⟩;cases b3 with
   |opn v b4 a8 a0=>exact g5 (o+d.pend) 0 d.pend (by omega) b4 (by omega) (λ_=>rfl) (by omega) (by
     have e9:((o+d.pend:E):Xj)+1=((o+1+d.pend:E):Xj):=by omega
     rw[e9];simpa using a0) v a8
   |reg v k4 a8 a0=>exact g5 o 1 0 (by omega) (by omega) (by omega) (by omega) (by omega) (by simpa using a0) v a8
  .obtain⟨_,a4⟩:=a4;obtain⟨d6,d8,b1⟩:=g1 (by rw[d2,H.2.1];rfl) (by rw[f7,H.2.2];rfl);obtain⟨T,X,Z,b2⟩:=a4 (by simpa using b1)
   have a5:∀g∈#[Go.ConcR.rd (stA d.D.Wg)],((XM g).touch?=F\/∃N wr,g=⟨.cell N,wr,J⟩/\N.block=d.D.Wg)/\∀l,g.loc≠.mark (.release l):=by intro g i;simp[Go.ConcR.rd]at i;subst i;exact⟨Xi ⟨_,_,A,A⟩,λl z=>by cases z⟩
   refine e5 (.done 4 Z R cl Q) T _ X (λg i=>(a5 g i).1) (λg i=>(a5 g i).2) (Xh (by show 9-4<9-3;omega)) A (YA _) ?_ λf a1 Y=>?_
   .rw[e6 _ A d8 (by rw[e0,H.1];rfl)];exact .last a (f0 (by rw[d2,H.2.1];rfl)) a2 a3 (λj l t L=>by simp only[L,Yf];exact d6 j l t L) (by simp only[Yc];rfl) (by simp only[Yc];simpa[aF.wW,nD.wW]using b1)
   subst a1
   exact⟨by omega,by rw[ZM,b0];rfl,λ_=>(hrel (by omega)).appOwn _ _ _ (λj g i=>by
    have O:j=0:=by have:=(XN.1 i).1;simp at this;omega
    subst O;simp[Go.ConcR.rd]at i;subst i
    exact Xi ⟨⟨_,_,A⟩,by rw[b0];exact E.one_pos⟩),Y,c0,c6,b2⟩
  .obtain⟨_,a4⟩:=a4;obtain⟨d6,d8,b1⟩:=g1 (by rw[d2,H.2.1];rfl) (by rw[f7,H.2.2];rfl);have b1:WgAt d.D.ty d.D.Wg q 1 0:=by simpa using b1
   obtain⟨T,X,Z,b2⟩:=a4 b1;have b6:WgAt d.D.ty d.D.Wg (q.setCell ⟨d.D.Wg,0,F⟩ (.int .u64 0)) 0 0:=b1.setSt 0
   have a5:∀g∈#[Go.ConcR.wr (stA d.D.Wg)],((XM g).touch?=F\/∃N wr,g=⟨.cell N,wr,J⟩/\N.block=d.D.Wg)/\∀l,g.loc≠.mark (.release l):=by intro g i;simp[Go.ConcR.wr]at i;subst i;exact⟨Xi ⟨_,_,A,A⟩,λl z=>by cases z⟩
   refine jS (.done 5 Z R cl Q) T _ 0 _ X (λg i=>(a5 g i).1) (λg i=>(a5 g i).2) (by show 9-5<9-4;omega) (Xh ⟨_,b6⟩) A (YA _) ?_ λf a1 Y=>?_
   .rw[e6 _ A d8 (by rw[e0,H.1];rfl)];exact .last a (f0 (by rw[d2,H.2.1];rfl)) a2 a3 (λj l t L=>by simp only[L,Yf];exact d6 j l t L) (by simp only[Yc];rfl) (by simp only[Yc];simpa[aF.wW,nD.wW]using b6)
   subst a1
   exact⟨by omega,by rw[ZM,b0];rfl,λ_=>(hrel (by omega)).appOwn _ _ _ (λj g i=>by
    have O:j=0:=by have:=(XN.1 i).1;simp at this;omega
    subst O;simp[Go.ConcR.wr]at i;subst i
    exact Xi ⟨⟨_,_,A⟩,by rw[b0];exact E.one_pos⟩),Y,nU D c0,c6,b2⟩
  obtain⟨_,j7,a4⟩:=a4;obtain⟨d6,d8,b1⟩:=g1 (by rw[d2,H.2.1];rfl) (by rw[f7,H.2.2];rfl);have b1:WgAt d.D.ty d.D.Wg q 0 0:=by simpa using b1
  obtain⟨T,X,c7,d7⟩:=a4 b1;have b6:WgAt d.D.ty d.D.Wg (q.setCell ⟨d.D.Wg,1,F⟩ (.int .u32 1)) 0 1:=b1.setSm 1
  have a5:∀g∈semEvents (smA d.D.Wg),((XM g).touch?=F\/∃N wr,g=⟨.cell N,wr,J⟩/\N.block=d.D.Wg)/\∀l,g.loc≠.mark (.release l):=by
   intro g i;simp[semEvents]at i;rcases i with rfl|rfl|rfl|rfl
   .exact⟨Xh A,λl z=>by cases z⟩
   .exact⟨Xi ⟨_,_,A,A⟩,λl z=>by cases z⟩
   .exact⟨Xi ⟨_,_,A,A⟩,λl z=>by cases z⟩
   exact⟨Xh A,λl z=>by cases z⟩
  refine jS (.quit c7 R cl Q) T _ 1 _ X (λg i=>(a5 g i).1) (λg i=>(a5 g i).2) (by show 1<9-5;omega) (Xi ⟨j7,by rcases d7.status with z|z<;>(rw[z];simp),by rcases d7.status with z|z<;>(rw[z];simp)⟩) A (YA _) ?_ λf a1 Y=>?_
  .rw[e6 _ A d8 (by rw[e0,H.1];rfl)];refine .fin (f0 (by rw[d2,H.2.1];rfl)) (λj l t=>?_) b6;by_cases O:j=a
   .simp only[O,Yc];rfl
   simp only[O,Yf];exact d6 j l t O
  subst a1;refine⟨(hrel (by omega)).appOwn _ _ _ (λj g i=>?_),Y,nU D c0,c6,by rw[ZM,b0];exact d7⟩;have O:j=0\/j=1\/j=2\/j=3:=by have:=(XN.1 i).1;simp[semEvents]at this;omega
  rcases O with rfl|rfl|rfl|rfl<;>(simp[semEvents]at i;subst i)
  .exact Xh A
  .exact Xi ⟨⟨_,_,A⟩,by rw[b0];simp[semEvents,deafBehind]⟩
  .exact Xi ⟨⟨_,_,A⟩,by rw[b0];simp[semEvents,deafBehind]⟩
  exact Xh A
 cases s with
 |zero=>exact stop (d3 q (Go.SimW.RL.refl q))
 |succ s=>
  rcases d3 with d3|⟨_,d3⟩
  .exact stop (d3 q (Go.SimW.RL.refl q))
  have e4:=d3 q (Go.SimW.RL.refl q);obtain⟨T,n0,S,e8,⟨rfl,rfl⟩,i8⟩:=aaG e4;exact k8 s T (Zx s) e8 i8
theorem QK{u:E->aF}{b3:Xt}{h:dm}{cl:bE}{b0:Tr}{p:bR}(sl:Xp (E×E))(n:bB P W q b U y u)(G:cQ b q U)(c6:aG P b q U 0 y)(b4:W[0]?=C b3)(T:0<a)(a6:W[a]?=C c)(g3:c.status=.running)
 (t:u a=.wk (.work s cl b0 p))(R:y.tag=C h)(b9:uI h.D a cl)(g1:Em P h.D h.fin a c q b U (.work s cl b0 p)):QC P W q sl b U y u a b3:=by
 have b7:=(XN.1 a6).1;have d:=n.wg h R;obtain⟨_,a1,O,b5,d6⟩:=g1
 have e0:∀(L:nD)(e:M),L.cnt=1->L.iK=0->L.wW=0->e.heap[h.D.Wg]?=q.heap[h.D.Wg]?->dY h (λj=>if j=a then .wk L else u j) W.size e (sumTo W.size λj=>(if j=a then .wk L else u j:aF).cnt):=by
  intro L e a5 o k e9
  have b2:(λj=>(if j=a then .wk L else u j:aF).cnt)=λj=>(u j).cnt:=by
   funext j;by_cases a7:j=a
   .subst a7;simp only[Yc,t];exact a5
   simp only[a7,Yf]
  rw[b2];refine d.mode.same e9 λj=>?_;by_cases a7:j=a
  .subst a7;simp only[Yc,t];exact⟨o,k⟩
  simp_all
 have e3:∀f r,0<f->f<W.size->(u f).chan=C r->∃v l w i a4 c,q.heap[r]?=C (.chan v l w i a4 c)/\U (.obj r)=.sync:=by
  intro f r z a8 N;rw[aF.cA]at N;cases g:(u f).pd with
  |none=>simp_all
  |some h6=>
   rw[g]at N;cases N;have a9:=n.each f _ z (XP a8);generalize u f=h1 at a9 g;cases h1 with
   |lv g8=>cases g
   |wk L=>cases g
   |pr c9 s h p=>cases g;obtain⟨_,_,⟨d9,d0,k⟩,_⟩:=a9;exact⟨_,_,_,_,_,_,k.heap,k.own⟩
   |pb c9 s h p i3 j3 j5=>cases g;obtain⟨_,_,_,⟨d9,d0,k,_⟩,_⟩:=a9;exact⟨_,_,_,_,_,_,k.heap,k.own⟩
   |pq c9 g8=>cases g;obtain⟨⟨d9,d0,k⟩,_⟩:=a9;exact⟨_,_,_,_,_,_,k.heap,k.own⟩
 have stop:kV P h.D (h.fin a) a p.S p.ro s cl p.β p.w c->QC P W q sl b U y u a b3:=by
  intro d3;cases s with
  |zero=>obtain⟨_,⟨g6,f5⟩,f3⟩:=d3;exact II sl n G c6 b4 T a6 g3 (p:=0) (s:=g6) (R:=0) (cl:=cl) (Q:=p) t (Xh (by rw[t];show 9-0<0+10;omega)) ⟨A,A,A⟩ R b9 ⟨by omega,a1,λn=>absurd n (by omega),O,b5,f3,f5 q d.mode.live⟩
  |succ s=>
   obtain⟨_,Q,h3,e1,e4,d7,b6,f1,g4,c7,f7⟩:=d3;obtain⟨e,S,b2,g,f2⟩:=c7 q d.gb;obtain⟨e2,e8⟩:=f7.tree;have d2:∀i∈S,∃f,f<e1.size/\i=⟨.cell ⟨h.D.gb,Q+f,F⟩,J,Xf⟩:=f2
   have f9:∀i∈S,∀v,i.loc≠.mark (.release v):=λi a2 v X=>by grind
   have H:jU b q e U U a (XE a c.frame.fn c.frame.place S):=by
    refine⟨by rw[g.size];simp,g.os,λl i4=>?_,λ_ _ _ _=>rfl,λi5 l _ a5 o=>by rw[g.size]at o;omega,λg7 b8 L X a3=>?_,dU f9,Xi ⟨a1,λg7 b8=>?_⟩,g.out⟩
    rotate_right
    .obtain⟨i,a2,rfl⟩:=Go.Conc.mem_ofEvents b8;obtain⟨f,z,rfl⟩:=d2 i a2;simp[XM]
    .by_cases d1:l=h.D.gb
     .subst d1;exact Xi (Xh (Xi d.zQ))
     exact Xi (Xi (Xh (g.block l d1)))
    obtain⟨i,a2,rfl⟩:=Go.Conc.mem_ofEvents b8;obtain⟨f,z,rfl⟩:=d2 i a2;simp[XM,MemAct.touch?]at X;subst X;exact⟨A,h.D.gb,Xi ⟨_,A,A⟩,by rw[g.size];exact d.tX,Xi ⟨d.tX,Xh (d.own a _ T b7 t _ _ (b6 f z))⟩⟩
   have f8:∀v l,p.β v l->e.heap[l]?=q.heap[l]?:=λv l f0=>g.block l λi=>by subst i;rcases O.dv v _ f0 _ (Xh A)with n|⟨n,_⟩<;>(rw[d.zQ]at n;cases n)
   have d5:=g.block _ (λi=>d.ne i.symm);have f4:tU h.D e:=by obtain⟨r,a0,q1,g9,j1⟩:=d.gb;obtain⟨b1,c8,d8,_⟩:=g.put r _ a0 q1;exact⟨b1,a0,c8,g9,by omega⟩
   have g5:fw h.D a q e:=by
    refine⟨λ⟨v,l,n⟩=>⟨v,l,n.of_block d5⟩,λr h2 a0 N=>?_⟩;obtain⟨b1,c8,d8,h0,_⟩:=g.put r h2 a0 N;refine⟨b1,c8,d8,λf Y f6 g0=>h0 Y (Classical.byContradiction λX=>?_)⟩;have:Q<=Y/\Y<Q+e1.size:=by omega
    have o:=b6 (Y-Q) (by omega);rw[show Q+(Y-Q)=Y by omega]at o;exact f6 (d.apart _ _ _ g0 o)
   refine tJ sl n G c6 b4 T a6 b2 H (.wk (.work s (cl++[(Q,h3)]) e2 p)) (by rw[t];exact tC (by show s+10<s+1+10;omega)) ⟨h,R,?_,g4,?_,O.stay H f8,b5.VK d.gb g d7 f1,e8⟩ (by rw[t];rfl) (λf r z a8 N=>g.block r λi=>?_) (λZ D=>by simp_all) (λZ D=>?_) (jL λZ D=>by simp_all)
   .intro x g2 f z;rcases YC.1 g2 with a3|a3
    .exact b9 x a3 f z
    simp only[YI]at a3;subst a3;exact b6 f (by rw[<-d7.1];exact z)
   .rw[ZM,a1];exact aaF (λi a2=>by grind) 0
   .subst i;obtain⟨h7,h8,h9,i0,i1,i2,k,_⟩:=e3 f _ z a8 N;obtain⟨r,a0,q1,_⟩:=d.gb;simp_all
   rw[R]at D;cases D;exact AW d T t A g5 f4 (d.gv.step H d.KV) (λ_ _ _ _=>rfl) (d.gh.step H) (e0 _ _ A rfl rfl d5) b7 (XS _)
 cases b0 with
 |leaf=>exact stop d6
 |node a4=>
  rcases d6 with X|⟨_,c7⟩
  .exact stop X
  obtain⟨e4,h5,h4,e,new,i7,a5,o,k,e5,e6,e7⟩:=c7 q O.rel d.gv;have H:=fy O o k e5 a1 c.frame.fn c.frame.place;have d4:=fR O o d.pU (Xh (d.rJ _ (Xh A)));have c0:=fR O o d.tX (Xi d.zQ);refine tJ sl n G c6 b4 T a6 a5 H (.wk (.work s cl (a4 q) {p with β:=h5,w:=h4})) (by rw[t];exact .right _ (.right _ (.mk a4 q))) ⟨h,R,b9,e6,by rw[jj o.lz];exact a1,O.own o k H,(b5.mono o.le).same c0,e7⟩ (by rw[t];rfl) (λf r z a8 N=>?_) (λZ D=>by grind [fw.same]) (λZ D=>?_) (jL λZ D=>by grind)
  .grind [fR]
  rw[R]at D;cases D;exact AW d T t A (fw.same d4 c0) (d.gb.same c0) (d.gv.step H d.KV) Cy (d.gh.step H) (e0 _ _ A rfl rfl d4) b7 (XS _)
theorem quiet_step{a3:E->aF}{b4:Xt}(sl:Xp (E×E))(i:bB P W q b U y a3)(G:cQ b q U)(T:aG P b q U 0 y)(R:W[0]?=C b4)(u:0<a)(t:W[a]?=C c)(H:c.status=.running)(b8:¬uY P c (a3 a)):
 QC P W q sl b U y a3 a b4:=by
 have L:=i.each a c u t;have c9:∀v:E,v<q.heap.size->(U (.obj v)=.sync\/U (.obj v)=.void)->(∀d2 X cl a6 z w,q.heap[v]?≠C (.chan d2 X cl a6 z w))->q.heap[v]?=q.heap[v]?:=λ_ _ _ _=>rfl;obtain⟨b3,d⟩:∃b3,a3 a=b3:=⟨_,A⟩;rw[d]at L;cases b3 with
 |wk p=>
  obtain⟨Q,D,f,n⟩:=L;cases p with
  |work s cl e6 o=>exact QK sl i G T R u t H d D f n
  |done O s a5 cl o=>exact II sl i G T R u t H d (Xi A) ⟨A,A,A⟩ D f n
  |quit c7 a5 cl o=>exact QJ sl i G T R u t H d D f n
 |lv c7=>
  obtain⟨a2,d3,S,rfl,q1,b1,c8⟩:=lU L.1 H;have b0:∀h∈S,(XM h).touch?=F:=λh r=>touch_mute (q1 h r)
  have k:jU b q q U U a (XE a c.frame.fn c.frame.place S):=nI b0 λh r a6 a8=>by rcases qR (q1 h r)with b7|b7<;>(rw[b7]at a8;cases a8)
  obtain⟨a0,a1⟩:=fF (v:=.lv a2) i k c9 (by rw[d];exact⟨A,A,A⟩) ⟨λp g=>(by cases g),λp g=>by rw[d]at g;cases g⟩;refine tJ sl i G T R u t (b1 q) k (.lv a2) (by rw[d];exact .right _ (.left _ _ (Zx _))) ⟨by rw[ZM];exact c8,L.2.mine G ?_⟩ (by rw[d];rfl) (λ_ _ _ _ _=>rfl) a0 a1 (jL λ_ _=>rfl);intro c6 Z p g;obtain⟨h,r,rfl⟩:=Go.Conc.mem_ofEvents Z;simp_all
 |pq l c7=>
  obtain⟨⟨b2,X,Y⟩,d9,x,f2,f3,b9⟩:=L;obtain⟨a2,d3,S,rfl,q1,b1,c8⟩:=lU d9 H;have b0:∀h∈S,(XM h).touch?=F:=λh r=>touch_mute (q1 h r)
  have k:jU b q q U U a (XE a c.frame.fn c.frame.place S):=nI b0 λh r a6 a8=>by grind [qR]
  obtain⟨a0,a1⟩:=fF (v:=.pq l a2) i k c9 (by rw[d];exact⟨A,A,A⟩) ⟨λp g=>(by cases g),λp g=>by simp_all⟩;refine tJ sl i G T R u t (b1 q) k (.pq l a2) (by rw[d];exact .right _ (.left _ _ (Zx _))) ⟨⟨b2,X,Y.frame k A (iV.refl y)⟩,by simp_all [ZM],x,?_,?_,b9.1.mine G ?_,b9.2.own G k λc6 Z p g=>?_⟩ (by rw[d];rfl) (λ_ _ _ _ _=>rfl) a0 a1 (jL λ_ _=>rfl)
  .simp_all [abd,i_]
  .simp_all [ZA,i_]
  .intro c6 Z p g;obtain⟨h,r,rfl⟩:=Go.Conc.mem_ofEvents Z;simp_all
  obtain⟨h,r,rfl⟩:=Go.Conc.mem_ofEvents Z;simp_all
 |pb l s Q o e7 f9 g0=>rw[L.2.1]at H;cases H
 |pr l s Q o=>
  obtain⟨_,d7,⟨b2,X,Y⟩,N,a9,a4,c0⟩:=L;have e2:¬iW P l o.S o.ro s o.β o.w c:=by rw[d]at b8;exact b8
  have same:∀O z,0<O->O<W.size->(a3 O).chan=C z->z=l.rc:=λO z D f n=>by have:=i.one O a z l.rc D u f ((XN.1 t).1) n (by rw[d];rfl);subst this;rw[d]at n;exact(YF n).symm
  cases Q with
  |leaf=>exact absurd c0 e2
  |node a7=>
   rcases c0 with g|⟨_,e1⟩
   .simp_all
   obtain⟨e8,d1,d0,e,new,f5,D,f,n,b5,d4,d5⟩:=e1 q N.rel a4.2.1.kn;have k:=fy N f n b5 a9 c.frame.fn c.frame.place;have e0:e.heap[l.rc]?=q.heap[l.rc]?:=fR N f ((XN.1 Y.heap).1) (Xh Y.own);obtain⟨e3,e4⟩:=a4.2.1.VJ G a4.2.2 N f n b5 a9 c.frame.fn c.frame.place;obtain⟨a0,a1⟩:=fF (v:=.pr l s (a7 q) {o with β:=d1,w:=d0}) i k (λv d6 d8 _=>fR N f d6 d8) (by rw[d];exact⟨A,A,A⟩) ⟨λp g=>(by cases g),λp g=>by simp_all⟩
   exact tJ sl i G T R u t D k (.pr l s (a7 q) {o with β:=d1,w:=d0}) (by rw[d];exact .right _ (.right _ (.mk a7 q))) ⟨d4,d7,⟨b2,X,Y.frame k e0 (iV.refl y)⟩,N.own f n k,by rw[jj f.lz];exact a9,⟨a4.1.step f,e3,e4⟩,d5⟩ (by rw[d];rfl)
    (λO z f0 f1 e9=>by grind) a0 a1 (jL λQ b6=>fR N f (i.wg Q b6).pU (Xh ((i.wg Q b6).rJ _ (Xh A))))
theorem yp{N:E->aF}{a9:Xt}(sl:Xp (E×E))(m:bB P W q b U y N)(G:cQ b q U)(e2:aG P b q U 0 y)(j3:W[0]?=C a9)(j9:a9.status=.running\/a9.offers=F)(d6:0<a)(b2:W[a]?=C c)(h5:c.status=.running)(hd:uY P c (N a)):
 ∃a7 b0 e f u,runT P (crowd W q sl) a=(.next (crowd b0 e sl),f)/\Ms.lt (aF.ms a7) (N a).ms/\b0.size=W.size/\(b0[0]?=C a9\/∃H a1,b0[0]?=C (Go.Conc.woken P H a1 e a9))/\bB P b0 e (b++f) u y (λd=>if d=a then a7 else N d)/\cQ (b++f) e u/\aG P (b++f) e u 0 y/\Deaf (b++f) 0=Deaf b 0/\aF.pd a7=(N a).pd/\(∀e6 i k,0<e6->e6<W.size->(N e6).chan=C i->Lr q i k->Lr e i k)/\(∀z,y.tag=C z->e.heap[z.D.Wg]?=q.heap[z.D.Wg]?):=by
 have f7:=m.each a c d6 b2;have a2:a<W.size:=(XN.1 b2).1;have d7:(a==0)=Xf:=by simp;omega
 have wk:∀(e:M)(H a1:Xt),(∀d i,0<d->d<W.size->d≠a->(N d).chan=C i->e.heap[i]?=q.heap[i]?)->∀d,d≠a->0<d->∀n,W[d]?=C n->woken P H a1 e n=n:=by exactλe H a1 e5 d l b4 n h=>(m.each d n b4 h).woken H a1 λi a4=>e5 d i b4 (XN.1 h).1 l a4
 have a3:∀(f:XD),(∀t∈f,t.g=a)->∀d,d≠a->Deaf (b++f) d=Deaf b d:=λf h8 d l=>ZR b (g':=a) (λw=>l w.symm) f h8;have d2:∀(fn:XI)(v:String)(S:Xk XF),∀t∈XE a fn v S,t.g=a:=λfn v S t p=>by obtain⟨w,_,rfl⟩:=Go.Conc.mem_ofEvents p;rfl
 obtain⟨e9,r⟩:∃e9,N a=e9:=⟨_,A⟩;rw[r]at f7;cases e9 with
 |lv a6=>rw[r]at hd;exact hd.elim
 |wk n=>rw[r]at hd;exact hd.elim
 |pq g a6=>rw[r]at hd;exact hd.elim
 |pb g s z X j2 a0 b7=>rw[r]at hd;exact hd.elim
 |pr g s z X=>
  obtain⟨_,h2,⟨a8,O,o⟩,d1,c7,a5,k1⟩:=f7;have c9:g.rc<q.heap.size:=(XN.1 o.heap).1
  have same:∀d i,0<d->d<W.size->(N d).chan=C i->i=g.rc:=λd i Q R T=>by have:=m.one d a i g.rc Q d6 R a2 T (by rw[r];rfl);subst this;rw[r]at T;exact(YF T).symm
  have lone:∀d i,0<d->d<W.size->d≠a->(N d).chan=C i->False:=λd i l d8 d9 a4=>d9 (m.one d a i g.rc l d6 d8 a2 a4 (by rw[r];rfl))
  have g0:∀b9 O cl H L i,∀z,y.tag=C z->(q.setChan g.rc b9 O cl H L i).heap[z.D.Wg]?=q.heap[z.D.Wg]?:=λb9 O cl H L i z c0=>by simp only[M.setChan];rw[Ya (λw=>?_)];obtain⟨_,_,h0⟩:=(m.wg z c0).mode.live;have h:q.heap[z.D.Wg]?=_:=h0;rw[<-w,o.heap]at h;cases h
  have f8:iW P g X.S X.ro s X.β X.w c:=by rw[r]at hd;exact hd
  cases s with
  |zero=>
   obtain⟨_,j6,g4,j5,e4,a6,j8⟩:=f8;have d0:=e4 q _ _ _ _ _ o.heap
   have x:jU b q (q.setChan g.rc 4 O J (g.n-0) a8 Xf) U U a (XE a c.frame.fn c.frame.place #[⟨.obj g.rc,Xf,J⟩,⟨.obj g.rc,J,J⟩]):=by
    refine⟨by simp[M.setChan],A,λL d5=>?_,λ_ _ _ _=>rfl,λi0 L _ Q R=>by grind [World.setChan],λt p n h b3=>?_,dU (by simp),Xh λt p n h b3=>?_,A⟩
    rotate_right
    .obtain⟨w,Y,rfl⟩:=Go.Conc.mem_ofEvents p;simp only[ZB,XV,Yd,YS]at Y;rcases Y with rfl|rfl
     .simp[XM,MemAct.touch?]at h;subst h;exact o.own
     grind [MemAct.ofEvent,MemAct.touch?]
    .by_cases c6:L=g.rc
     .subst c6;exact Xi (Xh (Xh o.own))
     grind [World.setChan]
    obtain⟨w,Y,rfl⟩:=Go.Conc.mem_ofEvents p;refine⟨A,g.rc,?_⟩;simp only[ZB,XV,Yd,YS]at Y;rcases Y with rfl|rfl
    .simp[XM,MemAct.touch?]at h;subst h;exact⟨Xh A,by simp[M.setChan];exact c9,Xi ⟨c9,Xi (Xi ⟨o.own,Xh A⟩)⟩⟩
    grind [MemAct.ofEvent,MemAct.touch?]
   obtain⟨b5,f9⟩:=fF (v:=.pq g a6) m x (λL d5 c8 e0=>by
    simp only[M.setChan]
    rw[Ya (λw=>by subst w;exact e0 _ _ _ _ _ _ o.heap)]) (by rw[r];exact⟨A,A,A⟩) ⟨λn h=>(by cases h),λn h=>by grind⟩
   refine⟨.pq g a6,_,_,_,U,A_ (P:=P) (sl:=sl) (i:=a) b2 (by rw[d7];exact d0),?_,by simp,?_,?_,G.step x,e2.other (by omega) x,a3 _ (d2 _ _ _) 0 (by omega),by rw[r];rfl,λd i k q1 e7 e8⟨b9,g1,cl,i7,i9,b6⟩=>by
    have:=same d i q1 e7 e8;subst this;rw[o.heap]at b6;cases b6
    exact⟨_,_,_,_,_,by simp only[M.setChan];rw[XX c9]⟩,g0 _ _ _ _ _ _⟩
   .rw[r];exact .left _ _ (by simp)
   .grind
   refine m.jS G x (iV.refl y) (by simp) (λd l d8=>mQ d l (((λe H a1=>wk e H a1 λd i Q R T b1=>(lone d i Q R T b1).elim) (q.setChan g.rc 4 O J (g.n-0) a8 Xf) c g4) d l d8)) (a3 _ (d2 _ _ _)) (λd i Q R T b1=>(lone d i Q R T b1).elim) a2 (λd4 _ Z=>?_) (λi a4=>by rw[r];exact⟨_,A⟩) (λd l _ t p=>by grind) b5 (λz c0=>by grind);rw[XX (by grind)]at Z;cases Z;have f1:XE a c.frame.fn c.frame.place #[⟨.obj g.rc,Xf,J⟩,⟨.obj g.rc,J,J⟩]=#[{g:=a,fn:=c.frame.fn,pos:=c.frame.place,act:=.access ⟨.obj g.rc,Xf,J⟩},{g:=a,fn:=c.frame.fn,pos:=c.frame.place,act:=.close g.rc}]:=by simp[XE,XM]
   have f6:(b++#[({g:=a,fn:=c.frame.fn,pos:=c.frame.place,act:=.access ⟨.obj g.rc,Xf,J⟩}:MemOp),{g:=a,fn:=c.frame.fn,pos:=c.frame.place,act:=.close g.rc}])[b.size+1]?=C {g:=a,fn:=c.frame.fn,pos:=c.frame.place,act:=.close g.rc}:=by simp
   have j4:Deaf (b++XE a c.frame.fn c.frame.place #[⟨.obj g.rc,Xf,J⟩,⟨.obj g.rc,J,J⟩]) a=0:=by rw[ZM,c7];rfl
   refine⟨⟨a8,O,⟨by grind [World.setChan],by have:=o.count;omega,o.room,o.own,o.msgs⟩⟩,by grind,b.size+1,?_,?_,?_⟩
   .grind [Trace.act?]
   .rw[f1];refine⟨a,fB f6,?_⟩
    have g5:(b++#[({g:=a,fn:=c.frame.fn,pos:=c.frame.place,act:=.access ⟨.obj g.rc,Xf,J⟩}:MemOp),{g:=a,fn:=c.frame.fn,pos:=c.frame.place,act:=.close g.rc}])[b.size]?=C {g:=a,fn:=c.frame.fn,pos:=c.frame.place,act:=.access ⟨.obj g.rc,Xf,J⟩}:=by simp
    rw[deaf_succ g5,deaf_old (XS _)];exact c7
   refine⟨?_,a5.2.1.own G x λt p n h b3 c8=>?_⟩
   rotate_left
   .obtain⟨w,Y,rfl⟩:=Go.Conc.mem_ofEvents p;simp only[ZB,XV,Yd,YS]at Y;rcases Y with rfl|rfl
    .simp[XM,MemAct.touch?]at h;subst h;exact absurd o.own c8
    grind [MemAct.ofEvent,MemAct.touch?]
   intro d t n l g8 h b3 c8;rw[f1]at l⊢
   have h1:=aag l;simp at h1;by_cases g9:d=b.size+1
   .exact Xh g9
   exact Xi (hb_po (by omega) l f6 g8)
  |succ s=>
   obtain⟨_,a0,b7,e4,e5,h4,h3⟩:=f8;obtain⟨b8,f2⟩:=h3.tree;have d0:=e4 q d1.rel
   have f4:partners (W.setIfInBounds a ph) g.rc Xf=[]:=by
    refine partners_nil λd n h=>?_;rcases aaq W a d n h with⟨rfl,rfl⟩|⟨d9,h⟩
    .rfl
    rcases Ye d with rfl|b4
    .grind [offersAt]
    refine ZI ?_ _ _;have l:=m.each d n b4 h;have j7:=lone d;generalize h6:N d=i6 at l;cases i6 with
    |lv a6=>rcases l.1.status with m|m<;>rw[m]<;>simp
    |wk n=>obtain⟨f0,_,_,l⟩:=l;rcases l.status with m|m<;>rw[m]<;>simp
    |pr d3 i2 f0 i8=>rw[l.1];simp
    |pq d3 a6=>rcases l.2.1.status with m|m<;>rw[m]<;>simp
    |pb d3 i2 f0 i8 d4 k2 k3=>exact(lone d d3.rc b4 (XN.1 h).1 d9 (by rw[h6];rfl)).elim
   have h9:an y.S y.β (g.τ (g.n-(s+1))) a0:=an.to a5.1.1 h4 e5;by_cases h7:O.size<4
   ·
    have e1:=crowd_send_room (P:=P) (sl:=sl) (i:=a) b2 (by rw[d7];exact d0) o.heap h7 f4
    have x:jU b q (q.setChan g.rc 4 (O.push a0) Xf (g.n-(s+1)+1) a8 Xf) U U a (XE a c.frame.fn c.frame.place #[]++#[{g:=a,fn:=c.frame.fn,pos:=c.frame.place,act:=.send g.rc (g.n-(s+1))},{g:=a,fn:=c.frame.fn,pos:=c.frame.place,act:=.sendDone g.rc (g.n-(s+1))}]):=by
     refine⟨by simp[M.setChan],A,λL d5=>?_,λ_ _ _ _=>rfl,λi0 L _ Q R=>by grind [World.setChan],λt p n h b3=>?_,λt p H=>?_,Xh λt p n h b3=>by simp[XE]at p;rcases p with rfl|rfl<;>simp[MemAct.touch?]at h,A⟩
     .by_cases c6:L=g.rc
      .subst c6;exact Xi (Xh (Xh o.own))
      grind [World.setChan]
     .simp[XE]at p;rcases p with rfl|rfl<;>simp[MemAct.touch?]at h
     simp[XE]at p
     grind
    have f5:∀t∈(XE a c.frame.fn c.frame.place #[]++#[{g:=a,fn:=c.frame.fn,pos:=c.frame.place,act:=.send g.rc (g.n-(s+1))},{g:=a,fn:=c.frame.fn,pos:=c.frame.place,act:=.sendDone g.rc (g.n-(s+1))}]:XD),t.g=a:=by grind
    obtain⟨b5,f9⟩:=fF (v:=.pr g s b8 X) m x (λL d5 c8 e0=>by
     simp only[M.setChan]
     rw[Ya (λw=>by subst w;exact e0 _ _ _ _ _ _ o.heap)]) (by rw[r];exact⟨A,A,A⟩) ⟨λn h=>(by cases h),λn h=>by grind⟩
    have e3:∀d,d≠a->(W.setIfInBounds a (c.finishComm P #[scase g.rc a0 b7] .send 0 I Xf))[d]?=W[d]?:=λd l=>Ya (λw=>l w.symm)
    refine⟨.pr g s b8 X,_,_,_,U,e1,?_,Yr ..,?_,?_,G.step x,e2.other (by omega) x,a3 _ f5 0 (by omega),by rw[r];rfl,λd i k q1 e7 e8⟨b9,g1,cl,i7,i9,b6⟩=>by
     have:=same d i q1 e7 e8;subst this;rw[o.heap]at b6;cases b6
     exact⟨_,_,_,_,_,by simp only[M.setChan];rw[XX c9]⟩,g0 _ _ _ _ _ _⟩
    .rw[r];exact .left _ _ (by simp)
    .grind
    refine m.jS G x (iV.refl y) (Yr ..) (λd l _=>e3 d l) (a3 _ f5) (λd i Q R T b1=>(lone d i Q R T b1).elim) a2 (λd4 _ Z=>?_) (λi a4=>by rw[r];exact⟨_,A⟩) (λd l _ t p=>by grind) b5 (λz c0=>by grind);rw[XX a2]at Z;cases Z;rw[aa1];refine⟨A,by omega,⟨a8,O.push a0,?_⟩,?_,?_,⟨a5.1,a5.2.1.own G x (λt p n h=>by simp[XE]at p;rcases p with rfl|rfl<;>simp[MemAct.touch?]at h),a5.2.2⟩,f2⟩
    .have g7:=o.count;refine⟨?_,?_,by simp;omega,o.own,?_⟩
     .grind [World.setChan]
     .grind
     intro d n h;rw[Ze]at h;split at h
     .grind
     exact o.msgs d n h
    .refine d1.stay x λH L g6=>?_;have c6:L≠g.rc:=by
      intro w;subst w;rcases d1.dv H _ g6 _ (Xh A)with m|⟨m,_⟩<;>(rw[o.own]at m;cases m)
     grind [World.setChan]
    have g2:(XE a c.frame.fn c.frame.place #[]++#[{g:=a,fn:=c.frame.fn,pos:=c.frame.place,act:=.send g.rc (g.n-(s+1))},{g:=a,fn:=c.frame.fn,pos:=c.frame.place,act:=.sendDone g.rc (g.n-(s+1))}]:XD)=[({g:=a,fn:=c.frame.fn,pos:=c.frame.place,act:=.send g.rc (g.n-(s+1))}:MemOp),{g:=a,fn:=c.frame.fn,pos:=c.frame.place,act:=.sendDone g.rc (g.n-(s+1))}].toArray:=by rfl
    rw[g2,U_,c7];rfl
   ·
    have g7:=o.count;have k0:=o.room
    have e1:=crowd_waits (P:=P) (sl:=sl) (i:=a) b2 (by rw[d7];exact d0) (λj0 f3=>by
     simp only[ZB,XV,Yd,YS]at f3;subst f3
     exact ways_send_none o.heap (by omega) f4)
    have x:jU b q q U U a (XE a c.frame.fn c.frame.place #[]):=mK (λt p n h=>by grind [MemOp.ofEvents]) (λt p=>by grind [MemOp.ofEvents]);obtain⟨b5,f9⟩:=fF (v:=.pb g s b8 X c a0 b7) m x (λ_ _ _ _=>rfl) (by rw[r];exact⟨A,A,A⟩) ⟨λn h=>(by cases h),λn h=>by grind⟩;have e3:∀d,d≠a->(W.setIfInBounds a (parked c #[scase g.rc a0 b7] .send))[d]?=W[d]?:=λd l=>Ya (λw=>l w.symm);have g3:b++XE a c.frame.fn c.frame.place #[]=b:=by rfl
    refine⟨.pb g s b8 X c a0 b7,_,_,_,U,e1,?_,Yr ..,?_,?_,G.step x,e2.other (by omega) x,a3 _ (d2 _ _ _) 0 (by omega),by rw[r];rfl,λ_ _ _ _ _ _ m=>m,λ_ _=>rfl⟩
    .rw[r];exact .left _ _ (by show 2*s+3<2*(s+1)+2;omega)
    .grind
    refine m.jS G x (iV.refl y) (Yr ..) (λd l _=>e3 d l) (a3 _ (d2 _ _ _)) (λ_ _ _ _ _ _=>rfl) a2 (λd4 _ Z=>?_) (λi a4=>by rw[r];exact⟨_,A⟩) (λd l _ t p=>by grind) b5 (λz c0=>by grind);rw[XX a2]at Z;cases Z;rw[g3];exact⟨h2,A,h5,⟨a8,O,o,by omega⟩,d1,c7,a5,h9,f2⟩
theorem Dn{g:E->aF}{l:Xt}(sl:Xp (E×E))(n:bB P W q b U y g)(G:cQ b q U)(t:aG P b q U 0 y)(o:W[0]?=C l)(w:l.status=.running)(r:0<a)(p:W[a]?=C c)(s:c.status=.running):
 ∃h d e f u,runT P (crowd W q sl) a=(.next (crowd d e sl),f)/\Ms.lt (aF.ms h) (g a).ms/\d.size=W.size/\d[0]?=C l/\bB P d e (b++f) u y (λv=>if v=a then h else g v)/\cQ (b++f) e u/\aG P (b++f) e u 0 y/\Deaf (b++f) 0=Deaf b 0/\aF.pd h=(g a).pd/\∀m i k,0<m->m<W.size->(g m).chan=C i->Lr q i k->Lr e i k:=by
 by_cases hd:uY P c (g a)
 .obtain⟨h,d,e,f,u,q1,z,D,H,L,N,O,Q,R,x,_⟩:=yp sl n G t o (Xh w) r p s hd
  grind [woken_run]
 obtain⟨h,d,e,f,u,q1,z,D,⟨S,T,H⟩,L,N,O,Q,R,x,_⟩:=quiet_step sl n G t o r p s hd
 grind [woken_run]
end
end
end Go.Sim
namespace Wt
variable{b:Tree}{a:Path}{c:Path×Nd}{d:Nd}
def under(b:Tree)(a:Path):Tree:=b.filter λc=>a.isPrefixOf c.1
theorem jm:c∈under b a↔c∈b/\a<+:c.1:=by unfold under;rw[j_,Xg.isPrefixOf_iff_prefix]
theorem pS(b:Tree):under b []=b:=by unfold under;rw[aac];intro c _;simp[Xg.isPrefixOf]
theorem yP(c:Ord b)(a:Path):Ord (under b a):=aa8 _ c
theorem SP{b:Path}(e:a<+:b)(c:b≠a):a<b:=by
 obtain⟨d,rfl⟩:=e;cases d with
 |nil=>exact absurd (YT a) c
 |cons g d=>
  clear c
  induction a with
  |nil=>exact Xg.nil_lt_cons _ _
  |cons h a f=>rw[Yp,ZT];exact Xi ⟨A,f⟩
theorem SH{d e:B}{b c:Path}(f:d<e)(g:(a++[d])<+:b)(h:(a++[e])<+:c):b<c:=by
 obtain⟨k,rfl⟩:=g;obtain⟨l,rfl⟩:=h
 induction a with
 |nil=>simp only[Zj,Yp];rw[ZT];exact Xh f
 |cons m a i=>simp only[Yp];rw[ZT];exact Xi ⟨A,i⟩
theorem WF.Wn(h:WF b):∀(g:E)(d:Xg B)(a:Path),d.length=g->(find b (a++d)).isSome=J->(find b a).isSome=J
 |0,d,a,f,e=>by
  rw[YR.1 f,YT]at e;exact e
 |g+1,d,a,f,e=>by
  have k:d≠[]:=λc=>by rw[c]at f;cases f
  have i:=h.up (a++d) (by simp[k]) e;rw[Xg.dropLast_append_of_ne_nil k]at i;exact WF.Wn h g d.dropLast a (by rw[S_];omega) i
theorem Ee(i:WF b)(m:find b a=C d):under b a=(a,d)::(be b a).flatMap λg=>under b (a++[g]):=by
 refine Ie (yP i.ord a) (gA.2 ⟨λz k=>?_,?_⟩) λc=>?_
 .obtain⟨g,_,k⟩:=aaK.1 k;obtain⟨_,f,e⟩:=jm.1 k;refine SP ⟨g::f,?_⟩ ?_
  .rw[<-e];simp
  intro c;have:=YU List.length e;rw[c]at this;simp at this
 .have n:=fC (a:=a) i.ord;generalize be b a=o at n
  induction o with
  |nil=>exact Ar
  |cons g o t=>obtain⟨h,p⟩:=YJ.1 n;rw[Zu];refine Y_.2 ⟨yP i.ord _,t p,λw q x l=>?_⟩;obtain⟨v,s,l⟩:=aaK.1 l;exact SH (h v s) (jm.1 q).2 (jm.1 l).2
 rw[jm,XV,aaK];constructor
 .rintro⟨h,f,e⟩;obtain⟨u,y⟩:=c;simp only at e;cases f with
  |nil=>left;rw[YT]at e;subst e;have:=iA i.ord h;rw[m]at this;cases this;rfl
  |cons g f=>
   right
   have r:(find b (a++[g]++f)).isSome=J:=by
    have c:a++[g]++f=u:=by rw[<-e];simp
    rw[c,iA i.ord h];rfl
   exact⟨g,ei.2 (i.Wn _ f _ A r),jm.2 ⟨h,f,by rw[<-e];simp⟩⟩
 rintro(rfl|⟨g,_,k⟩)
 .exact⟨jz m,Xg.prefix_refl _⟩
 obtain⟨h,f,e⟩:=jm.1 k;exact⟨h,g::f,by rw[<-e];simp⟩
theorem WF.head(a:WF b):∃d e,b=([],d)::e:=by obtain⟨d,c,_⟩:=a.root;have:=Ee a c;rw[pS]at this;exact⟨d,_,this⟩
variable{y:cN}{d:Tree}{S:Xg Ev}
def abx(b:Xo)(c:B)(a:Ev):Xo:=kx a.1 b&&decide (c=a.2)
def cnt(c:Xj)(a:Xg Out):E:=a.countP λb=>decide (b.ak=c)
structure abF(y:cN)(a:Xo)(b:B)(f:Xj):Prop where
 here:y.cd a b=[f]\/y.cd a b=[]
 abL:∀c e,¬(c=a/\e=b)->f∉y.cd c e
theorem abF.told{b:Xo}{e:B}{g:Xj}(k:abF y b e g)(a:Ev):g∈toldOf y a↔abx b e a=J/\y.cd b e=[g]:=by
 have m:g∈y.cd b e↔y.cd b e=[g]:=by rcases k.here with a|a<;>rw[a]<;>simp
 have l:∀h,(kx a.1 h=J/\g∈y.cd h a.2)↔(h=b/\abx b e a=J/\y.cd b e=[g]):=λh=>by
  by_cases i:h=b/\a.2=e
  .obtain⟨rfl,f⟩:=i;unfold abx;rw[f,m];simp
  constructor
  .rintro⟨_,f⟩;exact absurd f (k.abL h a.2 i)
  rintro⟨rfl,f,_⟩;unfold abx at f;simp only[Yg,YV]at f;exact absurd ⟨A,f.2.symm⟩ i
 rw[abQ,l,l];cases b<;>simp
theorem abT:∀{c:Xg Xj},rK c->∀a,c.countP (λb=>decide (b=a))=if a∈c then 1 else 0
 |[],_,a=>by simp
 |b::c,e,a=>by
  obtain⟨g,h⟩:=YJ.1 e;rw[d_,abT h a];by_cases d:b=a
  .subst d;have:b∉c:=λi=>by have:=g b i;omega
   simp[this]
  have f:¬a=b:=λe=>d e.symm;simp[d,f]
theorem abF.lu{b:Xo}{c:B}{e:Xj}(g:abF y b c e)(k:Bi y)(f:Xj)(a:Ev):
 cnt e (Wt.lu f y a).2=(if abx b c a=J/\y.cd b c=[e]then 1 else 0)/\abF (Wt.lu f y a).1 b c e/\(Wt.lu f y a).1.cd b c=if abx b c a=J then[]else y.cd b c:=by
 have h:(Wt.lu f y a).1.cd b c=if abx b c a=J then[]else y.cd b c:=by unfold Wt.lu abx;simp[Yg]
 refine⟨?_,⟨?_,λl m i d=>?_⟩,h⟩
 .unfold cnt Wt.lu;simp only[Xg.countP_map];show Xg.countP (λn=>decide (n=e)) (toldOf y a)=_;rw[abT (acg k a)];simp only[g.told a]
 .rw[h];split
  .exact Xi A
  exact g.here
 unfold Wt.lu at d;simp only at d;split at d
 .cases d
 exact g.abL l m i d
theorem abF.tell{a:Xo}{b:B}{d:Xj}(c:Xj):∀(S:Xg Ev){y:cN},abF y a b d->Bi y->
 cnt d (Wt.tell c y S).2=(if S.any (abx a b)=J/\y.cd a b=[d]then 1 else 0)/\abF (Wt.tell c y S).1 a b d/\(Wt.tell c y S).1.cd a b=if S.any (abx a b)=J then[]else y.cd a b
 |[],y,h,i=>⟨by simp[Wt.tell,cnt],h,by simp[Wt.tell]⟩
 |e::S,y,h,i=>by
  obtain⟨k,o,l⟩:=h.lu i c e;obtain⟨m,p,q⟩:=abF.tell c S o (DY i c e);unfold Wt.tell;simp only;refine⟨?_,p,?_⟩
  .unfold cnt at k m⊢
   rw[Xg.countP_append,k,m,l];by_cases f:abx a b e=J<;>by_cases g:S.any (abx a b)=J<;>by_cases n:y.cd a b=[d]<;>simp[f,g,n]
  rw[q,l];by_cases f:abx a b e=J<;>by_cases g:S.any (abx a b)=J<;>simp[f,g]
theorem ab4(g:Xj->Prop)(k:Xj):∀(S:Xg Ev){y:cN},(∀e f,∀b∈y.cd e f,g b)->(∀l∈(tell k y S).2,g l.ak/\∃i∈S,l.ev=i.1)/\∀e f,∀b∈(tell k y S).1.cd e f,g b
 |[],y,h=>⟨by simp[tell],h⟩
 |i::S,y,h=>by
  have n:∀e f,∀b∈(lu k y i).1.cd e f,g b:=λe f b a=>by
   unfold lu at a;simp only at a;split at a
   .cases a
   exact h e f b a
  obtain⟨o,p⟩:=ab4 g k S n;unfold tell;simp only;refine⟨λl c=>?_,p⟩;rcases YC.1 c with c|c
  .unfold lu at c;simp only[YB]at c;obtain⟨b,a,rfl⟩:=c;refine⟨?_,i,by simp,A⟩;rcases abQ.1 a with⟨_,a⟩|⟨_,a⟩
   .exact h _ _ b a
   exact h _ _ b a
  obtain⟨q1,m,q,r⟩:=o l c;exact⟨q1,m,by simp[q],r⟩
theorem abV(a:Xj):∀(S:Xg Ev)(y:cN),(tell a y S).1.dE=y.dE
 |[],y=>rfl
 |b::S,y=>by unfold tell;exact abV a S _
def nA:Path:=[[97]]
def aci:Path:=[[97],[120]]
def abN(d:Tree):Xp (Xj×Xj):=(find d aci).map λa=>(a.stat.made,a.stat.aE)
def abH(d:Tree):Xp (Xj×Xj):=(find d nA).map λa=>(a.stat.made,a.stat.ez)
theorem ab7:join nA=pA:=A
theorem abX:join aci=Rm:=A
theorem abY{l:Op}{ak aL:Xj}{m:Tree}{u:B}(e:WF d)(i:change d l ak aL=.yes m u S):
 (abN m=abN d\/S.any (abx Xf Rm)=J)/\((abH d).isSome=J->abH m=abH d\/S.any (abx J pA)=J)/\∀a∈S,a.1≠0:=by
 by_cases p:l.kind=3
 .have w:create d l ak aL=.yes m u S:=by
   unfold change at i;rw[XC p]at i;exact i
  obtain⟨f,h,o,t,s,N,D,O,Q,k,X,W,U,x,T,rfl,Y,rfl⟩:=gR w;have r:=fe (b:=(f::h).dropLast) (d:=mA o l.flags) e.ord;refine⟨?_,λn=>?_,by simp⟩
  .unfold abN;rw[cD r,cD e.ord];by_cases a:aci=(f::h).dropLast++[t]
   .right;rw[<-a,abX];rfl
   left;rw[Xx a];by_cases b:aci=(f::h).dropLast
   .rw[XC b,b,k];rfl
   rw[Xx b]
  unfold abH at n⊢
  rw[cD r,cD e.ord];by_cases a:nA=(f::h).dropLast++[t]
  .rw[a,x]at n;cases n
  rw[Xx a];by_cases b:nA=(f::h).dropLast
  .right;rw[<-b,ab7];simp[abx,kx]
  left;rw[Xx b]
 obtain⟨c,z,s,q,rfl,v⟩:=pj p i;rcases v with⟨H,y,R,rfl,rfl⟩|⟨L,rfl,rfl⟩|⟨_,_,rfl,rfl⟩
 .obtain⟨o,k⟩:=XR.1 (e.up c y (by rw[q];rfl))
  have hd:∀g,find (drop d c) g=if g=c then F else if g=c.dropLast then C (vw o)else find d g:=λg=>by unfold drop;rw[k];simp only;rw[vC (fe e.ord),cD e.ord]
  refine⟨?_,λ_=>?_,by simp[kq]⟩
  .unfold abN;rw[hd];by_cases a:aci=c
   .right;unfold kq;rw[<-a,abX];rfl
   left;rw[Xx a];by_cases b:aci=c.dropLast
   .rw[XC b,b,k];rfl
   rw[Xx b]
  unfold abH;rw[hd];by_cases a:nA=c
  .right;unfold kq;rw[<-a,ab7];rfl
  by_cases b:nA=c.dropLast
  .right;unfold kq;rw[<-b,ab7];simp[abx,kx]
  left;rw[Xx a,Xx b]
 .refine⟨?_,λ_=>?_,by simp⟩
  .unfold abN;rw[cD e.ord];by_cases a:aci=c
   .right;have:=ab8 s;rw[<-a,abX]at this;rw[<-this];rfl
   left;rw[Xx a]
  unfold abH;rw[cD e.ord];left;by_cases a:nA=c
  .rw[XC a,a,q];rfl
  rw[Xx a]
 exact⟨Xh A,λ_=>Xh A,by simp⟩
structure YY(i e:Xp (Xj×Xj))(y:cN)(c:Xg Out):Prop where
 wf:WF y.tree
 ak:y.dE.map (·.1)=[1,2,3]
 ok:Bi y
 some:e.isSome=J
 adb:abF y Xf Rm 1
 ade:abF y J pA 2
 a:(y.cd Xf Rm=[1]/\cnt 1 c=0/\abN y.tree=i)\/(y.cd Xf Rm=[]/\cnt 1 c=1)
 b:(y.cd J pA=[2]/\cnt 2 c=0/\abH y.tree=e)\/(y.cd J pA=[]/\cnt 2 c=1)
 adA:∀h k,∀g∈y.cd h k,g=1\/g=2
 all:∀f∈c,f.ak=1\/f.ak=2
theorem YY.heard{c d:Xp (Xj×Xj)}{b:Xg Out}(a:YY c d y b)(id:Xj):YY c d (Wt.heard y id) b:=⟨a.wf,(ab6 y id).trans a.ak,a.ok,a.some,⟨a.adb.here,a.adb.abL⟩,⟨a.ade.here,a.ade.abL⟩,a.a,a.b,a.adA,a.all⟩
theorem YY.aL{c d:Xp (Xj×Xj)}{b:Xg Out}(a:YY c d y b)(e:Xj):YY c d {y with aL:=e} b:=⟨a.wf,a.ak,a.ok,a.some,⟨a.adb.here,a.adb.abL⟩,⟨a.ade.here,a.ade.abL⟩,a.a,a.b,a.adA,a.all⟩
theorem YY.told{t u:Xp (Xj×Xj)}{m:Xg Out}(a:YY t u y m){o:Op}{ak c:Xj}{b:Tree}{R:B}(s:change y.tree o ak c=.yes b R S)(e:Xj):
 YY t u (tell e {y with tree:=b} S).1 (m++(tell e {y with tree:=b} S).2)/\lz (tell e {y with tree:=b} S).2=(tell e {y with tree:=b} S).2:=by
 obtain⟨k,l,N⟩:=abY a.wf s;have adb:abF {y with tree:=b} Xf Rm 1:=⟨a.adb.here,a.adb.abL⟩;have ade:abF {y with tree:=b} J pA 2:=⟨a.ade.here,a.ade.abL⟩;have ok:Bi {y with tree:=b}:=a.ok;obtain⟨w,x,z⟩:=adb.tell e S ok;obtain⟨D,H,L⟩:=ade.tell e S ok;obtain⟨v,T⟩:=ab4 (λi=>i=1\/i=2) e S (y:={y with tree:=b}) a.adA;have p:(tell e {y with tree:=b} S).1.tree=b:=sP e S _
 have r:∀i,cnt i (m++(tell e {y with tree:=b} S).2)=cnt i m+cnt i (tell e {y with tree:=b} S).2:=λi=>by unfold cnt;rw[Xg.countP_append]
 refine⟨⟨by rw[p];exact ym a.wf s,by rw[abV];exact a.ak,wX e S _ ok,a.some,x,H,?_,?_,T,λo h=>?_⟩,?_⟩
 .rw[z,r,w,p];have q:(show cN from{y with tree:=b}).cd=y.cd:=A;rcases a.a with⟨q1,f,n⟩|⟨q1,f⟩
  .by_cases g:S.any (abx Xf Rm)=J
   .right;simp[g,q1,f]
   left;rcases k with k|k
   .simp[g,q1,f,k,n]
   exact absurd k g
  right;simp[q1,f]
 .rw[L,r,D,p];rcases a.b with⟨q1,f,n⟩|⟨q1,f⟩
  .by_cases g:S.any (abx J pA)=J
   .right;simp[g,q1,f]
   left;rcases l (by rw[n];exact a.some)with l|l
   .simp[g,q1,f,l,n]
   exact absurd l g
  right;simp[q1,f]
 .rcases YC.1 h with h|h
  .exact a.all o h
  exact(v o h).1
 unfold lz;rw[aac];intro o h;obtain⟨_,q,Q,O⟩:=v o h;simp only[YV];rw[O];exact N q Q
theorem acn{i k:Xp (Xj×Xj)}{g:Xg Out}(n:YY i k y g){c:Xj}(N:c<64){b:ew}(e:abW b):YY i k (step y c b).1 (g++lz (step y c b).2):=by
 have r:known y b.ak=J:=by rw[gW,n.ak];rcases e.ak with a|a|a<;>rw[a]<;>decide
 have h:=n.heard b.ak;by_cases O:b.op.kind<=6
 .have l:task c b=.write:=by
   unfold task;rw[Xx (by omega),Xx (by rcases e.kind with a|a|a|a|a|a|a<;>omega),Xx (by omega),Xx (by omega),Xx (by omega),XC (by rcases e.kind with a|a|a|a|a|a|a<;>omega)]
  have a:step y c b=write (Wt.heard y b.ak) c b:=by unfold step;rw[l];simp[r]
  rw[a];unfold write;rw[Xx (by rcases e.kind with a|a|a|a|a|a|a<;>omega)];simp only;rw[Xx (by omega)];have o:=h.aL ((Wt.heard y b.ak).aL+1);cases u:change (Wt.heard y b.ak).tree b.op b.ak ((Wt.heard y b.ak).aL+1)with
  |no a=>simp only;have:lz [({ak:=b.ak,idx:=c,err:=a}:Out)]=[]:=A;rw[this,YT];exact o
  |yes z m S=>
   simp only;obtain⟨p,q⟩:=o.told (o:=b.op) (ak:=b.ak) (c:=(Wt.heard y b.ak).aL+1) u c;cases look z m with
   |no a=>simp only;rw[aby,q];have:lz [({ak:=b.ak,idx:=c,path:=m}:Out)]=[]:=A;rw[this,YT];exact p
   |yes t=>simp only;rw[aby,q];have:lz [({ak:=b.ak,idx:=c,path:=m,found:=J,stat:=t.stat}:Out)]=[]:=A;rw[this,YT];exact p
 have l:task c b=.read:=by unfold task;rw[Xx (by omega),Xx (by omega),Xx (by rcases e.kind with a|a|a|a|a|a|a<;>omega),XC (by rcases e.kind with a|a|a|a|a|a|a<;>omega)]
 have v:∀f,YY i k (eN y c b f).1 g/\(eN y c b f).2.ev=0:=λf=>by
  unfold eN;rw[r];simp only[e.watch];cases f with
  |no a=>
   simp only[Xo.true_eq_false,Yf];split
   .exact⟨h,A⟩
   exact⟨h,A⟩
  |yes t=>exact⟨h,A⟩
 unfold step;rw[l];obtain⟨q1,x⟩:=v (look y.tree b.op.path);show YY i k (eN y c b (look y.tree b.op.path)).1 (g++lz [(eN y c b (look y.tree b.op.path)).2])
 have:lz [(eN y c b (look y.tree b.op.path)).2]=[]:=by unfold lz;simp[x]
 rw[this,YT];exact q1
theorem abM{g h:Xp (Xj×Xj)}:∀(b:Xg ew){y:cN}{c:Xg Out}(a:Xj),YY g h y c->a+b.length<=64->(∀e∈b,abW e)->YY g h (handle y a b).1 (c++lz (handle y a b).2)
 |[],y,c,a,d,_,_=>by
  unfold handle;have:lz []=[]:=A;simp only;rw[this,YT];exact d
 |e::b,y,c,a,d,l,f=>by simp only[Yl]at l;have i:=acn d (c:=a) (by omega) (f e (by simp));have k:=abM b (a+1) i (by omega) (λn m=>f n (by simp[m]));unfold handle;simp only;rw[aby,<-ZJ];exact k
def qW:ew:={ak:=1,op:={kind:=8,path:=Rm},watch:=J}
def qK:ew:={ak:=2,op:={kind:=10,path:=pA},watch:=J}
def qE(a:B):ew:={ak:=3,op:={kind:=9,path:=a}}
def sW:cN:=dz (heard sB 1) 1 Xf Rm
def sK:cN:=dz (heard sW 2) 2 J pA
theorem adg:(step sB 0 qW).1=sW/\∃a,(step sB 0 qW).2=[a]/\a.ev=0/\a.err=0:=⟨A,_,A,A,A⟩
theorem adf:(step sW 0 qK).1=sK/\∃a,(step sW 0 qK).2=[a]/\a.ev=0/\a.err=0:=⟨A,_,A,A,A⟩
structure Told(c:Tree)(a:Path)(b:Out):Prop where
 found:b.found=(find c a).isSome
 stat:b.stat=match find c a with
  |some d=>d.stat
  |none=>{}
theorem abO{b:B}(h:split b=C a)(f:known y 3=J):(step y 0 (qE b)).1=heard y 3/\∃e,(step y 0 (qE b)).2=[e]/\e.ev=0/\Told y.tree a e:=by
 have i:task 0 (qE b)=.read:=A;unfold step;rw[i];simp only
 have g:look y.tree (qE b).op.path=match find y.tree a with
  |none=>.no 7
  |some d=>.yes ⟨d.data,d.stat,be y.tree a⟩:=by
  show look y.tree b=_;unfold look;rw[h];rfl
 rw[g];unfold eN;rw[show known y (qE b).ak=J from f];cases c:find y.tree a with
 |none=>exact⟨A,_,A,A,by simp[c,qE],by simp[c,qE]⟩
 |some d=>exact⟨A,_,A,A,by simp[c],by simp[c]⟩
theorem abz(a:Xo)(b:B):sK.cd a b=if a=J/\b=pA then[2]else if a=Xf/\b=Rm then[1]else[]:=by show(if a=J/\b=pA then dF 2 (if a=Xf/\b=Rm then dF 1 (sB.cd a b)else sB.cd a b)else if a=Xf/\b=Rm then dF 1 (sB.cd a b)else sB.cd a b)=_;rw[adq];cases a<;>simp[dF]
theorem acf:YY (abN sB.tree) (abH sB.tree) sK [] where
 wf:=adz
 ak:=A
 ok:=λb c=>by
  rw[abz];split
  .simp
  split<;>simp
 some:=A
 adb:=⟨Xh (by simp[abz]),λb c d a=>by
  rw[abz]at a;split at a
  .simp at a
  simp_all⟩
 ade:=⟨Xh (by simp[abz]),λb c d a=>by
  rw[abz]at a;split at a
  .simp_all
  split at a<;>simp at a⟩
 a:=Xh ⟨by simp[abz],A,A⟩
 b:=Xh ⟨by simp[abz],A,A⟩
 adA:=λb c g a=>by
  rw[abz]at a;split at a
  .simp at a;exact Xi a
  split at a<;>simp_all
 all:=by simp
theorem acT{a:Xg Out}{c e b f:Out}(g:YY (abN sB.tree) (abH sB.tree) y a)(i:Told sB.tree aci c)(o:Told sB.tree nA e)(h:Told y.tree aci b)(p:Told y.tree nA f):
 (c.found=b.found/\c.stat.made=b.stat.made/\c.stat.aE=b.stat.aE\/cnt 1 a=1)/\cnt 1 a<=1/\cnt 2 a<=1/\(f.stat.ez=e.stat.ez/\f.stat.made=e.stat.made\/cnt 2 a=1):=by
 have k:cnt 1 a=1\/cnt 1 a=0/\abN y.tree=abN sB.tree:=g.a.elim (λa=>Xi a.2) λa=>Xh a.2;have l:cnt 2 a=1\/cnt 2 a=0/\abH y.tree=abH sB.tree:=g.b.elim (λa=>Xi a.2) λa=>Xh a.2;refine⟨k.elim Xi λa=>Xh ?_,by omega,by omega,l.elim Xi λa=>Xh ?_⟩
 .have d:=a.2;rw[i.found,h.found,i.stat,h.stat];unfold abN at d;cases m:find y.tree aci<;>cases n:find sB.tree aci<;>simp_all
 have d:=a.2;rw[p.stat,o.stat];unfold abH at d;cases m:find y.tree nA<;>cases n:find sB.tree nA<;>simp_all
end Wt
namespace Go.Proofs.YtfgpkeppjomkmaaGreatDoor
open Go
noncomputable abbrev jQ:Xy:=Tryz.pinned.checked.prog
abbrev jh:=Rows.onceRow
abbrev Ex:=Rows.onceSpec
theorem db{a b:Xo}(c:a=J)(d:b=J):(a&&b)=J:=by rw[c,d];rfl
theorem ac0:(jh.wf (OpenSpec.ofChange Ex))=J:=by kernel_rfl
theorem ac1:(laidOutB jQ)=J:=by kernel_rfl
theorem ac2:(mapsRowed jQ)=J:=by kernel_rfl
theorem ac3:(Tryz.f4.params.all (jQ.readableRec ·))=J:=by kernel_rfl
theorem ac4:(namedTie jQ jh.named Ex.vars)=J:=by kernel_rfl
theorem ac5:((jh.stops==[]))=J:=by kernel_rfl
theorem ac6:((jQ.stops==[]))=J:=by kernel_rfl
theorem ac7:((jh.knobs==[]))=J:=by kernel_rfl
theorem ac8:((jQ.stopKnobs==[]))=J:=by kernel_rfl
theorem ac9:((jh.inPlace==jQ.inPlace 4))=J:=by kernel_rfl
theorem acw:((jh.unfollowed==jQ.unfollowed 4))=J:=by kernel_rfl
theorem acx:((jh.recurses==jQ.recurses 4))=J:=by kernel_rfl
theorem acy:((jh.named==jQ.varsNamed 4))=J:=by kernel_rfl
theorem acz:((jh.maps==(Tryz.f4.params.toList++Ex.plain.varTypes jQ).any (jQ.mapsRec ·)))=J:=by kernel_rfl
theorem acA:((jh.ifaces==(Tryz.f4.params.toList++Ex.plain.varTypes jQ).any (jQ.ifacesRec ·)))=J:=by kernel_rfl
theorem acB:((jh.mapsOut==jQ.mapsAmong Tryz.f4.resultTypes.toList))=J:=by kernel_rfl
theorem acC:((jh.loops==(Tryz.f4.params.toList++Ex.plain.varTypes jQ).any (jQ.loopsFrom ·)))=J:=by kernel_rfl
theorem acD:((jh.wideKeys==(Tryz.f4.params.toList++Ex.plain.varTypes jQ++Tryz.f4.resultTypes.toList).any (jQ.wideKeysFrom ·)))=J:=by kernel_rfl
theorem acE:(Ex.vars.all (jQ.varReadable ·))=J:=by kernel_rfl
theorem acF:(Tryz.f4.resultTypes.all (λa=>jQ.readableRec a&&decide (a<jQ.types.size)))=J:=by kernel_rfl
theorem acG:((jh.ifacesOut==Tryz.f4.resultTypes.toList.any (jQ.ifacesRec ·)))=J:=by kernel_rfl
theorem acH:((jh.loopsOut==Tryz.f4.resultTypes.toList.any (jQ.loopsFrom ·)))=J:=by kernel_rfl
theorem acI:((jh.plainKeys==jQ.plainKeys))=J:=by kernel_rfl
theorem acJ:(jh.shortTexts.isNone)=J:=by kernel_rfl
theorem acK:(jQ.stopsHeard)=J:=by kernel_rfl
theorem acL:(jQ.mayEnter)=J:=by kernel_rfl
theorem acM:((jh.lifted==jQ.liftsFinal))=J:=by kernel_rfl
theorem acN:((jQ.make==C jh.make))=J:=by kernel_rfl
theorem acO:((jh.kinds==(if jh.domain.isEmpty then[]else Tryz.f4.params.toList.map λb=>match jQ.underlying b with|some (.int a)=>C a|_=>F)))=J:=by kernel_rfl
theorem acP:((jh.pinned==jh.pinnedBy))=J:=by kernel_rfl
theorem acQ:((jh.veiled==(Tryz.f4.params.toList++Ex.plain.varTypes jQ++Tryz.f4.resultTypes.toList).any (jQ.veiledRec ·)))=J:=by kernel_rfl
theorem acR:(jh.veiledFits jQ Tryz.f4.params.toList (Tryz.f4.params.toList++Ex.plain.varTypes jQ++Tryz.f4.resultTypes.toList))=J:=by kernel_rfl
theorem abZ:joinedFacts jQ 4 Tryz.f4 Ex jh=J:=(db (db (db (db (db (db (db (db (db (db (db (db (db (db (db (db (db (db (db (db (db (db (db (db (db (db (db (db (db (db (db ac0 ac1) ac2) ac3) ac4) ac5) ac6) ac7) ac8) ac9) acw) acx) acy) acz) acA) acB) acC) acD) acE) acF) acG) acH) acI) acJ) acK) acL) acM) acN) acO) acP) acQ) acR)
theorem abR:jQ.funcNamed jh.func=C 4:=by kernel_rfl
theorem aco:Tryz.f4.isWrapper jQ jh.wrapper jh.mainSum:=by unfold Func.isWrapper;first|(rw[XC (by decide+kernel)];kernel_rfl)|(rw[Xx (by decide+kernel)];exact⟨rfl,rfl⟩)
theorem ack:Tryz.f4.isInstance jQ jh.origin jh.targs:=of_decide_eq_true (by kernel_rfl)
end Go.Proofs.YtfgpkeppjomkmaaGreatDoor
