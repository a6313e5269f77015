/- Proved here: parts of the proof of the claimed theorem, no conditions; the last text states it -/
import Derived.Test.YtfgpkeppjomkmaaGreatDoorR2
set_option linter.all false
set_option maxRecDepth 100000
set_option maxHeartbeats 16000000
open _root_ renaming rfl->A,Nat->E,List->Xq,Int->Xt,Array->Xu,Bool->Xy,Option->Xz,if_neg->XH,ByteArray->XM,if_pos->XN
open Option renaming some->C,none->F
open Go renaming undef->I,World->K,Value->Xn,TypeId->XA,Frame->XC,Goroutine->XD,Act->XF,Addr->XG,Program->XI,Sem->XJ,Trace->XO,Event->XQ,Code->XR,MapEntry->XS,FuncId->XU,Operand->XV
open Bool renaming true->J,false->Xp
open Go.Lib renaming hid->Xv
open Go.MemOp renaming ofEvents->XP
open Go.Op renaming operands->XX
open Go.MemAct renaming ofEvent->XY
open Go.IntKind renaming i64->M
open Go.Value renaming int->Xo,slice->Xw,pointer->XK
open Or renaming inl->Xr,inr->Xs
open Go.Obj renaming cells->Xx
open Go.Ending renaming returned->XB
open Go.Item renaming inRegion->XE
namespace Go.Sim
open Go.Conc Go.Proofs Go.RowKit
open Go.ConcN (PermW PermW.app PermW.of fork_knows WgLive RelBy sumTo)
open Go.ConcR (KK wgBlock WgAt stA smA rd wr mk DC0)
variable{P:XI}{f:Set}{m:Ren}{a:Xn}{W:Xn}{b:Xn}
section
variable{c d e g:Type}{h:Ren->c->d->Prop}{Q:Ren->e->g->Prop}
theorem sP{a b:Obj}(c:gQ f m a b):ae P f (Vr f) m (do pure (XK (C ⟨<-newObj a,0,F⟩)):XJ Xn) (do pure (XK (C ⟨<-newObj b,0,F⟩))):=
 .new c λg h i e d=>.pure (.ptr ⟨d,A,A⟩)
theorem Ky(b:XA)(d:an f m a W):ae P f (Vr f) m (Instr.range b a) (Instr.range b W):=by
 refine au (ay b) λe=>?_;cases e<;>try exact ah
 .cases d<;>try exact ah
  exact sP (.stringIter _ _)
 cases d<;>try exact ah
 .exact sP (.pK _ _ _)
 rename_i k l c;refine ax (bI c) λh i g=>?_;cases g<;>try exact ah
 exact sP (.mapIter c _ _ _)
theorem aY.filter{l n:Xq XS}(r:aY (ji f m) l n){p p':XS->Xy}(t:∀i k,ji f m i k->p i=p' k):aY (ji f m) (l.filter p) (n.filter p'):=by
 induction r with
 |nil=>exact .nil
 |cons o _ q=>
  rename_i i k _ _ _;have s:=t _ _ o;simp only[Xq.filter_cons];rw[<-s];cases p i
  .exact q
  exact .cons o q
theorem aY.all{c d:Xq XS}(h:aY (ji f m) c d){e g:XS->Xy}(i:∀a b,ji f m a b->e a=g b):c.all e=d.all g:=by
 induction h with
 |nil=>rfl
 |cons k _ l=>grind
def LA(f:Set)(m:Ren):Xz XS->Xz XS->Prop
 |F,F=>True
 |C a,C b=>ji f m a b
 |_,_=>False
theorem aY.QG{a b:Xq XS}(c:aY (ji f m) a b):aY (LA f m) (a.map C) (b.map C):=by
 induction c with
 |nil=>exact .nil
 |cons d _ e=>exact .cons d e
theorem NL(Y:an f m a W)(x:Xy)(N:XA):ae P f (Vr f) m (Instr.next a x N) (Instr.next W x N):=by
 have w:ae P f (Vr f) m (pure (.tuple #[.bool Xp]):XJ Xn) (pure (.tuple #[.bool Xp])):=aB (gH (aw.nil.push (.bool _)));cases Y<;>try exact ah
 rename_i O Q R;obtain⟨a8,a1,b0⟩:=O;obtain⟨a9,a7,b1⟩:=Q;obtain⟨v,s,n⟩:=R;subst s;cases a1 with
 |succ h=>exact ah
 |zero=>
  refine ax (bI v) λZ a0 u=>?_;cases u<;>cases x<;>first|exact ah|exact w|skip
  .dsimp only;split
   .refine .setObj v (.stringIter _ _) (Xs A) (.pure ?_);exact gH (((aw.nil.push (.bool _)).push (.int _ _)).push (.int _ _))
   exact w
  rename_i a5 a6 z c seen last;refine ax (bI z) λZ a0 u=>?_;cases u<;>try exact ah
  rename_i d e cl r;dsimp only;have a3:d.size=e.size:=by have:=r.length;omega
  have S:(!seen.isEmpty&&!d.isEmpty&&d.all (λ(b:XS)=>decide (b.born>=last)))=(!seen.isEmpty&&!e.isEmpty&&e.all (λ(b:XS)=>decide (b.born>=last))):=by
   have k:d.isEmpty=e.isEmpty:=by simp_all [Xu.isEmpty]
   have q:d.all (λ(b:XS)=>decide (b.born>=last))=e.all (λ(b:XS)=>decide (b.born>=last)):=by rw[<-Xu.all_toList,<-Xu.all_toList];exact aY.all r λb i g=>by rw[g.2.2]
   rw[k,q]
  rw[<-S];split
  .exact .lost A
  have y:=aY.filter r (p:=λ(b:XS)=>!seen.contains b.born) (p':=λ(b:XS)=>!seen.contains b.born) λb i g=>by rw[g.2.2]
  have U:=aY.filter y (p:=λ(b:XS)=>decide (b.born<c)) (p':=λ(b:XS)=>decide (b.born<c)) λb i g=>by rw[g.2.2]
  have a4:=aY.filter y (p:=λ(b:XS)=>decide (b.born>=c)) (p':=λ(b:XS)=>decide (b.born>=c)) λb i g=>by rw[g.2.2]
  have o:aY (LA f m)
   ((if((d.filter λ(b:XS)=>!seen.contains b.born).filter λ(b:XS)=>decide (b.born<c)).isEmpty=J then #[F]else #[])++(((d.filter λ(b:XS)=>!seen.contains b.born).filter λ(b:XS)=>decide (b.born<c))++((d.filter λ(b:XS)=>!seen.contains b.born).filter λ(b:XS)=>decide (b.born>=c))).map C).toList
   ((if((e.filter λ(b:XS)=>!seen.contains b.born).filter λ(b:XS)=>decide (b.born<c)).isEmpty=J then #[F]else #[])++(((e.filter λ(b:XS)=>!seen.contains b.born).filter λ(b:XS)=>decide (b.born<c))++((e.filter λ(b:XS)=>!seen.contains b.born).filter λ(b:XS)=>decide (b.born>=c))).map C).toList:=by
   rw[ZY,ZY];refine aY.append ?_ ?_
   .have k:((d.filter λ(b:XS)=>!seen.contains b.born).filter λ(b:XS)=>decide (b.born<c)).isEmpty=((e.filter λ(b:XS)=>!seen.contains b.born).filter λ(b:XS)=>decide (b.born<c)).isEmpty:=by
     have:=U.length;rw[<-J',<-J',<-J',<-J']at this;simp only[aap]at this;simp only[Xu.isEmpty,this]
    rw[<-k];split
    .exact .cons trivial .nil
    exact .nil
   simp_all [aY.QG,aY.append]
  generalize ((if((d.filter λ(b:XS)=>!seen.contains b.born).filter λ(b:XS)=>decide (b.born<c)).isEmpty=J then #[F]else #[])++(((d.filter λ(b:XS)=>!seen.contains b.born).filter λ(b:XS)=>decide (b.born<c))++((d.filter λ(b:XS)=>!seen.contains b.born).filter λ(b:XS)=>decide (b.born>=c))).map C)=l at o⊢
  generalize ((if((e.filter λ(b:XS)=>!seen.contains b.born).filter λ(b:XS)=>decide (b.born<c)).isEmpty=J then #[F]else #[])++(((e.filter λ(b:XS)=>!seen.contains b.born).filter λ(b:XS)=>decide (b.born<c))++((e.filter λ(b:XS)=>!seen.contains b.born).filter λ(b:XS)=>decide (b.born>=c))).map C)=p at o⊢
  have X:l.size=p.size:=by have:=o.length;omega
  rw[<-X];refine au (cr _) λh=>?_;have k:l[h]?=l.toList[h]?:=by simp
  have q:p[h]?=p.toList[h]?:=by simp
  rw[k,q];cases T:l.toList[h]? with
  |none=>exact ah
  |some a2=>
   obtain⟨L,s,n⟩:=o.get T;rw[s];cases a2 with
   |none=>
    cases L with
    |none=>exact w
    |some b=>exact n.elim
   |some b=>
    cases L with
    |none=>exact n.elim
    |some i=>dsimp only;have t:ji f m b i:=n;rw[<-t.2.2];refine .setObj v (.mapIter z _ _ _) (Xs A) (.pure ?_);exact gH (((aw.nil.push (.bool _)).push t.1).push t.2.1)
theorem JB(e:an f m a W):ae P f (Vr f) m (Instr.entry a) (Instr.entry W):=by
 cases e<;>try exact ah
 rename_i n o t;obtain⟨U,H,Z⟩:=n;obtain⟨X,T,a0⟩:=o;obtain⟨w,s,O⟩:=t;subst s;cases H with
 |succ S=>exact ah
 |zero=>
  refine ax (bI w) λz D g=>?_;cases g<;>try exact ah
  rename_i Q R v Y seen last;dsimp only;cases seen.back? with
  |none=>exact ah
  |some c=>
   refine ax (bI v) λz D g=>?_;cases g<;>try exact ah
   rename_i p q cl r;dsimp only;split
   .exact .lost A
   have y:∀{h i:Xq XS},aY (ji f m) h i->LA f m (h.find? λb=>b.born==c) (i.find? λb=>b.born==c):=by
    intro h i u
    induction u with
    |nil=>exact trivial
    |cons e _ x=>
     rename_i b k _ _ _;simp only[Xq.find?_cons];rw[<-e.2.2];cases b.born==c
     .exact x
     exact e
   have d:=y r;rw[<-Xu.find?_toList,<-Xu.find?_toList];generalize p.toList.find? (λb=>b.born==c)=L at d;generalize q.toList.find? (λb=>b.born==c)=N at d;cases L with
   |none=>exact .lost A
   |some b=>
    cases N with
    |none=>exact d.elim
    |some k=>have l:ji f m b k:=d;exact aB (gH ((aw.nil.push l.1).push l.2.1))
theorem xh(o:iP P)(i c:XA)(n:an f m a W):ae P f (Vr f) m (Instr.typeAssert a i c J) (Instr.typeAssert W i c J):=by
 have q:ae P f (Vr f) m (do pure (.tuple #[<-zeroValue c,.bool Xp]):XJ Xn) (do pure (.tuple #[<-zeroValue c,.bool Xp])):=
  ax (cL o c) λt u p=>aB (gH ((aw.nil.push p).push (.bool _)))
 have l:∀{b d:Xn},an f m b d->ae P f (Vr f) m (pure (.tuple #[b,.bool J]):XJ Xn) (pure (.tuple #[d,.bool J])):=
  λe=>aB (gH ((aw.nil.push e).push (.bool _)))
 refine au (ay c) λh=>?_
 have other:∀{g:XA}{b d:Xn},an f m b d->ae P f (Vr f) m
  (if g=c then pure (.tuple #[b,.bool J])else(do pure (.tuple #[<-zeroValue c,.bool Xp]):XJ Xn))
  (if g=c then pure (.tuple #[d,.bool J])else(do pure (.tuple #[<-zeroValue c,.bool Xp]):XJ Xn)):=by
  grind
 cases n with
 |nilIface=>grind
 |iface g e=>
  cases h<;>try exact other e
  refine ax (bL g) λr s⟨k,_⟩=>?_;subst k;split
  .exact l (.iface _ e)
  simp_all
 |_=>cases h<;>exact ah
theorem AK:ae P f (St m Eq) m Instr.panicnil Instr.panicnil:=by
 refine ae.env λa=>?_;cases a<;>first|exact ah|skip
 exact bH (aq A)
theorem za(c:Base P m)(b:an f m a W):ae P f (Vr f) m (Instr.panic a) (Instr.panic W):=by
 cases b<;>try exact ah
 .exact dW (.iface _ ‹_›)
 refine au AK λd=>?_;split
 .exact dW .nilIface
 simp_all [Gx]
theorem xX(c:E){d:Xn}(e:an f m b d):aw f m (Array.replicate c b) (Array.replicate c d):=by
 refine⟨by simp,λi a W g h=>?_⟩
 grind
theorem rQ(a:XA)(b:XM):ae P f (Vr f) m (Conv.stringToBytes a b) (Conv.stringToBytes a b):=by refine au (cr _) λi=>?_;refine .nZ a ((oT _).append (xX _ (.int _ _))) λe g h k d=>?_;have c:bA h ⟨e,0,F⟩ ⟨g,0,F⟩:=⟨d,A,A⟩;exact aB (.slice c _ _)
theorem FH{k:Type}{a:Xn->k->XJ (ForInStep k)}(l:∀e g b,an f m e g->ae P f (St m Eq) m (a e b) (a g b)){h i:Xq Xn}(n:aY (an f m) h i):
 ∀c,ae P f (St m Eq) m (forIn h c a) (forIn i c a):=by
 induction n with
 |nil=>simp[aq]
 |cons o _ p=>
  intro c;simp only[aa8];refine au (l _ _ _ o) λb=>?_;cases b with
  |done d=>exact aq A
  |yield d=>exact p d
theorem qn(h:an f m a W):ae P f (Vr f) m (Conv.bytesToString a) (Conv.bytesToString W):=by
 cases h<;>first|exact ah|exact aB (.string _)|skip
 rename_i k l d b c;refine ax (kQ d b) λo p e=>?_;refine au ?_ λr=>aB (.string _);rw[<-r_,<-r_];refine FH (λc n q g=>?_) e.list _;cases g with
 |int i b=>cases i<;>first|exact .lost rfl|exact aq rfl
 |_=>exact .lost A
end
variable{b:Xu Xn}{S:Xn}
section
variable{d e g h:Type}{i:Ren->d->e->Prop}{Q:Ren->g->h->Prop}
theorem wQ{d e:XG}(h:bA m d e):ae P f (St m (bA m)) m (Conv.seenAt d) (Conv.seenAt e):=by
 refine ax (jU h.1) λa S w=>?_;cases w with
 |none=>exact aq h
 |some c x=>
  rename_i p N;obtain⟨y,n,o⟩:=d;obtain⟨z,H,L⟩:=e;obtain⟨D,s,t⟩:=h;subst s;subst t;by_cases r:(decide (n=0)&&o.isNone)=J
  .simp_all [aq]
  simp only[r];have v:=c.2.2.symm;have u:=c.2.1.symm;rw[v,u];by_cases k:(o.isSome||p.spot.isSome)=J
  .simp only[k,Ym];exact fq
  simp only[k];refine bH ?_;cases byteOfCell P P.depth x n with
  |none=>exact fq
  |some q=>
   refine au (cZ c.1) λi=>?_;cases i with
   |none=>exact fq
   |some i=>
    obtain⟨g,cells⟩:=i;by_cases l:P.cellsOf g=0
    .simp only[l,Ym];exact fq
    simp only[l,Yq];cases cellAtBytes P P.depth g (cells/P.cellsOf g) p.off q with
    |none=>exact fq
    |some b=>exact aq ⟨c.1,A,A⟩
theorem Cf{c d:E}(b:m c d):ae P f (St m Eq) m (cellsIn c) (cellsIn d):=by
 refine au (cZ b) λg=>?_;cases g with
 |some a=>exact aq A
 |none=>refine ax (bI b) λh i e=>?_;cases e<;>exact aq A
theorem mD{b c:XG}(d:bA m b c)(g:XA)(e:E):ae P f (St m Eq) m (variablesAt b g e) (variablesAt c g e):=by
 refine bH ?_;refine au (cZ d.1) λh=>?_;cases h with
 |none=>exact aq A
 |some a=>rw[<-d.2.1];exact aq A
theorem nh{b c:XG}(d:bA m b c)(a:XA):ae P f (Vr f) m (do pure (XK (C ⟨<-newObj (.view b a),0,F⟩)):XJ Xn) (do pure (XK (C ⟨<-newObj (.view c a),0,F⟩))):=
 .new (.view d a) λh i k g e=>.pure (.ptr ⟨e,A,A⟩)
theorem kJ(n l:XA)(x:(∃k,P.underlying n=C (.pointer k)/\P.underlying l=C .unsafePointer)\/(∃k,P.underlying n=C .unsafePointer/\P.underlying l=C (.pointer k)))
 (t:an f m a W):ae P f (Vr f) m (Conv.unsafePointer n l a) (Conv.unsafePointer n l W):=by
 refine ax (cB n) λH L⟨p,hd⟩=>?_;subst p;refine ax (cB l) λN O⟨p,o⟩=>?_;subst p;rcases x with⟨k,q,r⟩|⟨k,q,r⟩
 .rw[q]at hd;rw[r]at o;cases hd;cases o;cases t<;>try exact ah
  .exact aB .cJ
  rename_i v w s;refine ax (wQ s) λy z c=>?_;refine au (Cf c.1) λb=>?_;refine au (aT k) λD=>?_;rw[<-c.2.1,<-c.2.2];cases b<;>dsimp only<;>split<;>first|exact nh c k|exact aB (.ptr c)
 rw[q]at hd;rw[r]at o;cases hd;cases o;cases t<;>try exact ah
 .exact aB .cJ
 rename_i v w s;refine ax (wQ s) λy z c=>?_;refine au (aT k) λD=>?_;refine au (mD c k 1) λR=>?_;split
 .exact aB (.ptr c)
 refine au (cZ c.1) λu=>?_;cases u with
 |none=>exact fq
 |some u=>
  refine bH ?_;refine bH ?_;split
  .exact fq
  grind [nh]
def Fs(P:XI)(c b:XA):Xy:=
 match P.underlying c,P.underlying b with
 |C (.int _),C (.int _)=>J
 |C .string,C (.slice a)=>match P.underlying a with|some (.int .u8)=>J|_=>Xp
 |C (.slice a),C .string=>match P.underlying a with|some (.int .u8)=>J|_=>Xp
 |C (.pointer _),C .unsafePointer=>J
 |C .unsafePointer,C (.pointer _)=>J
 |_,_=>Xp
theorem uf(a:Xt):ae P f (Vr f) m (Conv.intToString a) (Conv.intToString a):=aB (.string _)
theorem Ci(h e:XA)(b:Fs P h e=J)(d:an f m a W):ae P f (Vr f) m (convert h e a) (convert h e W):=by
 refine ax (cB h) λv w⟨k,hd⟩=>?_;subst k;refine ax (cB e) λx y⟨k,o⟩=>?_;subst k;unfold Fs at b;rw[hd,o]at b;split at b<;>rename_i c g<;>first|cases b|skip
 all_goals simp only[Yr]at c g
 .subst c;subst g;cases d<;>first|exact fq|exact ah|exact aB (.int _ _)
 .subst c;subst g;cases d<;>try exact fq
  refine ax (cB _) λn u⟨eq,l⟩=>?_;subst eq;rw[l]at b;split at b<;>rename_i c<;>first|cases b|skip
  cases c;exact rQ _ _
 .subst c;subst g;rename_i i _ _
  have r:ae P f (Vr f) m (do match<-underlying i with|.int .u8=>Conv.bytesToString a|.int .i32=>Conv.runesToString a|_=>stuck "Convert: a slice of what to string?":XJ Xn) (do match<-underlying i with|.int .u8=>Conv.bytesToString W|.int .i32=>Conv.runesToString W|_=>stuck "Convert: a slice of what to string?"):=by
   refine ax (cB _) λn u⟨eq,l⟩=>?_;subst eq;rw[l]at b;split at b<;>rename_i c<;>first|cases b|skip
   cases c;exact qn d
  cases d with
  |bS q=>
   have dd:gx (do match<-underlying i with|.int .u8=>Conv.bytesToString (.tuple #[])|.int .i32=>Conv.runesToString (.tuple #[])|_=>stuck "Convert: a slice of what to string?":XJ Xn):=by
    refine .program λP=>?_;simp only[program,Bind.bind,Sem.bind];cases P.underlying i with
    |none=>exact .lost A
    |some n=>
     cases n with
     |int p=>cases p<;>exact .lost A
     |_=>exact .lost A
   cases W<;>first|exact .dead dd|(simp only[bN]at q)
  |int p s=>exact uf s
  |string t=>exact aB (.string t)
  |_=>exact r
 .subst c;subst g;have:=kJ (P:=P) (m:=m) h e (Xr ⟨_,hd,o⟩) d;cases d<;>first|exact this|exact fq
 simp_all [kJ]
theorem oF:∀(b:E){c d:XG}(e:bA m c d)(acc:XM),ae P f (St m Eq) m (Extern.Bytes.loadBytes c b acc) (Extern.Bytes.loadBytes d b acc)
 |0,_,_,_,_=>aq A
 |b+1,c,d,e,acc=>by
  refine ax (qP e) λi k g=>?_;cases g<;>try exact ah
  rename_i h a;cases h<;>first|exact ah|exact oF b (e.add 1) _
theorem ky(b:an f m a W):ae P f (St m Eq) m (Extern.Bytes.bytesOf a) (Extern.Bytes.bytesOf W):=by cases b<;>first|exact ah|exact aq rfl|exact oF _ ‹_› _
theorem ve(b:an f m a W):ae P f (St m Eq) m (Extern.Bytes.asByte a) (Extern.Bytes.asByte W):=by
 cases b<;>try exact ah
 rename_i c a;cases c<;>first|exact ah|exact aq rfl
theorem DW{c:Xu Xn}(d:aw f m b c)(e:b=#[a]):∃W,c=#[W]/\an f m a W:=by
 subst e;have g:c.size=1:=d.1.symm;obtain⟨h⟩:=c
 match h,g with
 |[S],_=>exact⟨S,A,d.2 0 a S A rfl⟩
theorem DX{c:Xu Xn}(d:aw f m b c)(i:b=#[a,S]):∃W g,c=#[W,g]/\an f m a W/\an f m S g:=by
 subst i;have k:c.size=2:=d.1.symm;obtain⟨l⟩:=c
 match l,k with
 |[h,e],_=>exact⟨h,e,A,d.2 0 a h A rfl,d.2 1 S e A rfl⟩
def kM(P:XI)(f:Set)(c:Xu Xn->XJ Xn):Prop:=
 ∀(m:Ren)(a b:Xu Xn),Base P m->qc m->aw f m a b->ae P f (Vr f) m (c a) (c b)
theorem Oo:kM P f Extern.AbiNoEscape.same:=by
 intro m c g h i b;obtain⟨e⟩:=c
 match e,b with
 |[],b=>exact ah
 |[a],b=>obtain⟨W,rfl,d⟩:=DW b A;exact aB d
 |_::_::_,b=>exact ah
theorem Jz:kM P f Extern.BytealgCount.count:=by
 intro m d i l n c;obtain⟨h⟩:=d
 match h,c with
 |[],c=>exact ah
 |[a],c=>exact ah
 |[a,S],c=>obtain⟨W,o,rfl,e,g⟩:=DX c A;exact au (ky e) λk=>au (ve g) λb=>aB (.int _ _)
 |_::_::_::_,c=>exact ah
theorem Gh(d:Base P m)(e:∀a,P.globals.findIdx? (·.name== "internal/bytealg.MaxLen")=C a->0<a):ae P f (St m Eq) m Extern.BytealgIndex.maxLen Extern.BytealgIndex.maxLen:=by
 refine ax (n:=bA m) ?_ λi k c=>ax (qP c) λl n g=>dO g;refine bH ?_;cases b:P.globals.findIdx? (·.name== "internal/bytealg.MaxLen")with
 |none=>exact ah
 |some a=>have:=(Xu.findIdx?_eq_some_iff_getElem.1 b).1;exact aq ⟨d.at (e a b) (aa2 this),A,A⟩
theorem JW(n:∀e,P.globals.findIdx? (·.name== "internal/bytealg.MaxLen")=C e->0<e):kM P f Extern.BytealgIndex.index:=by
 intro m k t l u b;obtain⟨q⟩:=k
 match q,b with
 |[],b=>exact ah
 |[a],b=>exact ah
 |[a,S],b=>
  obtain⟨W,v,rfl,o,p⟩:=DX b A;refine au (ky o) λd=>au (ky p) λc=>?_;refine au (Gh l n) λr=>?_;by_cases g:(decide (c.size<2)||decide ((c.size:Xt)>r))=J
  .simp only[g,Ym];exact fq
  simp only[g];by_cases h:d.size>=2^32-15
  .simp only[h,Ym];exact fq
  simp only[h,Yq];generalize ((Xq.range (d.size+1-c.size)).find? λi=>d.extract i (i+c.size)==c)=s;cases s<;>exact aB (.int _ _)
 |_::_::_::_,b=>exact ah
theorem xL:kM P f Extern.BytealgIndexByte.indexByte:=by
 intro m e n o p c;obtain⟨k⟩:=e
 match k,c with
 |[],c=>exact ah
 |[a],c=>exact ah
 |[a,S],c=>obtain⟨W,q,rfl,g,h⟩:=DX c A;refine au (ky g) λd=>au (ve h) λb=>?_;generalize ((Xq.range d.size).find? λi=>d[i]! ==b)=l;cases l<;>exact aB (.int _ _)
 |_::_::_::_,c=>exact ah
theorem vz:∀(a b:E)(acc:Xu Xn),aw f m acc acc->aw f m (Extern.BytealgMakeNoZero.digits a b acc) (Extern.BytealgMakeNoZero.digits a b acc)
 |0,_,_,c=>c
 |a+1,b,acc,c=>vz a (b/256) _ (c.push (.int _ _))
theorem we(e d:Xu XA):kM P f (Extern.BytealgMakeNoZero.makeNoZero e d):=by
 intro m g t v w b
 have main:∀c:Xt,ae P f (Vr f) m (Extern.BytealgMakeNoZero.makeNoZero e d #[Xo M c]) (Extern.BytealgMakeNoZero.makeNoZero e d #[Xo M c]):=by
  intro c;unfold Extern.BytealgMakeNoZero.makeNoZero;cases d[0]? with
  |none=>exact ah
  |some q=>
   refine au (ay q) λi=>?_;cases i<;>try exact ah
   rename_i k;dsimp only;split
   .simp_all [jQ]
   refine au (cr _) λh=>?_;refine ax (mM h) λ_ _ _=>?_;refine au (cr _) λu=>?_;exact bindM (gY (vz _ _ _ aw.nil) k) λx r s _⟨_,l⟩=>aB (.slice l _ _)
 obtain⟨p⟩:=g
 match p,b with
 |[],b=>exact ah
 |[a],b=>
  obtain⟨W,rfl,n⟩:=DW b A;cases n with
  |int o c=>cases o<;>first|exact main c|exact ah
  |_=>exact ah
 |_::_::_,b=>exact ah
theorem jl{c:Xu XA}{d e:XA->E->XJ Xn}(h:∀a g,ae P f (Vr f) m (d a g) (e a g)):
 ae P f (Vr f) m (do let C a:=c[0]?|stuck "slices.overlaps: no parameter types"
                     let .slice b<-underlying a|stuck "slices.overlaps: slice type expected"
                     let size<-sizeOf b
                     d b size)
  (do let C a:=c[0]?|stuck "slices.overlaps: no parameter types"
      let .slice b<-underlying a|stuck "slices.overlaps: slice type expected"
      let size<-sizeOf b
      e b size):=by
 cases c[0]? with
 |none=>exact ah
 |some a=>grind [au,ay,ah,aT]
theorem AJ(r s:Xu XA)(w:qc m){c l d n:XG}(e:bA m c l)(g:bA m d n)(i b h o:E):
 ae P f (Vr f) m (Extern.SlicesOverlaps.overlaps r s #[Xw (C c) i b,Xw (C d) h o]) (Extern.SlicesOverlaps.overlaps r s #[Xw (C l) i b,Xw (C n) h o]):=by
 refine jl λR k=>?_;have N:=w _ _ _ _ e.1 g.1;have u:(l.block !=n.block)=(c.block !=d.block):=by grind
 have v:(l.block==n.block)=(c.block==d.block):=by grind
 dsimp only;rw[u,v,<-e.2.1,<-g.2.1];have fin:ae P f (Vr f) m (pure (.bool (c.block==d.block&&decide (c.off<d.off+h*k)&&decide (d.off<c.off+i*k)))) (pure (.bool (c.block==d.block&&decide (c.off<d.off+h*k)&&decide (d.off<c.off+i*k)))):=aB (.bool _);by_cases p:i=0\/h=0\/k=0
 .simp only[p,Ym];exact aB (.bool _)
 simp only[p,Yq];cases hd:(c.block !=d.block)with
 |false=>refine ax (eV e) λa W y=>?_;refine ax (eV g) λS t D=>?_;simp_all
 |true=>
  have x:(c.block==d.block)=Xp:=by simp_all
  refine ax (eV e) λa W y=>?_;refine ax (eV g) λS t D=>?_;simp only[Xy.true_and];by_cases q:(a&&S)=J
  .simp only[q,Ym];exact fq
  have z:¬(W&&t)=J:=by grind
  simp only[q,z,Ym];refine ax (jK e) λ_ _ _=>ax (jK g) λ_ _ _=>?_;refine ax (qS e g) λH L O=>?_;cases H
  .grind
  cases L
  .simp only[Ym,x,abm];refine .kA _ A 0 ?_;exact aB (.bool _)
  exact au (cr _) λQ=>aB (.bool _)
theorem AI(q r:Xu XA):kM P f (Extern.SlicesOverlaps.overlaps q r):=by
 intro m l s t u c;obtain⟨o⟩:=l
 match o,c with
 |[],c=>exact ah
 |[a],c=>obtain⟨W,rfl,d⟩:=DW c A;cases d<;>exact ah
 |[a,S],c=>
  obtain⟨W,x,rfl,d,h⟩:=DX c A;cases d with
  |aO p b=>
   cases h with
   |aO g e=>exact jl λi k=>aB (.bool _)
   |slice n g e=>exact jl λi k=>aB (.bool _)
   |_=>exact ah
  |slice v p b=>
   cases h with
   |aO g e=>exact jl λi k=>aB (.bool _)
   |slice n g e=>simp_all [AJ]
   |_=>exact ah
  |_=>exact ah
 |a::_::_::_,c=>cases c.get (i:=0) (x:=a) A with|intro W d=>cases d.2<;>exact ah
theorem ox(i:Xu XA)(e:XA):kM P f (Builtin.unsafeSliceData_ i e):=by
 intro m l q s t d;obtain⟨p⟩:=l
 match p,d with
 |[],d=>exact ah
 |[a],d=>
  obtain⟨W,rfl,o⟩:=DW d A;cases o with
  |aO h b=>exact aB .cJ
  |slice g h b=>
   have k:∀c:XG,Builtin.unsafeSliceData_ i e #[Xw (C c) h b]=(do
    if b≠0 then pure (XK (C c))
    else if(<-viewAt c.block).isSome then pure (XK (C c))
    else pure (XK (C ⟨<-newObj (.view c (<-elemOf e)),0,F⟩))):=λ_=>rfl
   show ae P f (Vr f) m (Builtin.unsafeSliceData_ i e #[Xw (C _) h b]) _;rw[k,k];split
   .exact aB (.ptr g)
   refine ax (jU g.1) λv w n=>?_;cases n with
   |none=>grind [au,pz,nh]
   |some r u=>exact aB (.ptr g)
  |_=>exact ah
 |a::_::_,d=>exact ah
theorem te(d:Xu XA)(o:XA):kM P f (Builtin.unsafeString_ d o):=by
 intro m h p q r b;obtain⟨l⟩:=h
 match l,b with
 |[],b=>exact ah
 |[a],b=>
  obtain⟨W,rfl,c⟩:=DW b A;cases c with
  |ptr=>exact ah
  |_=>exact ah
 |[a,S],b=>
  obtain⟨W,v,rfl,c,g⟩:=DX b A;cases c with
  |cJ=>
   refine au (dO g) λn=>?_;cases d[0]? with
   |none=>exact ah
   |some pt=>
    dsimp only;split
    .simp_all [jQ]
    split
    .exact fq
    split
    .exact aB (.string _)
    simp_all [Gx]
  |ptr e=>
   refine au (dO g) λn=>?_;cases d[0]? with
   |none=>exact ah
   |some pt=>
    dsimp only;split
    .simp_all [jQ]
    split
    .exact fq
    split
    .exact aB (.string _)
    refine au (pz pt) λi=>?_;refine au (mD e i _) λu=>?_;split
    .exact .jX _ e λt=>aB (.string _)
    exact fq
  |_=>exact ah
 |a::_::_::_,b=>obtain⟨W,c,k⟩:=b.get (i:=0) (x:=a) A;cases k<;>exact ah
end
def bJ(fn:XU->Xy):E->Xn->Xy
 |0,_=>Xp
 |_+1,.bool _=>J
 |_+1,.int _ _=>J
 |_+1,.string _=>J
 |_+1,XK F=>J
 |_+1,Xw F _ _=>J
 |_+1,.map F=>J
 |_+1,.chan F=>J
 |_+1,.nilFunc=>J
 |_+1,.nilIface=>J
 |_+1,.func (.func c) d a=>fn c&&d.isEmpty&&a.isEmpty
 |b+1,.iface _ e=>bJ fn b e
 |b+1,.agg a=>a.toList.all (bJ fn b)
 |b+1,.tuple a=>a.toList.all (bJ fn b)
 |_+1,_=>Xp
theorem iB:∀(e:E)(c:Xn),bJ f.fn e c=J->an f m c c
 |0,_,d=>by grind [bJ]
 |e+1,c,d=>by
  have agg:∀b:Xu Xn,b.toList.all (bJ f.fn e)=J->aw f m b b:=by intro b h;refine⟨A,λv l D i k=>?_⟩;rw[i]at k;cases k;rw[Zk]at h;exact iB e l (h l (by rw[YK];exact YE i))
  cases c with
  |bool s=>exact .bool _
  |int w y=>exact .int _ _
  |string z=>exact .string _
  |pointer a=>cases a with
   |none=>exact .cJ
   |some a=>grind [bJ]
  |slice a x b=>cases a with
   |none=>exact .aO _ _
   |some a=>grind [bJ]
  |map a=>cases a with
   |none=>exact .fw
   |some a=>grind [bJ]
  |chan a=>cases a with
   |none=>exact .eg
   |some a=>grind [bJ]
  |nilFunc=>exact .nilFunc
  |nilIface=>exact .nilIface
  |func g q b=>cases g with
   |func g=>
    simp only[bJ,Ys]at d;obtain⟨⟨p,t⟩,u⟩:=d;have n:q=#[]:=by simp_all
    have o:b=#[]:=by simp_all
    subst n;subst o;exact .func (.func g p) A rfl (by simp) (by simp)
   |_=>simp[bJ]at d
  |iface r c=>exact .iface r (iB e c (by simpa[bJ]using d))
  |agg b=>simp_all [mL,bJ]
  |tuple b=>simp_all [gH,bJ]
  |_=>grind [bJ]
def dy(P:XI)(fn:XU->Xy):XV->Xy
 |.tmp _=>J
 |.const c=>bJ fn 8 c
 |.global a=>decide (0<a)&&decide (a<P.globals.size)
 |.func b=>fn b
def Jq(P:XI)(cj:Xy)(a:Builtin)(b:Xu XA):Xy:=
 match a with
 |.append|.cap|.copy|.len|.min|.panic|.recover|.unsafeSliceData|.unsafeString=>J
 |.clear|.delete=>cj
 |_=>Xp
def vo(P:XI)(c:Builtin->Xu XA->Xy)(a:Call):Xy:=
 match a.callee with
 |.value _=>J
 |.builtin b=>c b a.argTypes
 |.invoke .. =>Xp
def jj(P:XI)(fn:XU->Xy)(c:Builtin->Xu XA->Xy)(cj:Xy)(b:Op):Xy:=
 b.operands.toList.all (dy P fn)&&
 match b with
 |.ready _|.waits _|.sliceToArrayPointer .. |.makeChan .. |.mapEntry .. |.entryStore .. |.go _|.send .. |.recv .. |.select .. =>Xp
 |.convert f d _=>Fs P f d
 |.makeFunc (.func e) _ _=>fn e
 |.makeFunc .. =>Xp
 |.mapUpdate .. |.insert .. =>cj
 |.typeAssert _ _ _ ok=>ok
 |.call a|.defer a=>vo P c a
 |_=>J
def codeOk(P:XI)(fn:XU->Xy)(b:Builtin->Xu XA->Xy)(cj:Xy):XR->Xy
 |.seq a c=>codeOk P fn b cj a&&codeOk P fn b cj c
 |.cond d a c=>dy P fn d&&codeOk P fn b cj a&&codeOk P fn b cj c
 |.block _ a|.loop a|.scope a=>codeOk P fn b cj a
 |.rangeFunc e _ a c=>dy P fn e&&codeOk P fn b cj a&&codeOk P fn b cj c&&cM a&&cM c
 |.region _ g _=>g.toList.all λf=>jj P fn b cj f.op
 |_=>J
structure Good(P:XI)(f:Set):Prop where
 uG:kj P
 zero:iP P
 code:f.code=codeOk P f.fn f.bi f.cj
 bi:f.bi=Jq P f.cj
 UI:P.follows .rangeFuncRecover=J
 norace:∀g fn,f.fr g=J->P.funcs[g]?=C fn->fn.norace=Xp
 FI:∀g,f.fn g=J->f.fr g=J
 maxLen:∀k,P.globals.findIdx? (·.name== "internal/bytealg.MaxLen")=C k->0<k
 funcs:∀g,f.fn g=J->∃fn,P.funcs[g]?=C fn/\(fn.name== "runtime.NumGoroutine")=Xp/\
  ((∃h,fn.body=C h/\f.code h=J)\/(fn.body=F/\Extern.findNext fn=F/\∃i,Extern.find fn=C i/\kM P f i))
inductive BQ(f:Set)(m:Ren):Next->Next->Prop
 |value {u v:Xn} (p:an f m u v):BQ f m (.value u) (.value v)
 |skip:BQ f m .skip .skip
 |enter (g:XU) (w:f.fn g=J) {k l:Xu Xn} (p:aw f m k l):BQ f m (.enter g k) (.enter g l)
 |round {q r:E} (z:m q r) (g:XU) (w:f.fr g=J) {s t:Xu Xn} (D:aw f m s t) (h i:XR) (x:f.code h=J) (y:f.code i=J) (H:cM h=J) (L:cM i=J):BQ f m (.round q g s h i) (.round r g t h i)
 |defer {n o:Deferred} (p:rZ f m n o):BQ f m (.defer n) (.defer o)
 |recover:BQ f m .recover .recover
def Nr(f:Set):Ren->Next->Next->Prop:=λm a b=>BQ f m a b
section
variable{a b c d:Type}{e:Ren->a->b->Prop}{Q:Ren->c->d->Prop}
theorem be{a b:XJ Xn}(c:ae P f (Vr f) m a b):ae P f (Nr f) m (do pure (.value (<-a))) (do pure (.value (<-b))):=
 bindM c λh e g _ d=>aB (.value d)
theorem td{a b:XJ Unit}(c:ae P f (St m λ_ _=>True) m a b):ae P f (Nr f) m (do a;pure .skip) (do b;pure .skip):=
 ax c λ_ _ _=>aB .skip
theorem zM(G:Good P f)(o:Base P m)(p:qc m)(a:XU)(e:f.fn a=J){b c:Xu Xn}(g:aw f m b c):ae P f (Nr f) m (callFunc a b) (callFunc a c):=by
 obtain⟨fn,k,l,n⟩:=G.funcs a e;refine bH ?_;rw[k];dsimp only;rw[l];rcases n with⟨r,d,_⟩|⟨d,h,s,i,q⟩
 .simp only[d,Xz.isNone_some,Yt,Yq];exact aB (.enter a e g)
 simp only[d,Xz.isNone_none,Ym,Yt,Yq];refine .mark (.extern a) (by exact e) ?_;rw[h,i];exact be (q m b c o p g)
theorem Lg{r s:E}(p:m r s){l n:Xu Xn}(o:aw f m l n):ae P f (Nr f) m (Instr.yield r l) (Instr.yield s n):=by
 refine ax (n:=λd t=>zA f m d t) ?_ λd t Q=>?_
 .refine ax (bI p) λZ a0 O=>?_;cases O<;>first|exact ah|grind [aq]
 obtain⟨U,X,y,z,D,H,L,Y,N,u,W,v,w,x⟩:=Q;rw[<-D,<-o.1];split
 .exact ah
 refine aB ?_;rw[<-y,<-H,<-L];refine .round p _ v ?_ _ _ N u w x
 have:∀(b:Xq E)(i k:Xq Xn),aY (an f m) i k->∀(e g:Xu Xn),aw f m e g->
  aw f m ((b.zip i).foldl (λh(a:E×Xn)=>h.setIfInBounds a.1 a.2) e) ((b.zip k).foldl (λh(a:E×Xn)=>h.setIfInBounds a.1 a.2) g):=by
  intro b
  induction b with
  |nil=>simp
  |cons a b S=>
   intro i k c e g q;cases c with
   |nil=>exact q
   |cons R c=>exact S _ _ c _ _ (q.set a R)
 have:=this d.params.toList _ _ o.list _ _ z
 grind [Array.toList_zip]
theorem Mc(G:Good P f)(d:Base P m)(g:qc m)(e:Builtin)(a:Xu XA)(b:XA)(k:Xu Xy)(l:f.bi e a=J){h i:Xu Xn}(c:aw f m h i):
 ae P f (Nr f) m (builtin e a b k h) (builtin e a b k i):=by
 rw[G.bi]at l;cases e<;>first|(simp only[Jq,Yt]at l;done)|skip
 .exact be (Fa G.zero d a b c)
 .exact be (Pp a b c)
 .exact be (Jw (by simp_all [Jq]) G.zero a b c)
 .exact be (My a b c)
 .exact be (Fx (by simp_all [Jq]) d g a b c)
 .exact be (Qb a b c)
 .exact be (Qf a b c)
 .exact be (za d (c.getD 0 .nilIface))
 .exact aB .recover
 .exact be (ox a b _ _ _ d g c)
 exact be (te a b _ _ _ d g c)
theorem pE(G:Good P f)(c:Base P m)(h:qc m){a i:Target}(q:lJ f m a i){e g:Xu Xn}(b:aw f m e g):ae P f (Nr f) m (invoke a e) (invoke i g):=by
 cases q with
 |fn d n=>
  cases d with
  |func l d=>exact zM G c h l d (b.append n)
  |yield p=>exact Lg p b
 |nil=>exact Gx (h:=.nilDeref) c (by simp)
 |builtin k s a r o=>exact Mc G c h k s a r o b
 |collected u=>exact ah
def lG(P:XI)(f:Set)(m:Ren)(b c:XV->Xn):Prop:=∀a,dy P f.fn a=J->an f m (b a) (c a)
theorem Av{g h:XV->Xn}(l:lG P f m g h){a:Xu XV}(i:∀e∈a.toList,dy P f.fn e=J):aw f m (a.map g) (a.map h):=by
 refine⟨by simp,λn e o b c=>?_⟩;rw[Yu]at b c;cases k:a[n]? with
 |none=>simp_all
 |some d=>rw[k]at b c;cases b;cases c;exact l d (i d (by grind))
theorem uI{b c:XV->Xn}(e:lG P f m b c){a:Xz XV}(d:∀g∈a.toArray.toList,dy P f.fn g=J):mr f m (a.map b) (a.map c):=by
 cases a with
 |none=>trivial
 |some a=>exact e a (d a (by simp))
theorem DG{g h:XV->Xn}(d:lG P f m g h):∀{b:Xq (E×XV)},(∀e∈b.map (·.2),dy P f.fn e=J)->aY (LC f m) (b.map λa=>(a.1,g a.2)) (b.map λa=>(a.1,h a.2))
 |[],_=>.nil
 |e::b,c=>.cons ⟨A,d _ (c _ (by simp))⟩ (DG d λi k=>c i (by simp_all))
theorem yZ{d e:XV->Xn}(h:lG P f m d e){c:Xu (E×XV)}(g:∀a∈c.toList.map (·.2),dy P f.fn a=J):
 aY (LC f m) (c.map λ(b,a)=>(b,d a)).toList (c.map λ(b,a)=>(b,e a)).toList:=by
 grind [Array.toList_map,DG]
theorem tS(G:Good P f){h i:XV->Xn}(k:lG P f m h i)(a:Call)(l:XA)(o:∀g∈a.operands.toList,dy P f.fn g=J)(d:vo P f.bi a=J):
 ae P f (St m (rZ f m)) m (resolve h a l) (resolve i a l):=by
 have p:∀g∈a.args.toList,dy P f.fn g=J:=by simp_all [Call.operands]
 have c:=Av k p;unfold resolve;unfold vo at d;cases r:a.callee with
 |value b=>
  have e:=k b (o b (by simp_all [Call.operands]));dsimp only;generalize h b=z at e⊢
  generalize i b=D at e⊢
  cases e with
  |bS w=>exact ah
  |func s t q v u=>exact aq ⟨.fn s ⟨q,u⟩,aw.append ⟨t,v⟩ c⟩
  |nilFunc=>exact aq ⟨.nil,c⟩
  |_=>exact ah
 |builtin n=>rw[r]at d;exact aq ⟨.builtin n _ _ _ d,c⟩
 |invoke y x=>simp_all
theorem vE(G:Good P f)(k:Base P m)(x:qc m){w H:XV->Xn}(d:lG P f m w H)(L:Oper)(h:jj P f.fn f.bi f.cj L.op=J):
 ae P f (Nr f) m (execOp w L) (execOp H L):=by
 obtain⟨b5,u,S,d6⟩:=L;unfold jj at h;rw[Ys,Zk]at h;obtain⟨b,h⟩:=h;dsimp only at b h;have v:=G.zero;cases u<;>first|(cases h;done)|skip
 case move a=>exact aB (.value (d a (b a (by simp[XX]))))
 case assign a=>exact aB (.value (d a (b a (by simp[XX]))))
 case pick i g q=>
  refine au (vd (d i (b i (by simp[XX])))) λc=>?_;cases c
  .exact aB (.value (d q (b q (by simp[XX]))))
  exact aB (.value (d g (b g (by simp[XX]))))
 case alloc c=>exact be (Jm v c)
 case box c a=>exact be (Pn c (d a (b a (by simp[XX]))))
 case build c a8=>exact be (Js v c (yZ d λa p=>b a (by simp_all [XX])))
 case buildSlice c s a8=>exact be (vn v c s (yZ d λa p=>b a (by simp_all [XX])))
 case load c g=>exact be (Gc c (d g (b g (by simp[XX]))))
 case store c g a=>exact td (Eg c (d g (b g (by simp[XX]))) (d a (b a (by simp[XX]))))
 case nilCheck a=>
  have p:=d a (b a (by simp[XX]))
  show ae P f (Nr f) m (match w a with
   |XK F|.nilIface|.nilFunc=>runtimePanic .nilDeref
   |.func (.method R) first T=>
    match(first[0]?:Xz Xn)with
    |some .nilIface=>runtimePanic .nilDeref
    |some (.iface c b0)=>do
     if(<-nilAhead ((<-program).types.size+Made.depth) c b0 R)!=C Xp then
      unsupported (.noEntry "op/nilCheck.the method's receiver behind this interface value is a nil pointer, or cannot be seen to be none, and the arguments act or may panic (ledger 612)")
     pure (.value (.func (.method R) first T))
    |_=>pure (.value (.func (.method R) first T))
   |a=>pure (.value a)) _
  unfold execOp;dsimp only;generalize w a=e1 at p⊢
  generalize H a=a9 at p⊢
  cases p with
  |bS o=>
   cases a9<;>first|exact o.elim|skip
   .exact aB (.value (.bS o))
   .rename_i g;cases g with
    |none=>exact o.elim
    |some g=>exact aB (.value (.bS o))
   .exact aB (.value (.bS o))
   .exact aB (.value (.bS o))
   .exact aB (.value (.bS o))
   rename_i fn _ _;cases fn<;>first|exact o.elim|exact aB (.value (.bS o))
  |cJ=>simp_all [Gx]
  |nilIface=>simp_all [Gx]
  |nilFunc=>simp_all [Gx]
  |func a5 Y X a1 a0=>cases a5 with
   |func l a4=>exact aB (.value (.func (.func l a4) Y X a1 a0))
   |yield a6=>exact aB (.value (.func (.yield a6) Y X a1 a0))
  |bool q=>exact aB (.value (.bool q))
  |int r s=>exact aB (.value (.int r s))
  |string D=>exact aB (.value (.string D))
  |ptr n=>exact aB (.value (.ptr n))
  |aO s i=>exact aB (.value (.aO s i))
  |slice n s i=>exact aB (.value (.slice n s i))
  |fw=>exact aB (.value .fw)
  |map n=>exact aB (.value (.map n))
  |eg=>exact aB (.value .eg)
  |chan n=>exact aB (.value (.chan n))
  |iface c n=>exact aB (.value (.iface c n))
  |agg O Q=>exact aB (.value (.agg O Q))
  |tuple O Q=>exact aB (.value (.tuple O Q))
 case binOp u c a e a2=>have p:=d a (b a (by simp[XX]));have t:=d e (b e (by simp[XX]));exact be (ax (Cu u c a e p t) λ_ _ _=>Jr k x u c p t)
 case unOp u c a=>exact be (Ld u (d a (b a (by simp[XX]))))
 case convert D N a=>exact be (Ci D N h (d a (b a (by simp[XX]))))
 case makeInterface c a=>exact be (qQ c (d a (b a (by simp[XX]))))
 case makeFunc l g q=>
  cases l<;>first|(cases h;done)|skip
  rename_i l;have U:aw f m (g.map w) (g.map H):=by grind [Av,Op.operands]
  have W:aw f m (q.map w) (q.map H):=by grind [Av,Op.operands]
  exact be (aB (.func (.func l h) U.1 W.1 U.2 W.2))
 case makeMap c d7=>exact be (Dm c (uI d λe t=>b e (by simp_all [XX])))
 case makeSlice c Z i=>exact be (xQ v k c (d Z (b Z (by simp[XX]))) (d i (b i (by simp[XX]))))
 case slice c a c6 b9 d3=>
  refine be (DY k c (d a (b a (by simp[XX]))) (uI d λe t=>b e ?_) (uI d λe t=>b e ?_) (uI d λe t=>b e ?_))
  .simp_all [XX]
  .simp_all [XX]
  simp_all [XX]
 case fieldAddr c a l=>exact be (Cy c (d a (b a (by simp[XX]))) l)
 case field c a l=>exact be (JD c (d a (b a (by simp[XX]))) l)
 case indexAddr c a e=>exact be (CU k c (d a (b a (by simp[XX]))) (d e (b e (by simp[XX]))))
 case index c a e=>exact be (JV k c (d a (b a (by simp[XX]))) (d e (b e (by simp[XX]))))
 case lookup c a e ok=>exact be (Gf v k x c (d a (b a (by simp[XX]))) (d e (b e (by simp[XX]))) ok)
 case mapUpdate c z r a=>exact td (oL h k x c (d z (b z (by simp[XX]))) (d r (b r (by simp[XX]))) (d a (b a (by simp[XX]))))
 case insert c z r a=>exact td (oL h k x c (d z (b z (by simp[XX]))) (d r (b r (by simp[XX]))) (d a (b a (by simp[XX]))))
 case range c a=>exact be (Ky c (d a (b a (by simp[XX]))))
 case next y D=>exact be (NL (d y (b y (by simp[XX]))) D S)
 case entry y=>exact be (JB (d y (b y (by simp[XX]))))
 case typeAssert a c a2 ok=>
  cases ok
  .cases h
  exact be (xh v c a2 (d a (b a (by simp[XX]))))
 case extract a a7=>exact be (Cx (d a (b a (by simp[XX]))) a7)
 case call i=>exact ax (tS G d i S b h) λN a3 hd=>pE G k x hd.1 hd.2
 case defer i=>exact ax (tS G d i S b h) λN a3 hd=>aB (.defer hd)
 case panic a=>exact be (za k (d a (b a (by simp[XX]))))
end
variable{v:Xn}{c:Xq Item}
def mv(f:Set)(m:Ren)(a b:PanicEntry):Prop:=an f m a.v b.v/\a.recovered=b.recovered/\a.goexit=b.goexit
inductive kh(f:Set)(m:Ren):FrameMode->FrameMode->Prop
 |run:kh f m .run .run
 |returning:kh f m .returning .returning
 |panicking {a d:Xq PanicEntry} (h:aY (mv f m) a d):kh f m (.panicking a) (.panicking d)
inductive qi(m:Ren):Xz E->Xz E->Prop
 |none:qi m F F
 |some {a d:E} (h:m a d):qi m (C a) (C d)
def qZ(a:Oper):Xy:=match a.op with|.defer _=>Xp|_=>J
def CK(f:Set)(b c:Xy)(a:XR):Prop:=b=J\/(f.code a=J/\(c=J->cM a=J))
def Wp(P:XI)(f:Set)(b d:Xy)(c:Xu Oper):Prop:=b=J\/∀a∈c.toList,jj P f.fn f.bi f.cj a.op=J/\(d=J->qZ a=J)
inductive qg(P:XI)(f:Set)(b a:Xy)(m:Ren):Item->Item->Prop
 |code (d:XR) (i:CK f b a d):qg P f b a m (.code d) (.code d)
 |inBlock (id:E):qg P f b a m (.inBlock id) (.inBlock id)
 |inLoop (d:XR) (i:CK f b a d):qg P f b a m (.inLoop d) (.inLoop d)
 |inScope (d:XR) (i:CK f b a d):qg P f b a m (.inScope d) (.inScope d)
 |inRegion (l:Xu Oper) (h:Xq E) (i:Wp P f b a l):qg P f b a m (.inRegion l h) (.inRegion l h)
 |inRangeFunc {h k:E} (i:m h k):qg P f b a m (.inRangeFunc h) (.inRangeFunc k)
 |endRangeFunc {h k:E} (i:m h k):qg P f b a m (.endRangeFunc h) (.endRangeFunc k)
 |beginRound:qg P f b a m .beginRound .beginRound
def wF:Item->Xy
 |.code _|.inBlock _|.inLoop _|.inScope _=>J
 |_=>Xp
def jM(c:Xq Item):Xy:=c.all wF
def encI:Item->XR
 |.code a=>.block 0 a
 |.inBlock id=>.exit id
 |.inLoop a=>.loop a
 |.inScope a=>.scope a
 |_=>.skip
def Fz:Xq Item->XR
 |[]=>.skip
 |a::b=>.seq (encI a) (Fz b)
theorem Cs:∀{c b:Xq Item},jM c=J->jM b=J->Fz c=Fz b->c=b
 |[],[],_,_,_=>rfl
 |[],_::_,_,_,a=>by grind [Fz]
 |_::_,[],_,_,a=>by grind [Fz]
 |g::c,j::b,d,e,a=>by
  simp only[Fz,XR.seq.injEq]at a;simp only[jM,abv,Ys]at d e;rw[Cs d.2 e.2 a.2]
  congr 1
  have f:=a.1;cases g<;>first|(cases d.1;done)|(cases j<;>first|(cases e.1;done)|(simp[encI]at f;try rw[f]))
def dj(c:Xq Item):Item:=.code (.cond (.const (XK (C ⟨0,0,F⟩))) (Fz c) .skip)
inductive jF(P:XI)(f:Set)(b d:Xy)(m:Ren):Xq Item->Xq Item->Prop
 |nil:jF P f b d m [] []
 |tail {c:Xq Item} (p:d=Xp) (o:jM c=J):jF P f b d m [dj c] c
 |cons {h i:Item} {k l:Xq Item} (n:qg P f b d m h i) (q:jF P f b d m k l):jF P f b d m (h::k) (i::l)
structure bF(P:XI)(f:Set)(b:Xy)(m:Ren)(a d:XC):Prop where
 fn:a.fn=d.fn
 mU:f.fr a.fn=J
 tmps:aw f m a.tmps d.tmps
 todo:jF P f b a.roundOf.isSome m a.todo d.todo
 defers:aY (rZ f m) a.defers d.defers
 mode:kh f m a.mode d.mode
 kind:a.kind=d.kind
 kindOk:a.kind=.normal\/a.kind=.deferred
 roundOf:qi m a.roundOf d.roundOf
section
variable{b e:Xy}{g:Ren}
theorem mv.mono(i:m.le g){a d:PanicEntry}(h:mv f m a d):mv f g a d:=⟨h.1.mono i,h.2⟩
theorem kh.mono(i:m.le g){d h:FrameMode}(a:kh f m d h):kh f g d h:=by
 cases a with
 |run=>exact .run
 |returning=>exact .returning
 |panicking a=>exact .panicking (a.mono λ_ _ k=>k.mono i)
theorem qi.mono(i:m.le g){d h:Xz E}(a:qi m d h):qi g d h:=by
 cases a with
 |none=>exact .none
 |some a=>exact .some (i _ _ a)
theorem qg.mono(k:m.le g){h i:Item}(a:qg P f b e m h i):qg P f b e g h i:=by
 cases a with
 |code d a=>exact .code d a
 |inBlock l=>exact .inBlock l
 |inLoop d a=>exact .inLoop d a
 |inScope d a=>exact .inScope d a
 |inRegion o n a=>exact .inRegion o n a
 |inRangeFunc a=>exact .inRangeFunc (k _ _ a)
 |endRangeFunc a=>exact .endRangeFunc (k _ _ a)
 |beginRound=>exact .beginRound
theorem jF.imp{c:Xy}{i k:Xq Item}(a:jF P f b e m i k)(l:∀d h,qg P f b e m d h->qg P f c e g d h):jF P f c e g i k:=by
 induction a with
 |nil=>exact .nil
 |tail o n=>exact .tail o n
 |cons a _ p=>exact .cons (l _ _ a) p
theorem bF.mono(d:m.le g){i k:XC}(a:bF P f b m i k):bF P f b g i k:=
 ⟨a.fn,a.mU,a.tmps.mono d,a.todo.imp λ_ _ h=>h.mono d,a.defers.mono λ_ _ h=>h.mono d,a.mode.mono d,a.kind,a.kindOk,a.roundOf.mono d⟩
theorem bF.eval(l:Base P m){h k:XC}(n:bF P f b m h k):lG P f m h.eval k.eval:=by
 intro p a;cases p with
 |tmp o=>exact n.tmps.getD o aX
 |const v=>exact iB 8 v a
 |global q=>simp only[dy,Ys,Zn]at a;exact .ptr ⟨l.at a.1 (aa2 a.2),A,A⟩
 |func h=>exact .func (.func h a) A rfl (by simp) (by simp)
theorem bF.finish{w x:XC}(a0:bF P f b m w x){u:Xn}(Z:an f m v u):bF P f b m (w.finish v) (x.finish u):=by
 obtain⟨fn,T,a6,a2,a4,a3,a5⟩:=w;obtain⟨L,t,D,H,R,Q,S⟩:=x;obtain⟨d,e,a,W,g,h,i,k,l⟩:=a0;cases W with
 |nil=>exact⟨d,e,a,.nil,g,h,i,k,l⟩
 |tail Y N=>
  have U:Frame.finish ⟨L,t,D,H,R,Q,S⟩ u=⟨L,t,D,H,R,Q,S⟩:=by
   cases D with
   |nil=>rfl
   |cons a1 c=>cases a1<;>first|rfl|(simp[jM,wF]at N)
  rw[U];exact⟨d,e,a,.tail Y N,g,h,i,k,l⟩
 |cons X n=>
  cases X with
  |inRegion s z O=>
   cases z with
   |nil=>exact⟨d,e,a,.cons (.inRegion s [] O) n,g,h,i,k,l⟩
   |cons r z=>
    refine⟨d,e,?_,.cons (.inRegion s z O) n,g,h,i,k,l⟩;show aw f m (match(s[r]?).bind (·.dst)with|some p=>T.setIfInBounds p v|none=>T) (match(s[r]?).bind (·.dst)with|some p=>t.setIfInBounds p u|none=>t);cases(s[r]?).bind (·.dst)with
    |none=>exact a
    |some p=>exact a.set p Z
  |inRangeFunc y=>exact⟨d,e,a,.cons (.endRangeFunc y) n,g,h,i,k,l⟩
  |beginRound=>exact⟨d,e,a,n,g,h,i,k,l⟩
  |code o q=>exact⟨d,e,a,.cons (.code o q) n,g,h,i,k,l⟩
  |inBlock r=>exact⟨d,e,a,.cons (.inBlock r) n,g,h,i,k,l⟩
  |inLoop o q=>exact⟨d,e,a,.cons (.inLoop o q) n,g,h,i,k,l⟩
  |inScope o q=>exact⟨d,e,a,.cons (.inScope o q) n,g,h,i,k,l⟩
  |endRangeFunc y=>exact⟨d,e,a,.cons (.endRangeFunc y) n,g,h,i,k,l⟩
theorem bF.raise{a c:XC}(t:bF P f b m a c){p q:Xq PanicEntry}(o:aY (mv f m) p q):bF P f b m (a.raise p) (c.raise q):=by
 obtain⟨fn,O,R,u,D,y,L⟩:=a;obtain⟨x,Q,S,w,H,z,N⟩:=c;obtain⟨d,e,g,h,i,s,k,l,n⟩:=t;cases s with
 |run=>exact⟨d,e,g,h,i,.panicking o,k,l,n⟩
 |returning=>exact⟨d,e,g,h,i,.panicking o,k,l,n⟩
 |panicking r=>exact⟨d,e,g,h,i,.panicking (o.append r),k,l,n⟩
theorem aw.replicate(a:E){b:Xn}(c:an f m v b):aw f m (Array.replicate a v) (Array.replicate a b):=by
 refine⟨by simp,λg h i d e=>?_⟩
 grind
theorem bF.enter(G:Good P f){a:XU}(h:f.fn a=J){d e:Xu Xn}(q:aw f m d e)(c:CallKind)(n:c=.normal\/c=.deferred):
 bF P f b m (Frame.enter P a d c) (Frame.enter P a e c):=by
 obtain⟨fn,k,p,l⟩:=G.funcs a h;unfold Frame.enter;refine⟨A,G.FI a h,?_,.cons (.code _ (Xs ⟨?_,λi=>by cases i⟩)) .nil,.nil,.run,A,n,.none⟩
 .grind [aw,aX]
 rw[k];rcases l with⟨o,g,r⟩|⟨g,_⟩
 .simp_all
 simp only[d_,g,Xz.getD_none];rw[G.code];rfl
theorem bF.round(G:Good P f){g h:E}(q:m g h){e:XU}(o:f.fr e=J){i k:Xu Xn}(r:aw f m i k){a d:XR}(l:f.code a=J)(n:f.code d=J)
 (s:cM a=J)(t:cM d=J)(c:CallKind)(p:c=.normal\/c=.deferred):
 bF P f b m (Frame.round g e i a d c) (Frame.round h e k a d c):=
 ⟨A,o,r,.cons (.code _ (Xs ⟨l,λ_=>s⟩)) (.cons .beginRound (.cons (.code _ (Xs ⟨n,λ_=>t⟩)) .nil)),.nil,.run,A,p,.some q⟩
theorem pM(d:E):∀(g c:XR),cM g=J->findLabel g d=C c->cM c=J
 |.seq f h,c,b,a=>by
  simp only[cM,Ys]at b;simp only[findLabel]at a;cases e:findLabel f d with
  |some i=>rw[e]at a;cases a;simp only[cM,Ys];exact⟨pM d f i b.1 e,b.2⟩
  |none=>rw[e]at a;exact pM d h c b.2 a
 |.label k,c,b,a=>by
  simp only[findLabel]at a;split at a
  .cases a;rfl
  cases a
 |.skip,_,_,a|.region ..,_,_,a|.cond ..,_,_,a|.block ..,_,_,a|.loop ..,_,_,a|.rangeFunc ..,_,_,a|.exit ..,_,_,a
 |.scope ..,_,_,a|.goto ..,_,_,a|.ret,_,_,a|.refuse ..,_,_,a=>by simp[findLabel]at a
theorem FF(id:E){a:Xq Item}(h:jF P f b e m c a):(exitTo id c=F/\(exitTo id a=F\/e=Xp))\/∃d g,exitTo id c=C d/\exitTo id a=C g/\jF P f b e m d g:=by
 induction h with
 |nil=>exact Xr ⟨A,Xr A⟩
 |tail k n=>exact Xr ⟨A,Xs k⟩
 |cons i o l=>
  cases i with
  |inBlock p=>
   simp only[exitTo]
   grind
  |_=>exact l
theorem mN{fn:XU->Xy}{g:Builtin->Xu XA->Xy}{cj:Xy}(d:E):∀(h c:XR),codeOk P fn g cj h=J->findLabel h d=C c->codeOk P fn g cj c=J
 |.seq f i,c,b,a=>by
  simp only[codeOk,Ys]at b;simp only[findLabel]at a;cases e:findLabel f d with
  |some k=>rw[e]at a;cases a;simp only[codeOk,Ys];exact⟨mN d f k b.1 e,b.2⟩
  |none=>rw[e]at a;exact mN d i c b.2 a
 |.label l,c,b,a=>by
  simp only[findLabel]at a;split at a
  .cases a;rfl
  cases a
 |.skip,_,_,a|.region ..,_,_,a|.cond ..,_,_,a|.block ..,_,_,a|.loop ..,_,_,a|.rangeFunc ..,_,_,a|.exit ..,_,_,a
 |.scope ..,_,_,a|.goto ..,_,_,a|.ret,_,_,a|.refuse ..,_,_,a=>by simp[findLabel]at a
theorem FO(G:Good P f)(d:E){i:Xq Item}(h:jF P f b e m c i):(gotoIn d c=F/\(gotoIn d i=F\/e=Xp))\/∃n o,gotoIn d c=C n/\gotoIn d i=C o/\jF P f b e m n o:=by
 induction h with
 |nil=>exact Xr ⟨A,Xr A⟩
 |tail s u=>exact Xr ⟨A,Xs s⟩
 |cons q t k=>
  cases q with
  |inScope g a=>
   simp only[gotoIn];cases p:findLabel g d with
   |none=>exact k
   |some l=>
    refine Xs ⟨_,_,A,A,.cons (.code l ?_) (.cons (.inScope g a) t)⟩;rcases a with a|⟨a,r⟩
    .exact Xr a
    rw[G.code]at a;exact Xs ⟨by rw[G.code];grind [mN],λh=>pM d g l (r h) p⟩
  |_=>exact k
end
def kept(d:Xq XQ):Xq XQ:=d.filter λc=>match c.loc with|.mark (.extern _)=>Xp|_=>J
section
variable{a:Xy}{b:Ren}
theorem seen_eq(G:Good P f){fn:XU}(i:f.fr fn=J){e a:Xq XQ}(g:aY (mq f m) e a):seen P fn a.toArray=(kept a).toArray:=by
 have r:∀c,f.fr c=J->(P.funcs[c]?).any (·.norace)=Xp:=by
  intro c i;cases t:P.funcs[c]? with
  |none=>rfl
  |some d=>simp[G.norace c d i t]
 have u:∀(e a:Xq XQ),aY (mq f m) e a->∀acc:Xu XQ,
  (a.foldl (λ(d:Xy×Xu XQ) b=>match b.loc with
    |.mark (.extern c)=>((P.funcs[c]?).any (·.norace),d.2)
    |_=>(d.1,if d.1&&!b.sync then d.2 else d.2.push b)) (Xp,acc)).2=acc++(kept a).toArray:=by
  intro e a g
  induction g with
  |nil=>intro acc;simp[kept]
  |@cons b s e a h v k=>
   intro acc;rw[i_];obtain⟨p,y,x⟩:=s;obtain⟨o,wr,w⟩:=b;replace h:=h.1;have l:ed f m o p:=h;clear h;cases p with
   |mark q=>
    have n:Ax f q=J:=by cases o<;>simp only[ed]at l;obtain⟨b,g⟩:=l;exact b▸g
    cases q<;>first|(cases n;done)|skip
    .simp only[r _ (G.FI _ n)];rw[k acc];simp[kept]
    simp only[abm,Yt,Yq];rw[k _];simp[kept]
   |_=>simp only[abm,Yt,Yq];rw[k _];simp[kept]
 have:=u e a g #[];unfold seen;simp only[Xq.foldl_toArray',r fn i];rw[L_]at this;rw[<-this];rfl
structure cN(P:XI)(f:Set)(a:Xy)(m:Ren)(d e:Xq XC):Prop where
 rel:aY (bF P f a m) d e
 bot:∀c,d.getLast?=C c->c.kind=.normal/\c.roundOf=F
def tag(a:XC):CallKind×Xz E:=(a.kind,a.roundOf)
theorem cN.AB{h q e k:Xq XC}(o:cN P f a m h q)(r:aY (bF P f a b) e k)(n:e.map tag=h.map tag):cN P f a b e k:=by
 refine⟨r,λi p=>?_⟩;have c:(e.map tag).getLast?=C (tag i):=by rw[Xq.getLast?_map,p];rfl
 rw[n,Xq.getLast?_map]at c;cases g:h.getLast? with
 |none=>rw[g]at c;cases c
 |some l=>
  rw[g]at c;have d:tag l=tag i:=by simpa using c
  have:=o.bot l g;unfold tag at d;rw[Prod.mk.injEq]at d;exact⟨d.1▸this.1,d.2▸this.2⟩
theorem nE{g h:XC}{d l:Xq XC}(t:cN P f a m (g::d) (h::l))(n:Xq XC)(base:Xq XC):
 (tryRecover g (d++n)=F/\tryRecover h (l++base)=F)\/
 ∃i k c e,tryRecover g (d++n)=C (i,c++n)/\tryRecover h (l++base)=C (k,e++base)/\an f m i k/\aY (bF P f a m) c e/\c.map tag=d.map tag:=by
 cases t.rel with
 |cons p a0=>
  rcases p.kindOk with b|b
  .have q:=p.kind▸b;exact Xr ⟨by unfold tryRecover;rw[b],by unfold tryRecover;rw[q]⟩
  have q:h.kind=.deferred:=p.kind▸b;cases a0 with
  |nil=>have:=(t.bot g A).1;rw[b]at this;cases this
  |@cons O Q c e L Y=>
   unfold tryRecover;rw[b,q];simp only[Yz];have N:=L.mode;obtain⟨fn,b4,b6,a2,a8,a6,b2⟩:=O;obtain⟨a4,b5,b7,a3,a9,a7,b3⟩:=Q;obtain⟨u,v,w,x,y,U,z,D,H⟩:=L;simp only at u v w x y U z D H N;cases N with
   |run=>exact Xr ⟨A,A⟩
   |returning=>exact Xr ⟨A,A⟩
   |panicking W=>
    cases W with
    |nil=>exact Xr ⟨A,A⟩
    |@cons R S old b0 X Z=>
     obtain⟨i,a1,T⟩:=R;obtain⟨k,b1,a5⟩:=S;obtain⟨o,r,s⟩:=X;simp only at o r s;subst r;subst s;cases a1
     .cases T
      .refine Xs ⟨i,k,_::c,_::e,A,A,o,.cons ⟨u,v,w,x,y,.panicking (.cons ⟨o,A,A⟩ Z),z,D,H⟩ Y,?_⟩;simp[tag]
      exact Xr ⟨A,A⟩
     exact Xr ⟨A,A⟩
theorem tT(u:Base P m)(fn:Func){h i:Xu Xn}(r:aw f m h i):ae P f (St m (an f m)) m (results fn h) (results fn i):=by
 unfold results
 have one:∀d:ResultVar,ae P f (St m (an f m)) m
  (match d with|.tmp c=>pure (h.getD c I)|.cell e c=>do loadVar c (<-asAddr (h.getD e I)):XJ Xn)
  (match d with|.tmp c=>pure (i.getD c I)|.cell e c=>do loadVar c (<-asAddr (i.getD e I))):=by
  intro d;cases d with
  |tmp c=>exact aq (r.getD c aX)
  |cell e c=>exact ax (vc u (r.getD e aX)) λx y p=>tH p c
 refine ax (n:=aw f m) ?_ λw s k=>?_
 .rw[aae,aae,<-aaq,<-aaq]
  have:∀(l:Xq ResultVar)(acc n:Xu Xn),aw f m acc n->ae P f (St m (aw f m)) m
   (l.foldlM (λbs d=>Functor.map bs.push (match d with|.tmp c=>pure (h.getD c I)|.cell e c=>do loadVar c (<-asAddr (h.getD e I)):XJ Xn)) acc)
   (l.foldlM (λbs d=>Functor.map bs.push (match d with|.tmp c=>pure (i.getD c I)|.cell e c=>do loadVar c (<-asAddr (i.getD e I)):XJ Xn)) n):=by
   intro l
   induction l with
   |nil=>intro acc n g;exact aq g
   |cons d l v=>intro acc n g;simp only[X_];refine ax (n:=aw f m) ?_ λx y p=>v _ _ p;exact ax (one d) λz D k=>aq (g.push k)
  exact this _ _ _ aw.nil
 have q:=k.1;by_cases g:w.size=1
 .have o:s.size=1:=by rw[<-q];exact g
  simp only[g,o,abt];exact aq (k.2 0 _ _ (Yb (by omega)) (Yb (by omega)))
 have o:¬s.size=1:=by rw[<-q];exact g
 simp only[g,o,dif_neg,O_];exact aq (gH k)
end
variable{a:K}{q:K}{l:Xn}{i:XC}
def rg(e:XC)(a:Xq XC):XD:={frame:=e,callers:=a,status:=.running,dying:=F}
def RI(sl:K->GStep)(a:K)(h:XC)(f:Xq XC)(d:K):Prop:=
 a.drawn<=d.drawn/\∃i:E->Question->E,∀c:E->Question->E,(∀b e,a.drawn<=b->b<d.drawn->c b e=i b e)->
  ∃g,sl {a with tape:=c}=.go (rg h f) {d with tape:=c} g
def Lv(sl:K->GStep)(a:K):Prop:=
 ∃(f:E->Question->E)(g:E),∀d:E->Question->E,(∀b c,a.drawn<=b->b<g->d b c=f b c)->
  ∃h i e,sl {a with tape:=d}=.ended h i e
def oj(P:XI)(f:Set)(c:Xy)(m:Ren)(d base:Xq XC)(a q:K)(sl:K->GStep)(o:GStep):Prop:=
 Lv sl a\/∃n h i b e l g new k,RI sl a h (b++d) l/\
  o=.go (rg i (e++base)) g (kept k).toArray/\bB f m n a l q g new k/\cN P f c n (h::b) (i::e)
def RO(P:XI)(f:Set)(c:Xy)(m:Ren)(main:Xy)(d base:Xq XC)(e k:XC)(g h:Xq XC)(a q:K):Prop:=
 oj P f c m d base a q (stepG P J (rg e (g++d))) (stepG P main (rg k (h++base)) q)
def JF{a:Type}:Result a->Prop
 |.ok .. =>True
 |.halt (.panic _) _=>True
 |.halt .goexit _=>True
 |_=>False
section
variable{c:Xy}{main:Xy}{d base:Xq XC}{e k:XC}{g h:Xq XC}
theorem cP{sl:K->GStep}{r:GStep}(v:aU f m a q){o p:XC}{b n:Xq XC}(t:∀a,sl a=.go (rg o (b++d)) a)
 (u:r=.go (rg p (n++base)) q)(s:cN P f c m (o::b) (p::n)):oj P f c m d base a q sl r:=
 Xs ⟨m,o,p,b,n,a,q,[],[],⟨Ye _,a.tape,λw _=>⟨_,t _⟩⟩,u,bB.refl v,s⟩
theorem ng(u:aU f m a q){o p:XC}{b n:Xq XC}(s:∀a,stepG P J (rg e (g++d)) a=.go (rg o (b++d)) a)
 (t:∀a,stepG P main (rg k (h++base)) a=.go (rg p (n++base)) a)(r:cN P f c m (o::b) (p::n)):RO P f c m main d base e k g h a q:=
 cP u s (t q) r
theorem eH{sl:K->GStep}{h:GStep}(g:∀a,∃b e,sl a=.ended b e):oj P f c m d base a q sl h:=
 Xr ⟨a.tape,0,λi _=>by obtain⟨b,e,k⟩:=g {a with tape:=i};simp_all⟩
theorem CZ(a i:Xq XQ):kept (a++i)=kept a++kept i:=by simp[kept]
def QY(f:Set){a h:Type}(b:Ren->a->h->Prop):Result a->Prop
 |.ok c _=>∃m d,b m c d
 |.halt e _=>∃m g,lH f m e g
def Ls(f:Set){h a:Type}(b:Ren->h->a->Prop):Result a->Prop
 |.ok d _=>∃m c,b m c d
 |.halt g _=>∃m e,lH f m e g
theorem Ls.JF{i d:Type}{e:Ren->i->d->Prop}{c:Result d}(b:Ls f e c):Sim.JF c:=by
 cases c with
 |ok k a=>trivial
 |halt g a=>obtain⟨m,b,h⟩:=b;cases b<;>cases g<;>first|exact h.elim|trivial
theorem wm(G:Good P f){fn:XU}(b2:f.fr fn=J){a9 b0:Type}{N:Ren->a9->b0->Prop}{Z:XJ a9}{a0:XJ b0}(x:ae P f N m Z a0)(d3:aU f m a q){W:Result a9->GStep}{a1:Result b0->GStep}
 {sl:K->GStep}{U:GStep}
 (left:∀a,QY f N (Z.runT P a #[]).1->∃w,sl a=GStep.after w (W (Z.runT P a #[]).1))
 (right:Ls f N (a0.runT P q #[]).1->U=GStep.after (seen P fn (a0.runT P q #[]).2) (a1 (a0.runT P q #[]).1))
 (ok:∀n O Q b p new t,bB f m n a b q p new t->N n O Q->oj P f c n d base b p (λa=>W (.ok O a)) (a1 (.ok Q p)))
 (halt:∀n x T b p,m.le n->lH f n x T->aU f n b p->oj P f c n d base b p (λa=>W (.halt x a)) (a1 (.halt T p)))
 (lost:∀a x b S,Z.runT P a #[]=(.halt x b,S)->Halt.lost x=J->∃a7 a8 S,sl a=.ended a7 a8 S):oj P f c m d base a q sl U:=by
 obtain⟨a4,L,⟨hd,Y⟩,b5⟩:=sound G.uG x a q #[] #[] d3
 have e0:(∃D b w,L=(.halt D b,w)/\Halt.lost D=J)->oj P f c m d base a q sl U:=by rintro⟨D,b,w,rfl,b4⟩;exact Xr ⟨a4,b.drawn,λo H=>lost _ _ _ _ (Y o H) b4⟩
 have b1:(∀o,QY f N (iX o L).1)->∀(b:K)(p:K)(n:Ren)(a2:K->GStep)(a3:GStep)(new t:Xq XQ),dr L=b.drawn->a.drawn<=b.drawn->(∀o,W (iX o L).1=a2 {b with tape:=o})->U=GStep.after (kept t).toArray a3->
  bB f m n a b q p new t->oj P f c n d base b p a2 a3->oj P f c m d base a q sl U:=by
  intro vR b p n a2 a3 new t e1 c9 hF v u d1;rcases d1 with⟨a5,d4,c7⟩|⟨d9,c0,c6,b6,b7,a8,b8,wo,d5,⟨d0,a5,c8⟩,e2,d7,d2⟩
  .refine Xr ⟨λr s=>if r<b.drawn then a4 r s else a5 r s,max (dr L) d4,λo H=>?_⟩;have b3:=vR o;obtain⟨w,y⟩:=left {a with tape:=o} (by grind)
   rw[Y o (λr s z X=>by grind),hF]at y
   obtain⟨a7,d8,S,a6⟩:=c7 o (λr s z X=>by grind)
   rw[a6]at y;exact⟨a7,d8,_,y⟩
  refine Xs ⟨d9,c0,c6,b6,b7,a8,b8,new++wo,t++d5,⟨Yi c9 d0,λr s=>if r<b.drawn then a4 r s else a5 r s,λo H=>?_⟩,?_,u.trans d7,d2⟩
  .have b3:=vR o
   obtain⟨w,y⟩:=left {a with tape:=o} (by rw[Y o (λr s z X=>by
    have:=H r s z (by omega)
    dsimp only at this;rw[XN (by omega)]at this;exact this)];exact b3)
   rw[Y o (λr s z X=>by
    have:=H r s z (by omega)
    dsimp only at this;rw[XN (by omega)]at this;exact this),hF]at y
   obtain⟨S,a6⟩:=c8 o (λr s z X=>by
    have:=H r s (by omega) (by omega)
    dsimp only at this;rw[XH (by omega)]at this;exact this)
   rw[a6]at y;exact⟨_,y⟩
  simp_all [CZ,GStep.after]
 obtain⟨d6,w⟩:=L;cases d6 with
 |ok O b=>obtain⟨n,Q,p,new,t,R,b9,v,u⟩:=b5;refine b1 (λo=>⟨n,Q,v⟩) b p n _ _ new t A hd (λo=>rfl) ?_ u (ok n O Q b p new t u v);rw[right (by rw[R];exact⟨n,O,v⟩),R];dsimp only;rw[L_,seen_eq G b2 u.lE]
 |halt D b=>
  rcases b5 with b4|⟨n,T,p,new,t,R,b9,v,u⟩
  .simp_all
  refine b1 (λo=>⟨n,T,v⟩) b p n _ _ new t A hd (λo=>rfl) ?_ u (halt n D T b p u.le v u.rel);rw[right (by rw[R];exact⟨n,D,v⟩),R];dsimp only;rw[L_,seen_eq G b2 u.lE]
theorem yW(G:Good P f){fn:XU}(U:f.fr fn=J){x y:Type}{D:Ren->x->y->Prop}{Q:XJ x}{t:XJ y}(b:ae P f D m Q t)(Y:aU f m a q){r:Result x->GStep}{u:Result y->GStep}
 {sl:K->GStep}{R:GStep}
 (left:∀a,∃z,sl a=GStep.after z (r (Q.runT P a #[]).1))
 (right:JF (t.runT P q #[]).1->R=GStep.after (seen P fn (t.runT P q #[]).2) (u (t.runT P q #[]).1))
 (ok:∀n H L p o new Z,bB f m n a p q o new Z->D n H L->oj P f c n d base p o (λa=>r (.ok H a)) (u (.ok L o)))
 (halt:∀n b O p o,m.le n->lH f n b O->aU f n p o->oj P f c n d base p o (λa=>r (.halt b a)) (u (.halt O o)))
 (lost:∀b a,Halt.lost b=J->∃v w N,r (.halt b a)=.ended v w N):oj P f c m d base a q sl R:=
 wm G U b Y (λa _=>left a) (λb=>right b.JF) ok halt λa W p N S X=>by obtain⟨z,s⟩:=left a;obtain⟨v,w,a0,T⟩:=lost W p X;rw[S]at s;dsimp only at s;rw[T]at s;exact⟨v,w,_,s⟩
theorem nY(G:Good P f){fn:XU}(Z:f.fr fn=J){N O:Type}{Q:Ren->N->O->Prop}{R:XJ N}{z:XJ O}(b:ae P f Q m R z)(a3:aU f m a q){t:Result N->GStep}{D:Result O->GStep}
 {sl:K->GStep}{S:GStep}
 (left:∀a,∃U,sl a=GStep.after U (t (R.runT P a #[]).1))
 (right:JF (z.runT P q #[]).1->S=GStep.after (seen P fn (z.runT P q #[]).2) (D (z.runT P q #[]).1))
 (ok:∀n w x,m.le n->Q n w x->(∃r s o p,(∀a,t (.ok w a)=.go (rg r (o++d)) a)/\(∀a,D (.ok x a)=.go (rg s (p++base)) a)/\cN P f c n (r::o) (s::p))\/∀a,∃u v,t (.ok w a)=.ended u v)
 (halt:∀n b y,m.le n->lH f n b y->(∃r s o p,(∀a,t (.halt b a)=.go (rg r (o++d)) a)/\(∀a,D (.halt y a)=.go (rg s (p++base)) a)/\cN P f c n (r::o) (s::p))\/∀a,∃u v,t (.halt b a)=.ended u v)
 (lost:∀b a,Halt.lost b=J->∃u v,t (.halt b a)=.ended u v):oj P f c m d base a q sl S:=by
 refine yW G Z b a3 left right ?_ ?_ (λb a a0=>by obtain⟨u,v,a6⟩:=lost b a a0;simp_all)
 .intro n w x a5 W new a7 T L;have a4:=T.rel;rcases ok n w x T.le L with⟨r,s,o,p,X,Y,a2⟩|H
  .grind [cP]
  exact eH H
 intro n b y a5 W a1 L a4;rcases halt n b y a1 L with⟨r,s,o,p,X,Y,a2⟩|H
 .grind [cP]
 exact eH H
theorem Cr:∀{b c:Xq PanicEntry},aY (mv f m) b c->aY (mv f m) (b.dropWhile (!·.goexit)) (c.dropWhile (!·.goexit))
 |_,_,.nil=>.nil
 |_,_,.cons (a:=e) (a':=g) a d=>by
  simp only[Xq.dropWhile_cons];rw[<-a.2.2];split
  .exact Cr d
  exact .cons a d
theorem fO(a:XC)(l:Xn):tag (a.finish l)=tag a:=by grind [Frame.finish,tag]
theorem jz(a:XC)(l:Xq PanicEntry):tag (a.raise l)=tag a:=by grind [Frame.raise,tag]
theorem AO{z D:XC}(T:bF P f c m e k)(a6:bF P f c m z D){O:Xn}(b4:an f m l O):
 ∃i H,(∀n b a,doReturn P n e (z::b) F l a=.go (rg i b) a)/\(∀n b a,doReturn P n k (D::b) F O a=.go (rg H b) a)/\bF P f c m i H/\tag i=tag z:=by
 rcases T.kindOk with o|o
 .have y:k.kind=.normal:=T.kind▸o;exact⟨z.finish l,D.finish O,λn b a=>by simp_all [doReturn,rg],λn b a=>by simp_all [doReturn,rg],a6.finish b4,fO _ _⟩
 have y:k.kind=.deferred:=T.kind▸o;obtain⟨fn,X,Z,Q,b7,L,N⟩:=z;obtain⟨S,Y,a0,R,b8,U,W⟩:=D;obtain⟨p,r,s,t,u,a5,v,w,x⟩:=a6;simp only at p r s t u a5 v w x
 have same:∃i H,(∀n b a,doReturn P n e (⟨fn,X,Z,Q,b7,L,N⟩::b) F l a=.go (rg i b) a)/\(∀n b a,doReturn P n k (⟨S,Y,a0,R,b8,U,W⟩::b) F O a=.go (rg H b) a)/\bF P f c m i H/\tag i=(L,N):=by
  cases a5 with
  |run=>exact⟨_,_,λn b a=>by simp only[doReturn,o];rfl,λn b a=>by simp only[doReturn,y];rfl,⟨p,r,s,t,u,.run,v,w,x⟩,A⟩
  |returning=>exact⟨_,_,λn b a=>by simp only[doReturn,o];rfl,λn b a=>by simp only[doReturn,y];rfl,⟨p,r,s,t,u,.returning,v,w,x⟩,A⟩
  |panicking b2=>
   cases b2 with
   |nil=>exact⟨_,_,λn b a=>by simp only[doReturn,o];rfl,λn b a=>by simp only[doReturn,y];rfl,⟨p,r,s,t,u,.panicking .nil,v,w,x⟩,A⟩
   |@cons b0 b1 old b9 b3 a7=>
    obtain⟨c6,c0,a4⟩:=b0;obtain⟨c7,d5,d4⟩:=b1;obtain⟨a1,a2,a3⟩:=b3;simp only at a1 a2 a3;subst a2;subst a3;cases c0 with
    |false=>exact⟨_,_,λn b a=>by simp only[doReturn,o];rfl,λn b a=>by simp only[doReturn,y];rfl,⟨p,r,s,t,u,.panicking (.cons (a:=⟨c6,Xp,a4⟩) (a':=⟨c7,Xp,a4⟩) ⟨a1,A,A⟩ a7),v,w,x⟩,A⟩
    |true=>
     have hd:=Cr a7;generalize a8:old.dropWhile (!·.goexit)=d2 at hd;generalize a9:b9.dropWhile (!·.goexit)=d3 at hd;cases hd with
     |nil=>exact⟨⟨fn,X,Z,Q,.returning,L,N⟩,⟨S,Y,a0,R,.returning,U,W⟩,λn b a=>by simp only[doReturn,o,a8];rfl,λn b a=>by simp only[doReturn,y,a9];rfl,⟨p,r,s,t,u,.returning,v,w,x⟩,A⟩
     |@cons c8 c9 d0 d1 b5 b6=>exact⟨⟨fn,X,Z,Q,.panicking (c8::d0),L,N⟩,⟨S,Y,a0,R,.panicking (c9::d1),U,W⟩,λn b a=>by simp only[doReturn,o,a8];rfl,λn b a=>by simp only[doReturn,y,a9];rfl,⟨p,r,s,t,u,.panicking (.cons b5 b6),v,w,x⟩,A⟩
 exact same
def eR(P:XI)(e:XC)(b:Xq XC):Result Next->GStep
 |.ok d a=>stepG.apply P J e b F (.pure d) a
 |.halt c a=>stepG.apply P J e b F (.halt c) a
theorem aM(a:GStep):GStep.after #[] a=a:=by cases a<;>simp[GStep.after]
theorem aW(fn:XU):seen P fn #[]=#[]:=by simp[seen]
theorem fQ(e:XC)(s:Xq XC)(n:XJ Next)(a:K):∃r,stepG.apply P J e s F n a=GStep.after r (eR P e s (n.runT P a #[]).1)/\
 (e.kind≠.early->JF (n.runT P a #[]).1->r=seen P e.fn (n.runT P a #[]).2):=by
 unfold stepG.apply;simp only[Ym];generalize n.runT P a #[]=w;obtain⟨t,p⟩:=w;cases t with
 |ok y v=>
  refine⟨seen P e.fn (if(e.kind==.early)=J then #[]else p),?_,λo _=>?_⟩
  .unfold eR stepG.apply;simp only[XJ.runT,Ym,Zg,aW,aM]
  simp_all
 |halt b v=>
  cases b with
  |blocked=>exact⟨#[],by unfold eR stepG.apply;simp[aM],λ_ b=>b.elim⟩
  |waiting=>exact⟨#[],by unfold eR stepG.apply;simp[aM],λ_ b=>b.elim⟩
  |unsupported u=>
   cases u with
   |initOrder x=>exact⟨#[],by unfold eR stepG.apply;simp[aM],λ_ b=>b.elim⟩
   |_=>
    exact⟨seen P e.fn (if(e.kind==.early)=J then #[]else p),by unfold eR stepG.apply;simp only[XJ.runT,Ym,Zg,aW,aM],λo _=>by
     have:(e.kind==CallKind.early)=Xp:=by simpa using o
     simp[this]⟩
  |_=>
   exact⟨seen P e.fn (if(e.kind==.early)=J then #[]else p),by unfold eR stepG.apply;simp only[XJ.runT,Ym,Zg,aW,aM],λo _=>by
    have:(e.kind==CallKind.early)=Xp:=by simpa using o
    simp[this]⟩
theorem FY{g:Ren}{a b:XC}(d:bF P f c g a b):(match a.todo with|.call _ J _ _::_=>CallKind.wrapped|_=>.normal)=.normal/\(match b.todo with|.call _ J _ _::_=>CallKind.wrapped|_=>.normal)=.normal:=by
 have:=d.todo;generalize a.todo=k at this;generalize b.todo=l at this;cases this with
 |nil=>simp
 |tail i h=>exact⟨A,by
   grind [jM,wF]⟩
 |cons e _=>cases e<;>exact⟨A,A⟩
theorem cN.top{b:Ren}{h i:Xq XC}{e l:XC}(g:cN P f c m (e::h) (l::i))(o:m.le b){a d:XC}(n:bF P f c b a d)(k:tag a=tag e):cN P f c b (a::h) (d::i):=by
 cases g.rel with
 |cons _ p=>exact g.AB (.cons n (p.mono λ_ _ q=>q.mono o)) (by simp[k])
theorem cN.push{b:Ren}{s t:Xq XC}{r w:XC}(x:cN P f c m (r::s) (w::t))(z:m.le b){n o p:XC}(y:bF P f c b n o)(v:tag n=tag r)(D:bF P f c b i p):cN P f c b (i::n::s) (p::o::t):=by have u:=x.top z y v;exact⟨.cons D u.rel,λH L=>u.bot H (by simp_all)⟩
theorem sw(G:Good P f)(b1:aU f m a q)(s:cN P f c m (e::g) (k::h)){n b:XC}(v:bF P f c m n b)(t:tag n=tag e)(c8:b.fn=k.fn)
 {R S:XJ Next}(r:ae P f (Nr f) m R S){sl:K->GStep}{a0:GStep}
 (left:∀a,sl a=stepG.apply P J n (g++d) F R a)
 (right:a0=stepG.apply P J b (h++base) F S q):oj P f c m d base a q sl a0:=by
 have X:bF P f c m e k:=by cases s.rel with|cons r _=>exact r
 have c9:b.kind≠.early:=by rw[<-v.kind];rcases v.kindOk with r|r<;>rw[r]<;>simp
 have a8:f.fr k.fn=J:=X.fn▸X.mU;refine nY G a8 r b1 (t:=eR P n (g++d)) (D:=eR P b (h++base)) (λa=>?_) (λc7=>?_) ?_ ?_ ?_
 .obtain⟨a1,a5,_⟩:=fQ (P:=P) n (g++d) R a
  grind
 .obtain⟨a1,a5,c0⟩:=fQ (P:=P) b (h++base) S q;simp_all
 .intro y d2 d3 p a9;left;have o:=v.mono p;obtain⟨d0,d1⟩:=FY v;cases a9 with
  |value Q=>
   refine⟨n.finish _,b.finish _,g,h,λa=>?_,λa=>?_,s.top p (o.finish Q) (by rw[fO,t])⟩
   .simp only[eR,stepG.apply,XJ.runT,Ym,Zg,aW,aM,rg]
   simp only[eR,stepG.apply,XJ.runT,Ym,Zg,aW,aM,rg]
  |skip=>
   refine⟨n.finish I,b.finish I,g,h,λa=>?_,λa=>?_,s.top p (o.finish aX) (by rw[fO,t])⟩
   .simp only[eR,stepG.apply,XJ.runT,Ym,Zg,aW,aM,rg]
   simp only[eR,stepG.apply,XJ.runT,Ym,Zg,aW,aM,rg]
  |enter w O L=>
   refine⟨Frame.enter P w _ .normal,Frame.enter P w _ .normal,n::g,b::h,λa=>?_,λa=>?_,s.push p o t (bF.enter G O L .normal (Xr A))⟩
   .simp only[eR,stepG.apply,XJ.runT,Ym,Zg,aW,aM,rg,Yz]
    grind
   simp only[eR,stepG.apply,XJ.runT,Ym,Zg,aW,aM,rg,Yz]
   grind
  |round x w O b0 T i L a7 b3 b4=>
   refine⟨Frame.round _ w _ T i .normal,Frame.round _ w _ T i .normal,n::g,b::h,λa=>?_,λa=>?_,s.push p o t (bF.round G x O b0 L a7 b3 b4 .normal (Xr A))⟩
   .simp only[eR,stepG.apply,XJ.runT,Ym,Zg,aW,aM,rg,Yz]
   simp only[eR,stepG.apply,XJ.runT,Ym,Zg,aW,aM,rg,Yz]
  |@defer U W hd=>
   have b2:bF P f c y {n with defers:=U::n.defers} {b with defers:=W::b.defers}:=⟨o.fn,o.mU,o.tmps,o.todo,.cons hd o.defers,o.mode,o.kind,o.kindOk,o.roundOf⟩;refine⟨({n with defers:=U::n.defers}:XC).finish I,({b with defers:=W::b.defers}:XC).finish I,g,h,λa=>?_,λa=>?_,s.top p (b2.finish aX) (by rw[fO,<-t];rfl)⟩
   .simp only[eR,stepG.apply,XJ.runT,Ym,Zg,aW,aM,rg]
   simp only[eR,stepG.apply,XJ.runT,Ym,Zg,aW,aM,rg]
  |recover=>
   have Z:=s.top p o t;rcases nE Z d base with⟨D,H⟩|⟨l,b7,a2,a3,D,H,Q,a6,c6⟩
   .refine⟨n.finish .nilIface,b.finish .nilIface,g,h,λa=>?_,λa=>?_,s.top p (o.finish .nilIface) (by rw[fO,t])⟩
    .cases u:n.roundOf<;>simp only[eR,stepG.apply,XJ.runT,Ym,Zg,aW,aM,rg,u,G.UI,D]
    cases u:b.roundOf<;>simp only[eR,stepG.apply,XJ.runT,Ym,Zg,aW,aM,rg,u,G.UI,H]
   refine⟨n.finish l,b.finish b7,a2,a3,λa=>?_,λa=>?_,Z.AB (.cons (o.finish Q) a6) (by grind [fO])⟩
   .cases u:n.roundOf<;>simp only[eR,stepG.apply,XJ.runT,Ym,Zg,aW,aM,rg,u,G.UI,D]
   cases u:b.roundOf<;>simp only[eR,stepG.apply,XJ.runT,Ym,Zg,aW,aM,rg,u,G.UI,H]
 .intro y r a4 p Y;left;have o:=v.mono p;cases r<;>cases a4<;>first|exact Y.elim|skip
  .have N:aY (mv f y) [{v:=_,recovered:=Xp}] [{v:=_,recovered:=Xp}]:=.cons ⟨Y,A,A⟩ .nil;refine⟨n.raise _,b.raise _,g,h,λa=>?_,λa=>?_,s.top p (o.raise N) (by rw[jz,t])⟩
   .simp only[eR,stepG.apply,XJ.runT,Ym,Zg,aW,aM,rg]
   simp only[eR,stepG.apply,XJ.runT,Ym,Zg,aW,aM,rg]
  have N:aY (mv f y) [goexitEntry] [goexitEntry]:=.cons ⟨aX,A,A⟩ .nil;refine⟨n.raise _,b.raise _,g,h,λa=>?_,λa=>?_,s.top p (o.raise N) (by rw[jz,t])⟩
  .simp only[eR,stepG.apply,XJ.runT,Ym,Zg,aW,aM,rg]
  simp only[eR,stepG.apply,XJ.runT,Ym,Zg,aW,aM,rg]
 intro r a x;cases r<;>first|(cases x;done)|skip
 .rename_i b6;cases b6<;>first|(cases x;done)|exact⟨_,_,by simp only[eR,stepG.apply,XJ.runT,Ym,Zg,aW,aM];rfl⟩
 exact⟨_,_,by simp only[eR,stepG.apply,XJ.runT,Ym,Zg,aW,aM];rfl⟩
end
variable{i:Xq XC}{l:Xq Item}
section
variable{d:Xy}
theorem kE{a b:E}(c:m a b):ae P f (St m (zA f m)) m (Instr.getLoop a) (Instr.getLoop b):=by unfold Instr.getLoop;refine ax (bI c) λe g d=>?_;cases d<;>first|exact ah|grind [aq]
def RD(f:Set)(m:Ren):Ren->E×Xq Deferred->E×Xq Deferred->Prop:=λa b c=>m.le a/\a b.1 c.1/\aY (rZ f a) b.2 c.2
theorem xG(fn:XU)(R:f.fr fn=J){w x:Xu Xn}(U:aw f m w x)(s:Xu Tmp){k n:XR}(O:f.code k=J)(Q:f.code n=J)(a1:cM k=J)(a2:cM n=J)
 {z D:Xz E}(T:qi m z D):ae P f (RD f m) m (Instr.enterLoop fn w s k n z) (Instr.enterLoop fn x s k n D):=by
 unfold Instr.enterLoop
 have mk:∀(o:Ren)(t u:E),m.le o->o t u->gQ f o (.loop {state:=.ready,pending:=F,fn,tmps:=w,params:=s,assign:=k,body:=n,defers:=t}) (.loop {state:=.ready,pending:=F,fn,tmps:=x,params:=s,assign:=k,body:=n,defers:=u}):=
  λo t u p hd=>.loop ⟨A,A,A,U.mono p,A,A,A,hd,O,Q,by simp,R,a1,a2⟩
 cases T with
 |none=>refine ae.new (.deferred .nil) λZ a0 o p y=>?_;exact .new (mk o Z a0 p y) λX Y a7 r v=>.pure ⟨Ren.le_trans p r,v,.cons ⟨.collected (r _ _ y),aw.nil⟩ .nil⟩
 |some S=>dsimp only;refine ax (kE S) λa8 a9 W=>?_;exact .new (mk m _ _ (Ren.le_refl _) W.2.2.2.2.2.2.2.1) λX Y a7 r v=>.pure ⟨r,v,.nil⟩
theorem vi(n:Base P m){c d:E}(a:m c d):ae P f (St m λ_ _=>True) m (Instr.beginRound c) (Instr.beginRound d):=by
 unfold Instr.beginRound;refine ax (kE a) λi o b=>?_;refine ax (n:=λ_ _=>True) (.setObj a (.loop ?_) (Xs A) (.pure ⟨A,trivial⟩)) λ_ _ _=>?_
 .obtain⟨l,e,g,h⟩:=b;exact⟨A,e,g,h⟩
 rw[<-b.1];cases i.state with
 |ready=>exact aq trivial
 |done=>simp_all [bw]
 |busy=>simp_all [bw]
 |exhausted=>simp_all [bw]
theorem zX{b d:E}(a:m b d)(j:Xz XR)(q:∀c,j=C c->f.code c=J/\cM c=J):ae P f (St m (an f m)) m (Instr.endRound b j) (Instr.endRound d j):=by unfold Instr.endRound;refine ax (kE a) λw x r=>?_;refine ax (n:=λ_ _=>True) (.setObj a (.loop ?_) (Xs A) (.pure ⟨A,trivial⟩)) λ_ _ _=>aq (.bool _);obtain⟨t,v,h,i,k,l,n,o,p,e,u,g⟩:=r;exact⟨A,A,h,i,k,l,n,o,p,e,q,g⟩
theorem Ct(s:Base P m){d e:E}(b:m d e):ae P f (St m λj n=>j=n/\∀c,j=C c->f.code c=J/\cM c=J) m (Instr.endLoop d) (Instr.endLoop e):=by
 unfold Instr.endLoop;refine ax (kE b) λo p a=>?_;have l:=a.1;have g:(p.state==LoopState.busy)=(o.state==LoopState.busy):=by rw[l]
 dsimp only;rw[g];split
 .simp_all [jQ]
 refine ax (n:=λ_ _=>True) (.setObj b (.loop ?_) (Xs A) (.pure ⟨A,trivial⟩)) λ_ _ _=>aq ⟨a.2.1,a.2.2.2.2.2.2.2.2.2.2.1⟩;obtain⟨r,h,i,k⟩:=a;exact⟨A,h,i,k⟩
theorem sX{b c:E}(a:m b c):ae P f (St m (aY (rZ f m))) m (Instr.takeDeferred b) (Instr.takeDeferred c):=by
 unfold Instr.takeDeferred;refine ax (bI a) λg h d=>?_;cases d<;>first|exact ah|skip
 exact ax (n:=λ_ _=>True) (.setObj a .lO (Xs A) (.pure ⟨A,trivial⟩)) λ_ _ _=>aq ‹_›
end
def BW(P:XI)(f:Set)(b:XC):Prop:=
 match b.todo with
 |.code (.cond k _ _)::_=>dy P f.fn k=J
 |.code (.rangeFunc e i c d)::_=>f.code (.rangeFunc e i c d)=J
 |XE h (g::_)::_=>∀a,h[g]?=C a->jj P f.fn f.bi f.cj a.op=J/\(b.roundOf.isSome=J->qZ a=J)
 |_=>True
section
variable{d:Xy}{main:Xy}{c base:Xq XC}{b e:XC}{g h:Xq XC}
theorem Base.jY{v:Ren}{H w:K}{new D:Xq XQ}(k:Base P m)(t:aU f m a q)(u:bB f m v a H q w new D):Base P v:=by
 refine⟨λx p s=>u.le _ _ (k.1 x p s),λn o z=>?_⟩;rcases u.fresh n o z with y|⟨p,s⟩
 .exact k.2 n o y
 have L:=t.left k.types;have N:=t.right k.types;omega
theorem aU.SJ(g:aU f m a q):qc m:=λb c d e=>g.inj b c d e
theorem bm{c:Xy}{b:XC}(d:b.mode=.run):stepG P c (rg b i) a=stepG.exec P c J b i F a:=by simp_all [stepG,rg]
theorem ie{c:Xy}{b:XC}(d:b.mode≠.run):stepG P c (rg b i) a=unwind P c b i F a:=by simp[stepG,rg]
theorem cN.head(a:cN P f d m (b::g) (e::h)):bF P f d m b e:=by cases a.rel with|cons a _=>exact a
theorem cN.tail(a:cN P f d m (b::g) (e::h)):aY (bF P f d m) g h:=by cases a.rel with|cons _ a=>exact a
theorem bF.xn{b c:XC}(a:bF P f d m b c){e:Xq Item}(g:jF P f d b.roundOf.isSome m l e):bF P f d m {b with todo:=l} {c with todo:=e}:=
 ⟨a.fn,a.mU,a.tmps,g,a.defers,a.mode,a.kind,a.kindOk,a.roundOf⟩
theorem gC(x:aU f m a q)(i:cN P f d m (b::g) (e::h))(o:b.mode=.run){k:Xq Item}(t:jF P f d b.roundOf.isSome m l k)
 (u:∀a,stepG.exec P J J b (g++c) F a=.go {frame:={b with todo:=l},callers:=g++c,status:=.running,dying:=F} a)
 (w:∀a,stepG.exec P main J e (h++base) F a=.go {frame:={e with todo:=k},callers:=h++base,status:=.running,dying:=F} a):RO P f d m main c base b e g h a q:=by
 have v:e.mode=.run:=by have:=i.head.mode;rw[o]at this;cases s:e.mode<;>rw[s]at this<;>first|rfl|cases this
 refine ng x (o:={b with todo:=l}) (p:={e with todo:=k}) (λa=>?_) (λa=>?_) (i.top (Ren.le_refl _) (i.head.xn t) A)
 .rw[bm o];exact u a
 rw[bm v];exact w a
def Ux:Xz XR->Xy
 |none=>J
 |some .ret=>J
 |_=>Xp
def pG(P:XI)(f:Xy)(b:XC)(i:Xq XC)(c:Xz XR)(a:K):GStep:=
 match b.roundOf with
 |none=>if Ux c=J then .go (rg {b with mode:=.returning} i) a else .ended (.stuck "exit, goto: no such block or label" (b.pos P)) a
 |some e=>
  let (g,d):=(Instr.endRound e c).runT P a #[]
  GStep.after (seen P b.fn d)<|match g with
  |.ok h a=>doReturn P f b i F h a
  |.halt _ a=>.ended (.stuck "range over a function: no such loop" (b.pos P)) a
theorem nV(G:Good P f)(b2:Base P m)(D:aU f m a q)(k:cN P f d m (b::g) (e::h))(n:b.mode=.run)(j:Xz XR)(W:b.roundOf.isSome=J->∀c,j=C c->f.code c=J/\cM c=J)
 (t:∀a,stepG.exec P J J b (g++c) F a=pG P J b (g++c) j a)
 (a1:∀a,stepG.exec P main J e (h++base) F a=pG P main e (h++base) j a):RO P f d m main c base b e g h a q:=by
 have i:=k.head;have Z:e.mode=.run:=by have:=i.mode;rw[n]at this;cases l:e.mode<;>rw[l]at this<;>first|rfl|cases this
 have v:=i.roundOf;generalize o:b.roundOf=b6 at v;generalize a0:e.roundOf=b7 at v;cases v with
 |none=>
  by_cases z:Ux j=J
  .refine ng D (o:={b with mode:=.returning}) (p:={e with mode:=.returning}) (λa=>?_) (λa=>?_) (k.top (Ren.le_refl _) ⟨i.fn,i.mU,i.tmps,i.todo,i.defers,.returning,i.kind,i.kindOk,i.roundOf⟩ A)
   .rw[bm n,t];unfold pG;rw[o];simp only[z,Ym]
   simp_all [bm,pG]
  refine eH λa=>⟨_,_,by rw[bm n,t];unfold pG;rw[o];simp only[z];rfl⟩
 |@some a5 b5 Y=>
  have b4:g≠[]:=by intro l;subst l;have:=(k.bot b A).2;simp_all
  cases k.tail with
  |nil=>simp_all
  |@cons w x r s y U=>
   refine nY G (fn:=e.fn) (i.fn▸i.mU) (zX Y j (W (by rw[o];rfl))) D
    (t:=λu=>match u with|.ok p a=>doReturn P J b (w::r++c) F p a|.halt _ a=>.ended (.stuck "range over a function: no such loop" (b.pos P)) a)
    (D:=λu=>match u with|.ok p a=>doReturn P main e (x::s++base) F p a|.halt _ a=>.ended (.stuck "range over a function: no such loop" (e.pos P)) a) (λa=>⟨seen P b.fn ((Instr.endRound a5 j).runT P a #[]).2,?_⟩) (λ_=>?_) ?_ ?_ ?_
   .rw[bm n,t];unfold pG;rw[o]
   .rw[bm Z,a1];unfold pG;rw[a0]
   .rintro H p b8 X⟨rfl,a3⟩;left;obtain⟨L,N,Q,R,S,T⟩:=AO (P:=P) i y a3;refine⟨L,N,r,s,λa=>Q J _ a,λa=>R main _ a,?_⟩;have a2:cN P f d H (w::r) (x::s):=⟨.cons y U,λO a4=>k.bot O (by rw[Xq.getLast?_cons_cons];exact a4)⟩;exact a2.top (Ren.le_refl _) S T
   .intro H l b1 X b3;exact Xs λa=>⟨_,_,A⟩
   simp
theorem Oc{c a:XC}(b:bF P f d m c a)(e:c.mode=.run):a.mode=.run:=by have:=b.mode;rw[e]at this;cases b:a.mode<;>rw[b]at this<;>first|rfl|cases this
theorem CK.of{e:Xy}{b c:XR}(a:CK f d e b)(g:f.code b=J->f.code c=J)(h:cM b=J->cM c=J):CK f d e c:=by
 rcases a with a|⟨a,i⟩
 .exact Xr a
 exact Xs ⟨g a,λk=>h (i k)⟩
theorem MN(G:Good P f)(U:Base P m)(g8:qc m)(o:aU f m a q)(l:cN P f d m (b::g) (e::h))(b3:b.mode=.run)(d3:BW P f b)(hd:d=J->b.roundOf=F):RO P f d m main c base b e g h a q:=by
 have s:=l.head;have e8:=Oc s b3;have f0:=s.todo;have a4:=G.code;obtain⟨fn,y,j2,H,i5,Q,r⟩:=b;obtain⟨b2,z,j3,L,i6,R,D⟩:=e;simp only at b3 e8 f0;subst b3;subst e8;have i9:r.isSome=J->d=Xp:=by grind
 cases f0 with
 |nil=>exact nV G U o l A F (by simp) (λa=>rfl) (λa=>rfl)
 |tail Y v=>exact eH λa=>⟨_,_,by rw[bm A];rfl⟩
 |@cons i2 i3 N O hit v=>
  cases hit with
  |inBlock id=>exact gC o l A v (λa=>rfl) (λa=>rfl)
  |inScope k _=>exact gC o l A v (λa=>rfl) (λa=>rfl)
  |inLoop k n=>exact gC o l A (.cons (.code k n) (.cons (.inLoop k n) v)) (λa=>rfl) (λa=>rfl)
  |inRangeFunc n=>exact eH λa=>⟨_,_,A⟩
  |beginRound=>
   refine sw G o l s A rfl (R:=(do r.elim (stuck "beginRound: no round") Instr.beginRound;pure .skip)) (S:=(do D.elim (stuck "beginRound: no round") Instr.beginRound;pure .skip)) ?_ (λa=>by rfl) (by rfl);have Y:qi m r D:=s.roundOf;cases Y with
   |none=>exact ah
   |some b0=>exact ax (vi U b0) λ_ _ _=>aB .skip
  |@endRangeFunc p b7 n=>
   have a6:fn=b2:=s.fn;subst a6
   refine nY G (fn:=fn) s.mU (Ct U n) o
    (t:=λw=>match w with|.ok d8 a=>.go (rg ⟨fn,y,(d8.map Item.code).toList++N,H,.run,Q,r⟩ (g++c)) a|.halt (.panic b1) a=>.go (rg (Frame.raise ⟨fn,y,.endRangeFunc p::N,H,.run,Q,r⟩ [{v:=b1,recovered:=Xp}]) (g++c)) a|.halt _ a=>.ended (.stuck "range over a function: no such loop" (XC.pos P ⟨fn,y,.endRangeFunc p::N,H,.run,Q,r⟩)) a)
    (D:=λw=>match w with|.ok d8 a=>.go (rg ⟨fn,z,(d8.map Item.code).toList++O,L,.run,R,D⟩ (h++base)) a|.halt (.panic b1) a=>.go (rg (Frame.raise ⟨fn,z,.endRangeFunc b7::O,L,.run,R,D⟩ [{v:=b1,recovered:=Xp}]) (h++base)) a|.halt _ a=>.ended (.stuck "range over a function: no such loop" (XC.pos P ⟨fn,z,.endRangeFunc b7::O,L,.run,R,D⟩)) a)
    (λa=>⟨seen P fn ((Instr.endLoop p).runT P a #[]).2,by rfl⟩) (λ_=>by rfl) ?_ ?_ ?_
   .rintro Z j i4 W⟨rfl,rfl,b9⟩;refine Xr ⟨_,_,g,h,λa=>rfl,λa=>rfl,l.top (Ren.le_refl _) (s.xn ?_) A⟩;cases j with
    |none=>exact v
    |some a2=>exact .cons (.code a2 (Xs ⟨(b9 a2 A).1,λ_=>(b9 a2 A).2⟩)) v
   .intro Z n T W b8;cases n<;>cases T<;>first|exact b8.elim|skip
    .have d1:aY (mv f Z) [{v:=_,recovered:=Xp}] [{v:=_,recovered:=Xp}]:=.cons ⟨b8,A,A⟩ .nil;exact Xr ⟨_,_,g,h,λa=>rfl,λa=>rfl,l.top W ((s.mono W).raise d1) (by rw[jz])⟩
    simp
   intro n a b0;cases n<;>first|(cases b0;done)|simp
  |inRegion x p n=>
   cases p with
   |nil=>exact gC o l A v (λa=>rfl) (λa=>rfl)
   |cons c6 i8=>
    have d7:yielded x y=yielded x z:=by
     funext j
     unfold yielded;cases i0:(x[j]?).bind (·.dst)with
     |none=>rfl
     |some a3=>
      dsimp only[Option.bind_some];have f1:aw f m y z:=s.tmps;cases b5:y[a3]? with
      |none=>rw[f1.none b5]
      |some a2=>
       obtain⟨f6,t,w⟩:=f1.get b5;rw[t];cases w with
       |bS b9=>cases f6<;>first|exact b9.elim|rfl
       |_=>rfl
    by_cases d5:(((x[c6]?).map (Region.wanted · (yielded x y))).getD Xp)=J
    .have c0:(((x[c6]?).map (Region.wanted · (yielded x z))).getD Xp)=J:=by simp_all
     cases a8:x[c6]? with
     |none=>simp_all
     |some c7=>
      rw[a8]at d5 c0;obtain⟨h1,e9⟩:=d3 c7 a8;refine sw G o l s A rfl (vE G U g8 (s.eval U) c7 h1) (λa=>?_) ?_
      .rw[bm A];simp only[stepG.exec,d5,Ym,stepG.oper,XC.oper?,a8];cases r with
       |none=>rfl
       |some p=>
        have:=e9 A
        grind [qZ]
      rw[bm A];simp only[stepG.exec,c0,Ym,stepG.oper,XC.oper?,a8];have Y:qi m r D:=s.roundOf;cases Y with
      |none=>rfl
      |some p=>
       have:=e9 A
       grind [qZ]
    have c0:¬(((x[c6]?).map (Region.wanted · (yielded x z))).getD Xp)=J:=by simp_all
    refine ng o (λa=>?_) (λa=>?_) (l.top (Ren.le_refl _) (s.finish aX) (fO _ _))
    .rw[bm A];simp only[stepG.exec,d5];rfl
    rw[bm A];simp only[stepG.exec,c0];rfl
  |code a2 n=>
   cases a2 with
   |skip=>exact gC o l A v (λa=>rfl) (λa=>rfl)
   |label p=>exact gC o l A v (λa=>rfl) (λa=>rfl)
   |refuse j5=>exact eH λa=>⟨_,_,A⟩
   |seq i k=>
    refine gC o l A (.cons (.code i (n.of (λt=>?_) λt=>?_)) (.cons (.code k (n.of (λt=>?_) λt=>?_)) v)) (λa=>rfl) (λa=>rfl)
    all_goals first|(rw[a4]at t⊢;simp_all [codeOk])|simp_all [cM]
   |block id i=>
    refine gC o l A (.cons (.code i (n.of (λt=>?_) λt=>?_)) (.cons (.inBlock id) v)) (λa=>rfl) (λa=>rfl)
    all_goals simp_all [codeOk,cM]
   |loop i=>have T:CK f d r.isSome i:=n.of (λt=>by simp_all [codeOk]) (λt=>by simp_all [cM]);exact gC o l A (.cons (.code i T) (.cons (.inLoop i T) v)) (λa=>rfl) (λa=>rfl)
   |scope i=>have T:CK f d r.isSome i:=n.of (λt=>by simp_all [codeOk]) (λt=>by simp_all [cM]);exact gC o l A (.cons (.code i T) (.cons (.inScope i T) v)) (λa=>rfl) (λa=>rfl)
   |ret=>exact nV G U o l A (C .ret) (λ_ c t=>by cases t;exact⟨by rw[a4];rfl,A⟩) (λa=>rfl) (λa=>rfl)
   |cond a0 i k=>
    have b4:an f m (Frame.eval ⟨fn,y,.code (.cond a0 i k)::N,H,.run,Q,r⟩ a0) (Frame.eval ⟨b2,z,.code (.cond a0 i k)::O,L,.run,R,D⟩ a0):=s.eval U a0 d3;have h8:CK f d r.isSome i:=n.of (λt=>by simp_all [codeOk]) (λt=>by simp_all [cM]);have h9:CK f d r.isSome k:=n.of (λt=>by simp_all [codeOk]) (λt=>by simp_all [cM]);generalize b5:Frame.eval ⟨fn,y,.code (.cond a0 i k)::N,H,.run,Q,r⟩ a0=a2 at b4;generalize i1:Frame.eval ⟨b2,z,.code (.cond a0 i k)::O,L,.run,R,D⟩ a0=f6 at b4;cases b4 with
    |bool a1=>
     refine gC o l A (.cons (.code (if a1 then i else k) (by cases a1<;>assumption)) v) (λa=>?_) (λa=>?_)
     .simp only[stepG.exec,b5]
     simp_all [stepG.exec]
    |_=>exact eH λa=>⟨_,_,by rw[bm A];simp only[stepG.exec,b5];rfl⟩
   |exit id=>
    rcases FF id v with⟨S,a5|a5⟩|⟨a1,f5,S,a5,Y⟩
    rotate_left
    .have d2:r=F:=by
      simp_all
     subst d2;exact eH λa=>⟨_,_,by rw[bm A];simp only[stepG.exec,S,p_];rfl⟩
    rotate_left
    .refine nV G U o l A (C (.exit id)) (λ_ c t=>by cases t;exact⟨by rw[a4];rfl,A⟩) (λa=>?_) (λa=>?_)
     .simp only[stepG.exec,S,p_];rfl
     simp only[stepG.exec,a5,p_];rfl
    refine gC o l A Y (λa=>?_) (λa=>?_)
    .simp only[stepG.exec,S,Xz.elim_some]
    simp_all [stepG.exec]
   |goto id=>
    rcases FO G id v with⟨S,a5|a5⟩|⟨a1,f5,S,a5,Y⟩
    rotate_left
    .have d2:r=F:=by
      simp_all
     subst d2;exact eH λa=>⟨_,_,by rw[bm A];simp only[stepG.exec,S,p_];rfl⟩
    rotate_left
    .refine nV G U o l A (C (.goto id)) (λ_ c t=>by cases t;exact⟨by rw[a4];rfl,A⟩) (λa=>?_) (λa=>?_)
     .simp only[stepG.exec,S,p_];rfl
     simp only[stepG.exec,a5,p_];rfl
    refine gC o l A Y (λa=>?_) (λa=>?_)
    .simp only[stepG.exec,S,Xz.elim_some]
    simp_all [stepG.exec]
   |region id x g0=>
    have a8:Wp P f d r.isSome x:=by
     rcases n with n|⟨n,T⟩
     .exact Xr n
     refine Xs λc7 b3=>⟨?_,λY=>?_⟩
     .rw[a4]at n;grind [codeOk]
     have:=T Y;simp only[cM,Zk]at this;exact this c7 b3
    cases g0 with
    |false=>exact gC o l A (.cons (.inRegion x _ a8) v) (λa=>rfl) (λa=>rfl)
    |true=>
     have a6:fn=b2:=s.fn;subst a6
     refine nY G (fn:=fn) s.mU (cr (.order fn id)) o
      (t:=λw=>match w with|.ok a1 a=>.go (rg ⟨fn,y,XE x (Region.schedule (P.follows .mixedOrders) x a1)::N,H,.run,Q,r⟩ (g++c)) a|.halt _ a=>.ended (.stuck "order" "") a)
      (D:=λw=>match w with|.ok a1 a=>.go (rg ⟨fn,z,XE x (Region.schedule (P.follows .mixedOrders) x a1)::O,L,.run,R,D⟩ (h++base)) a|.halt _ a=>.ended (.stuck "order" "") a)
      (λa=>⟨#[],?_⟩) (λ_=>?_) ?_ ?_ ?_
     .rw[bm A];simp only[stepG.exec,choose,Sem.run,XJ.runT,Question.forced,aM];rfl
     .rw[bm A];simp only[stepG.exec,choose,Sem.run,XJ.runT,Question.forced,aW,aM];rfl
     .rintro Z a1 f5 W⟨rfl,rfl⟩;exact Xr ⟨_,_,g,h,λa=>rfl,λa=>rfl,l.top (Ren.le_refl _) (s.xn (.cons (.inRegion x _ a8) v)) A⟩
     .intro Z n T W b8;exact Xs λa=>⟨_,_,A⟩
     simp
   |rangeFunc u X i k=>
    have d0:f.code (.rangeFunc u X i k)=J:=d3;rw[a4]at d0;simp only[codeOk,Ys]at d0;obtain⟨⟨⟨⟨g1,g2⟩,g3⟩,g4⟩,g5⟩:=d0;have a6:fn=b2:=s.fn;subst a6;have b4:an f m (Frame.eval ⟨fn,y,.code (.rangeFunc u X i k)::N,H,.run,Q,r⟩ u) (Frame.eval ⟨fn,z,.code (.rangeFunc u X i k)::O,L,.run,R,D⟩ u):=s.eval U u g1
    refine yW G (fn:=fn) s.mU (xG fn s.mU s.tmps X (k:=i) (n:=k) (by rw[a4];exact g2) (by rw[a4];exact g3) g4 g5 s.roundOf) o
     (r:=λw=>match w with
       |.ok (p,mark) a=>stepG.apply P J ⟨fn,y,.inRangeFunc p::N,mark++H,.run,Q,r⟩ (g++c) F (do let a3<-resolve (Frame.eval ⟨fn,y,.inRangeFunc p::N,mark++H,.run,Q,r⟩) {callee:=.value u,args:=#[.const (.func (.yield p) #[] #[])],argTypes:=#[]} 0;invoke a3.target a3.args) a
       |.halt _ a=>.ended (.stuck "range over a function: no such loop" (XC.pos P ⟨fn,y,.code (.rangeFunc u X i k)::N,H,.run,Q,r⟩)) a)
     (u:=λw=>match w with
       |.ok (p,mark) a=>stepG.apply P J ⟨fn,z,.inRangeFunc p::O,mark++L,.run,R,D⟩ (h++base) F (do let a3<-resolve (Frame.eval ⟨fn,z,.inRangeFunc p::O,mark++L,.run,R,D⟩) {callee:=.value u,args:=#[.const (.func (.yield p) #[] #[])],argTypes:=#[]} 0;invoke a3.target a3.args) a
       |.halt _ a=>.ended (.stuck "range over a function: no such loop" (XC.pos P ⟨fn,z,.code (.rangeFunc u X i k)::O,L,.run,R,D⟩)) a)
     (λa=>⟨seen P fn ((Instr.enterLoop fn y X i k r).runT P a #[]).2,by rw[bm A];rfl⟩) (λ_=>by rw[bm A];rfl) ?_ ?_ ?_
    .rintro Z⟨p,f2⟩⟨b7,f3⟩ h5 f7 new i7 e2⟨_,b0,h0⟩;have W:=e2.le;have d6:=e2.rel;have a7:=s.mono W;have h2:=l.top W a7 A;have g6:Base P Z:=U.jY o e2;have g9:qc Z:=λi f8 k f9=>d6.inj i f8 k f9
     refine sw G d6 h2 (n:=⟨fn,y,.inRangeFunc p::N,f2++H,.run,Q,r⟩) (b:=⟨fn,z,.inRangeFunc b7::O,f3++L,.run,R,D⟩)
      ⟨A,a7.mU,a7.tmps,.cons (.inRangeFunc b0) (v.imp λ_ _ a2=>a2.mono W),h0.append a7.defers,.run,a7.kind,a7.kindOk,a7.roundOf⟩ A rfl ?_ (λa=>rfl) A
     refine ax (n:=rZ f Z) ?_ λa3 h6 hd=>pE G g6 g9 hd.1 hd.2;have d7:aw f Z #[.func (.yield p) #[] #[]] #[.func (.yield b7) #[] #[]]:=aw.push aw.nil (.func (.yield b0) A rfl (by simp) (by simp));have d4:=b4.mono W
     have f4:∀(a9:Xu Xn)(d9 e0:Xq Item)(c8 c9:Xq Deferred)(b6:CallKind)(w:Xz E)(p:E),resolve (Frame.eval ⟨fn,a9,.inRangeFunc p::d9,c8,.run,b6,w⟩) {callee:=.value u,args:=#[.const (.func (.yield p) #[] #[])],argTypes:=#[]} 0
      =Deferred.ofValue (Frame.eval ⟨fn,a9,.code (.rangeFunc u X i k)::e0,c9,.run,b6,w⟩ u) #[.func (.yield p) #[] #[]]:=by
      intro a9 d9 e0 c8 c9 b6 w p;unfold resolve;have S:Frame.eval ⟨fn,a9,.inRangeFunc p::d9,c8,.run,b6,w⟩ u=Frame.eval ⟨fn,a9,.code (.rangeFunc u X i k)::e0,c9,.run,b6,w⟩ u:=by cases u<;>rfl
      simp[S,Frame.eval]
     rw[f4 y N N (f2++H) H,f4 z O O (f3++L) L];generalize Frame.eval ⟨fn,y,.code (.rangeFunc u X i k)::N,H,.run,Q,r⟩ u=b1 at d4;generalize Frame.eval ⟨fn,z,.code (.rangeFunc u X i k)::O,L,.run,R,D⟩ u=j4 at d4;unfold Deferred.ofValue;cases d4 with
     |func a6 d1 g7 h4 h3=>exact aq ⟨.fn a6 ⟨g7,h3⟩,aw.append ⟨d1,h4⟩ d7⟩
     |nilFunc=>exact aq ⟨.nil,d7⟩
     |_=>exact ah
    .intro Z n T h5 f7 W b8 d6;exact eH λa=>⟨_,_,A⟩
    simp
end
variable{R:Xu XQ}
section
variable{g:Xy}{main:Xy}{e base:Xq XC}{b h:XC}{c d:Xq XC}
def Az:Target->Xy
 |.nil=>J
 |_=>Xp
def Qo:FrameMode->Xy
 |.panicking _=>J
 |_=>Xp
def sD(P:XI)(b:XC)(c:Xq XC):Result Next->GStep
 |.ok (.enter d f) a=>.go (rg (Frame.enter P d f .deferred) (b::c)) a
 |.ok (.round h d i e g) a=>.go (rg (Frame.round h d i e g .deferred) (b::c)) a
 |.ok .recover a=>match b.mode,tryRecover b c with
  |.returning,C (_,c)=>.go (rg b c) a
  |_,_=>.go (rg b c) a
 |.ok _ a=>.go (rg b c) a
 |.halt (.panic k) a=>.go (rg (b.raise [{v:=k,recovered:=Xp}]) c) a
 |.halt .goexit a=>.go (rg (b.raise [goexitEntry]) c) a
 |.halt _ a=>.ended (.stuck "" "") a
def Kr:Halt->Xy
 |.panic _=>J
 |.goexit=>J
 |_=>Xp
theorem mz(d:XC)(f:Xq XC)(b:Deferred)(a:K)(i:(Az b.target&&Qo d.mode)=Xp)
 (c:match((invoke b.target b.args).runT P a #[]).1 with
   |.ok e _=>(match e with|.value _|.skip|.enter .. |.round .. |.defer _|.recover=>True|_=>False)
   |.halt c _=>Kr c=J):callDeferred P d f F b a=GStep.after (seen P d.fn ((invoke b.target b.args).runT P a #[]).2) (sD P d f ((invoke b.target b.args).runT P a #[]).1):=by
 unfold callDeferred;generalize (invoke b.target b.args).runT P a #[]=m at c;obtain⟨k,R⟩:=m;cases k with
 |ok e l=>cases e<;>first|exact c.elim|(rw[XH (λc=>by have g:(Az b.target&&Qo d.mode)=J:=c;rw[i]at g;cases g)];rfl)
 |halt h l=>cases h<;>first|(cases c;done)|(rw[XH (λc=>by grind [Az,Qo])];rfl)
theorem qo(d:XC)(g:Xq XC)(b:Deferred)(a:K)(m:(Az b.target&&Qo d.mode)=Xp){c:Halt}{k:K}
 (e:(invoke b.target b.args).runT P a #[]=(.halt c k,R))(h:Halt.lost c=J):∃i l f,callDeferred P d g F b a=.ended i l f:=by
 unfold callDeferred;rw[XH (λe=>by grind [Az,Qo])];simp only[e];cases c<;>first|(cases h;done)|exact⟨_,_,_,rfl⟩
theorem sE(G:Good P f)(w:Base P m)(c0:qc m)(d0:aU f m a q)(a0:cN P f g m (b::c) (h::d)){o s:Deferred}(hd:rZ f m o s){i k:XC}(Y:bF P f g m i k)(a1:tag i=tag b)
 {sl:K->GStep}{b1:GStep}(left:∀a,sl a=callDeferred P i (c++e) F o a)(right:b1=callDeferred P k (d++base) F s q):oj P f g m e base a q sl b1:=by
 have a5:=Y.mode;have L:Az o.target=Az s.target:=by have:=hd.1;generalize o.target=p at this;generalize s.target=r at this;cases this<;>rfl
 have T:Qo i.mode=Qo k.mode:=by generalize i.mode=p at a5;generalize k.mode=r at a5;cases a5<;>rfl
 cases D:Az o.target&&Qo i.mode with
 |true=>refine eH λa=>⟨.unsupported (.noEntry "machine/Return: a deferred call of a nil function value, made while the frame is unwinding") (XC.pos P i),a,?_⟩;rw[left];refine XN ?_;exact D
 |false=>
  have c6:(Az s.target&&Qo k.mode)=Xp:=by simp_all
  have d8:∀N l O,Nr f l N O->(match N with|.value _|.skip|.enter .. |.round .. |.defer _|.recover=>True|_=>False)/\(match O with|.value _|.skip|.enter .. |.round .. |.defer _|.recover=>True|_=>False):=by intro N l O Z;cases Z<;>exact⟨trivial,trivial⟩
  refine wm G (fn:=k.fn) (Y.fn▸Y.mU) (pE G w c0 hd.1 hd.2) d0 (W:=sD P i (c++e)) (a1:=sD P k (d++base)) (λa y=>⟨_,(left a).trans (mz i _ o a D ?_)⟩) (λy=>right.trans (mz k _ s q c6 ?_)) ?_ ?_ (λa z H R b5 a4=>by rw[left];exact qo i _ o a D b5 a4)
  .generalize (invoke o.target o.args).runT P a #[]=a9 at y;obtain⟨a8,R⟩:=a9;cases a8 with
   |ok N H=>obtain⟨l,O,Z⟩:=y;grind
   |halt z H=>obtain⟨l,X,a7⟩:=y;cases z<;>cases X<;>first|exact a7.elim|rfl
  .generalize (invoke s.target s.args).runT P q #[]=a9 at y;obtain⟨a8,R⟩:=a9;cases a8 with
   |ok N H=>obtain⟨l,O,Z⟩:=y;grind
   |halt z H=>obtain⟨l,X,a7⟩:=y;cases X<;>cases z<;>first|exact a7.elim|rfl
  .intro l N O H a3 new d7 n Z;have t:=n.le;have x:=Y.mono t;have u:=a0.top t x a1;cases Z with
   |value c9=>exact cP n.rel (λa=>rfl) A u
   |skip=>exact cP n.rel (λa=>rfl) A u
   |defer hd=>exact cP n.rel (λa=>rfl) A u
   |enter a2 D v=>exact cP n.rel (o:=Frame.enter P a2 _ .deferred) (p:=Frame.enter P a2 _ .deferred) (b:=i::c) (n:=k::d) (λa=>rfl) A (a0.push t x a1 (bF.enter G D v .deferred (Xs A)))
   |round a4 a2 D c8 p r v w d1 d2=>exact cP n.rel (o:=Frame.round _ a2 _ p r .deferred) (p:=Frame.round _ a2 _ p r .deferred) (b:=i::c) (n:=k::d) (λa=>rfl) A (a0.push t x a1 (bF.round G a4 D c8 v w d1 d2 .deferred (Xs A)))
   |recover=>
    rcases nE u e base with⟨L,T⟩|⟨b2,d9,b3,b4,L,T,c9,b7,b8⟩
    .refine cP n.rel (o:=i) (p:=k) (b:=c) (n:=d) (λa=>?_) ?_ u
     .simp only[sD,L];cases i.mode<;>rfl
     simp_all [sD]
    have c7:=u.AB (.cons x b7) (by simp[b8])
    have d6:∀p r,kh f m p r->i.mode=p->k.mode=r->oj P f g l e base H a3 (λa=>sD P i (c++e) (.ok .recover a)) (sD P k (d++base) (.ok .recover a3)):=by
     intro p r b9 v w;cases b9 with
     |returning=>exact cP n.rel (o:=i) (p:=k) (b:=b3) (n:=b4) (λa=>by simp only[sD,L,v]) (by simp only[sD,T,w]) c7
     |run=>exact cP n.rel (o:=i) (p:=k) (b:=c) (n:=d) (λa=>by simp only[sD,L,v]) (by simp only[sD,T,w]) u
     |panicking _=>exact cP n.rel (o:=i) (p:=k) (b:=c) (n:=d) (λa=>by simp only[sD,L,v]) (by simp only[sD,T,w]) u
    grind
  intro l b6 X H a3 t z b0;have x:=Y.mono t;cases b6<;>cases X<;>first|exact z.elim|skip
  .have a6:aY (mv f l) [{v:=_,recovered:=Xp}] [{v:=_,recovered:=Xp}]:=.cons ⟨z,A,A⟩ .nil;exact cP b0 (λa=>rfl) A (a0.top t (x.raise a6) (by rw[jz,a1]))
  have a6:aY (mv f l) [goexitEntry] [goexitEntry]:=.cons ⟨aX,A,A⟩ .nil;exact cP b0 (λa=>rfl) A (a0.top t (x.raise a6) (by rw[jz,a1]))
theorem Fj{a b:XC}(c:bF P f g m a b):a.catches P=Xp/\b.catches P=Xp:=by
 have:=c.todo;unfold XC.catches;generalize a.todo=l at this;generalize b.todo=n at this;cases this with
 |nil=>simp
 |tail k i=>
  constructor
  .split<;>rename_i c<;>first|rfl|cases c
  grind [jM,wF]
 |cons e _=>cases e<;>(constructor<;>(split<;>rename_i h d<;>first|rfl|cases d))
theorem GU(G:Good P f)(T:Base P m)(a8:qc m)(p:aU f m a q)(o:cN P f g m (b::c) (h::d))(a9:b.mode≠.run)(e9:¬(c=[]/\b.defers=[])):RO P f g m main e base b h c d a q:=by
 have i:=o.head;have U:=i.mode;have d7:h.mode≠.run:=by intro H;rw[H]at U;generalize b.mode=O at U a9;cases U;exact a9 A
 have y:∀a,stepG P J (rg b (c++e)) a=unwind P J b (c++e) F a:=λa=>ie a9;have N:∀a,stepG P main (rg h (d++base)) a=unwind P main h (d++base) F a:=λa=>ie d7;obtain⟨fn,l,w,e4,W,r,t⟩:=b;obtain⟨e6,v,x,e5,X,s,u⟩:=h;have d5:=i.fn;subst d5;have d4:=i.defers;cases d4 with
 |@cons c7 c8 a2 a3 hd b4=>
  have a7:bF P f g m ⟨fn,l,w,a2,W,r,t⟩ ⟨fn,v,x,a3,X,s,u⟩:=⟨A,i.mU,i.tmps,i.todo,b4,i.mode,i.kind,i.kindOk,i.roundOf⟩;obtain⟨f3,e2⟩:=c7;obtain⟨f4,e3⟩:=c8;have d9:=hd.1;cases d9 with
  |@collected k f1 d8=>
   refine nY G (fn:=fn) i.mU (sX d8) p
    (t:=λk=>match k with|.ok a1 a=>.go (rg ⟨fn,l,w,a1++a2,W,r,t⟩ (c++e)) a|.halt _ a=>.ended (.stuck "the deferred calls of a range-over-func loop have been taken" (XC.pos P ⟨fn,l,w,_,W,r,t⟩)) a)
    (D:=λk=>match k with|.ok a1 a=>.go (rg ⟨fn,v,x,a1++a3,X,s,u⟩ (d++base)) a|.halt _ a=>.ended (.stuck "the deferred calls of a range-over-func loop have been taken" (XC.pos P ⟨fn,v,x,_,X,s,u⟩)) a)
    (λa=>⟨seen P fn ((Instr.takeDeferred k).runT P a #[]).2,by rw[y];rfl⟩) (λ_=>by rw[N];rfl) ?_ ?_ ?_
   .rintro n b2 e1 L⟨rfl,b5⟩;exact Xr ⟨_,_,c,d,λa=>rfl,λa=>rfl,o.top (Ren.le_refl _) (⟨A,i.mU,i.tmps,i.todo,b5.append b4,i.mode,i.kind,i.kindOk,i.roundOf⟩:bF P f g n ⟨fn,l,w,b2++a2,W,r,t⟩ ⟨fn,v,x,e1++a3,X,s,u⟩) A⟩
   .intro n H e7 L e8;exact Xs λa=>⟨_,_,A⟩
   simp
  |fn R a4=>exact sE G T a8 p o hd a7 A (λa=>by rw[y];rfl) (by rw[N];rfl)
  |nil=>exact sE G T a8 p o hd a7 A (λa=>by rw[y];rfl) (by rw[N];rfl)
  |builtin Q f5 f2 f0 H=>exact sE G T a8 p o hd a7 A (λa=>by rw[y];rfl) (by rw[N];rfl)
 |nil=>
  cases o.tail with
  |nil=>simp_all
  |@cons O Z z D S d2=>
   have b0:∀n,m.le n->cN P f g n (O::z) (Z::D):=λn L=>⟨.cons (S.mono L) (d2.mono λ_ _ b2=>b2.mono L),λc9 b5=>o.bot c9 (by simp_all)⟩
   obtain⟨c0,c6⟩:=Fj i;cases U with
   |run=>simp_all
   |panicking d3=>
    refine ng p (o:=O.raise _) (p:=Z.raise _) (b:=z) (n:=D) (λa=>?_) (λa=>?_) ((b0 m (Ren.le_refl _)).top (Ren.le_refl _) (S.raise d3) (jz _ _))
    .rw[y];simp only[unwind,c0,Yt,Yq,Yz];rfl
    rw[N];simp only[unwind,c6,Yt,Yq,Yz];rfl
   |returning=>
    cases d6:P.funcs[fn]? with
    |none=>
     obtain⟨Q,a0,R,a4,a5,a6⟩:=AO (P:=P) i S (i.tmps.getD 0 aX);refine ng p (o:=Q) (p:=a0) (b:=z) (n:=D) (λa=>?_) (λa=>?_) ((b0 m (Ren.le_refl _)).top (Ren.le_refl _) a5 a6)
     .rw[y];simp only[unwind,d6];exact R J _ a
     grind [unwind]
    |some b3=>
     refine nY G (fn:=fn) i.mU (tT T b3 i.tmps) p
      (t:=λk=>match k with|.ok Y a=>doReturn P J ⟨fn,l,w,[],.returning,r,t⟩ (O::z++e) F Y a|.halt (.stuck b1) a=>.ended (.stuck b1 (XC.pos P ⟨fn,l,w,[],.returning,r,t⟩)) a|.halt _ a=>.ended (.stuck "return: the result variables cannot be read" (XC.pos P ⟨fn,l,w,[],.returning,r,t⟩)) a)
      (D:=λk=>match k with|.ok Y a=>doReturn P main ⟨fn,v,x,[],.returning,s,u⟩ (Z::D++base) F Y a|.halt (.stuck b1) a=>.ended (.stuck b1 (XC.pos P ⟨fn,v,x,[],.returning,s,u⟩)) a|.halt _ a=>.ended (.stuck "return: the result variables cannot be read" (XC.pos P ⟨fn,v,x,[],.returning,s,u⟩)) a)
      (λa=>⟨seen P fn ((results b3 l).runT P a #[]).2,by grind [unwind]⟩) (λ_=>by grind [unwind]) ?_ ?_ ?_
     .rintro n Y f6 L⟨rfl,e0⟩;left;obtain⟨Q,a0,R,a4,a5,a6⟩:=AO (P:=P) i S e0;exact⟨Q,a0,z,D,λa=>R J _ a,λa=>a4 main _ a,(b0 n (Ren.le_refl _)).top (Ren.le_refl _) a5 a6⟩
     .grind
     intro H a _;cases H<;>exact⟨_,_,A⟩
theorem Ee(G:Good P f)(n:Base P m)(k:aU f m a q)(o:cN P f g m (b::c) (h::d))(r:b.mode=.run->BW P f b)(hd:g=J->b.roundOf=F)(p:¬(c=[]/\b.mode≠.run/\b.defers=[])):
 RO P f g m main e base b h c d a q:=by
 by_cases i:b.mode=.run
 .exact MN G n k.SJ k o i (r i) hd
 exact GU G n k.SJ k o i λl=>p ⟨l.1,i,l.2⟩
theorem BD(G:Good P f){a g:XC}(k:bF P f Xp m a g):BW P f a\/∃e,a.todo=[dj e]:=by
 have d:=k.todo;generalize i:a.todo=n at d
 suffices r:(∃e,n=[dj e])\/BW P f a by grind
 subst i;unfold BW;generalize a.todo=e at d;generalize g.todo=t at d;cases d with
 |nil=>simp
 |tail q p=>grind
 |cons l _=>
  right;cases l with
  |code o b=>
   rcases b with b|⟨b,_⟩
   .cases b
   cases o<;>first|trivial|skip
   rw[G.code]at b;simp_all [codeOk]
  |inRegion u h c=>
   cases h with
   |nil=>trivial
   |cons s h=>
    rcases c with c|c
    .cases c
    grind
  |_=>trivial
theorem mC(G:Good P f)(o:Base P m)(r:aU f m a q)(l:cN P f Xp m (b::c) (h::d))(p:¬(c=[]/\b.mode≠.run/\b.defers=[])):RO P f Xp m main e base b h c d a q:=by
 rcases BD G l.head with i|⟨s,i⟩
 .simp_all [Ee]
 by_cases k:b.mode=.run
 .obtain⟨fn,w,x,n,u,t,v⟩:=b;subst k i;exact eH λa=>⟨_,_,by rw[bm A];rfl⟩
 simp_all [Ee]
end
variable{e:Xq XC}{d:K}
def dw:XC:={fn:=0,tmps:=#[],todo:=[.code (.cond (.const .nilFunc) .skip .skip)],defers:=[{target:=.nil,args:=#[]}],mode:=.run,kind:=.normal}
def Shape(a:XC)(b:Xq XC):Prop:=b=[]/\((a.mode≠.run/\a.defers=[]/\a.kind=.normal)\/(a.mode=.run/\∃c,a.todo=[dj c]))
inductive xA(P:XI)(c:XC->K->Prop):XC->Xq XC->K->Prop
 |stop {b:XC} {f:Xq XC} {a:K} (p:Shape b f) (s:∃(o:E)(n:E->Question->E),∀l:E->Question->E,(∀g k,o<=g->g<a.drawn->l g k=n g k)->c b {a with tape:=l}):xA P c b f a
 |step {b:XC} {f:Xq XC} {a:K} (p:¬Shape b f) (q:¬Lv (stepG P J (rg b (f++[dw]))) a)
   (t:∀i h m,RI (stepG P J (rg b (f++[dw]))) a i (h++[dw]) m->xA P c i h m):xA P c b f a
def TV(P:XI)(c:XC->K->Prop)(l:XC)(k:Xq XC)(a:K)(f:E)(i:E->Question->E):Prop:=
 f<=a.drawn/\∀h:E->Question->E,(∀b g,f<=b->b<a.drawn->h b g=i b g)->
  ∃m e d,runN P m (lone l (k++[dw]) {a with tape:=h})=.next (lone e [dw] d)/\c e d/\Shape e []
section
variable{c:XC->K->Prop}
theorem lr{c d:XC}{b:Xq XC}{f:K}(i:stepG P J (rg c e) a=.go (rg d b) f R):step P (lone c e a)=.next (lone d b f):=by refine step_lone_go ?_;have:stepG P J {frame:=c,callers:=e,status:=.running,dying:=F} a=.go {frame:=d,callers:=b,status:=.running,dying:=F} f R:=i;simp_all
theorem gX{b:XC}{d:K}{c:Outcome}(f:stepG P J (rg b e) a=.ended c d R):step P (lone b e a)=.ended c d:=by refine step_lone_ended ?_;have:stepG P J {frame:=b,callers:=e,status:=.running,dying:=F} a=.ended c d R:=f;simp_all
theorem mY{c f:XC}{b:Xq XC}(g:lone c e a=lone f b d):c=f/\e=b/\a=d:=by simp_all [lone]
theorem GB{b:XC}(w:(b.mode≠.run/\b.defers=[]/\b.kind=.normal)\/(b.mode=.run/\∃y,b.todo=[dj y])):∀e,e≠0->∀n d,runN P e (lone b [dw] a)≠.next (lone n [dw] d):=by
 rcases w with⟨p,hd,v⟩|⟨p,Q,x⟩
 rotate_left
 .intro e q n d k;cases e with
  |zero=>exact q A
  |succ e=>
   have r:∃f c,step P (lone b [dw] a)=.ended f c:=by obtain⟨fn,U,W,L,S,O,T⟩:=b;subst p x;exact⟨_,_,gX (by rw[bm A];rfl)⟩
   grind [runN]
 have z:(∃f c,step P (lone b [dw] a)=.ended f c)\/∃m c,step P (lone b [dw] a)=.next (lone m [] c)/\∃f l,step P (lone m [] c)=.ended f l:=by
  have h:stepG P J (rg b [dw]) a=unwind P J b [dw] F a:=ie p
  have fin:∀(g:Xn) c,∃f l,step P (lone (dw.finish g) [] c)=.ended f l:=λg c=>⟨_,_,gX (by rw[bm A];rfl)⟩
  cases i:b.mode with
  |run=>simp_all
  |panicking u=>
   cases s:b.catches P with
   |true=>exact Xr ⟨_,_,gX (by rw[h];simp only[unwind,hd,i,s,Ym];rfl)⟩
   |false=>refine Xs ⟨dw.raise u,a,lr (by rw[h];simp only[unwind,hd,i,s,Yt,Yq];rfl),?_⟩;refine⟨_,_,gX (by rw[ie (by simp[Frame.raise,dw])];rfl)⟩
  |returning=>
   have dr:∀g c,doReturn P J b [dw] F g c=.go (rg (dw.finish g) []) c:=by intro g c;simp only[doReturn,v];rfl
   cases o:P.funcs[b.fn]? with
   |none=>exact Xs ⟨_,_,lr (by rw[h];simp only[unwind,hd,i,o];exact dr _ _),fin _ _⟩
   |some fn=>
    generalize t:(results fn b.tmps).runT P a #[]=H;obtain⟨D,R⟩:=H;cases D with
    |ok g c=>exact Xs ⟨_,_,lr (by rw[h];simp only[unwind,hd,i,o,t,dr];rfl),fin _ _⟩
    |halt k c=>cases k<;>exact Xr ⟨_,_,gX (by rw[h];simp only[unwind,hd,i,o,t];rfl)⟩
 intro e q n d k;cases e with
 |zero=>exact q A
 |succ e=>
  simp only[runN]at k;rcases z with⟨f,c,r⟩|⟨m,c,r,f,l,N⟩
  .simp_all
  cases e with
  |zero=>grind [runN,mY]
  |succ e=>simp_all [runN]
structure zy(P:XI)(c:XC->K->Prop) where
 fr:XC
 L:Xq XC
 w:K
 b:E
 H:E->Question->E
 runs:TV P c fr L w b H
 no:¬xA P c fr L w
theorem zy.Du(a:zy P c):¬Shape a.fr a.L:=by
 intro b;obtain⟨e,g⟩:=b;obtain⟨o,f⟩:=a.runs;refine a.no (.stop ⟨e,g⟩ ⟨a.b,a.H,λi h=>?_⟩);obtain⟨p,k,d,l,m,n⟩:=f i h
 grind [runN,mY,GB]
theorem zy.next(b:zy P c):∃g:zy P c,g.b=b.b/\b.w.drawn<=g.w.drawn/\(∀a e,b.b<=a->a<b.w.drawn->g.H a e=b.H a e)/\
 ∀f:E->Question->E,(∀a e,b.w.drawn<=a->a<g.w.drawn->f a e=g.H a e)->step P (lone b.fr (b.L++[dw]) {b.w with tape:=f})=.next (lone g.fr (g.L++[dw]) {g.w with tape:=f}):=by
 have O:=b.Du;obtain⟨D,u⟩:=b.runs
 have H:¬Lv (stepG P J (rg b.fr (b.L++[dw]))) b.w:=by
  rintro⟨p,S,m⟩
  let f:E->Question->E:=λa e=>if a<b.w.drawn then b.H a e else p a e
  obtain⟨o,x,d,q,y,z⟩:=u f λa e _ l=>by grind
  obtain⟨T,U,R,h⟩:=m f λa e l _=>by grind
  have h:=gX h;cases o with
  |zero=>obtain⟨v,w,_⟩:=mY (aaP q);simp_all
  |succ o=>simp_all [runN]
 have L:∃k i n,RI (stepG P J (rg b.fr (b.L++[dw]))) b.w k (i++[dw]) n/\¬xA P c k i n:=by refine Classical.byContradiction λN=>b.no (.step O H λk i n m=>Classical.byContradiction λr=>N ⟨k,i,n,m,r⟩)
 obtain⟨k,i,n,⟨hd,p,m⟩,r⟩:=L
 let s:E->Question->E:=λa e=>if a<b.w.drawn then b.H a e else p a e
 refine⟨⟨k,i,n,b.b,s,⟨Yi D hd,λf Q=>?_⟩,r⟩,A,hd,λa e _ l=>by simp only[s,l,Ym],λf Q=>?_⟩
 .obtain⟨o,x,d,q,y,z⟩:=u f λa e t l=>by
   grind
  obtain⟨R,h⟩:=m f λa e t l=>by grind
  have h:=lr h;cases o with
  |zero=>obtain⟨v,w,_⟩:=mY (aaP q);simp_all
  |succ o=>grind [runN]
 obtain⟨R,h⟩:=m f λa e t l=>by grind
 exact lr h
theorem qO{t:XC}{s:Xq XC}{p:E}{x:E->Question->E}(k:TV P c t s a p x):xA P c t s a:=by
 refine Classical.byContradiction λQ=>?_
 let Y:zy P c:=⟨t,s,a,p,x,k,Q⟩
 let n:zy P c->zy P c:=λh=>Classical.choose h.next
 have w:∀h,(n h).b=h.b/\h.w.drawn<=(n h).w.drawn/\(∀f g,h.b<=f->f<h.w.drawn->(n h).H f g=h.H f g)/\
  ∀m:E->Question->E,(∀f g,h.w.drawn<=f->f<(n h).w.drawn->m f g=(n h).H f g)->step P (lone h.fr (h.L++[dw]) {h.w with tape:=m})=.next (lone (n h).fr ((n h).L++[dw]) {(n h).w with tape:=m}):=by grind
 let i:E->zy P c:=λb=>E.rec Y (λ_ h=>n h) b
 have T:∀b,i (b+1)=n (i b):=λb=>rfl
 have O:∀b,(i b).b=p:=by
  intro b;induction b with
  |zero=>rfl
  |succ b r=>rw[T,(w _).1,r]
 have mono:∀l b,l<=b->(i l).w.drawn<=(i b).w.drawn/\∀f g,p<=f->f<(i l).w.drawn->(i b).H f g=(i l).H f g:=by
  intro l b a2
  induction b with
  |zero=>obtain rfl:l=0:=by omega
         exact⟨Ye _,λ_ _ _ _=>rfl⟩
  |succ b r=>
   by_cases v:l=b+1
   .subst v;exact⟨Ye _,λ_ _ _ _=>rfl⟩
   obtain⟨H,U⟩:=r (by omega);obtain⟨_,W,X,_⟩:=w (i b);refine⟨Yi H W,λf g o k=>?_⟩;rw[X f g (by rw[O];exact o) (Yk k H)];exact U f g o k
 let m:E->Question->E:=λf g=>open Classical in if k:∃b,f<(i b).w.drawn then(i (Classical.choose k)).H f g else 0
 have D:∀b f g,p<=f->f<(i b).w.drawn->m f g=(i b).H f g:=by
  intro b f g o q;have u:∃b,f<(i b).w.drawn:=⟨b,q⟩;have v:m f g=(i (Classical.choose u)).H f g:=by simp only[m];rw[abt u]
  rw[v];have z:=Classical.choose_spec u;generalize Classical.choose u=l at z;rcases E.le_total l b with k|k
  .exact((mono l b k).2 f g o z).symm
  exact(mono b l k).2 f g o q
 have S:p<=(i 0).w.drawn:=k.1
 have run:∀b,runN P b (lone t (s++[dw]) {a with tape:=m})=.next (lone (i b).fr ((i b).L++[dw]) {(i b).w with tape:=m}):=by
  intro b
  induction b with
  |zero=>rfl
  |succ b r=>
   rw[runN_add,r];simp only[runN]
   have:=(w (i b)).2.2.2 m λf g o q=>by exact D (b+1) f g (Yi (Yi S (mono 0 b (YH _)).1) o) q
   rw[this]
 obtain⟨b,a0,d,y,a1,N⟩:=k.2 m λf g o q=>D 0 f g o q;rw[run b]at y;obtain⟨L,Z,_⟩:=mY (aaP y);refine(i b).Du ⟨?_,L▸N.2⟩;simp_all
def RB(P:XI)(e:XU)(c:Ending->K->Prop)(d:XC)(a:K):Prop:=∃b,(∀f:b=.outgrown,False)/\c b a/\d.fn=e/\d.leaving P a b
def Tp(g:K->Prop)(a:K):Prop:=∃(f:E)(e:E->Question->E),∀d:E->Question->E,(∀b c,f<=b->b<a.drawn->d b c=e b c)->g {a with tape:=d}
theorem Tp.all{c:K->Prop}(d:∀b,c {a with tape:=b}):Tp c a:=⟨0,λ_ _=>0,λb _=>d b⟩
theorem Tp.mono{f g:K->Prop}(b:Tp f a)(k:∀a,f a->g a):Tp g a:=by obtain⟨i,h,b⟩:=b;exact⟨i,h,λm l=>k _ (b m l)⟩
theorem Tp.low{h:K->Prop}(g:Tp h a):∃(c:E)(f:E->Question->E),c<=a.drawn/\∀e:E->Question->E,(∀b d,c<=b->b<a.drawn->e b d=f b d)->h {a with tape:=e}:=by obtain⟨c,f,g⟩:=g;exact⟨min c a.drawn,f,E.min_le_right _ _,λe l=>g e λb d i k=>l b d (Yi (E.min_le_left _ _) i) k⟩
theorem Tp.one{d:K->Prop}(b:Tp d a):∃e,d {a with tape:=e}:=by obtain⟨f,c,b⟩:=b;exact⟨c,b c λ_ _ _ _=>rfl⟩
theorem oJ{f:XU}{k:Xu Xn}{c:Ending->K->Prop}(g:Tp (λa=>Calls P f k a c) a)(w:∀a,¬c .outgrown a)(r:∀b a,c b a->∃h,b=XB h):
 xA P (RB P f c) (Frame.enter P f k .normal) [] a:=by
 obtain⟨l,i,q,g⟩:=g.low;refine qO (p:=l) (x:=i) ⟨q,λv t=>?_⟩;obtain⟨b,d,n,m,o,p,e⟩:=g v t [dw];obtain⟨h,rfl⟩:=r b d m;obtain⟨u,s⟩:=o;refine⟨u,n,d,s,⟨XB h,by simp,m,p,e⟩,A,Xr ⟨?_,e.2.1,e.2.2.1⟩⟩;rw[e.1];simp
end
variable{h:E->Prop}{b:XD}
inductive xu(P:XI)(f:Set)(main:Xy)(h:E->Prop)(Stop:Ren->K->XD->Prop):Ren->K->XD->Prop
 |stop {m:Ren} {a:K} {b:XD} (s:Stop m a b):xu P f main h Stop m a b
 |step {m:Ren} {a:K} {b:XD} (t:b.status=.running) (o:K->Ren->K->XD->Prop)
   (s:∀q,aU f m a q->∃e i g l new n,stepG P main b q=.go e l (kept n).toArray/\bB f m i a g q l new n/\(∀d,h d->g.heap[d]?=a.heap[d]?)/\(∀k∈new,k.write=J->∀d,h d->k.loc≠.obj d/\∀p,k.loc=.cell p->p.block≠d)/\e.status=.running/\o q i g e)
   (u:∀q i g e,o q i g e->xu P f main h Stop i g e):xu P f main h Stop m a b
section
variable{main:Xy}{Stop c:Ren->K->XD->Prop}
theorem xu.bind(d:xu P f main h Stop m a b)(o:∀i g e,Stop i g e->xu P f main h c i g e):xu P f main h c m a b:=by
 induction d with
 |stop d=>simp_all
 |step k n d _ l=>exact .step k n d l
theorem xu.pure{g₁:XD}(i:b.status=.running)(k:g₁.status=.running)(e:∀q,stepG P main b q=.go g₁ q)(o:xu P f main h Stop m a g₁):xu P f main h Stop m a b:=
 .step i (λ_ n l d=>n=m/\l=a/\d=g₁) (λq g=>⟨g₁,m,a,q,[],[],e q,bB.refl g,λ_ _=>rfl,by simp,k,A,A,A⟩) (by simp_all)
def mF(f:Set)(h:E->Prop)(a:K):Prop:=∀c,h c->∃d,a.heap[c]?=C d/\match d with
 |.cells b _ e=>e=(0,b.size)/\0<b.size/\¬aS b
 |.map .. =>True
 |_=>False
def kL(f:Set)(h:E->Prop)(a:K):Prop:=f.cj=Xp\/∀b,h b->∀c d,a.heap[b]?≠C (.map c d)
theorem kL.keep{d:K}(c:kL f h a)(e:∀b,h b->d.heap[b]?=a.heap[b]?):kL f h d:=by
 rcases c with c|c
 .exact Xr c
 exact Xs λb i g k=>by simp_all
theorem mF.keep{d:K}(g:mF f h a)(e:∀b,h b->d.heap[b]?=a.heap[b]?):mF f h d:=λb c=>by rw[e b c];exact g b c
theorem bB.kR{L:Ren}{r s:K}{new D:Xq XQ}(i:bB f m L a r q s new D)(y:f.cj=Xp){d:E}{o:Obj}(x:a.heap[d]?=C o)(O:Sim.kR o=J):
 ∃p,r.heap[d]?=C p/\Sim.kR p=J:=by
 by_cases k:∃b∈new,b.write=J/\b.loc=.obj d
 .exact i.ou y d k
 by_cases l:∃b∈new,b.write=J/\∃c,b.loc=.cell c/\c.block=d
 .obtain⟨b,e,g,c,h,rfl⟩:=l;obtain⟨t,H,u,n,_⟩:=i.iz b e g c h;exact⟨_,n,A⟩
 rcases i.iK d (XZ.1 x).1 (λb e g=>⟨λz=>k ⟨b,e,g,z⟩,λc h w=>l ⟨b,e,g,c,h,w⟩⟩)with n|⟨t,H,u,N,_,v⟩
 .simp_all
 exact⟨_,v,A⟩
structure kY(f:Set)(a k:K):Prop where
 jX:∀d,a.frozen? d=J->k.frozen? d=J
 nm:f.cj=Xp->∀(e:E)(g:Obj),a.heap[e]?=C g->kR g=J->∃i,k.heap[e]?=C i/\kR i=J
theorem kY.refl(a:K):kY f a a:=⟨λ_ b=>b,λ_ g e c d=>⟨e,c,d⟩⟩
theorem kY.trans{w₁ l:K}(g:kY f a w₁)(i:kY f w₁ l):kY f a l:=
 ⟨λd s=>i.jX d (g.jX d s),λk e t p r=>by obtain⟨u,n,o⟩:=g.nm k e t p r;exact i.nm k e u n o⟩
theorem bB.later{k:Ren}{c d:K}{new i:Xq XQ}(b:bB f m k a c q d new i):kY f a c:=⟨b.jX,λh l n e g=>b.kR h e g⟩
def gP(f:Set)(h:E->Prop)(d a:K):Prop:=∃c,kY f a c/\∀b,h b->c.heap[b]?=d.heap[b]?
theorem Dd(G:Good P f){t:XC->K->Prop}{b:XC}{c:Xq XC}(e:xA P t b c a):∀{m:Ren}{k:XC}{p:Xq XC}{q:K},Base P m->aU f m a q->cN P f Xp m (b::c) (k::p)->
 ∃i d v h u,Shape d []/\bF P f Xp i d v/\Base P i/\aU f i h u/\m.le i/\Tp (t d) h/\kY f a h:=by
 induction e with
 |@stop b c a e w=>intro m k p q l n x;obtain⟨rfl,g⟩:=e;exact⟨m,b,k,a,q,⟨A,g⟩,x.head,l,n,Ren.le_refl _,w,.refl _⟩
 |@step b c a e a1 x W=>
  intro m k p q l n y
  have T:¬(c=[]/\b.mode≠.run/\b.defers=[]):=by rintro⟨r,g,s⟩;subst r;exact e ⟨A,Xr ⟨g,s,(y.bot b A).1⟩⟩
  rcases mC G (main:=J) (e:=[dw]) (base:=[]) l n y T with a2|⟨i,d,v,z,Z,h,u,new,a3,S,w,o,U⟩
  .simp_all
  obtain⟨Y,H,L,X,D,r,g,s,N,O,Q,R⟩:=W d z h S (l.jY n o) o.rel U;exact⟨Y,H,L,X,D,r,g,s,N,Ren.le_trans o.le O,Q,o.later.trans R⟩
theorem iI{a6:Ren}{w T:K}{new a3:Xq XQ}(Q:mF f h a)(a1:kL f h a)(n:bB f m a6 a w q T new a3)
 (a0:gP f h a w):
 (∀b,h b->w.heap[b]?=a.heap[b]?)/\∀d∈new,d.write=J->∀b,h b->d.loc≠.obj b/\∀c,d.loc=.cell c->c.block≠b:=by
 obtain⟨b7,⟨Z,a2⟩,Y⟩:=a0;have N:∀b,h b->∀d∈new,d.write=J->d.loc≠.obj b/\∀c,d.loc=.cell c->c.block≠b:=by
  intro b o d e g;obtain⟨S,l,t⟩:=Q b o;have z:=(XZ.1 l).1;cases S with
  |cells r D b1=>
   refine⟨λk=>n.rf d e g b k r D _ l,λc k p=>?_⟩;subst p;have b2:=n.wr d e g c k z;obtain⟨c1,a4,X,i,s⟩:=n.iz d e g c k;obtain⟨c2,b0,x,H⟩:=n.qz _ r D _ l
   grind [World.frozen?]
  |map a8 b4=>
   have O:f.cj=Xp:=by
    rcases a1 with v|v
    .exact v
    grind
   have L:=Y b o;rw[l]at L;have no:∀u,w.heap[b]?=C u->kR u=J->False:=by intro u i s;obtain⟨b5,x,H⟩:=a2 O b u i s;rw[L]at x;cases x;cases H
   refine⟨λk=>?_,λc k p=>?_⟩
   .obtain⟨u,i,s⟩:=n.ou O b ⟨d,e,g,k⟩;simp_all
   subst p;obtain⟨c1,a4,X,i,_⟩:=n.iz d e g c k;exact no _ i A
  |_=>exact t.elim
 refine⟨λb o=>?_,λd e g b o=>N b o d e g⟩;obtain⟨S,l,t⟩:=Q b o;have z:=(XZ.1 l).1;rcases n.iK b z (λd e g=>N b o d e g)with v|⟨r,D,a9,W,i,s⟩
 .exact v
 rw[l]at i;cases i;obtain⟨t,b3,_⟩:=t;subst t;obtain⟨R,y⟩:=W
 have a5:∀c,(decide (R<=c)&&decide (c<y))=J->c<r.size:=by intro c p;have:=Z ⟨b,c,F⟩ (by unfold K.frozen?;rw[s];exact p);simp_all [K.frozen?]
 have U:∀c,c<r.size->R<=c/\c<y:=by intro c p;have:=n.jX ⟨b,c,F⟩ (by unfold K.frozen?;rw[l];simp;exact p);simp_all [K.frozen?]
 have a7:=U (r.size-1) (by omega);have b6:=a5 (y-1) (by simp;omega)
 grind
def zw(P:XI)(f:Set)(l:XC->K->Prop)(base:Xq XC)(h:E->Prop)(k:Ren)(e:K)(m:Ren)(a:K)(b:XD):Prop:=
 ∃d i,b=rg i base/\Shape d []/\bF P f Xp m d i/\Base P m/\k.le m/\(∀c g,m c g->k c g\/e.heap.size<=c)/\e.heap.size<=a.heap.size/\(∀c,h c->a.heap[c]?=e.heap[c]?)/\Tp (l d) a
theorem tX(G:Good P f){v:XC->K->Prop}{base:Xq XC}{u:Ren}{k:K}(c6:mF f h k)(b8:kL f h k)
 (b6:∀l o S e D,Shape o []->bF P f Xp l o S->Base P l->aU f l e D->u.le l->Tp (v o) e->gP f h k e)
 {g:XC}{p:Xq XC}(n:xA P v g p a):∀{m:Ren}{s:XC}{r:Xq XC},Base P m->cN P f Xp m (g::p) (s::r)->(∀d,h d->a.heap[d]?=k.heap[d]?)->
 u.le m->(∀d w,m d w->u d w\/k.heap.size<=d)->k.heap.size<=a.heap.size->xu P f main h (zw P f v base h u k) m a (rg s (r++base)):=by
 induction n with
 |@stop g p a n N=>
  intro m s r x t z y W O;obtain⟨b2,L⟩:=n;subst b2;have b3:r=[]:=by cases t.tail;rfl
  subst b3;exact .stop ⟨g,s,A,⟨A,L⟩,t.head,x,y,W,O,z,N⟩
 |@step g p a n d5 c7 c8=>
  intro m s r x t z y W O
  have b9:¬(p=[]/\g.mode≠.run/\g.defers=[]):=by rintro⟨H,L,b1⟩;subst H;exact n ⟨A,Xr ⟨L,b1,(t.bot g A).1⟩⟩
  refine .step A (λ_ l e b0=>xu P f main h (zw P f v base h u k) l e b0) (λq T=>?_) (λ_ _ _ _ n=>n);rcases mC G (main:=main) (e:=[dw]) (base:=base) x T t b9 with d6|⟨l,o,S,R,d3,e,D,new,c9,X,N,i,Y⟩
  .simp_all
  have U:=x.jY T i;obtain⟨d2,a8,a9,d0,a0,a1,a2,a3,a4,a5,a6,a7⟩:=Dd G (c7 o R e X) U i.rel Y;have c0:=c6.keep z;have b7:=b8.keep z;obtain⟨d1,Q,Z⟩:=b6 d2 a8 a9 d0 a0 a1 a2 a3 a4 (Ren.le_trans y (Ren.le_trans i.le a5)) a6;obtain⟨Q,Z⟩:=iI c0 b7 i ⟨d1,a7.trans Q,λd b4=>by simp_all⟩;refine⟨_,l,e,D,new,c9,N,i,Q,Z,A,c8 o R e X U Y (λd b4=>by simp_all) (Ren.le_trans y i.le) (λd w b5=>?_) (Yi O i.size)⟩;rcases i.fresh d w b5 with H|⟨H,_⟩
  .simp_all
  omega
def RA(P:XI)(f:Set)(n:Xn->K->Prop)(c:XC)(o:Xq XC)(h:E->Prop)(l:Ren)(d:K)(m:Ren)(a:K)(b:XD):Prop:=
 ∃g i,b=rg (c.finish i) o/\an f m g i/\Base P m/\l.le m/\(∀e k,m e k->l e k\/d.heap.size<=e)/\d.heap.size<=a.heap.size/\(∀c,h c->a.heap[c]?=d.heap[c]?)/\Tp (n g) a
theorem nX(G:Good P f){u:Xn->K->Prop}{n z:XC}(T:Base P m)(W:bF P f Xp m n z)(S:aU f m a q)(p:Tp (λa=>∃g,u g a/\n.leaving P a (XB g)) a):
 ∃fn g t w i o new s,P.funcs[n.fn]?=C fn/\(results fn z.tmps).runT P q #[]=(.ok t o,s.toArray)/\an f m g t/\bB f m w a i q o new s/\w=m/\i.heap=a.heap/\Tp (u g) i/\n.mode=.returning:=by
 obtain⟨y,l,p⟩:=p;obtain⟨b5,_,a0,_,_,fn,X,_⟩:=p l λ_ _ _ _=>rfl;obtain⟨D,a5,L,a1⟩:=sound G.uG (tT T fn W.tmps (f:=f)) a q #[] #[] S
 have H:∀k:E->Question->E,(∀d e,y<=d->d<a.drawn->k d e=l d e)->∃g,u g {a with tape:=k}/\(results fn n.tmps).run P {a with tape:=k}=.ok g {a with tape:=k}:=by intro k r;obtain⟨g,R,_,_,_,a8,b1,v⟩:=p k r;simp_all
 obtain⟨g,R,v⟩:=H (λd e=>if d<a.drawn then l d e else D d e) λd e _ O=>by rw[XN O]
 have Q:=L.2 (λd e=>if d<a.drawn then l d e else D d e) (λd e Z _=>by grind);rw[<-aa3 P _ _ #[],Q]at v;obtain⟨a3,N⟩:=a5;cases a3 with
 |halt b2 i=>simp_all [iX]
 |ok x i=>
  simp only[iX,Result.ok.injEq]at v;obtain⟨w,t,o,new,s,a6,a7,⟨rfl,a2⟩,a4⟩:=a1;have Y:i.heap=a.heap:=by simp_all
  have U:i.drawn=a.drawn:=by simp_all
  refine⟨fn,x,t,_,i,o,new,s,X,by simp_all,a2,a4,A,Y,⟨y,l,λk r=>?_⟩,a0⟩;rw[U]at r;obtain⟨b6,b0,b4⟩:=H k r
  have a9:=L.2 k (λd e Z b3=>by
   exfalso;have:dr (Result.ok x i,N)=i.drawn:=A
   omega)
  simp_all [iX]
theorem Oq(G:Good P f){o:Xn->K->Prop}{d:XC}{i:Xq XC}{r:Ren}{n:K}(a3:mF f h n)(a1:kL f h n)
 (c:zw P f (λk a=>∃l,o l a/\k.leaving P a (XB l)) (d::i) h r n m a b):xu P f main h (RA P f o d i h r n) m a b:=by
 obtain⟨k,e,rfl,⟨_,a4⟩,g,u,Z,T,b4,v,t⟩:=c;have a5:k.mode≠.run/\k.defers=[]/\k.kind=.normal:=by
  rcases a4 with c|⟨c,_⟩
  .exact c
  obtain⟨b6,l,_,Y⟩:=t.one;rw[Y.1]at c;cases c
 obtain⟨b3,hd,W⟩:=a5;have Q:e.defers=[]:=by have:=g.defers;rw[hd]at this;generalize e.defers=b1 at this;cases this;rfl
 have X:=g.kind▸W;refine .step A (λ_ z b0 L=>RA P f o d i h r n z b0 L) (λq O=>?_) (λ_ _ _ _ c=>.stop c);obtain⟨fn,l,x,z,y,s,new,w,R,H,a6,p,rfl,U,N,a2⟩:=nX G u g O t;have a0:e.mode=.returning:=by have:=g.mode;rw[a2]at this;cases c:e.mode<;>rw[c]at this<;>first|rfl|cases this
 have D:stepG P main (rg e (d::i)) q=unwind P main e (d::i) F q:=by grind [ie]
 have S:=g.fn▸R
 have a9:stepG P main (rg e (d::i)) q=.go (rg (d.finish x) i) s (kept w).toArray:=by rw[D];simp only[unwind,Q,a0,S,H,doReturn,X,GStep.after];rw[seen_eq G (g.fn▸g.mU) p.lE];simp[rg]
 obtain⟨a7,a8⟩:=iI (a3.keep v) (a1.keep v) p ⟨y,.refl _,λb2 _=>by rw[U]⟩;exact⟨_,_,y,s,new,w,a9,p,a7,a8,A,l,x,A,a6,u,Z,T,by simp_all,λb1 b5=>by simp_all,N⟩
theorem KH(G:Good P f){e:XU}{o p:Xu Xn}{c:Ending->K->Prop}{l:XC}{s:Xq XC}(X:Tp (λa=>Calls P e o a c) a)(a5:∀a,¬c .outgrown a)(a6:∀k a,c k a->∃b,k=XB b)
 (Z:f.fn e=J)(U:Base P m)(T:aw f m o p)(w:mF f h a)(v:kL f h a)
 (Y:∀i b t d u,Base P i->aU f i d u->m.le i->an f i b t->Tp (c (XB b)) d->gP f h a d):
 xu P f main h (RA P f (λb a=>c (XB b) a) l s h m a) m a (rg (Frame.enter P e p .normal) (l::s)):=by
 have a3:=oJ X a5 a6
 have a8:cN P f Xp m [Frame.enter P e o .normal] [Frame.enter P e p .normal]:=⟨.cons (bF.enter G Z T .normal (Xr A)) .nil,λc9 n=>by simp only[M_,Yr]at n;subst n;exact⟨A,A⟩⟩
 have conv:∀g d,RB P e c g d->∃b,c (XB b) d/\g.leaving P d (XB b):=by
  rintro g d⟨k,_,c0,_,q⟩
  grind
 have b3:=tX (main:=main) (base:=l::s) (h:=h) (u:=m) (k:=a) G w v (v:=RB P e c) (λi D b8 d u _ L q N O Q=>by
  obtain⟨fn,b,t,d1,b4,y,new,c7,_,_,b0,x,rfl,c6,S,_⟩:=nX (u:=λb a=>c (XB b) a) G q L N (Q.mono λa r=>conv D a r);obtain⟨b5,b1,b2⟩:=Y _ b t b4 y q x.rel O b0 S
  exact⟨b5,x.later.trans b1,b2⟩) a3 U a8 (λ_ _=>rfl) (Ren.le_refl _) (λl b7 H=>Xr H) (Ye _)
 refine b3.bind λi d b9 n=>?_;obtain⟨g,z,k,a7,a0,W,a4,a1,a9,a2,R⟩:=n;exact Oq G w v ⟨g,z,k,a7,a0,W,a4,a1,a9,a2,R.mono λa r=>conv g a r⟩
end
variable{i:E}{c:E}{b:XO}{j:E}
section
inductive Own where
 |iQ (i:E)
 |ro
 |sync
 |void
 deriving DecidableEq
structure WD where
 ty:XA
 Wg:E
 gv:E
 gs:Xn
 gb:E
 yL:XA
 gn:E
 own:E->E->Prop
 gh:E->Obj->Prop:=λ_ _=>False
 g0:Xz K:=F
structure dv where
 D:WD
 wt:E
 pend:E
 vb:E
 lo:E
 hi:E
 fin:E->Xq (E×Xu Xn)->K->Prop
structure bR where
 S:Set
 β:Ren
 w:K
 ro:E->Prop
 tag:Xz dv:=F
def az(b:Loc)(a:E):Prop:=b=.obj a\/∃c,b=.cell c/\c.block=a
def Ar(B:E):Loc->Prop
 |.cell a=>a.block<B
 |.obj b=>b<B
 |_=>True
structure aN where
 W0:K
 IA:E->Prop
variable[Inhabited aN]
def dE:K:=(default:aN).W0
def IA:E->Prop:=(default:aN).IA
def RM(b:Loc):Prop:=∃a,az b a/\a<dE.heap.size
structure Vi(q:K)(T:Loc->Own):Prop where
 ro:∀l d,az l d->d<dE.heap.size->T l=.ro
 heap:∀d,d<dE.heap.size->q.heap[d]?=dE.heap[d]?
 size:dE.heap.size<=q.heap.size
 os:q.os=dE.os
 out:q.output=dE.output
structure cS(b:XO)(q:K)(T:Loc->Own):Prop where
 clean:∀k,¬Race k b
 mine:∀e i,e.isMemory=J->T e=.iQ i->Perm b i e
 low:∀i a,touchAt b i=C a->Ar q.heap.size a.loc
 OW:∀d a,touchAt b d=C a->a.loc.isMemory=J->T a.loc=.sync->a.kind=.atomic\/(a.kind=.said/\b.g? d=C 0)
 norel:∀h,NoRelease h b
 PW:∀(d:E) g a i,b[d]?=C g->g.act.touch?=C a->a.loc.isMemory=J->T a.loc=.iQ i->g.g=i\/Knows b 0 d
 kF:∀d a,touchAt b d=C a->a.loc.isMemory=J->T a.loc≠.sync->b.heard d
 row:∀e,e.isMemory=J->T e=.ro->PermW b 0 e
 jV:Vi q T
structure aG(P:XI)(b:XO)(q:K)(T:Loc->Own)(i:E)(a:bR):Prop where
 base:Base P a.β
 rel:aU a.S a.β a.w q
 cQ:mF a.S a.ro a.w
 dz:∀e d,a.β e d->∀g,az g d->T g=.iQ i\/(T g=.ro/\a.ro e)
 dY:∀e d,a.β e d->∀g,az g d->T g=.ro->PermW b i g
 low:dE.heap.size<=q.heap.size/\∀e d,a.β e d->d<dE.heap.size->IA e
def Own.more(T:Loc->Own)(i c g:E):Loc->Own:=λa=>
 match a with
 |.cell d=>if c<=d.block/\d.block<g then .iQ i else T a
 |.obj e=>if c<=e/\e<g then .iQ i else T a
 |_=>T a
theorem qW{T:Loc->Own}{e:E}{a:Loc}{b:E}(d:az a b)(f:b<c):Own.more T i c e a=T a:=by
 rcases d with rfl|⟨g,rfl,rfl⟩
 .simp only[Own.more];grind
 simp only[Own.more];grind
theorem qV{T:Loc->Own}{d:E}{b:Loc}{a:E}(e:az b a)(f:c<=a)(g:a<d):Own.more T i c d b=.iQ i:=by
 rcases e with rfl|⟨h,rfl,rfl⟩
 .simp only[Own.more];rw[XN ⟨f,g⟩]
 simp_all [Own.more]
section
variable{T:Loc->Own}
theorem xe{a:XQ}{d:Touch}(b:(XY a).touch?=C d):(d.loc=a.loc/\d.write=a.write/\∀c,a.loc≠.mark c)\/∃c,a.loc=.mark c:=by
 obtain⟨e,wr,f⟩:=a;cases e with
 |mark c=>simp
 |obj h=>cases wr<;>cases f<;>simp[XY,MemAct.touch?]at b<;>(grind)
 |cell g=>simp[XY,MemAct.touch?]at b;grind
 |output=>simp[XY,MemAct.touch?]at b;grind
 |goroutines=>simp[XY,MemAct.touch?]at b;grind
theorem xf{a:XQ}{b:Mark}(d:Ax f b=J)(c:a.loc=.mark b):(XY a).touch?=F:=by obtain⟨e,wr,g⟩:=a;simp only at c;subst c;cases b<;>first|(cases d;done)|rfl
theorem iE{f a:Type}{b:f->a->Prop}{c:Xq f}{d:Xq a}(g:aY b c d){e:a}(h:e∈d):∃k∈c,b k e:=by
 induction g with
 |nil=>cases h
 |cons l _ m=>grind
theorem wW{f:bR}(u:aG P b q T i f){D:Ren}{a1 r:K}{new v:Xq XQ}(x:bB f.S f.β D f.w a1 q r new v)
 (S:∀g∈new,g.write=J->∀a,f.ro a->g.loc≠.obj a/\∀d,g.loc=.cell d->d.block≠a){fn:XU}{a0:String}{w:MemOp}(R:w∈XP i fn a0 (kept v).toArray){d:Touch}(X:w.act.touch?=C d):
 w.g=i/\(d.loc.isMemory=J->∃c,az d.loc c/\c<r.heap.size/\(q.heap.size<=c\/(c<q.heap.size/\(T d.loc=.iQ i\/(T d.loc=.ro/\d.write=Xp/\PermW b i d.loc/\∃a,f.β a c/\f.ro a))))):=by
 obtain⟨g,a3,rfl⟩:=Go.Conc.mem_ofEvents R;refine⟨A,λt=>?_⟩;have Q:g∈v:=by simp_all [kept]
 obtain⟨h,N,hrel⟩:=iE x.lE Q;rcases xe X with⟨n,H,a2⟩|⟨a6,n⟩
 .have m:∀a c,D a c->(h.loc=.obj a\/∃p,h.loc=.cell p/\p.block=a)->az d.loc c->∃c,az d.loc c/\c<r.heap.size/\(q.heap.size<=c\/(c<q.heap.size/\(T d.loc=.iQ i\/(T d.loc=.ro/\d.write=Xp/\PermW b i d.loc/\∃a,f.β a c/\f.ro a)))):=by
   intro a c z l s;refine⟨c,s,x.rel.right z,?_⟩;rcases x.fresh a c z with k|⟨_,k⟩
   .right;refine⟨u.rel.right k,?_⟩;rcases u.dz a c k d.loc s with o|⟨o,y⟩
    .exact Xr o
    right;refine⟨o,?_,u.dY a c k d.loc s o,a,k,y⟩;rw[H];cases U:g.write with
    |false=>rfl
    |true=>
     have W:h.write=J:=by rw[hrel.2.1];exact U
     have:=S h N W a y;rcases l with l|⟨p,l,O⟩
     .exact absurd l this.1
     exact absurd O (this.2 p l)
   exact Xr k
  have e:=hrel.1;rw[n];rw[n]at m t;generalize a4:h.loc=Z at e m;generalize a5:g.loc=Y at e m t;cases Z<;>cases Y<;>simp only[ed]at e
  .exact m _ _ e.1 (Xs ⟨_,A,A⟩) (Xs ⟨_,A,A⟩)
  .exact m _ _ e (Xr A) (Xr A)
  .cases t
  simp_all
 have e:=hrel.1;rw[n]at e;cases L:h.loc<;>rw[L]at e<;>simp only[ed]at e
 grind [xf]
theorem bj{b:Loc}{a B:E}(c:az b a):Ar B b↔a<B:=by rcases c with rfl|⟨d,rfl,rfl⟩<;>exact Iff.rfl
theorem bQ{a:Loc}{b:E}(c:az a b):a.isMemory=J:=by rcases c with rfl|⟨d,rfl,_⟩<;>rfl
theorem di{d:Loc}{b c:E}(e:az d b)(a:az d c):b=c:=by rcases e with rfl|⟨f,rfl,rfl⟩<;>rcases a with a|⟨g,a,rfl⟩<;>cases a<;>rfl
theorem cO{a:Loc}(c:a.isMemory=J):∃b,az a b:=by
 cases a with
 |cell d=>exact⟨_,Xs ⟨_,A,A⟩⟩
 |obj b=>exact⟨_,Xr A⟩
 |_=>cases c
structure kg(b:XO)(q h:K)(T n:Loc->Own)(i:E)(k:XO):Prop where
 size:q.heap.size<=h.heap.size
 os:h.os=q.os
 heap:∀d,d<q.heap.size->T (.obj d)=.iQ i\/(T (.obj d)=.sync\/T (.obj d)=.void)\/h.heap[d]?=q.heap[d]?\/False
 old:∀l d,az l d->d<q.heap.size->n l=T l
 new:∀l d,az l d->q.heap.size<=d->d<h.heap.size->n l=.iQ i
 touch:∀g∈k,∀e,g.act.touch?=C e->e.loc.isMemory=J->g.g=i/\∃d,az e.loc d/\d<h.heap.size/\
  (q.heap.size<=d\/(d<q.heap.size/\(T e.loc=.iQ i\/(T e.loc=.ro/\e.write=Xp/\PermW b i e.loc)\/(T e.loc=.sync/\(e.kind=.atomic\/(e.kind=.said/\i=0))))))
 norel:∀g∈k,∀a,g.act≠.mark (.release a)
 kF:(∀g∈k,∀e,g.act.touch?=C e->e.loc.isMemory=J->n e.loc=.sync)\/(Deaf b i=0/\∀g∈k,g.g=i/\g.act≠.mark .disable/\g.act≠.mark .enable)
 out:h.output=q.output
theorem Vi.step{b s:XO}{q n:K}{T l:Loc->Own}{i:E}(d:Vi q T)(h:kg b q n T l i s):Vi n l where
 ro:=λp e o g=>by rw[h.old p e o (Yk g d.size)];exact d.ro p e o g
 heap:=λe g=>by
  have k:=d.ro (.obj e) e (Xr A) g;rcases h.heap e (Yk g d.size)with a|(a|a)|a|a
  .rw[k]at a;cases a
  .rw[k]at a;cases a
  .rw[k]at a;cases a
  .exact a.trans (d.heap e g)
  simp_all
 size:=Yi d.size h.size
 os:=h.os.trans d.os
 out:=h.out.trans d.out
theorem tL{o:Xy}{e:XO}{p:E}(y:¬Race o b)(Q:∀h∈e,∀k,h.act.touch?=C k->k.loc.isMemory=J->h.g=p)
 (L:∀i d,touchAt b i=C d->∀h∈e,∀a,h.act.touch?=C a->d.conflicts o a->Knows b p i):¬Race o (b++e):=by
 rintro⟨i,j,r,⟨d,a,z,D,g⟩,w,U⟩;obtain⟨k,R,S⟩:=ZZ z;obtain⟨x,t,u⟩:=ZZ D;have N:=g.2.1;have O:a.loc.isMemory=J:=g.1▸N;rcases Yf t with⟨n,X⟩|⟨n,v⟩
 .have H:i<b.size:=E.lt_trans r n;have s:b[i]?=C k:=by grind
  exact y ⟨i,j,r,⟨d,a,by simp_all [XO.act?],by simp_all [XO.act?],g⟩,λl=>w (hb_app e l),λl=>U (hb_app e l)⟩
 rcases Yf R with⟨H,s⟩|⟨_,W⟩
 .exact w ((L i d (by rw[YX s];exact S) x v a u g).hb_new n t (Q x v a u O))
 simp_all [hb_po]
theorem fG{c:XO}{a:E}{d:MemOp}(e:(b++c)[a]?=C d):(b++c).g? a=C d.g:=by simp[XO.g?,e]
theorem qA{a:XO}(e:Deaf b i=0)(g:∀d∈a,d.g=i/\d.act≠.mark .disable/\d.act≠.mark .enable):∀j,j<=a.size->(b++a).deaf i (b.size+j)=0
 |0,_=>by rw[E.add_zero,deaf_old (Ye _)];exact e
 |j+1,m=>by
  have f:j<a.size:=by omega
  have l:(b++a)[b.size+j]?=C a[j]:=by rw[C_ (by omega),show b.size+j-b.size=j by omega,Yb f]
  rw[<-abw,deaf_succ l,qA e g j (by omega)];obtain⟨_,h,k⟩:=g a[j] (Xu.getElem_mem f);unfold deafStep;split
  .rename_i c;exact absurd c h
  .rename_i c;exact absurd c k
  rfl
theorem cS.step{a2:K}{a1:Loc->Own}{i:E}{R:XO}(G:cS b q T)(g:kg b q a2 T a1 i R):cS (b++R) a2 a1 where
 jV:=G.jV.step g
 clean:=by
  intro b4;refine tL (p:=i) (G.clean b4) (λy z l o v=>(g.touch y z l o v).1) λa e t y z s h b1=>?_;obtain⟨k,v,c6,Q⟩:=b1;have a8:s.loc.isMemory=J:=k▸v;obtain⟨W,p,X,a4,Y⟩:=g.touch y z s h a8;rcases Y with Y|⟨Y,U|⟨U,a9,b0⟩|⟨U,a9⟩⟩
  .have:=G.low a e t;rw[k,bj X]at this;omega
  .exact G.mine _ _ a8 U a e t k
  .refine b0 a e t k ?_;simp_all
  have b7:=G.OW a e t v (by rw[k];exact U)
  grind [Trace.g?,knows_own]
 mine:=by
  intro x j L k a e t w;obtain⟨l,o,D⟩:=ZZ t;obtain⟨s,h⟩:=cO L;rcases Yf o with⟨Q,a0⟩|⟨_,N⟩
  .have n:=G.low a e (by simp_all [YX]);rw[w,bj h]at n;rw[g.old x s h n]at k;exact(G.mine x j L k a e (by simp_all [YX]) w).app R
  obtain⟨W,p,q1,H,d⟩:=g.touch l N e D (w▸L);rw[w]at q1;have:=di q1 h;subst this;have b9:j=i:=by
   rcases d with d|⟨O,d⟩
   .rw[g.new x p h d H]at k;cases k;rfl
   rw[g.old x p h O]at k;rw[w,k]at d;rcases d with d|⟨d,_⟩|⟨d,_⟩<;>cases d
   rfl
  grind [knows_own]
 row:=by
  intro x L k a e t w b3;obtain⟨l,o,D⟩:=ZZ t;obtain⟨s,h⟩:=cO L;rcases Yf o with⟨Q,a0⟩|⟨_,N⟩
  .have n:=G.low a e (by simp_all [YX]);rw[w,bj h]at n;rw[g.old x s h n]at k;exact(G.row x L k a e (by simp_all [YX]) w b3).app R
  obtain⟨W,p,q1,H,d⟩:=g.touch l N e D (w▸L);rw[w]at q1;have:=di q1 h;subst this;rcases d with d|⟨O,d⟩
  .rw[g.new x p h d H]at k;cases k
  rw[g.old x p h O]at k;simp_all
 low:=by
  intro a e t;obtain⟨l,o,D⟩:=ZZ t;rcases Yf o with⟨Q,a0⟩|⟨_,N⟩
  .have:=G.low a e (by simp_all [YX]);have c0:=g.size;cases k:e.loc<;>rw[k]at this<;>simp only[Ar]at this⊢<;>omega
  by_cases S:e.loc.isMemory=J
  .obtain⟨_,p,q1,H,d⟩:=g.touch l N e D S
   grind [bj]
  cases k:e.loc<;>rw[k]at S<;>first|exact absurd rfl S|trivial
 OW:=by
  intro a e t Z u;obtain⟨l,o,D⟩:=ZZ t;rcases Yf o with⟨Q,a0⟩|⟨_,N⟩
  .have n:=G.low a e (by simp_all [YX]);have gk:(b++R).g? a=b.g? a:=by simp_all [XO.g?]
   rw[gk];refine G.OW a e (by simp_all [YX]) Z ?_;obtain⟨s,h⟩:=cO Z;rw[bj h]at n;rw[<-g.old _ s h n];exact u
  have S:=Z;obtain⟨W,p,q1,H,d⟩:=g.touch l N e D S;rcases d with d|⟨O,d⟩
  .rw[g.new _ p q1 d H]at u;cases u
  rw[g.old _ p q1 O]at u;simp_all [fG]
 norel:=λe=>(G.norel e).app λy z=>g.norel y z e
 kF:=by
  intro a l o v u;obtain⟨y,z,D⟩:=ZZ o;rcases Yf z with⟨a7,a5⟩|⟨b8,a6⟩
  .have n:=G.low a l (by simp_all [YX]);obtain⟨s,h⟩:=cO v;rw[bj h]at n;rw[g.old _ s h n]at u;exact(ZL a7).2 (G.kF a l (by simp_all [YX]) v u)
  rcases g.kF with a3|⟨X,a4⟩
  .grind
  have b2:=aar z;rw[A_]at b2;have:=qA X a4 (a-b.size) (by omega);rw[show b.size+(a-b.size)=a by omega]at this;exact⟨i,by simp_all [XO.g?],this⟩
 PW:=by
  intro a y l j Q o v u;rcases Yf Q with⟨a7,a5⟩|⟨_,a6⟩
  .have n:=G.low a l (by simp_all [YX]);obtain⟨s,h⟩:=cO v;rw[bj h]at n;rw[g.old _ s h n]at u;exact(G.PW a y l j a5 o v u).imp id λa3=>a3.app R
  obtain⟨W,p,q1,H,d⟩:=g.touch y a6 l o v;left;rcases d with d|⟨O,d⟩
  .rw[g.new _ p q1 d H]at u;simp_all
  rw[g.old _ p q1 O]at u;simp_all
theorem fI{a:XQ}{c:Mark}(b:XY a=.mark c):a.loc=.mark c:=by obtain⟨d,wr,e⟩:=a;cases d<;>cases wr<;>cases e<;>simp[XY]at b<;>(subst b;rfl)
theorem FX{new c:Xq XQ}(b:aY (mq f m) new c)(i:E)(fn:XU)(q:String):∀e∈XP i fn q (kept c).toArray,∀d,e.act≠.mark (.release d):=by
 intro e o d k;obtain⟨g,s,rfl⟩:=Go.Conc.mem_ofEvents o;have l:g∈c:=by simp_all [kept]
 obtain⟨h,r,p⟩:=iE b l;have a:=p.1;rw[fI k]at a;cases b:h.loc<;>rw[b]at a<;>simp only[ed]at a;obtain⟨rfl,n⟩:=a;cases n
theorem Dr{T:Loc->Own}{f:E}:∀a b,az a b->b<c->Own.more T i c f a=T a:=λa b d e=>qW d e
theorem fV{f:bR}(y:aG P b q T i f){u:Ren}{H o:K}{new s:Xq XQ}(m:bB f.S f.β u f.w H q o new s){a:E}(x:a<q.heap.size)(h:T (.obj a)=.sync\/T (.obj a)=.void):o.heap[a]?=q.heap[a]?:=by
 have no:∀c,f.β c a->False:=λc e=>by rcases h with h|h<;>rcases y.dz c a e (.obj a) (Xr A)with k|⟨k,_⟩<;>(rw[h]at k;cases k)
 have t:∀c,u c a->False:=λc e=>by
  rcases m.fresh c a e with r|⟨_,r⟩
  .exact no c r
  omega
 have D:∀g∈s,g.write=J->g.loc≠.obj a/\∀n,g.loc=.cell n->n.block≠a:=by
  intro g w Q;obtain⟨p,N,hrel⟩:=iE m.lE w;have d:=hrel.1;refine⟨λl=>?_,λn l z=>?_⟩
  .rw[l]at d;cases e:p.loc<;>rw[e]at d<;>simp only[ed]at d;exact t _ d
  rw[l]at d;subst z;cases e:p.loc<;>rw[e]at d<;>simp only[ed]at d;exact t _ d.1
 rcases m.same a x D with v|⟨⟨L,O,_⟩,_⟩
 .exact v
 simp_all
theorem fE{g:bR}(s:aG P b q T i g){H:Ren}{z r:K}{new p:Xq XQ}(h:bB g.S g.β H g.w z q r new p)
 (b5:∀k,g.ro k->z.heap[k]?=g.w.heap[k]?)(b4:∀e∈new,e.write=J->∀k,g.ro k->e.loc≠.obj k/\∀m,e.loc=.cell m->m.block≠k)(Y:Deaf b i=0)(fn:XU)(a9:String):
 kg b q r T (Own.more T i q.heap.size r.heap.size) i (XP i fn a9 (kept p).toArray) where
 size:=h.uW
 os:=h.os
 norel:=FX h.lE _ _ _
 kF:=Xs ⟨Y,λa7 y=>by
  obtain⟨e,w,rfl⟩:=Go.Conc.mem_ofEvents y;have Z:e∈p:=by simp_all [kept]
  obtain⟨l,L,a1⟩:=iE h.lE Z;have a:=a1.1;refine⟨A,λu=>?_,λu=>?_⟩<;>
  .rw[fI u]at a;cases f:l.loc<;>rw[f]at a<;>simp only[ed]at a;obtain⟨rfl,x⟩:=a
   cases x⟩
 old:=Dr
 new:=λb8 c f N O=>qV f N O
 touch:=λa7 y m o x=>by grind [wW]
 heap:=by
  intro c a0;by_cases v:T (.obj c)=.iQ i
  .simp_all
  right;have a6:∀e∈p,e.write=J->e.loc≠.obj c/\∀m,e.loc=.cell m->m.block≠c:=by
   intro e w a3;obtain⟨l,L,hrel⟩:=iE h.lE w;have b6:l.write=J:=by rw[hrel.2.1];exact a3
   have a5:∀d,H d c->(l.loc=.obj d\/∃D,l.loc=.cell D/\D.block=d)->False:=by
    intro d W R;rcases h.fresh d c W with t|⟨_,t⟩
    .rcases s.dz d c t (.obj c) (Xr A)with n|⟨_,n⟩
     .exact v n
     grind
    omega
   have a:=hrel.1;refine⟨λo=>?_,λm o a4=>?_⟩
   .rw[o]at a;cases f:l.loc<;>rw[f]at a<;>simp only[ed]at a
    grind
   rw[o]at a;subst a4;cases f:l.loc<;>rw[f]at a<;>simp only[ed]at a;exact a5 _ a.1 (Xs ⟨_,f,A⟩)
  rcases h.same c a0 a6 with Q|⟨⟨d,U,X⟩,b0,d0,b1,b2,b7,Q,R⟩
  .simp_all
  exfalso;have a2:g.ro d:=by
   rcases s.dz d c U (.obj c) (Xr A)with n|⟨n,S⟩
   .exact absurd n v
   exact S
  obtain⟨c0,a8,c7⟩:=s.cQ d a2;obtain⟨cl,tl,b3,q1,c8⟩:=X (XZ.1 a8).1
  grind
 out:=h.out
theorem pQ{e:Loc->Own}{d:XO}{f:K}(l:kg b q f T e i d){a:Loc}(h:a.isMemory=J)(t:T a=.ro){c:E}(s:az a c)(u:c<q.heap.size)(g:PermW b j a):PermW (b++d) j a:=by
 refine g.app λo k p m n v=>?_;obtain⟨_,r,q1,w,x⟩:=l.touch o k p m (n▸h)
 grind [di]
theorem aG.own{k:bR}(e:aG P b q T i k){u:Ren}{r p:K}{new x:Xq XQ}(l:bB k.S k.β u k.w r q p new x)
 (w:∀c,k.ro c->r.heap[c]?=k.w.heap[c]?){s:Loc->Own}{t:XO}(n:kg b q p T s i t):aG P (b++t) p s i {k with β:=u,w:=r} where
 base:=e.base.jY e.rel l
 low:=⟨Yi e.low.1 n.size,λc d g v=>by
  rcases l.fresh c d g with a|⟨_,a⟩
  .exact e.low.2 c d a v
  have:=e.low.1;omega⟩
 rel:=l.rel
 cQ:=e.cQ.keep w
 dz:=by
  intro c d g h f;rcases l.fresh c d g with a|⟨_,a⟩
  .rw[n.old h d f (e.rel.right a)];exact e.dz c d a h f
  exact Xr (n.new h d f a (l.rel.right g))
 dY:=by
  intro c d g h f o;rcases l.fresh c d g with a|⟨_,a⟩
  .rw[n.old h d f (e.rel.right a)]at o;exact pQ n (bQ f) o f (e.rel.right a) (e.dY c d a h f o)
  rw[n.new h d f a (l.rel.right g)]at o;cases o
theorem aG.stay{p:bR}(d:aG P b q T j p){n:K}{r:Loc->Own}{t:XO}(k:kg b q n T r i t)(x:∀e a,p.β e a->n.heap[a]?=q.heap[a]?):aG P (b++t) n r j p where
 base:=d.base
 low:=⟨Yi d.low.1 k.size,d.low.2⟩
 cQ:=d.cQ
 dz:=by intro e a g l h;rw[k.old l a h (d.rel.right g)];exact d.dz e a g l h
 dY:=by intro e a g l h o;have s:=d.rel.right g;rw[k.old l a h s]at o;exact pQ k (bQ h) o h s (d.dY e a g l h o)
 rel:=⟨d.rel.inj,λe a g=>by
  obtain⟨y,z,u,v,w⟩:=d.rel.obj e a g
  grind,by rw[d.rel.os,k.os]⟩
theorem aG.other(D:i≠j){v:bR}(a:aG P b q T j v){t:K}{s:Loc->Own}{w:XO}(n:kg b q t T s i w):aG P (b++w) t s j v where
 base:=a.base
 low:=⟨Yi a.low.1 n.size,a.low.2⟩
 cQ:=a.cQ
 dz:=by intro l d h o k;rw[n.old o d k (a.rel.right h)];exact a.dz l d h o k
 dY:=by intro l d h o k r;have p:=a.rel.right h;rw[n.old o d k p]at r;exact pQ n (bQ k) r k p (a.dY l d h o k r)
 rel:=by
  refine⟨a.rel.inj,λl d h=>?_,by rw[a.rel.os,n.os]⟩;obtain⟨H,L,x,y,z⟩:=a.rel.obj l d h;have p:=a.rel.right h;have u:=a.dz l d h (.obj d) (Xr A);rcases n.heap d p with e|e|e|e
  .rcases u with g|⟨g,_⟩
   .rw[e]at g;cases g;exact absurd A D
   rw[e]at g;cases g
  .rcases e with e|e<;>rcases u with g|⟨g,_⟩<;>(rw[e]at g;cases g)
  .exact⟨H,L,x,by rw[e];exact y,z⟩
  simp_all
end
end
variable{b:XD}{a:XO}{T:Loc->Own}{y:bR}{U:Xu XD}
section
variable[Inhabited aN]
inductive Tr where
 |leaf
 |node (g:K->Tr)
inductive Tr.lt:Tr->Tr->Prop
 |mk (g:K->Tr) (q:K):Tr.lt (g q) (.node g)
theorem Tr.acc:∀a:Tr,Acc Tr.lt a
 |.leaf=>⟨_,λd b=>by cases b⟩
 |.node c=>⟨_,λd b=>by cases b with|mk _ q=>exact Tr.acc (c q)⟩
theorem Tr.wf:WellFounded Tr.lt:=⟨Tr.acc⟩
inductive xC{g i:Type}(o:g->g->Prop)(y:i->i->Prop):g×i->g×i->Prop
 |left {l p:g} {n:i} (s:o p l):xC o y (p,n) (l,n)
 |right {l:g} {n r:i} (s:y r n):xC o y (l,r) (l,n)
theorem xC.acc{d e:Type}{f:d->d->Prop}{y:e->e->Prop}{c:d}(g:Acc f c):∀{b:e},Acc y b->Acc (xC f y) (c,b):=by
 induction g with
 |intro c _ k=>
  intro b h
  induction h with
  |intro b i l=>
   refine⟨_,λm a=>?_⟩;cases a with
   |left a=>exact k _ a ⟨_,i⟩
   |right a=>exact l _ a
theorem xC.wf{b c:Type}{a:b->b->Prop}{y:c->c->Prop}(f:WellFounded a)(g:WellFounded y):WellFounded (xC a y):=⟨λ⟨d,e⟩=>xC.acc (f.apply d) (g.apply e)⟩
inductive dU{g:Type}(n:g->g->Prop):Xq g->Xq g->Prop
 |head {i o:g} {l:Xq g} (r:n o i):dU n (o::l) (i::l)
 |tail {i:g} {l p:Xq g} (r:dU n p l):dU n (i::p) (i::l)
theorem dU.acc{c:Type}{f:c->c->Prop}(e:WellFounded f):∀b:Xq c,Acc (dU f) b
 |[]=>⟨_,λm a=>by cases a⟩
 |d::b=>by
  have g:=e.apply d;have h:=dU.acc e b
  induction g generalizing b with
  |intro d _ k=>
   induction h with
   |intro b i l=>
    refine⟨_,λm a=>?_⟩;cases a with
    |head a=>exact k _ a b ⟨_,i⟩
    |tail a=>exact l _ a
theorem dU.wf{b:Type}{a:b->b->Prop}(c:WellFounded a):WellFounded (dU a):=⟨dU.acc c⟩
theorem dU.set{f:Type}{h:f->f->Prop}:∀{e:Xq f}{c:E}{b d:f},e[c]?=C b->h d b->dU h (e.set c d) e
 |[],c,b,d,a,_=>by simp at a
 |i::e,0,b,d,a,g=>by simp at a;subst a;exact .head g
 |i::e,c+1,b,d,a,g=>by exact .tail (dU.set a g)
def LH(P:XI)(f:Set)(main:Xy)(h:E->Prop)(Stop:Ren->K->XD->Prop):Tr->Ren->K->XD->Prop
 |.leaf,m,d,b=>Stop m d b
 |.node o,m,d,b=>Stop m d b\/(b.status=.running/\∀q,aU f m d q->∃e n g i new k,stepG P main b q=.go e i (kept k).toArray/\bB f m n d g q i new k/\(∀a,h a->g.heap[a]?=d.heap[a]?)/\
   (∀c∈new,c.write=J->∀a,h a->c.loc≠.obj a/\∀l,c.loc=.cell l->l.block≠a)/\e.status=.running/\LH P f main h Stop (o q) n g e)
theorem xu.tree{main:Xy}{Stop:Ren->K->XD->Prop}(c:xu P f main h Stop m d b):∃i,LH P f main h Stop i m d b:=by
 induction c with
 |stop c=>exact⟨.leaf,c⟩
 |@step m d b D L c _ H=>
  have r:∀q,∃i,aU f m d q->∃e k g l new o,stepG P main b q=.go e l (kept o).toArray/\bB f m k d g q l new o/\(∀a,h a->g.heap[a]?=d.heap[a]?)/\
   (∀p∈new,p.write=J->∀a,h a->p.loc≠.obj a/\∀s,p.loc=.cell s->s.block≠a)/\e.status=.running/\LH P f main h Stop i k g e:=by
   intro q;by_cases n:aU f m d q
   .obtain⟨e,k,g,l,new,o,t,u,v,w,x,y⟩:=c q n;obtain⟨i,z⟩:=H q k g e y;exact⟨i,λ_=>⟨e,k,g,l,new,o,t,u,v,w,x,z⟩⟩
   exact⟨.leaf,λc=>absurd c n⟩
  exact⟨.node λq=>Classical.choose (r q),Xs ⟨D,λq n=>Classical.choose_spec (r q) n⟩⟩
structure uT(P:XI)(k:Type) where
 lt:k->k->Prop
 wf:WellFounded lt
 Ok:k->Xu XD->K->XO->(Loc->Own)->bR->Prop
 awake:∀{g U q a T y},Ok g U q a T y->∀c b,0<c->U[c]?=C b->awake b
 at_:∀{g U q a T y}(z:E),Ok g U q a T y->Ok g U (q.at z) a T y
 step:∀{g U q a T y l c b}(sl:Xz (E×E)),Ok g U q a T y->cS a q T->aG P a q T 0 y->U[0]?=C l->l.status=.running->0<c->U[c]?=C b->b.status=.running->
  ∃u s i o p,runT P (crowd U q sl) c=(.next (crowd s i sl),o)/\lt u g/\s[0]?=C l/\Ok u s i (a++o) p y/\cS (a++o) i p/\aG P (a++o) i p 0 y/\Deaf (a++o) 0=Deaf a 0
 main:∀{g U q a T y l g₁ x t i new v},Ok g U q a T y->cS a q T->aG P a q T 0 y->U[0]?=C l->Deaf a 0=0->l.status=.running->g₁.status=.running->bB y.S y.β x y.w t q i new v->(∀n,y.ro n->t.heap[n]?=y.w.heap[n]?)->
  (∀g∈new,g.write=J->∀n,y.ro n->g.loc≠.obj n/\∀w,g.loc=.cell w->w.block≠n)->
  Ok g ((U.map (woken P l g₁ i)).setIfInBounds 0 g₁) i (a++XP 0 l.frame.fn l.frame.place (kept v).toArray) (Own.more T 0 q.heap.size i.heap.size) {y with β:=x,w:=t}
structure dJ{P:XI}{k:Type}(e:uT P k)(g:E)(i:k)(U:Xu XD)(q:K)(a:XO)(T:Loc->Own)(y:bR)(b:XD):Prop where
 ok:e.Ok i U q a T y
 bC:cS a q T
 bf:aG P a q T 0 y
 me:U[0]?=C b
 hears:Deaf a 0=g
section
variable{k:Type}{e:uT P k}
theorem aG.at(b:aG P a q T c y)(d:E):aG P a (q.at d) T c y:=
 ⟨b.base,⟨b.rel.inj,b.rel.obj,b.rel.os⟩,b.cQ,b.dz,b.dY,b.low⟩
theorem cS.at(b:cS a q T)(c:E):cS a (q.at c) T:=⟨b.clean,b.mine,b.low,b.OW,b.norel,b.PW,b.kF,b.row,⟨b.jV.ro,b.jV.heap,b.jV.size,b.jV.os,b.jV.out⟩⟩
def bY(P:XI)(U:Xu XD)(q:K)(sl:Xz (E×E))(a:XO)(f:Xu XD->K->Xz (E×E)->XO->Prop):Prop:=
 ∃g c b d e,runNT P g (crowd U q sl) a=(.next (crowd c b d),e)/\f c b d e
theorem bY.now{sl:Xz (E×E)}{b:Xu XD->K->Xz (E×E)->XO->Prop}(c:b U q sl a):bY P U q sl a b:=⟨0,U,q,sl,a,A,c⟩
theorem bY.head{d:Xu XD}{c:K}{sl e:Xz (E×E)}{f:XO}{b:Xu XD->K->Xz (E×E)->XO->Prop}(o:stepT P (crowd U q sl)=(.next (crowd d c e),f))(k:bY P d c e (a++f) b):bY P U q sl a b:=by obtain⟨g,i,h,m,n,p,l⟩:=k;exact⟨g+1,i,h,m,n,by simp_all [runNT],l⟩
theorem bY.bind{sl:Xz (E×E)}{b c:Xu XD->K->Xz (E×E)->XO->Prop}(h:bY P U q sl a b)(l:∀U q sl a,b U q sl a->bY P U q sl a c):bY P U q sl a c:=by obtain⟨e,p,o,t,u,r,i⟩:=h;obtain⟨d,g,f,m,n,s,k⟩:=l _ _ _ _ i;refine⟨e+d,g,f,m,n,?_,k⟩;simp_all [runNT_add]
theorem JA{new d:Xq XQ}(c:aY (mq f m) new d):∀a∈(kept d).toArray,a.loc≠.mark .disable/\a.loc≠.mark .enable:=by
 intro a n;have g:a∈d:=by simp_all [kept]
 obtain⟨e,l,i⟩:=iE c g;have b:=i.1;constructor<;>(intro k;rw[k]at b;cases c:e.loc<;>rw[c]at b<;>simp only[ed]at b;obtain⟨rfl,h⟩:=b;cases h)
theorem js{new d:Xq XQ}(k:aY (mq f m) new d)(a:XO)(c j:E)(fn:XU)(h:String):Deaf (a++XP c fn h (kept d).toArray) j=Deaf a j:=by
 by_cases e:j=c
 .grind [Deaf_own,deafBehind_still,JA]
 exact f_ a (g':=c) (λb=>e b.symm) _ (λl g=>by obtain⟨b,_,rfl⟩:=Go.Conc.mem_ofEvents g;rfl)
theorem yV{Stop:Ren->K->XD->Prop}:∀(v:Tr)(s:k)(U:Xu XD)(q:K)(sl:Xz (E×E))(a:XO)(T:Loc->Own)(y:bR)(b:XD),
 dJ e 0 s U q a T y b->LH P y.S J y.ro Stop v y.β y.w b->b.status=.running->
 bY P U q sl a λp w _ H=>∃o l f g,dJ e 0 o p w H l f g/\Stop f.β f.w g/\f.S=y.S/\f.ro=y.ro/\f.tag=y.tag:=by
 have wf:=xC.wf Tr.wf e.wf
 have b0:∀(i:Tr×k)(U:Xu XD)(q:K)(sl:Xz (E×E))(a:XO)(T:Loc->Own)(y:bR)(b:XD),
  dJ e 0 i.2 U q a T y b->LH P y.S J y.ro Stop i.1 y.β y.w b->b.status=.running->
  bY P U q sl a λp w _ H=>∃o l f g,dJ e 0 o p w H l f g/\Stop f.β f.w g/\f.S=y.S/\f.ro=y.ro/\f.tag=y.tag:=by
  intro i
  induction wf.apply i with
  |intro i _ a2=>
   obtain⟨v,s⟩:=i;intro U q sl a T y b h u z
   have b1:Stop y.β y.w b->bY P U q sl a λp w _ H=>∃o l f g,dJ e 0 o p w H l f g/\Stop f.β f.w g/\f.S=y.S/\f.ro=y.ro/\f.tag=y.tag:=
    λa3=>.now ⟨s,T,y,b,h,a3,A,A,A⟩
   cases v with
   |leaf=>exact b1 u
   |node R=>
    rcases u with u|⟨_,u⟩
    .simp_all
    have a5:∀i∈U,Go.Conc.awake i:=by
     intro i a9;obtain⟨c,r,rfl⟩:=Zd.1 a9;rcases Yp c with rfl|Y
     .have:U[0]=b:=by have:=h.me;simp_all
      exactλa b5=>by simp_all
     exact e.awake h.ok c _ Y (Yb r)
    obtain⟨c,g,n,Q,r,a6,a1⟩:=s_ (P:=P) (w:=q) (sl:=sl) a5 ⟨0,b,h.me,z⟩;have Z:=e.at_ n h.ok;have BK:=h.bC.at n;have D:=h.bf.at n;rcases Yp c with rfl|Y
    .obtain rfl:g=b:=by have:=h.me;rw[r]at this;exact YR this
     obtain⟨S,b4,b3,L,new,b6,W,t,x,N,O,X⟩:=u (q.at n) D.rel;have a8:=J_ (P:=P) (sl:=Q) (i:=0) r (show stepG P (0==0) g (q.at n)=_ from W);have a0:=fE D t x N h.hears g.frame.fn g.frame.place;have a7:=(XZ.1 r).1;refine bY.head (a1.trans a8) ?_
     have:=a2 (R (q.at n),s) (.left (.mk R (q.at n))) ((U.map (woken P g S L)).setIfInBounds 0 S) L Q _ _ {y with β:=b4,w:=b3} S
      ⟨e.main Z BK D r h.hears z O t x N,BK.step a0,D.own t x a0,by simp[a7],by rw[js t.lE];exact h.hears⟩ X O
     omega
    obtain⟨o,p,L,b2,l,W,t,x,N,O,X,a4⟩:=e.step Q Z BK D h.me z Y r a6;refine bY.head (a1.trans W) ?_;have:=a2 (.node R,o) (.right t) p L Q (a++b2) l y b ⟨N,O,X,x,a4.trans h.hears⟩ (Xs ⟨z,u⟩) z;omega
 intro v s U q sl a T y b;exact b0 (v,s) U q sl a T y b
end
end
end Go.Sim
namespace Go.Sim
open Go.Conc Go.Proofs Go.RowKit
open Go.ConcN (PermW PermW.app PermW.of fork_knows WgLive RelBy sumTo)
open Go.ConcR (KK wgBlock WgAt stA smA rd wr mk DC0)
open Go.SimW (RL QX Vh)
variable{P:XI}{f:Set}{h:E->Prop}{m:Ren}{w:K}{g:XD}{j:E}{q:K}{d:E}{e:XO}{T:Loc->Own}{s:E}
section
variable[Inhabited aN]
inductive jE(P:XI)(f:Set)(h:E->Prop)(n:K->Prop)(Stop:Ren->K->XD->Prop):Ren->K->XD->Prop
 |stop {m:Ren} {w:K} {g:XD} (z:Stop m w g):jE P f h n Stop m w g
 |step {m:Ren} {w:K} {g:XD} (D:g.status=.running) (v:K->Ren->K->XD->Prop)
   (z:∀q,aU f m w q->n q->∃i l k c new t,stepG P Xp g q=.go i c (kept t).toArray/\bB f m l w k q c new t/\(∀a,h a->k.heap[a]?=w.heap[a]?)/\(∀o∈new,o.write=J->∀a,h a->o.loc≠.obj a/\∀y,o.loc=.cell y->y.block≠a)/\i.status=.running/\v q l k i)
   (H:∀q l k i,v q l k i->jE P f h n Stop l k i):jE P f h n Stop m w g
def ym(P:XI)(f:Set)(h:E->Prop)(n:K->Prop)(Stop:Ren->K->XD->Prop):Tr->Ren->K->XD->Prop
 |.leaf,m,w,g=>Stop m w g
 |.node o,m,w,g=>Stop m w g\/(g.status=.running/\∀q,aU f m w q->n q->∃d l e c new i,stepG P Xp g q=.go d c (kept i).toArray/\bB f m l w e q c new i/\(∀a,h a->e.heap[a]?=w.heap[a]?)/\
   (∀b∈new,b.write=J->∀a,h a->b.loc≠.obj a/\∀k,b.loc=.cell k->k.block≠a)/\d.status=.running/\ym P f h n Stop (o q) l e d)
section
variable{n:K->Prop}{Stop x:Ren->K->XD->Prop}
theorem jE.tree(a:jE P f h n Stop m w g):∃i,ym P f h n Stop i m w g:=by
 induction a with
 |stop a=>exact⟨.leaf,a⟩
 |@step m w g H N a _ L=>
  have r:∀q,∃i,aU f m w q->n q->∃d k e c new o,stepG P Xp g q=.go d c (kept o).toArray/\bB f m k w e q c new o/\(∀b,h b->e.heap[b]?=w.heap[b]?)/\
   (∀p∈new,p.write=J->∀b,h b->p.loc≠.obj b/\∀s,p.loc=.cell s->s.block≠b)/\d.status=.running/\ym P f h n Stop i k e d:=by
   intro q;by_cases l:aU f m w q
   .by_cases hF:n q
    .obtain⟨d,k,e,c,new,o,t,u,v,x,y,z⟩:=a q l hF;obtain⟨i,D⟩:=L q k e d z;exact⟨i,λ_ _=>⟨d,k,e,c,new,o,t,u,v,x,y,D⟩⟩
    exact⟨.leaf,λ_ a=>absurd a hF⟩
   exact⟨.leaf,λa=>absurd a l⟩
  exact⟨.node λq=>Classical.choose (r q),Xs ⟨H,λq l hF=>Classical.choose_spec (r q) l hF⟩⟩
theorem jE.SR(a:xu P f Xp h Stop m w g):jE P f h n Stop m w g:=by
 induction a with
 |stop a=>exact .stop a
 |step c e a i d=>exact .step c e (λq b _=>a q b) d
theorem jE.bind(a:jE P f h n Stop m w g)(i:∀d c b,Stop d c b->jE P f h n x d c b):jE P f h n x m w g:=by
 induction a with
 |stop a=>exact i _ _ _ a
 |step e l a _ k=>exact .step e l a λq d c b o=>k q d c b o
end
def ud(b:WD)(q:K):Prop:=∃c a,q.heap[b.gv]?=C (Xx #[b.gs] c a)
def uc(b:WD)(q:K):Prop:=∃c a,q.heap[b.gb]?=C (Xx c b.yL a)/\a.1=a.2/\c.size=b.gn
structure TT(b:WD)(y:E)(z:Xu Xn)(q c:K):Prop where
 os:c.os=q.os
 out:c.output=q.output
 size:c.heap.size=q.heap.size
 block:∀r,r≠b.gb->c.heap[r]?=q.heap[r]?
 put:∀t H D,q.heap[b.gb]?=C (Xx t H D)->∃i,c.heap[b.gb]?=C (Xx i H D)/\i.size=t.size/\(∀k,k<y\/y+z.size<=k->i[k]?=t[k]?)/\∀k,k<z.size->i[y+k]?=z[k]?
abbrev bD:=Xq (E×Xu Xn)
def dq(b:WD)(f:Set)(m:Ren)(cl:bD)(q:K):Prop:=
 ∀d∈cl,∀(c:E) e,d.2[c]?=C e->∃a k i h,q.heap[b.gb]?=C (Xx a k i)/\a[d.1+c]?=C h/\an f m e h
def kZ(P:XI)(b:WD)(fin:bD->K->Prop)(d:E)(f:Set)(h:E->Prop):E->bD->Ren->K->XD->Prop
 |0,cl,m,w,g=>g.status=.running/\(∃s,∀q,WgLive b.ty b.Wg q->Go.Conc.Goes P Xp (RL b.ty b.Wg) DC0 (Vh P b.ty b.Wg) s g q)/\fin cl w
 |s+1,cl,m,w,g=>g.status=.running/\∃a o i k,aw f m o i/\(∀e,e<i.size->b.own d (a+e))/\(∀l∈cl,l.1+l.2.size<=a\/a+i.size<=l.1)/\k.status=.running/\
   (∀q,uc b q->∃c n,stepG P Xp g q=.go k c n/\TT b a i q c/\∀p∈n,∃e,e<i.size/\p=⟨.cell ⟨b.gb,a+e,F⟩,J,Xp⟩)/\
   jE P f h (ud b) (kZ P b fin d f h s (cl++[(a,o)])) m w k
inductive nK where
 |work (s:E) (cl:bD) (k:Tr) (a:bR)
 |done (l s i:E) (cl:bD) (a:bR)
 |quit (o i:E) (cl:bD) (a:bR)
abbrev Fin:=E->bD->K->Prop
def EN(P:XI)(b:WD)(fin:Fin)(d:E)(g:XD)(q:K)(e:XO)(T:Loc->Own):nK->Prop
 |.work s cl h a=>g.status=.running/\Deaf e d=0/\aG P e q T d a/\dq b a.S a.β cl q/\ym P a.S a.ro (ud b) (kZ P b (fin d) d a.S a.ro s cl) h a.β a.w g
 |.done c s f cl a=>c<=5/\Deaf e d=(if c<=1 then 0 else 1)/\(1<=c->RelBy (stA b.Wg) e d f)/\aG P e q T d a/\dq b a.S a.β cl q/\fin d cl a.w/\Go.Conc.Goes P Xp (RL b.ty b.Wg) DC0 (QX P b.ty b.Wg c) s g q
 |.quit i f cl a=>RelBy (stA b.Wg) e d f/\aG P e q T d a/\dq b a.S a.β cl q/\fin d cl a.w/\QuitsD P i (Deaf e d) g
def nK.cnt:nK->E
 |.work .. =>1
 |.done a .. =>if a<=2 then 1 else 0
 |.quit .. =>0
def nK.iO:nK->E
 |.done a .. =>if 3<=a then 1 else 0
 |_=>0
def nK.wX:nK->E
 |.done a .. =>if 3<=a then a else 0
 |_=>0
structure fD(b:WD)(j:E)(q c:K):Prop where
 live:WgLive b.ty b.Wg q->WgLive b.ty b.Wg c
 gb:∀a o l,q.heap[b.gb]?=C (Xx a o l)->∃i,c.heap[b.gb]?=C (Xx i o l)/\i.size=a.size/\∀d k,d≠j->b.own d k->i[k]?=a[k]?
theorem fD.same{b:WD}{c:K}(h:c.heap[b.Wg]?=q.heap[b.Wg]?)(i:c.heap[b.gb]?=q.heap[b.gb]?):fD b j q c:=
 ⟨λ⟨d,e,a⟩=>⟨d,e,a.of_block h⟩,λf l k a=>⟨f,i.trans a,A,λ_ _ _ _=>rfl⟩⟩
def uR(b:WD)(d:E)(cl:bD):Prop:=∀c∈cl,∀a,a<c.2.size->b.own d (c.1+a)
theorem dq.stay{b:WD}{cl:bD}{c:K}(y:dq b f m cl q)(O:uR b d cl)(L:d≠j)(Q:fD b j q c):dq b f m cl c:=by intro i l a S o;obtain⟨t,r,k,U,z,D,H⟩:=y i l a S o;obtain⟨v,q1,_,R⟩:=Q.gb t r k z;have N:a<i.2.size:=(XZ.1 o).1;exact⟨v,r,k,U,q1,by rw[R d _ L (O i l a N)];exact D,H⟩
theorem dq.mono{b:WD}{β₁:Ren}{cl:bD}(k:dq b f m cl q)(t:m.le β₁):dq b f β₁ cl q:=λD v z L y=>by obtain⟨a,H,i,N,l,o,r⟩:=k D v z L y;exact⟨a,H,i,N,l,o,r.mono t⟩
theorem dq.same{b:WD}{cl:bD}{c:K}(e:dq b f m cl q)(o:c.heap[b.gb]?=q.heap[b.gb]?):dq b f m cl c:=λr l p t n=>by obtain⟨a,s,d,u,h,i,k⟩:=e r l p t n;exact⟨a,s,d,u,o.trans h,i,k⟩
theorem dq.VO{b:WD}{cl:bD}{c:K}{h:E}{u p:Xu Xn}(k:dq b f m cl q)(z:uc b q)(H:TT b h p q c)(t:aw f m u p)(hd:∀a∈cl,a.1+a.2.size<=h\/h+p.size<=a.1):dq b f m (cl++[(h,u)]) c:=by
 obtain⟨v,y,s,T,U⟩:=z;obtain⟨r,q1,W,N,O⟩:=H.put v _ y s;intro a L n Q l;have D:n<a.2.size:=(XZ.1 l).1;rcases YC.1 L with d|d
 .obtain⟨R,X,S,o,e,i,x⟩:=k a d n Q l;rw[s]at e;cases e;refine⟨r,_,_,o,q1,?_,x⟩;rw[N _ (by rcases hd a d with k|k<;>omega)];exact i
 simp only[YS]at d;subst d;obtain⟨o,e,i⟩:=t.get l;exact⟨r,_,_,o,q1,by rw[O n (by rw[<-t.1];exact D)];exact e,i⟩
section
variable{p:XO}{c:K}{u:Loc->Own}{b:WD}{fin:Fin}
theorem yK{a:E}(h:Go.Conc.Goes P Xp (RL b.ty b.Wg) DC0 (QX P b.ty b.Wg a) s g q)(i:WgLive b.ty b.Wg q->WgLive b.ty b.Wg c):Go.Conc.Goes P Xp (RL b.ty b.Wg) DC0 (QX P b.ty b.Wg a) s g c:=
 h.rely (λd e f=>Go.SimW.RL.trans d e f) i
def nK.cl:nK->bD
 |.work _ cl _ _|.done _ _ _ cl _|.quit _ _ cl _=>cl
theorem EN.frame(f:j≠d)(y:kg e q c T u j p)(O:∀z∈p,z.g≠d)(hd:Deaf (e++p) d=Deaf e d)(o:fD b j q c){r:nK}(n:uR b d r.cl)(t:EN P b fin d g q e T r):EN P b fin d g c (e++p) u r:=by
 have H:∀a,RelBy (stA b.Wg) e d a->RelBy (stA b.Wg) (e++p) d a:=λa U=>U.app λW D Q=>by
  obtain⟨z,n,R⟩:=YP.1 Q;rcases Yf n with⟨Y,_⟩|⟨_,S⟩
  .omega
  exact absurd R (O z S)
 cases r with
 |work s cl X L=>obtain⟨v,i,k,l,m⟩:=t;exact⟨v,by rw[hd];exact i,k.other f y,l.stay n (λh=>f h.symm) o,m⟩
 |done W s a cl L=>obtain⟨N,v,i,k,l,m,x⟩:=t;exact⟨N,by rw[hd];exact v,λD=>H a (i D),k.other f y,l.stay n (λh=>f h.symm) o,m,yK x o.live⟩
 |quit Z a cl L=>obtain⟨i,k,l,m,x⟩:=t;exact⟨H a i,k.other f y,l.stay n (λh=>f h.symm) o,m,by rw[hd];exact x⟩
theorem EN.at{n:nK}(a:EN P b fin d g q e T n)(k:E):EN P b fin d g (q.at k) e T n:=by
 cases n with
 |work s cl t o=>obtain⟨l,c,f,h,i⟩:=a;exact⟨l,c,f.at k,h,i⟩
 |done u s r cl o=>obtain⟨p,l,c,f,h,i,m⟩:=a;exact⟨p,l,c,f.at k,h,i,yK m λa=>a⟩
 |quit v r cl o=>obtain⟨c,f,h,i,m⟩:=a;exact⟨c,f.at k,h,i,m⟩
theorem EN.status{f:nK}(a:EN P b fin d g q e T f):g.status=.running\/g.status=.finished:=by
 cases f with
 |work s cl i c=>exact Xr a.1
 |done k s h cl c=>exact Xr (Go.SimW.qJ a.2.2.2.2.2.2)
 |quit l h cl c=>exact a.2.2.2.2.status
theorem EN.woken{i:nK}(h:EN P b fin d g q e T i)(a f:XD):Go.Conc.woken P a f c g=g:=by
 unfold Go.Conc.woken;split
 .exact again_running _ h.status
 rfl
end
end
end Go.Sim
namespace Go.Sim
open Go.Conc Go.Proofs Go.RowKit
open Go.ConcN (PermW PermW.app PermW.of fork_knows WgLive RelBy sumTo)
open Go.ConcR (KK wgBlock WgAt stA smA rd wr mk DC0)
variable{f:Set}{m:Ren}{l:Xn}{q:K}{k:E}{T:Loc->Own}{b:XO}{j:E}{P:XI}{y:bR}{a:E}{c:XD}{w:E}{U:Xu XD}{u:E}{R:Xu XQ}{s:E}
section
variable[Inhabited aN]
inductive ft(d:E->Prop):Xn->Prop
 |bool (r:Xy):ft d (.bool r)
 |int (t:IntKind) (k:Xt):ft d (.int t k)
 |string (y:XM):ft d (.string y)
 |cJ:ft d (XK F)
 |ptr {i:XG} (n:d i.block):ft d (XK (C i))
 |aO (k g:E):ft d (Xw F k g)
 |slice {i:XG} (n:d i.block) (k g:E):ft d (Xw (C i) k g)
 |iface (b:XA) {l:Xn} (n:ft d l):ft d (.iface b l)
 |nilIface:ft d .nilIface
 |agg {g:Xu Xn} (n:∀(a:E) p,g[a]?=C p->ft d p):ft d (.agg g)
theorem an.to{s:Set}{r:Ren}{n:E->Prop}(o:∀d e,n d->m d e->r d e){i:Xn}(v:ft n l)(c:an f m l i):an s r l i:=by
 induction v generalizing i with
 |bool e=>cases c;exact .bool _
 |int H k=>cases c;exact .int _ _
 |string y=>cases c;exact .string _
 |cJ=>cases c;exact .cJ
 |ptr g=>cases c with|ptr c=>exact .ptr ⟨o _ _ g c.1,c.2⟩
 |aO k t=>cases c;exact .aO _ _
 |slice g k t=>cases c with|slice c=>exact .slice ⟨o _ _ g c.1,c.2⟩ _ _
 |iface b _ h=>cases c with|iface _ c=>exact .iface b (h c)
 |nilIface=>cases c;exact .nilIface
 |agg D h=>cases c with|agg u x=>exact .agg u λa q z p w=>h a q p (x a q z p w)
structure PD where
 rc:E
 n:E
 τ:E->Xn
 sh:E->Prop
 mine:Loc->Prop
 bx:E
def Jd(a:PD)(q:K):Prop:=∃c b,q.heap[a.bx]?=C (Xx #[.chan (C a.rc)] c b)
def je(P:XI)(a:PD)(f:Set)(i:E->Prop):E->Ren->K->XD->Prop
 |0,m,d,c=>c.status=.running/\mayWake P c=J/\∃b,b.status=.running/\
    (∀(q:K) g e y h k,q.heap[a.rc]?=C (.chan g e Xp y h k)->stepG P Xp c q=.go b (q.setChan a.rc g e J y h k) #[⟨.obj a.rc,Xp,J⟩,⟨.obj a.rc,J,J⟩])/\∃n,QuitsD P n 0 b
 |s+1,m,d,c=>c.status=.running/\∃l o,(∀q,aU f m d q->stepG P Xp c q=.comm c #[scase a.rc l o] J .send q #[])/\an f m (a.τ (a.n-(s+1))) l/\ft a.sh (a.τ (a.n-(s+1)))/\
   jE P f i (Jd a) (je P a f i s) m d (Go.Conc.served c I)
inductive aF where
 |lv (i:E)
 |pr (d:PD) (s:E) (g:Tr) (n:bR)
 |pb (d:PD) (s:E) (g:Tr) (n:bR) (c:XD) (p t:Xn)
 |pq (d:PD) (i:E)
 |wk (r:nK)
abbrev Ms:=E×E×Tr
def aF.ms:aF->Ms
 |.lv b=>(0,b,.leaf)
 |.pr _ s a _=>(2*s+2,0,a)
 |.pb _ s a _ _ _ _=>(2*s+3,0,a)
 |.pq _ b=>(1,b,.leaf)
 |.wk (.work s _ a _)=>(s+10,0,a)
 |.wk (.done c s _ _ _)=>(9-c,s,.leaf)
 |.wk (.quit b _ _ _)=>(1,b,.leaf)
def Ms.lt:Ms->Ms->Prop:=Prod.Lex Nat.lt (Prod.Lex Nat.lt Tr.lt)
theorem lex_wf{c d:Type}{b:c->c->Prop}{y:d->d->Prop}(f:WellFounded b)(g:WellFounded y):WellFounded (Prod.Lex b y):=⟨λ⟨e,a⟩=>Prod.lexAccessible (f.apply e) (λa=>g.apply a) a⟩
theorem Ms.wf:WellFounded Ms.lt:=lex_wf E.lt_wfRel.wf (lex_wf E.lt_wfRel.wf Tr.wf)
structure kK(g:PD)(q:K)(T:Loc->Own)(y:bR)(n i:E)(r:Xy)(d:Xu Xn):Prop where
 heap:q.heap[g.rc]?=C (.chan 4 d r n i Xp)
 count:d.size+i=n
 room:d.size<=4
 own:T (.obj g.rc)=.sync
 msgs:∀(a:E) p,d[a]?=C p->an y.S y.β (g.τ (i+a)) p
def Told(b:XO)(T:Loc->Own)(a:E):Prop:=∀(c:E) d e,b[c]?=C d->d.g=a->d.act.touch?=C e->e.loc.isMemory=J->(T e.loc≠.sync\/b.heard c)->Knows b 0 c
def kO(b:XO)(T:Loc->Own)(a w:E):Prop:=∀(c:E) d e,b[c]?=C d->d.g=a->d.act.touch?=C e->e.loc.isMemory=J->(T e.loc≠.sync\/b.heard c)->Before b c w
def kN(b:PD)(d y:bR):Prop:=(∀a c,b.sh a->d.β a c->y.β a c)/\∀a,b.sh a->a<d.w.heap.size
structure uy(g:PD)(b:XO)(q:K)(T:Loc->Own)(a:E):Prop where
 KW:∀(p:E) n i,b[p]?=C n->n.g=a->n.act.touch?=C i->i.loc.isMemory=J->T i.loc≠.sync->T i.loc=.iQ a\/g.mine i.loc
 ro:∀d,g.mine d->T d=.ro
 low:∀d,g.mine d->d.isMemory=J/\Ar q.heap.size d
 kn:Jd g q
 Lh:∀d,az d g.bx->g.mine d
def uV(e:PD)(d:bR):Prop:=∀a b,d.β a b->d.ro a->∀c,az c b->e.mine c
def cC(P:XI)(a:E)(c:XD)(q:K)(b:XO)(T:Loc->Own)(y:bR):aF->Prop
 |.lv k=>QuitsD P k (Deaf b a) c/\Told b T a
 |.pr d s f e=>c.status=.running/\s<=d.n/\(∃h g,kK d q T y (d.n-s) h Xp g)/\aG P b q T a e/\Deaf b a=0/\(kN d e y/\uy d b q T a/\uV d e)/\ym P e.S e.ro (Jd d) (je P d e.S e.ro s) f e.β e.w c
 |.pb d s f e i l n=>s+1<=d.n/\c=parked i #[scase d.rc l n] .send/\i.status=.running/\(∃h g,kK d q T y (d.n-(s+1)) h Xp g/\g.size=4)/\aG P b q T a e/\Deaf b a=0/\(kN d e y/\uy d b q T a/\uV d e)/\
   an y.S y.β (d.τ (d.n-(s+1))) l/\ym P e.S e.ro (Jd d) (je P d e.S e.ro s) f e.β e.w (Go.Conc.served i I)
 |.pq d k=>(∃h g,kK d q T y d.n h J g)/\QuitsD P k (Deaf b a) c/\∃w,b.act? w=C (.close d.rc)/\b.heard w/\kO b T a w/\uy d b q T a
 |.wk m=>∃f,y.tag=C f/\uR f.D a m.cl/\EN P f.D f.fin a c q b T m
def aF.cnt:aF->E
 |.wk a=>a.cnt
 |_=>0
def aF.iO:aF->E
 |.wk a=>a.iO
 |_=>0
def aF.wX:aF->E
 |.wk a=>a.wX
 |_=>0
inductive ee(d:dv)(g:E->aF)(k:E)(q:K):E->Prop
 |opn {l:E} (i:d.wt=0) (v:d.pend<=1) (n:∀j,0<j->j<k->(g j).iO=0) (p:WgAt d.D.ty d.D.Wg q (((l+d.pend:E):Xt)*KK) 0):ee d g k q l
 |reg {l:E} (i:d.wt=1) (z:1<=l) (n:∀j,0<j->j<k->(g j).iO=0) (p:WgAt d.D.ty d.D.Wg q (l*KK+1) 0):ee d g k q l
 |last (a:E) (i:d.wt=1) (r:0<a) (t:a<k) (n:∀j,0<j->j<k->j≠a->(g j).iO=0) (x:(g a).iO=1) (p:WgAt d.D.ty d.D.Wg q (if(g a).wX<=4 then 1 else 0) 0):ee d g k q 0
 |fin (i:d.wt=1) (n:∀j,0<j->j<k->(g j).iO=0) (p:WgAt d.D.ty d.D.Wg q 0 1):ee d g k q 0
 |Cn (i:d.wt=2) (n:∀j,0<j->j<k->(g j).iO=0) (p:WgAt d.D.ty d.D.Wg q 0 0):ee d g k q 0
def BU(b:Obj)(q:K)(a:E):Prop:=q.heap[a]?=C b
def Jc(b:WD)(q:K)(T:Loc->Own):Prop:=(∀c,b.g0=C c->q.os=c.os)/\∀a e,b.gh a e->(∀d,az d a->T d=.ro)/\BU e q a
theorem BU.lt{c:Obj}{a:E}(b:BU c q a):a<q.heap.size:=by exact(XZ.1 b).1
theorem Jc.step{p:WD}{b h:XO}{q e:K}{T o:Loc->Own}{a:E}(t:Jc p q T)(n:kg b q e T o a h):Jc p e o:=by
 refine⟨λH L=>n.os.trans (t.1 H L),λg O N=>?_⟩;obtain⟨v,i⟩:=t.2 g O N;refine⟨λD x=>by rw[n.old D g x i.lt];exact v D x,?_⟩;have z:=v (.obj g) (Xr A);rcases n.heap g i.lt with d|d|d|d
 .rw[z]at d;cases d
 .rcases d with d|d<;>(rw[z]at d;cases d)
 .exact d.trans i
 simp_all
structure dV(d:dv)(n:E->aF)(k:E)(q:K)(T:Loc->Own):Prop where
 zero:(n 0).cnt=0
 mode:ee d n k q (sumTo k λa=>(n a).cnt)
 rS:∀g,az g d.D.Wg->T g=.sync
 Ab:T (.obj d.D.gb)=.void
 own:∀a p,0<a->a<k->n a=.wk p->∀i r,d.D.own a i->T (.cell ⟨d.D.gb,i,r⟩)=.iQ a
 gb:uc d.D q
 gv:ud d.D q
 Lj:T (.obj d.D.gv)=.ro
 ne:d.D.gb≠d.D.Wg
 apart:∀a j i,d.D.own a i->d.D.own j i->a=j
 yG:d.hi<d.lo+1000000
 bound:(sumTo k λa=>(n a).cnt)<=d.vb
 ub:0<d.lo/\d.lo<=d.hi/\d.hi=k/\∀a,d.lo<=a->a<d.hi->∃p,n a=.wk p
 Io:∀a p,0<a->a<k->n a=.wk p->d.lo<=a/\a<d.hi
 gh:Jc d.D q T
 Li:∀g,az g d.D.gb->g=.obj d.D.gb\/T g=.iQ 0\/∃a i r,d.lo<=a/\a<d.hi/\g=.cell ⟨d.D.gb,i,r⟩/\d.D.own a i/\T g=.iQ a
theorem ee.live{e:dv}{f:E->aF}{l:E}(c:ee e f k q l):WgLive e.D.ty e.D.Wg q:=by
 cases c with
 |opn c i d b=>exact⟨_,_,b⟩
 |reg c n d b=>exact⟨_,_,b⟩
 |last a c g h d m b=>exact⟨_,_,b⟩
 |fin c d b=>exact⟨_,_,b⟩
 |Cn c d b=>exact⟨_,_,b⟩
theorem ee.same{f:dv}{m n:E->aF}{e:K}{l:E}(b:ee f m k q l)(d:e.heap[f.D.Wg]?=q.heap[f.D.Wg]?)(s:∀a,(n a).iO=(m a).iO/\(n a).wX=(m a).wX):ee f n k e l:=by
 cases b with
 |opn b r i c=>exact .opn b r (λj g h=>by simp_all) (c.of_block d)
 |reg b t i c=>exact .reg b t (λj g h=>by simp_all) (c.of_block d)
 |last a b o p i v c=>exact .last a b o p (λj g h u=>by simp_all) (by simp_all) (by rw[(s a).2];exact c.of_block d)
 |fin b i c=>exact .fin b (λj g h=>by simp_all) (c.of_block d)
 |Cn b i c=>exact .Cn b (λj g h=>by simp_all) (c.of_block d)
theorem dV.qa{a:dv}{c:E->aF}(b:dV a c k q T):a.D.Wg<q.heap.size:=by obtain⟨d,e,b⟩:=b.mode.live;exact(XZ.1 (show q.heap[a.D.Wg]?=_ from b)).1
theorem dV.ue{a:dv}{c:E->aF}(b:dV a c k q T):a.D.gb<q.heap.size:=by
 obtain⟨d,e,b,_⟩:=b.gb
 grind
theorem dV.Us{a:dv}{c:E->aF}(b:dV a c k q T):a.D.gv<q.heap.size:=by
 obtain⟨d,e,b⟩:=b.gv
 grind
theorem Jd.step{g:PD}{b h:XO}{q e:K}{T o:Loc->Own}{a:E}(i:Jd g q)(t:kg b q e T o a h)(n:T (.obj g.bx)=.ro):Jd g e:=by
 obtain⟨v,p,i⟩:=i;rcases t.heap g.bx (XZ.1 i).1 with d|d|d|d
 .rw[n]at d;cases d
 .rcases d with d|d<;>(rw[n]at d;cases d)
 .exact⟨v,p,d.trans i⟩
 simp_all
theorem ud.step{g:WD}{b h:XO}{q e:K}{T o:Loc->Own}{a:E}(i:ud g q)(t:kg b q e T o a h)(n:T (.obj g.gv)=.ro):ud g e:=by
 obtain⟨v,p,i⟩:=i;rcases t.heap g.gv (XZ.1 i).1 with d|d|d|d
 .rw[n]at d;cases d
 .rcases d with d|d<;>(rw[n]at d;cases d)
 .exact⟨v,p,d.trans i⟩
 simp_all
theorem dV.keep{d:dv}{f g:E->aF}{h:XO}{e:K}{o:Loc->Own}(c:dV d f k q T)(l:kg b q e T o j h)(H:e.heap[d.D.Wg]?=q.heap[d.D.Wg]?)(L:uc d.D q->uc d.D e)
 (r:∀a,(g a).cnt=(f a).cnt/\(g a).iO=(f a).iO/\(g a).wX=(f a).wX)(x:∀a i,g a=.wk i->∃m,f a=.wk m)(X:∀a i,f a=.wk i->∃m,g a=.wk m):dV d g k e o where
 zero:=by rw[(r 0).1];exact c.zero
 mode:=by have v:(λa=>(g a).cnt)=λa=>(f a).cnt:=funext λa=>(r a).1;rw[v];exact c.mode.same H λa=>(r a).2
 rS:=λp n=>by rw[l.old p _ n c.qa];exact c.rS p n
 Ab:=by rw[l.old _ _ (.inl A) c.ue];exact c.Ab
 own:=λa i D N s y z O=>by obtain⟨m,w⟩:=x a i s;rw[l.old (.cell ⟨d.D.gb,y,z⟩) d.D.gb (.inr ⟨_,A,A⟩) c.ue];exact c.own a m D N w y z O
 gb:=L c.gb
 gv:=c.gv.step l c.Lj
 Lj:=by rw[l.old _ _ (.inl A) c.Us];exact c.Lj
 ne:=c.ne
 apart:=c.apart
 yG:=c.yG
 bound:=by have v:(λa=>(g a).cnt)=λa=>(f a).cnt:=funext λa=>(r a).1;rw[v];exact c.bound
 ub:=⟨c.ub.1,c.ub.2.1,c.ub.2.2.1,λa t u=>by obtain⟨i,s⟩:=c.ub.2.2.2 a t u;simp_all⟩
 Io:=λa i t u s=>by obtain⟨m,w⟩:=x a i s;exact c.Io a m t u w
 gh:=c.gh.step l
 Li:=λp n=>by rw[l.old p _ n c.ue];exact c.Li p n
theorem uc.same{a:WD}{e:K}(d:uc a q)(h:e.heap[a.gb]?=q.heap[a.gb]?):uc a e:=by obtain⟨b,c,f,g⟩:=d;exact⟨b,c,h.trans f,g⟩
def aF.chan:aF->Xz E
 |.lv _=>F
 |.pr a .. =>C a.rc
 |.pb a .. =>C a.rc
 |.pq a .. =>C a.rc
 |.wk _=>F
def aF.pd:aF->Xz PD
 |.lv _=>F
 |.pr a .. =>C a
 |.pb a .. =>C a
 |.pq a .. =>C a
 |.wk _=>F
theorem aF.cD(a:aF):a.chan=a.pd.map (·.rc):=by cases a<;>rfl
def LF(q:K)(b d:E):Prop:=∃c a cl e f,q.heap[b]?=C (.chan c a cl e d f)
section
variable{e:K}{o:Loc->Own}{s':bR}{h:XO}
def jd(y s':bR):Prop:=s'.S=y.S/\y.β.le s'.β/\s'.tag=y.tag
theorem jd.refl(y:bR):jd y y:=⟨A,Ren.le_refl _,A⟩
theorem kK.frame{d:PD}{l k:E}{g:Xy}{f:Xu Xn}(c:kK d q T y l k g f)(m:kg b q e T o j h)(n:e.heap[d.rc]?=q.heap[d.rc]?)(i:jd y s'):kK d e o s' l k g f where
 heap:=by rw[n];exact c.heap
 count:=c.count
 room:=c.room
 own:=by rw[m.old _ _ (.inl A) (XZ.1 c.heap).1];exact c.own
 msgs:=λa r p=>by rw[i.1];exact(c.msgs a r p).mono i.2.1
theorem Told.frame(G:cS b q T)(s:Told b T a)(l:kg b q e T o j h)(t:j≠a):Told (b++h) o a:=by
 intro n p d u g m c k;rcases Yf u with⟨x,v⟩|⟨_,w⟩
 .obtain⟨r,f⟩:=cO c;have i:=G.low n d (by simp_all [YX]);rw[bj f]at i;rw[l.old _ r f i]at k;exact(s n p d v g m c (k.imp id (ZL x).1)).app h
 exact absurd ((l.touch p w d m c).1.symm.trans g) t
theorem kO.frame(G:cS b q T)(s:kO b T a w)(l:kg b q e T o j h)(t:j≠a):kO (b++h) o a w:=by
 intro n p d u g m c k;rcases Yf u with⟨y,v⟩|⟨_,x⟩
 .obtain⟨r,f⟩:=cO c;have i:=G.low n d (by simp_all [YX]);rw[bj f]at i;rw[l.old _ r f i]at k;exact(s n p d v g m c (k.imp id (ZL y).1)).app h
 exact absurd ((l.touch p x d m c).1.symm.trans g) t
theorem Told.mine(G:cS b q T)(e:Told b T a)(r:∀c∈h,∀d,c.act.touch?=C d->False):Told (b++h) T a:=by
 intro o c d g f n l m;rcases Yf g with⟨k,i⟩|⟨_,p⟩
 .exact(e o c d i f n l (m.imp id (ZL k).1)).app h
 simp_all
theorem kO.mine(G:cS b q T)(e:kO b T a w)(r:∀c∈h,∀d,c.act.touch?=C d->False):kO (b++h) T a w:=by
 intro o c d g f n l m;rcases Yf g with⟨k,i⟩|⟨_,p⟩
 .exact(e o c d i f n l (m.imp id (ZL k).1)).app h
 simp_all
theorem uy.frame{m:PD}(G:cS b q T)(c:uy m b q T a)(k:kg b q e T o j h)(x:∀l∈h,l.g≠a):uy m (b++h) e o a where
 KW:=by
  intro t l u w v s p r;rcases Yf w with⟨z,n⟩|⟨_,y⟩
  .obtain⟨i,f⟩:=cO p;have d:=G.low t u (by rw[YX n];exact s);rw[bj f]at d;rw[k.old _ i f d]at r⊢
   exact c.KW t l u n v s p r
  simp_all
 ro:=λg d=>by obtain⟨i,f⟩:=cO (c.low g d).1;have:=(c.low g d).2;rw[bj f]at this;rw[k.old _ i f this];exact c.ro g d
 low:=λg d=>⟨(c.low g d).1,by
  obtain⟨i,f⟩:=cO (c.low g d).1;have:=(c.low g d).2;rw[bj f]at this⊢
  exact Yk this k.size⟩
 kn:=c.kn.step k (c.ro _ (c.Lh _ (Xr A)))
 Lh:=c.Lh
theorem uy.own{m:PD}(G:cS b q T)(c:uy m b q T a)(l:kg b q e T o a h)(z:∀n∈h,∀f,n.act.touch?=C f->f.loc.isMemory=J->o f.loc≠.sync->o f.loc=.iQ a\/m.mine f.loc):uy m (b++h) e o a where
 KW:=by
  intro u n f w v t r s;rcases Yf w with⟨y,p⟩|⟨_,x⟩
  .obtain⟨k,g⟩:=cO r;have d:=G.low u f (by rw[YX p];exact t);rw[bj g]at d;rw[l.old _ k g d]at s⊢
   exact c.KW u n f p v t r s
  grind
 ro:=λi d=>by obtain⟨k,g⟩:=cO (c.low i d).1;have:=(c.low i d).2;rw[bj g]at this;rw[l.old _ k g this];exact c.ro i d
 low:=λi d=>⟨(c.low i d).1,by
  obtain⟨k,g⟩:=cO (c.low i d).1;have:=(c.low i d).2;rw[bj g]at this⊢
  exact Yk this l.size⟩
 kn:=c.kn.step l (c.ro _ (c.Lh _ (Xr A)))
 Lh:=c.Lh
theorem uy.VN{f:PD}{d:bR}(G:cS b q T)(x:uy f b q T a)(s:uV f d)(i:aG P b q T a d){w:Ren}{n:K}{new u:Xq XQ}(l:bB d.S d.β w d.w n q e new u)(O:∀c,d.ro c->n.heap[c]?=d.w.heap[c]?)
 (t:∀h∈new,h.write=J->∀c,d.ro c->h.loc≠.obj c/\∀o,h.loc=.cell o->o.block≠c)(D:Deaf b a=0)(fn:XU)(v:String):
 uy f (b++XP a fn v (kept u).toArray) e (Own.more T a q.heap.size e.heap.size) a/\uV f {d with β:=w,w:=n}:=by
 refine⟨x.own G (fE i l O t D fn v) λZ N o Q L X=>?_,λc g y r R H=>?_⟩
 .obtain⟨_,z⟩:=wW i l t N Q;obtain⟨g,q1,a1,k⟩:=z L;rcases k with k|⟨a0,k|⟨_,_,_,c,S,U⟩⟩
  .grind [qV]
  .grind [qW]
  exact Xs (s c g S U _ q1)
 rcases l.fresh c g y with p|⟨p,_⟩
 .exact s c g p r R H
 obtain⟨Y,W,_⟩:=i.cQ c r;simp_all
theorem kN.frame{a:PD}{c:bR}(b:kN a c y)(h:jd y s'):kN a c s':=⟨λd e f g=>h.2.1 _ _ (b.1 d e f g),b.2⟩
theorem kN.step{p:PD}{g:bR}(n:kN p g y){D:Ren}{z q e:K}{new L:Xq XQ}(x:bB g.S g.β D g.w z q e new L):kN p {g with β:=D,w:=z} y:=by
 refine⟨λd t i H=>?_,λd i=>Yk (n.2 d i) x.size⟩;rcases x.fresh d t H with v|⟨v,_⟩
 .exact n.1 d t i v
 have:=n.2 d i;omega
theorem cC.frame(G:cS b q T){D:aF}(l:cC P a c q b T y D)(f:kg b q e T o j h)(u:j≠a)(hd:Deaf (b++h) a=Deaf b a)(g:jd y s')(N:∀H,D.chan=C H->e.heap[H]?=q.heap[H]?)(z:∀U∈h,U.g≠a)(S:∀i,y.tag=C i->fD i.D j q e):cC P a c e (b++h) o s' D:=by
 cases D with
 |wk a4=>obtain⟨i,m,n,k⟩:=l;exact⟨i,by rw[g.2.2];exact m,n,k.frame u f z hd (S i m) n⟩
 |lv W=>exact⟨by rw[hd];exact l.1,l.2.frame G f u⟩
 |pr O s i X=>obtain⟨m,n,⟨v,p,k⟩,L,r,d,t⟩:=l;exact⟨m,n,⟨v,p,k.frame f (N _ A) g⟩,L.other u f,by rw[hd];exact r,⟨d.1.frame g,d.2.1.frame G f z,d.2.2⟩,t⟩
 |pb O s i X Y a3 a5=>obtain⟨m,n,Q,⟨v,p,k,R⟩,L,r,d,t,x⟩:=l;exact⟨m,n,Q,⟨v,p,k.frame f (N _ A) g,R⟩,L.other u f,by rw[hd];exact r,⟨d.1.frame g,d.2.1.frame G f z,d.2.2⟩,by rw[g.1];exact t.mono g.2.1,x⟩
 |pq O W=>obtain⟨⟨v,p,k⟩,r,w,d,t,x⟩:=l;refine⟨⟨v,p,k.frame f (N _ A) g⟩,by rw[hd];exact r,w,?_,((ZL (t_ d)).2 t),x.1.frame G f u,x.2.frame G f z⟩;rw[abn (t_ d)];exact d
theorem cC.woken{k:aF}(d:cC P a c q b T y k)(f g:XD)(p:∀h,k.chan=C h->e.heap[h]?=q.heap[h]?):woken P f g e c=c:=by
 cases k with
 |wk Q=>obtain⟨m,o,n,i⟩:=d;exact i.woken f g
 |lv r=>exact woken_quitsD d.1
 |pr l s m t=>exact woken_run d.1
 |pb l s m t v O R=>obtain⟨o,n,w,⟨N,u,i,x⟩,_⟩:=d;rw[n];exact woken_send_open f g (by rw[p _ A];exact i.heap)
 |pq l r=>exact woken_quitsD d.2.1
theorem cC.awake{i:aF}(d:cC P a c q b T y i):Go.Conc.awake c:=by
 cases i with
 |wk f=>obtain⟨h,o,p,k⟩:=d;rcases k.status with d|d<;>(intro f e;simp_all)
 |lv l=>rcases d.1.status with d|d<;>(intro f e;simp_all)
 |pr g s h m=>intro f e;rw[d.1]at e;cases e
 |pb g s h m n w x=>rw[d.2.1];intro f e;cases e
 |pq g l=>rcases d.2.1.status with d|d<;>(intro f e;simp_all)
structure bz(P:XI)(U:Xu XD)(q:K)(b:XO)(T:Loc->Own)(y:bR)(d:E->aF):Prop where
 each:∀a c,0<a->U[a]?=C c->cC P a c q b T y (d a)
 one:∀a j n u,0<a->0<j->a<U.size->j<U.size->(d a).chan=C n->(d j).chan=C u->a=j
 above:∀j,U.size<=j->Deaf b j=0
 wg:∀g,y.tag=C g->dV g d U.size q T
 ops:∀(p:E) i,b[p]?=C i->i.g<U.size
def ug(b:E->aF)(k:E):Xq Ms:=(Xq.range k).map λa=>(b a).ms
theorem lx{d:E->aF}{e:aF}(g:a<k)(i:Ms.lt e.ms (d a).ms):dU Ms.lt (ug (λb=>if b=a then e else d b) k) (ug d k):=by
 have f:ug (λb=>if b=a then e else d b) k=(ug d k).set a e.ms:=by
  refine Xq.ext_getElem? λb=>?_;unfold ug;rw[z_,List.getElem?_set,z_];by_cases h:b<k
  .rw[Xq.getElem?_range h];by_cases c:a=b
   .subst c;simp[g]
   have:¬b=a:=λf=>c f.symm;simp[c,this]
  have:(Xq.range k)[b]?=F:=by simp;omega
  rw[this];by_cases c:a=b
  .omega
  simp[c]
 simp_all [dU.set,ug]
theorem bz.jY{gs':Xu XD}{x:E->aF}(G:cS b q T)(n:bz P U q b T y x)(b1:kg b q e T o j h)(a4:jd y s')(a5:gs'.size=U.size)(a7:∀d,d≠j->0<d->gs'[d]?=U[d]?)
 (hd:∀d,d≠j->Deaf (b++h) d=Deaf b d)(b2:∀d g,0<d->d<U.size->d≠j->(x d).chan=C g->e.heap[g]?=q.heap[g]?)(b6:j<U.size){r:aF}(b8:∀c,0<j->gs'[j]?=C c->cC P j c e (b++h) o s' r)
 (N:∀g,r.chan=C g->∃u,(x j).chan=C u)(a8:∀d,d≠j->0<d->∀a1∈h,a1.g≠d)(b0:∀i,y.tag=C i->fD i.D j q e)
 (b3:∀i,y.tag=C i->dV i (λd=>if d=j then r else x d) gs'.size e o):bz P gs' e (b++h) o s' (λd=>if d=j then r else x d) where
 wg:=λi a2=>b3 i (by rw[a4.2.2]at a2;exact a2)
 ops:=by
  intro d a1 a3;rw[a5];rcases Yf a3 with⟨_,a9⟩|⟨_,b7⟩
  .exact n.ops d a1 a9
  grind
 each:=by
  intro a c O Y;by_cases v:a=j
  .simp_all
  simp only[v,Yq];rw[a7 a v O]at Y;exact(n.each a c O Y).frame G b1 (λa6=>v a6.symm) (hd a v) a4 (λg N=>b2 a g O (XZ.1 Y).1 v N) (a8 a v O) b0
 one:=by
  intro z D g u W X H L p t;rw[a5]at H L;by_cases Z:z=j<;>by_cases a0:D=j
  .omega
  .subst Z;simp only[Ym]at p;simp only[a0,Yq]at t;obtain⟨Q,S⟩:=N g p;exact n.one z D Q u W X H L S t
  .subst a0;simp only[Ym]at t;simp only[Z,Yq]at p;obtain⟨Q,S⟩:=N u t;exact n.one z D g Q W X H L p S
  simp only[Z,Yq]at p;simp only[a0,Yq]at t;exact n.one z D g u W X H L p t
 above:=λd a3=>by rw[hd d (by omega)];exact n.above d (by omega)
theorem mR(g:∀c∈h,∀d,c.act.touch?=C d->False)(l:∀c∈h,∀i,c.act≠.mark (.release i)):kg b q q T T a h where
 norel:=l
 kF:=Xr λc e d f _=>(g c e d f).elim
 size:=Ye _
 os:=A
 out:=A
 heap:=λk _=>Xs (Xs (Xr A))
 old:=λ_ _ _ _=>rfl
 new:=λo k _ m n=>by omega
 touch:=λc e d f _=>(g c e d f).elim
theorem mX{d:XD->XD}{e:XD}(b:E)(g:b≠a)(f:∀c,U[b]?=C c->d c=c):((U.map d).setIfInBounds a e)[b]?=U[b]?:=by grind
theorem mc{b:E}(a:QuitsD P b u c)(h:c.status=.running):∃e d R,b=e+1/\(∀g∈R,XQ.mute g=J)/\(∀f,stepG P Xp c f=.go d f R)/\QuitsD P e (deafBehind u R) d:=by
 cases b with
 |zero=>have:=a.1;simp_all
 |succ b=>
  rcases a with a|⟨_,d,R,i,k,l⟩
  .have:=a.1;rw[h]at this;cases this
  grind
def vf(P:XI)(c:XD):aF->Prop
 |.pr b s d a=>je P b a.S a.ro s a.β a.w c
 |_=>False
def QC(P:XI)(U:Xu XD)(q:K)(sl:Xz (E×E))(b:XO)(T:Loc->Own)(y:bR)(g:E->aF)(a:E)(n:XD):Prop:=
 ∃m f e h o,runT P (crowd U q sl) a=(.next (crowd f e sl),h)/\Ms.lt (aF.ms m) (g a).ms/\f.size=U.size/\(∃i r,f[0]?=C (Go.Conc.woken P i r e n))/\bz P f e (b++h) o y (λp=>if p=a then m else g p)/\cS (b++h) e o/\aG P (b++h) e o 0 y/\Deaf (b++h) 0=Deaf b 0/\aF.pd m=(g a).pd/\(∀l d k,0<l->l<U.size->(g l).chan=C d->(e.heap[d]?=q.heap[d]?/\(LF q d k->LF e d k)))/\(∀c,y.tag=C c->(∃i,WgAt c.D.ty c.D.Wg q i 0)->(∃s,WgAt c.D.ty c.D.Wg e s 1)->f[0]?=C (n.again e))
theorem tN(a:E)(fn:XU)(d:String)(R:Xu XQ):∀b∈XP a fn d R,b.g=a:=λb c=>by obtain⟨e,_,rfl⟩:=Go.Conc.mem_ofEvents c;rfl
theorem jR{f:XD}(g:∀a,y.tag=C a->e.heap[a.D.Wg]?=q.heap[a.D.Wg]?):∀a,y.tag=C a->(∃b,WgAt a.D.ty a.D.Wg q b 0)->(∃d,WgAt a.D.ty a.D.Wg e d 1)->mayWake P c=J/\f.status≠.blocked/\f.status≠.waiting:=by intro a h⟨b,i⟩⟨d,k⟩;have:=(i.of_block (g a h)).unique k;omega
theorem tR{i:E->aF}{u h:XD}(sl:Xz (E×E))(v:bz P U q b T y i)(G:cS b q T)(a5:aG P b q T 0 y)(b6:U[0]?=C u)(c0:0<a)(x:U[a]?=C c)
 (a7:stepG P Xp c q=.go h e R)(s:kg b q e T o a (XP a c.frame.fn c.frame.place R))(m:aF)(a2:Ms.lt m.ms (i a).ms)(c7:cC P a h e (b++XP a c.frame.fn c.frame.place R) o y m)(D:m.pd=(i a).pd)
 (r:∀d g,0<d->d<U.size->(i d).chan=C g->e.heap[g]?=q.heap[g]?)(a6:∀f,y.tag=C f->fD f.D a q e)(a8:∀f,y.tag=C f->dV f (λd=>if d=a then m else i d) U.size e o)
 (c8:∀f,y.tag=C f->(∃L,WgAt f.D.ty f.D.Wg q L 0)->(∃X,WgAt f.D.ty f.D.Wg e X 1)->mayWake P c=J/\h.status≠.blocked/\h.status≠.waiting):QC P U q sl b T y i a u:=by
 have a3:a<U.size:=(XZ.1 x).1;have a1:(a==0)=Xp:=by simp;omega
 have c6:¬a=0:=by omega
 have t:∀d,d≠a->Deaf (b++XP a c.frame.fn c.frame.place R) d=Deaf b d:=λd l=>f_ b (g':=a) (λp=>l p.symm) _ (tN _ _ _ _);refine⟨m,_,e,_,o,J_ (P:=P) (sl:=sl) (i:=a) x (by rw[a1];exact a7),a2,by simp,⟨c,h,?_⟩,?_,G.step s,a5.other (by omega) s,t 0 (by omega),D,λd g k q1 b0 b1=>⟨r d g q1 b0 b1,λ⟨N,O,Q,S,W,b3⟩=>⟨N,O,Q,S,W,by grind⟩⟩,λf w b7 b8=>?_⟩
 rotate_right
 .grind [Go.Conc.woken]
 .simp_all
 refine v.jY G s (jd.refl y) (by simp) (λd l z=>mX d l λb2 H=>(v.each d b2 z H).woken c h λg n=>r d g z (XZ.1 H).1 n) t (λd g Y Z _ a0=>r d g Y Z a0) a3 (λb5 _ b9=>?_) (λg n=>by rw[aF.cD,D,<-aF.cD]at n;exact⟨g,n⟩)
  (λd l _ a9 a4=>by rw[tN _ _ _ _ a9 a4];exactλp=>l p.symm) a6 (λf w=>by simpa using a8 f w)
 simp_all
theorem fJ{p:E->aF}{x:aF}(W:bz P U q b T y p)(a1:kg b q e T o j h)(X:∀t,t<q.heap.size->(T (.obj t)=.sync\/T (.obj t)=.void)->(∀Q N cl L O u,q.heap[t]?≠C (.chan Q N cl L O u))->e.heap[t]?=q.heap[t]?)(a0:x.cnt=(p j).cnt/\x.iO=(p j).iO/\x.wX=(p j).wX)(Z:(∀r,x=.wk r->∃S,p j=.wk S)/\∀r,p j=.wk r->∃S,x=.wk S):
 (∀d,y.tag=C d->fD d.D j q e)/\∀d,y.tag=C d->dV d (λn=>if n=j then x else p n) U.size e o:=by
 have H:∀d,y.tag=C d->e.heap[d.D.Wg]?=q.heap[d.D.Wg]?/\e.heap[d.D.gb]?=q.heap[d.D.gb]?:=by
  intro d i;have v:=W.wg d i;refine⟨X _ v.qa (Xr (v.rS _ (Xr A))) λQ N cl L O u g=>?_,X _ v.ue (Xs v.Ab) λQ N cl L O u g=>?_⟩
  .obtain⟨_,_,D⟩:=v.mode.live;have:q.heap[d.D.Wg]?=_:=D;rw[g]at this;cases this
  obtain⟨_,_,D,_⟩:=v.gb;rw[g]at D;cases D
 refine⟨λd i=>fD.same (H d i).1 (H d i).2,λd i=>(W.wg d i).keep a1 (H d i).1 (λY=>Y.same (H d i).2) (λn=>?_) (λn r g=>?_) λn r g=>?_⟩
 .by_cases z:n=j
  .subst z;simp only[Ym];exact a0
  simp only[z,Yq];simp
 .by_cases z:n=j
  .subst z;simp only[Ym]at g;exact Z.1 r g
  simp only[z,Yq]at g;exact⟨r,g⟩
 grind
theorem dX{fn:XU}{f:String}(g:∀c∈R,∀b,c.loc≠.mark (.release b)):∀d∈XP a fn f R,∀b,d.act≠.mark (.release b):=by
 intro d e b h;obtain⟨c,i,rfl⟩:=Go.Conc.mem_ofEvents e
 grind [fI]
theorem qY{a:XQ}(b:a.mute=J):a.loc=.mark .disable\/a.loc=.mark .enable:=by
 obtain⟨c,d,y⟩:=a;cases c with
 |mark s=>cases s<;>first|(cases b;done)|simp|simp
 |_=>cases b
theorem nP{fn:XU}{g:String}(i:∀c∈R,(XY c).touch?=F)(f:∀c∈R,∀d,c.loc≠.mark (.release d)):kg b q q T T a (XP a fn g R):=
 mR (λl e m k=>by
  obtain⟨c,h,rfl⟩:=Go.Conc.mem_ofEvents e
  simp_all) (dX f)
theorem zd{d:XG}{c f:E}(g:RelBy d b c f){fn:XU}{e:String}(i:∀a∈R,(XY a).touch?=F):RelBy d (b++XP c fn e R) c f:=
 g.appOwn fn e R λj a h=>Xr (i a (YE h))
theorem tK{a b:Ms}(c:a.1<b.1):Ms.lt a b:=by obtain⟨d,e⟩:=a;obtain⟨f,g⟩:=b;exact .left _ _ c
theorem zQ{g:E->aF}{i:aF}(n:a<k):sumTo k (λd=>(if d=a then i else g d:aF).cnt)+(g a).cnt=sumTo k (λd=>(g d).cnt)+i.cnt:=
 Go.ConcN.sumTo_upd g i aF.cnt n
theorem dV.zP{b:dv}{c:E->aF}(e:dV b c k q T):sumTo k (λd=>(c d).cnt)<=b.hi-b.lo:=by
 have one:∀a,a<k->(c a).cnt<=if b.lo<=a/\a<b.hi then 1 else 0:=by
  intro a l;rcases Yp a with rfl|h
  .rw[e.zero];exact YH _
  have f:=e.Io a;generalize c a=n at f;cases n with
  |wk g=>rw[XN (f g h l A)];cases g<;>simp only[aF.cnt,nK.cnt]<;>(try split)<;>omega
  |_=>simp[aF.cnt]
 have r:∀j,j<=k->sumTo j (λd=>(c d).cnt)<=min j b.hi-b.lo:=by
  intro j
  induction j with
  |zero=>intro _;simp[sumTo]
  |succ j m=>intro p;have o:=m (by omega);have i:=one j (by omega);simp only[sumTo];split at i<;>omega
 grind
theorem zP(b:E->aF)(k:E):sumTo k (λa=>(b a).cnt)<=k:=by
 have:=Go.ConcN.sumTo_le (f:=λa=>(b a).cnt) (c:=1) (j:=k) λa _=>by
  show(b a).cnt<=1;generalize b a=c;cases c with
  |wk d=>cases d<;>simp only[aF.cnt,nK.cnt]<;>(try split)<;>omega
  |_=>simp[aF.cnt]
 omega
theorem Su{f:dv}{x:E->aF}{u:E}{fn:XU}{w:String}(g:dV f x k q T)(o:∀c∈R,(XY c).touch?=F\/∃d wr,c=⟨.cell d,wr,J⟩/\d.block=f.D.Wg)(t:∀c∈R,∀p,c.loc≠.mark (.release p)):
 kg b q (q.setCell ⟨f.D.Wg,u,F⟩ l) T T a (XP a fn w R) where
 size:=by simp
 os:=A
 out:=A
 heap:=λn D=>by
  by_cases r:n=f.D.Wg
  .subst r;exact Xs (Xr (Xr (g.rS _ (Xr A))))
  grind [Go.RowKit.Below.heap_setCell]
 old:=λ_ _ _ _=>rfl
 new:=λH n _ e z=>by grind [World.size_setCell]
 touch:=λv m y h s=>by
  obtain⟨c,i,rfl⟩:=Go.Conc.mem_ofEvents m;rcases o c i with e|⟨d,wr,rfl,e⟩
  .simp_all
  simp[XY,MemAct.touch?]at h;subst h;refine⟨A,f.D.Wg,Xs ⟨d,A,e⟩,by rw[K.size_setCell];exact g.qa,Xs ⟨g.qa,Xs (Xs ⟨g.rS _ (Xs ⟨d,A,e⟩),Xr A⟩)⟩⟩
 norel:=dX t
 kF:=Xr λv m y h s=>by
  obtain⟨c,i,rfl⟩:=Go.Conc.mem_ofEvents m;rcases o c i with e|⟨d,wr,rfl,e⟩
  .simp_all
  simp[XY,MemAct.touch?]at h;subst h;exact g.rS _ (Xs ⟨d,A,e⟩)
theorem BG{d:dv}{g:E->aF}{l:aF}{r x:nK}(b:dV d g k q T)(a5:0<a)(t:g a=.wk r)(R:l=.wk x)(a3:fD d.D a q e)(H:uc d.D e)(N:ud d.D e)(m:∀f h,az f h->h<q.heap.size->o f=T f)(L:Jc d.D e o)(Q:ee d (λc=>if c=a then l else g c) k e (sumTo k λc=>(if c=a then l else g c:aF).cnt))(O:a<k)(a4:x.cnt<=r.cnt):dV d (λc=>if c=a then l else g c) k e o where
 zero:=by have:¬0=a:=by omega
          simp only[this,Yq];exact b.zero
 mode:=Q
 rS:=λf n=>by rw[m f _ n b.qa];exact b.rS f n
 Ab:=by rw[m _ _ (.inl A) b.ue];exact b.Ab
 own:=λc w y z p u v D=>by
  rw[m (.cell ⟨d.D.gb,u,v⟩) d.D.gb (.inr ⟨_,A,A⟩) b.ue];by_cases i:c=a
  .subst i;exact b.own c r y z t u v D
  simp only[i,Yq]at p;exact b.own c w y z p u v D
 gb:=H
 gv:=N
 Lj:=by rw[m _ _ (.inl A) b.Us];exact b.Lj
 ne:=b.ne
 apart:=b.apart
 yG:=b.yG
 bound:=by
  have Z:=zQ (g:=g) (i:=l) O;have a0:l.cnt=x.cnt:=by rw[R];rfl
  have a1:(g a).cnt=r.cnt:=by rw[t];rfl
  have a2:=b.bound;omega
 ub:=⟨b.ub.1,b.ub.2.1,b.ub.2.2.1,λc s h=>by
  by_cases i:c=a
  .simp_all
  simp only[i,Yq];exact b.ub.2.2.2 c s h⟩
 Io:=λc w s h p=>by
  by_cases i:c=a
  .subst i;exact b.Io c r s h t
  simp only[i,Yq]at p;exact b.Io c w s h p
 gh:=L
 Li:=λf n=>by rw[m f _ n b.ue];exact b.Li f n
theorem AV{d:dv}{t:E->aF}(g:dV d t k q T){i:E}(r:WgLive d.D.ty d.D.Wg (q.setCell ⟨d.D.Wg,i,F⟩ l)):fD d.D a q (q.setCell ⟨d.D.Wg,i,F⟩ l)/\uc d.D (q.setCell ⟨d.D.Wg,i,F⟩ l):=
 ⟨⟨λ_=>r,λn x v p=>⟨n,(Go.RowKit.Below.heap_setCell q _ l _ g.ne).trans p,A,λ_ _ _ _=>rfl⟩⟩,g.gb.same (Go.RowKit.Below.heap_setCell q _ l _ g.ne)⟩
theorem og{a:dv}{e:E->aF}(c:dV a e k q T){d:E}{cl:bD}(b:dq a.D f m cl q):dq a.D f m cl (q.setCell ⟨a.D.Wg,d,F⟩ l):=b.same (Go.RowKit.Below.heap_setCell q _ l _ c.ne)
theorem KI{c:dv}{s:E->aF}{m:bR}(o:dV c s k q T)(g:aG P b q T a m){i:E}(r:kg b q (q.setCell ⟨c.D.Wg,i,F⟩ l) T T a h):aG P (b++h) (q.setCell ⟨c.D.Wg,i,F⟩ l) T a m:=
 g.stay r λn f p=>Go.RowKit.Below.heap_setCell q _ l f λd=>by have d:f=c.D.Wg:=d;subst d;rcases g.dz n _ p _ (Xr A)with e|⟨e,_⟩<;>(rw[o.rS _ (.inl A)]at e;cases e)
theorem QO{l:E->aF}{m:XD}{d:dv}{s f:E}{cl:bD}{h:bR}(sl:Xz (E×E))(n:bz P U q b T y l)(G:cS b q T)(W:aG P b q T 0 y)(u:U[0]?=C m)(N:0<a)(L:U[a]?=C c)(S:c.status=.running)
 (g:l a=.wk (.quit s f cl h))(H:y.tag=C d)(Q:uR d.D a cl)(O:EN P d.D d.fin a c q b T (.quit s f cl h)):QC P U q sl b T y l a m:=by
 obtain⟨v,w,x,z,D⟩:=O;obtain⟨t,a2,R,rfl,q1,Z,a3⟩:=mc D S;have r:∀e∈R,(XY e).touch?=F:=λe i=>touch_mute (q1 e i)
 have k:kg b q q T T a (XP a c.frame.fn c.frame.place R):=nP r λe i a1 o=>by rcases qY (q1 e i)with p|p<;>(rw[p]at o;cases o)
 obtain⟨X,Y⟩:=fJ (x:=.wk (.quit t f cl h)) n k (λ_ _ _ _=>rfl) (by rw[g];exact⟨A,A,A⟩) ⟨λa0 _=>⟨_,g⟩,λa0 _=>⟨_,A⟩⟩;refine tR sl n G W u N L (Z q) k (.wk (.quit t f cl h)) (by rw[g];exact .right _ (.left _ _ (ZI _))) ⟨d,H,Q,zd v r,w.stay k λ_ _ _=>rfl,x,z,?_⟩ (by rw[g];rfl) (λ_ _ _ _ _=>rfl) X Y (jR λ_ _=>rfl);simp_all [a_]
theorem IW{p:E->aF}{c8:XD}{d:dv}{r S:E}{cl:bD}{Q:bR}(sl:Xz (E×E))(z:bz P U q b T y p)(G:cS b q T)(h8:aG P b q T 0 y)(g7:U[0]?=C c8)(a2:0<a)(f3:U[a]?=C c)(m3:c.status=.running){a7:nK}
 (b5:p a=.wk a7)(j6:9-r<(p a).ms.1\/a7=.done r s S cl Q)(H:a7.cnt=(nK.done r s S cl Q).cnt/\a7.iO=(nK.done r s S cl Q).iO/\a7.wX=(nK.done r s S cl Q).wX)(c9:y.tag=C d)(h6:uR d.D a cl)(j9:EN P d.D d.fin a c q b T (.done r s S cl Q)):QC P U q sl b T y p a c8:=by
 have a3:=(XZ.1 f3).1;have D:=z.wg d c9;obtain⟨j3,b0,hrel,h9,c0,c6,d3⟩:=j9
 have h5:∀n:Ms,n.1<9-r\/(n.1=9-r/\n.2.1<s)->Ms.lt n (p a).ms:=by
  intro n d4;rcases j6 with a8|a8
  .exact tK (by rcases d4 with z|⟨z,_⟩<;>omega)
  rw[b5,a8];obtain⟨i5,i6,i7⟩:=n;rcases d4 with z|⟨z,g6⟩
  .exact .left _ _ z
  simp only at z g6;subst z;exact .right _ (.left _ _ g6)
 have e5:∀(t:nK)(b7:XD)(R:Xu XQ),stepG P Xp c q=.go b7 q R->(∀g∈R,(XY g).touch?=F\/∃N wr,g=⟨.cell N,wr,J⟩/\N.block=d.D.Wg)->(∀g∈R,∀n,g.loc≠.mark (.release n))->
  ((aF.wk t).ms.1<9-r\/((aF.wk t).ms.1=9-r/\(aF.wk t).ms.2.1<s))->t.cl=cl->t.cnt<=a7.cnt->ee d (λj=>if j=a then .wk t else p j) U.size q (sumTo U.size λj=>(if j=a then .wk t else p j:aF).cnt)->
  (∀(h:XO),h=XP a c.frame.fn c.frame.place R->aG P (b++h) q T a Q->EN P d.D d.fin a b7 q (b++h) T t)->QC P U q sl b T y p a c8:=by
  intro t b7 R X a5 f4 d4 g0 f2 e1 f9
  have d1:kg b q q T T a (XP a c.frame.fn c.frame.place R):=by
   refine⟨Ye _,A,λv _=>Xs (Xs (Xr A)),λ_ _ _ _=>rfl,λm4 v _ x a8=>by omega,λk9 f5 l2 b8 b3=>?_,dX f4,Xr λk9 f5 l2 b8 b3=>?_,A⟩
   rotate_left
   .obtain⟨g,i,rfl⟩:=Go.Conc.mem_ofEvents f5;rcases a5 g i with x|⟨N,wr,rfl,x⟩
    .rw[x]at b8;cases b8
    simp[XY,MemAct.touch?]at b8;subst b8;exact D.rS _ (Xs ⟨N,A,x⟩)
   obtain⟨g,i,rfl⟩:=Go.Conc.mem_ofEvents f5;rcases a5 g i with x|⟨N,wr,rfl,x⟩
   .rw[x]at b8;cases b8
   simp[XY,MemAct.touch?]at b8;subst b8;exact⟨A,d.D.Wg,Xs ⟨N,A,x⟩,D.qa,Xs ⟨D.qa,Xs (Xs ⟨D.rS _ (Xs ⟨N,A,x⟩),Xr A⟩)⟩⟩
  refine tR sl z G h8 g7 a2 f3 X d1 (.wk t) (h5 _ d4) ⟨d,c9,by rw[g0];exact h6,f9 _ A (h9.stay d1 λ_ _ _=>rfl)⟩ (by rw[b5];rfl) (λ_ _ _ _ _=>rfl) (λd9 a9=>fD.same A rfl) (λd9 a9=>?_) (jR λ_ _=>rfl);rw[c9]at a9;cases a9;exact BG D a2 b5 A (fD.same A rfl) D.gb D.gv (λ_ _ _ _=>rfl) D.gh e1 a3 f2
 have jY:∀(t:nK)(b7:XD)(R:Xu XQ)(b9:E)(l:Xn),stepG P Xp c q=.go b7 (q.setCell ⟨d.D.Wg,b9,F⟩ l) R->(∀g∈R,(XY g).touch?=F\/∃N wr,g=⟨.cell N,wr,J⟩/\N.block=d.D.Wg)->(∀g∈R,∀n,g.loc≠.mark (.release n))->
  (aF.wk t).ms.1<9-r->((∃v,WgAt d.D.ty d.D.Wg (q.setCell ⟨d.D.Wg,b9,F⟩ l) v 0)\/(mayWake P c=J/\b7.status≠.blocked/\b7.status≠.waiting))->t.cl=cl->t.cnt<=a7.cnt->ee d (λj=>if j=a then .wk t else p j) U.size (q.setCell ⟨d.D.Wg,b9,F⟩ l) (sumTo U.size λj=>(if j=a then .wk t else p j:aF).cnt)->
  (∀(h:XO),h=XP a c.frame.fn c.frame.place R->aG P (b++h) (q.setCell ⟨d.D.Wg,b9,F⟩ l) T a Q->EN P d.D d.fin a b7 (q.setCell ⟨d.D.Wg,b9,F⟩ l) (b++h) T t)->QC P U q sl b T y p a c8:=by
  intro t b7 R b9 l X a5 f4 d4 f6 g0 f2 e1 f9;have d1:kg b q (q.setCell ⟨d.D.Wg,b9,F⟩ l) T T a (XP a c.frame.fn c.frame.place R):=Su D a5 f4;obtain⟨i3,l1⟩:=AV (a:=a) (i:=b9) (l:=l) D e1.live
  refine tR sl z G h8 g7 a2 f3 X d1 (.wk t) (h5 _ (Xr d4)) ⟨d,c9,by rw[g0];exact h6,f9 _ A (KI D h9 d1)⟩ (by rw[b5];rfl) (λj L O j1 d0=>Go.RowKit.Below.heap_setCell q _ l L λg=>?_) (λd9 a9=>by rw[c9]at a9;cases a9;exact i3) (λd9 a9=>?_) (λd9 a9 _⟨v,i9⟩=>by
   rw[c9]at a9;cases a9;rcases f6 with⟨L,d0⟩|f6
   .have:=(d0.unique i9).2;omega
   exact f6)
  .have g:L=d.D.Wg:=g;subst g;rw[aF.cD]at d0;cases b4:(p j).pd with
   |none=>rw[b4]at d0;cases d0
   |some g2=>
    rw[b4]at d0;obtain⟨_,_,k5⟩:=D.mode.live;have e4:q.heap[d.D.Wg]?=_:=k5;have e2:=z.each j _ O (Yb j1)
    have:∃n v L u g d5,q.heap[g2.rc]?=C (.chan n v L u g d5):=by
     generalize p j=l0 at e2 b4;cases l0 with
     |lv c7=>cases b4
     |wk t=>cases b4
     |pr g3 s d Q=>cases b4;obtain⟨_,_,⟨i2,g4,a0⟩,_⟩:=e2;exact⟨_,_,_,_,_,_,a0.heap⟩
     |pb g3 s d Q l6 m9 n1=>cases b4;obtain⟨_,_,_,⟨i2,g4,a0,_⟩,_⟩:=e2;exact⟨_,_,_,_,_,_,a0.heap⟩
     |pq g3 c7=>cases b4;obtain⟨⟨i2,g4,a0⟩,_⟩:=e2;exact⟨_,_,_,_,_,_,a0.heap⟩
    obtain⟨i5,i6,i7,l3,l4,l5,a0⟩:=this;have j0:g2.rc=d.D.Wg:=YR d0;rw[j0,e4]at a0;cases a0
  rw[c9]at a9;cases a9;exact BG D a2 b5 A i3 l1 (D.gv.step d1 D.Lj) (λ_ _ _ _=>rfl) (D.gh.step d1) e1 a3 f2
 have same:∀(t:nK),t.cnt=a7.cnt->t.iO=a7.iO->t.wX=a7.wX->ee d (λj=>if j=a then .wk t else p j) U.size q (sumTo U.size λj=>(if j=a then .wk t else p j:aF).cnt):=by
  intro t x a8 a0
  have e8:(λj=>(if j=a then .wk t else p j:aF).cnt)=λj=>(p j).cnt:=by
   funext j;by_cases O:j=a
   .subst O;simp only[Ym,b5];exact x
   simp only[O,Yq]
  rw[e8];refine D.mode.same A λj=>?_;by_cases O:j=a
  .subst O;simp only[Ym,b5];exact⟨a8,a0⟩
  simp only[O,Yq];simp
 have e0:(p a).cnt=a7.cnt:=by rw[b5];rfl
 have d2:(p a).iO=a7.iO:=by rw[b5];rfl
 have f7:(p a).wX=a7.wX:=by rw[b5];rfl
 have k8:∀Z W,Z<s->stepG P Xp c q=.go W q #[]->Go.Conc.Goes P Xp (Go.SimW.RL d.D.ty d.D.Wg) Go.ConcR.DC0 (Go.SimW.QX P d.D.ty d.D.Wg r) Z W q->QC P U q sl b T y p a c8:=by
  intro Z W j5 X b2;refine e5 (.done r Z S cl Q) W #[] X (by simp) (by simp) (Xs ⟨A,j5⟩) A (l_ H.1.symm) (same _ H.1.symm H.2.1.symm H.2.2.symm) λh a1 Y=>?_;have k3:b++h=b:=by rw[a1];simp[XP]
  rw[k3]at Y⊢
  exact⟨j3,b0,hrel,Y,c0,c6,b2⟩
 have g1:(p a).iO=1->(p a).wX=r->(∀j,0<j->j<U.size->j≠a->(p j).iO=0)/\sumTo U.size (λr=>(p r).cnt)=0/\WgAt d.D.ty d.D.Wg q (if r<=4 then 1 else 0) 0:=by
  intro x a8;have b3:=D.mode;generalize g9:(sumTo U.size λr=>(p r).cnt)=V at b3;cases b3 with
  |opn n w v L=>rw[v a a2 a3]at x;cases x
  |reg n i4 v L=>rw[v a a2 a3]at x;cases x
  |fin n v L=>rw[v a a2 a3]at x;cases x
  |Cn n v L=>rw[v a a2 a3]at x;cases x
  |last i1 n v L u g d5=>
   have:a=i1:=Classical.byContradiction λj8=>by rw[u a a2 a3 j8]at x;cases x
   subst this;exact⟨u,A,by rw[a8]at d5;exact d5⟩
 have e6:∀t:aF,t.cnt=0->sumTo U.size (λr=>(p r).cnt)=0->(p a).cnt=0->sumTo U.size (λj=>(if j=a then t else p j:aF).cnt)=0:=λt x a8 a0=>by have:=zQ (g:=p) (i:=t) a3;omega
 have f0:(p a).iO=1->d.wt=1:=by
  intro x;have b3:=D.mode;generalize g9:(sumTo U.size λr=>(p r).cnt)=V at b3;cases b3 with
  |opn n w v L=>rw[v a a2 a3]at x;cases x
  |reg n i4 v L=>exact n
  |fin n v L=>exact n
  |Cn n v L=>rw[v a a2 a3]at x;cases x
  |last i1 n v L u g d5=>exact n
 have stop:Go.SimW.QX P d.D.ty d.D.Wg r c q->QC P U q sl b T y p a c8:=by
  intro a4;have j2:r=0\/r=1\/r=2\/r=3\/r=4\/r=5:=by omega
  rcases j2 with rfl|rfl|rfl|rfl|rfl|rfl
  ·
   obtain⟨_,W,X,Z,b2⟩:=a4;refine e5 (.done 1 Z b.size cl Q) W _ X (λg i=>?_) (λg i n f1=>?_) (Xr (by show 9-1<9-0;omega)) A (l_ H.1.symm) (same _ H.1.symm H.2.1.symm (H.2.2.symm)) λh a1 Y=>?_
   .simp[Go.ConcR.mk]at i;subst i;exact Xr A
   .simp[Go.ConcR.mk]at i;subst i;cases f1
   subst a1;refine⟨by omega,?_,λ_=>RelBy.new (by simpa using b0) _ _,Y,c0,c6,b2⟩;rw[a_,b0];rfl
  .obtain⟨_,W,X,Z,b2⟩:=a4;refine e5 (.done 2 Z S cl Q) W _ X (λg i=>?_) (λg i n f1=>?_) (Xr (by show 9-2<9-1;omega)) A (l_ H.1.symm) (same _ H.1.symm H.2.1.symm (H.2.2.symm)) λh a1 Y=>?_
   .simp[Go.ConcR.mk]at i;subst i;exact Xr A
   .simp[Go.ConcR.mk]at i;subst i;cases f1
   subst a1;refine⟨by omega,?_,λ_=>zd (hrel (by omega)) (λg i=>by simp[Go.ConcR.mk]at i;subst i;rfl),Y,c0,c6,b2⟩;rw[a_,b0];rfl
  ·
   obtain⟨_,a4⟩:=a4;have l7:(p a).cnt=1:=by rw[e0,H.1];rfl
   have m0:(p a).iO=0:=by rw[d2,H.2.1];rfl
   have e3:∀t:aF,t.cnt=0->sumTo U.size (λj=>(if j=a then t else p j:aF).cnt)+1=sumTo U.size λr=>(p r).cnt:=λt e4=>by have:=zQ (g:=p) (i:=t) a3;omega
   have kF:∀g∈#[Go.ConcR.rd (stA d.D.Wg),Go.ConcR.wr (stA d.D.Wg)],((XY g).touch?=F\/∃N wr,g=⟨.cell N,wr,J⟩/\N.block=d.D.Wg)/\∀n,g.loc≠.mark (.release n):=by intro g i;simp[Go.ConcR.rd,Go.ConcR.wr]at i;rcases i with rfl|rfl<;>exact⟨Xs ⟨_,_,A,A⟩,λn z=>by cases z⟩
   have h3:Deaf b a=1:=b0
   have h2:RelBy (stA d.D.Wg) (b++XP a c.frame.fn c.frame.place #[Go.ConcR.rd (stA d.D.Wg),Go.ConcR.wr (stA d.D.Wg)]) a S:=(hrel (by omega)).appOwn _ _ _ λj g i=>by
    have O:j=0\/j=1:=by have:=(XZ.1 i).1;simp at this;omega
    rcases O with rfl|rfl<;>(simp[Go.ConcR.rd,Go.ConcR.wr]at i;subst i;exact Xs ⟨⟨_,_,A⟩,by rw[h3];exact E.one_pos⟩)
   have h4:Deaf (b++XP a c.frame.fn c.frame.place #[Go.ConcR.rd (stA d.D.Wg),Go.ConcR.wr (stA d.D.Wg)]) a=1:=by rw[a_,h3];rfl
   have l8:=D.zP;have l9:=D.yG
   have g5:∀(l a6 pd:E),a6<=1->pd<=1->(a6=1->pd=0)->(a6=0->d.pend=pd)->l+1=sumTo U.size (λr=>(p r).cnt)+pd->WgAt d.D.ty d.D.Wg q ((l+1)*KK+a6) 0->d.wt=a6->(∀j,0<j->j<U.size->(p j).iO=0)->QC P U q sl b T y p a c8:=by
    intro l a6 pd k7 m1 k6 k1 k4 i0 g8 h0;obtain⟨W,X,j4,k2⟩:=a4 l a6 k7 (by omega) i0;have b6:WgAt d.D.ty d.D.Wg (q.setCell ⟨d.D.Wg,0,F⟩ (.int .u64 ((l:Xt)*KK+a6))) ((l:Xt)*KK+a6) 0:=i0.setSt ((l:Xt)*KK+a6);by_cases f8:l=0/\a6=1
    .obtain⟨Z,b2⟩:=j4 f8;refine jY (.done 3 Z S cl Q) W _ 0 _ X (λg i=>(kF g i).1) (λg i=>(kF g i).2) (by show 9-3<9-2;omega) (Xr ⟨_,b6⟩) A (YH _) ?_ λh a1 Y=>?_
     .have e7:sumTo U.size (λj=>(if j=a then aF.wk (.done 3 Z S cl Q)else p j:aF).cnt)=0:=by
       have:=e3 (.wk (.done 3 Z S cl Q)) A;omega
      rw[e7];refine .last a (by omega) a2 a3 (λj n v L=>by simp only[L,Yq];exact h0 j n v) (by simp only[Ym];rfl) ?_;obtain⟨rfl,rfl⟩:=f8;simpa[aF.wX,nK.wX]using b6
     subst a1;exact⟨by omega,h4,λ_=>h2,Y,og D c0,c6,b2⟩
    obtain⟨c7,d7⟩:=k2 f8;refine jY (.quit c7 S cl Q) W _ 0 _ X (λg i=>(kF g i).1) (λg i=>(kF g i).2) (by show 1<9-2;omega) (Xr ⟨_,b6⟩) A (YH _) ?_ λh a1 Y=>?_
    .have e7:sumTo U.size (λj=>(if j=a then aF.wk (.quit c7 S cl Q)else p j:aF).cnt)=l-pd:=by
      have:=e3 (.wk (.quit c7 S cl Q)) A;omega
     rw[e7]
     have h1:∀j,0<j->j<U.size->(if j=a then aF.wk (.quit c7 S cl Q)else p j:aF).iO=0:=λj n v=>by
      by_cases O:j=a
      .simp only[O,Ym];rfl
      simp only[O,Yq];exact h0 j n v
     obtain rfl|rfl:a6=0\/a6=1:=by omega
     .have h7:=k1 A;refine .opn g8 (by omega) h1 ?_;have m2:1<=sumTo U.size λr=>(p r).cnt:=by have:=e3 (.lv 0) A;omega
      have e9:((l-pd+d.pend:E):Xt)=(l:Xt):=by omega
      rw[e9];simpa using b6
     have h7:=k6 A;subst h7;exact .reg g8 (by omega) h1 (by simpa using b6)
    subst a1;exact⟨h2,Y,og D c0,c6,by rw[h4];exact d7⟩
   have k0:1<=sumTo U.size λr=>(p r).cnt:=by have:=e3 (.lv 0) A;omega
   have b3:=D.mode;generalize g9:(sumTo U.size λr=>(p r).cnt)=V at b3 k0;obtain⟨l,rfl⟩:∃l,V=l+1:=⟨V-1,by omega⟩;cases b3 with
   |opn x b4 a8 a0=>exact g5 (l+d.pend) 0 d.pend (by omega) b4 (by omega) (λ_=>rfl) (by omega) (by
     have e9:((l+d.pend:E):Xt)+1=((l+1+d.pend:E):Xt):=by omega
     rw[e9];simpa using a0) x a8
   |reg x k4 a8 a0=>exact g5 l 1 0 (by omega) (by omega) (by omega) (by omega) (by omega) (by simpa using a0) x a8
  .obtain⟨_,a4⟩:=a4;obtain⟨d6,d8,b1⟩:=g1 (by rw[d2,H.2.1];rfl) (by rw[f7,H.2.2];rfl);obtain⟨W,X,Z,b2⟩:=a4 (by simpa using b1)
   have a5:∀g∈#[Go.ConcR.rd (stA d.D.Wg)],((XY g).touch?=F\/∃N wr,g=⟨.cell N,wr,J⟩/\N.block=d.D.Wg)/\∀n,g.loc≠.mark (.release n):=by intro g i;simp[Go.ConcR.rd]at i;subst i;exact⟨Xs ⟨_,_,A,A⟩,λn z=>by cases z⟩
   refine e5 (.done 4 Z S cl Q) W _ X (λg i=>(a5 g i).1) (λg i=>(a5 g i).2) (Xr (by show 9-4<9-3;omega)) A (YH _) ?_ λh a1 Y=>?_
   .rw[e6 _ A d8 (by rw[e0,H.1];rfl)];exact .last a (f0 (by rw[d2,H.2.1];rfl)) a2 a3 (λj n v L=>by simp only[L,Yq];exact d6 j n v L) (by simp only[Ym];rfl) (by simp only[Ym];simpa[aF.wX,nK.wX]using b1)
   subst a1
   exact⟨by omega,by rw[a_,b0];rfl,λ_=>(hrel (by omega)).appOwn _ _ _ (λj g i=>by
    have O:j=0:=by have:=(XZ.1 i).1;simp at this;omega
    subst O;simp[Go.ConcR.rd]at i;subst i
    exact Xs ⟨⟨_,_,A⟩,by rw[b0];exact E.one_pos⟩),Y,c0,c6,b2⟩
  .obtain⟨_,a4⟩:=a4;obtain⟨d6,d8,b1⟩:=g1 (by rw[d2,H.2.1];rfl) (by rw[f7,H.2.2];rfl);have b1:WgAt d.D.ty d.D.Wg q 1 0:=by simpa using b1
   obtain⟨W,X,Z,b2⟩:=a4 b1;have b6:WgAt d.D.ty d.D.Wg (q.setCell ⟨d.D.Wg,0,F⟩ (.int .u64 0)) 0 0:=b1.setSt 0
   have a5:∀g∈#[Go.ConcR.wr (stA d.D.Wg)],((XY g).touch?=F\/∃N wr,g=⟨.cell N,wr,J⟩/\N.block=d.D.Wg)/\∀n,g.loc≠.mark (.release n):=by intro g i;simp[Go.ConcR.wr]at i;subst i;exact⟨Xs ⟨_,_,A,A⟩,λn z=>by cases z⟩
   refine jY (.done 5 Z S cl Q) W _ 0 _ X (λg i=>(a5 g i).1) (λg i=>(a5 g i).2) (by show 9-5<9-4;omega) (Xr ⟨_,b6⟩) A (YH _) ?_ λh a1 Y=>?_
   .rw[e6 _ A d8 (by rw[e0,H.1];rfl)];exact .last a (f0 (by rw[d2,H.2.1];rfl)) a2 a3 (λj n v L=>by simp only[L,Yq];exact d6 j n v L) (by simp only[Ym];rfl) (by simp only[Ym];simpa[aF.wX,nK.wX]using b6)
   subst a1
   exact⟨by omega,by rw[a_,b0];rfl,λ_=>(hrel (by omega)).appOwn _ _ _ (λj g i=>by
    have O:j=0:=by have:=(XZ.1 i).1;simp at this;omega
    subst O;simp[Go.ConcR.wr]at i;subst i
    exact Xs ⟨⟨_,_,A⟩,by rw[b0];exact E.one_pos⟩),Y,og D c0,c6,b2⟩
  obtain⟨_,j7,a4⟩:=a4;obtain⟨d6,d8,b1⟩:=g1 (by rw[d2,H.2.1];rfl) (by rw[f7,H.2.2];rfl);have b1:WgAt d.D.ty d.D.Wg q 0 0:=by simpa using b1
  obtain⟨W,X,c7,d7⟩:=a4 b1;have b6:WgAt d.D.ty d.D.Wg (q.setCell ⟨d.D.Wg,1,F⟩ (.int .u32 1)) 0 1:=b1.setSm 1
  have a5:∀g∈semEvents (smA d.D.Wg),((XY g).touch?=F\/∃N wr,g=⟨.cell N,wr,J⟩/\N.block=d.D.Wg)/\∀n,g.loc≠.mark (.release n):=by
   intro g i;simp[semEvents]at i;rcases i with rfl|rfl|rfl|rfl
   .exact⟨Xr A,λn z=>by cases z⟩
   .exact⟨Xs ⟨_,_,A,A⟩,λn z=>by cases z⟩
   .exact⟨Xs ⟨_,_,A,A⟩,λn z=>by cases z⟩
   exact⟨Xr A,λn z=>by cases z⟩
  refine jY (.quit c7 S cl Q) W _ 1 _ X (λg i=>(a5 g i).1) (λg i=>(a5 g i).2) (by show 1<9-5;omega) (Xs ⟨j7,by rcases d7.status with z|z<;>(rw[z];simp),by rcases d7.status with z|z<;>(rw[z];simp)⟩) A (YH _) ?_ λh a1 Y=>?_
  .rw[e6 _ A d8 (by rw[e0,H.1];rfl)];refine .fin (f0 (by rw[d2,H.2.1];rfl)) (λj n v=>?_) b6;by_cases O:j=a
   .simp only[O,Ym];rfl
   simp only[O,Yq];exact d6 j n v O
  subst a1;refine⟨(hrel (by omega)).appOwn _ _ _ (λj g i=>?_),Y,og D c0,c6,by rw[a_,b0];exact d7⟩;have O:j=0\/j=1\/j=2\/j=3:=by have:=(XZ.1 i).1;simp[semEvents]at this;omega
  rcases O with rfl|rfl|rfl|rfl<;>(simp[semEvents]at i;subst i)
  .exact Xr A
  .exact Xs ⟨⟨_,_,A⟩,by rw[b0];simp[semEvents,deafBehind]⟩
  .exact Xs ⟨⟨_,_,A⟩,by rw[b0];simp[semEvents,deafBehind]⟩
  exact Xr A
 cases s with
 |zero=>exact stop (d3 q (Go.SimW.RL.refl q))
 |succ s=>
  rcases d3 with d3|⟨_,d3⟩
  .exact stop (d3 q (Go.SimW.RL.refl q))
  have e4:=d3 q (Go.SimW.RL.refl q);obtain⟨W,n0,R,e8,⟨rfl,rfl⟩,i8⟩:=aaR e4;exact k8 s W (ZI s) e8 i8
theorem QP{v:E->aF}{b3:XD}{h:dv}{cl:bD}{b0:Tr}{p:bR}(sl:Xz (E×E))(n:bz P U q b T y v)(G:cS b q T)(c6:aG P b q T 0 y)(b4:U[0]?=C b3)(W:0<a)(a6:U[a]?=C c)(g3:c.status=.running)
 (t:v a=.wk (.work s cl b0 p))(S:y.tag=C h)(b9:uR h.D a cl)(g1:EN P h.D h.fin a c q b T (.work s cl b0 p)):QC P U q sl b T y v a b3:=by
 have b7:=(XZ.1 a6).1;have d:=n.wg h S;obtain⟨_,a1,O,b5,d6⟩:=g1
 have e0:∀(L:nK)(e:K),L.cnt=1->L.iO=0->L.wX=0->e.heap[h.D.Wg]?=q.heap[h.D.Wg]?->ee h (λj=>if j=a then .wk L else v j) U.size e (sumTo U.size λj=>(if j=a then .wk L else v j:aF).cnt):=by
  intro L e a5 o k e9
  have b2:(λj=>(if j=a then .wk L else v j:aF).cnt)=λj=>(v j).cnt:=by
   funext j;by_cases a7:j=a
   .subst a7;simp only[Ym,t];exact a5
   simp only[a7,Yq]
  rw[b2];refine d.mode.same e9 λj=>?_;by_cases a7:j=a
  .subst a7;simp only[Ym,t];exact⟨o,k⟩
  simp_all
 have e3:∀f r,0<f->f<U.size->(v f).chan=C r->∃x l u i a4 c,q.heap[r]?=C (.chan x l u i a4 c)/\T (.obj r)=.sync:=by
  intro f r z a8 N;rw[aF.cD]at N;cases g:(v f).pd with
  |none=>simp_all
  |some h6=>
   rw[g]at N;cases N;have a9:=n.each f _ z (Yb a8);generalize v f=h1 at a9 g;cases h1 with
   |lv g8=>cases g
   |wk L=>cases g
   |pr c9 s h p=>cases g;obtain⟨_,_,⟨d9,d0,k⟩,_⟩:=a9;exact⟨_,_,_,_,_,_,k.heap,k.own⟩
   |pb c9 s h p i3 j3 j5=>cases g;obtain⟨_,_,_,⟨d9,d0,k,_⟩,_⟩:=a9;exact⟨_,_,_,_,_,_,k.heap,k.own⟩
   |pq c9 g8=>cases g;obtain⟨⟨d9,d0,k⟩,_⟩:=a9;exact⟨_,_,_,_,_,_,k.heap,k.own⟩
 have stop:kZ P h.D (h.fin a) a p.S p.ro s cl p.β p.w c->QC P U q sl b T y v a b3:=by
  intro d3;cases s with
  |zero=>obtain⟨_,⟨g6,f5⟩,f3⟩:=d3;exact IW sl n G c6 b4 W a6 g3 (r:=0) (s:=g6) (S:=0) (cl:=cl) (Q:=p) t (Xr (by rw[t];show 9-0<0+10;omega)) ⟨A,A,A⟩ S b9 ⟨by omega,a1,λn=>absurd n (by omega),O,b5,f3,f5 q d.mode.live⟩
  |succ s=>
   obtain⟨_,Q,h3,e1,e4,d7,b6,f1,g4,c7,f7⟩:=d3;obtain⟨e,R,b2,g,f2⟩:=c7 q d.gb;obtain⟨e2,e8⟩:=f7.tree;have d2:∀i∈R,∃f,f<e1.size/\i=⟨.cell ⟨h.D.gb,Q+f,F⟩,J,Xp⟩:=f2
   have f9:∀i∈R,∀x,i.loc≠.mark (.release x):=λi a2 x X=>by grind
   have H:kg b q e T T a (XP a c.frame.fn c.frame.place R):=by
    refine⟨by rw[g.size];simp,g.os,λl i4=>?_,λ_ _ _ _=>rfl,λi5 l _ a5 o=>by rw[g.size]at o;omega,λg7 b8 L X a3=>?_,dX f9,Xs ⟨a1,λg7 b8=>?_⟩,g.out⟩
    rotate_right
    .obtain⟨i,a2,rfl⟩:=Go.Conc.mem_ofEvents b8;obtain⟨f,z,rfl⟩:=d2 i a2;simp[XY]
    .by_cases d1:l=h.D.gb
     .subst d1;exact Xs (Xr (Xs d.Ab))
     exact Xs (Xs (Xr (g.block l d1)))
    obtain⟨i,a2,rfl⟩:=Go.Conc.mem_ofEvents b8;obtain⟨f,z,rfl⟩:=d2 i a2;simp[XY,MemAct.touch?]at X;subst X;exact⟨A,h.D.gb,Xs ⟨_,A,A⟩,by rw[g.size];exact d.ue,Xs ⟨d.ue,Xr (d.own a _ W b7 t _ _ (b6 f z))⟩⟩
   have f8:∀x l,p.β x l->e.heap[l]?=q.heap[l]?:=λx l f0=>g.block l λi=>by subst i;rcases O.dz x _ f0 _ (Xr A)with n|⟨n,_⟩<;>(rw[d.Ab]at n;cases n)
   have d5:=g.block _ (λi=>d.ne i.symm);have f4:uc h.D e:=by obtain⟨r,a0,q1,g9,j1⟩:=d.gb;obtain⟨b1,c8,d8,_⟩:=g.put r _ a0 q1;exact⟨b1,a0,c8,g9,by omega⟩
   have g5:fD h.D a q e:=by
    refine⟨λ⟨x,l,n⟩=>⟨x,l,n.of_block d5⟩,λr h2 a0 N=>?_⟩;obtain⟨b1,c8,d8,h0,_⟩:=g.put r h2 a0 N;refine⟨b1,c8,d8,λf Y f6 g0=>h0 Y (Classical.byContradiction λX=>?_)⟩;have:Q<=Y/\Y<Q+e1.size:=by omega
    have o:=b6 (Y-Q) (by omega);rw[show Q+(Y-Q)=Y by omega]at o;exact f6 (d.apart _ _ _ g0 o)
   refine tR sl n G c6 b4 W a6 b2 H (.wk (.work s (cl++[(Q,h3)]) e2 p)) (by rw[t];exact tK (by show s+10<s+1+10;omega)) ⟨h,S,?_,g4,?_,O.stay H f8,b5.VO d.gb g d7 f1,e8⟩ (by rw[t];rfl) (λf r z a8 N=>g.block r λi=>?_) (λZ D=>by simp_all) (λZ D=>?_) (jR λZ D=>by simp_all)
   .intro w g2 f z;rcases YC.1 g2 with a3|a3
    .exact b9 w a3 f z
    simp only[YS]at a3;subst a3;exact b6 f (by rw[<-d7.1];exact z)
   .rw[a_,a1];exact aaQ (λi a2=>by grind) 0
   .subst i;obtain⟨h7,h8,h9,i0,i1,i2,k,_⟩:=e3 f _ z a8 N;obtain⟨r,a0,q1,_⟩:=d.gb;simp_all
   rw[S]at D;cases D;exact BG d W t A g5 f4 (d.gv.step H d.Lj) (λ_ _ _ _=>rfl) (d.gh.step H) (e0 _ _ A rfl rfl d5) b7 (Ye _)
 cases b0 with
 |leaf=>exact stop d6
 |node a4=>
  rcases d6 with X|⟨_,c7⟩
  .exact stop X
  obtain⟨e4,h5,h4,e,new,i7,a5,o,k,e5,e6,e7⟩:=c7 q O.rel d.gv;have H:=fE O o k e5 a1 c.frame.fn c.frame.place;have d4:=fV O o d.qa (Xr (d.rS _ (Xr A)));have c0:=fV O o d.ue (Xs d.Ab);refine tR sl n G c6 b4 W a6 a5 H (.wk (.work s cl (a4 q) {p with β:=h5,w:=h4})) (by rw[t];exact .right _ (.right _ (.mk a4 q))) ⟨h,S,b9,e6,by rw[js o.lE];exact a1,O.own o k H,(b5.mono o.le).same c0,e7⟩ (by rw[t];rfl) (λf r z a8 N=>?_) (λZ D=>by grind [fD.same]) (λZ D=>?_) (jR λZ D=>by grind)
  .grind [fV]
  rw[S]at D;cases D;exact BG d W t A (fD.same d4 c0) (d.gb.same c0) (d.gv.step H d.Lj) Dr (d.gh.step H) (e0 _ _ A rfl rfl d4) b7 (Ye _)
theorem quiet_step{a3:E->aF}{b4:XD}(sl:Xz (E×E))(i:bz P U q b T y a3)(G:cS b q T)(W:aG P b q T 0 y)(S:U[0]?=C b4)(v:0<a)(t:U[a]?=C c)(H:c.status=.running)(b8:¬vf P c (a3 a)):
 QC P U q sl b T y a3 a b4:=by
 have L:=i.each a c v t;have c9:∀x:E,x<q.heap.size->(T (.obj x)=.sync\/T (.obj x)=.void)->(∀d2 X cl a6 z u,q.heap[x]?≠C (.chan d2 X cl a6 z u))->q.heap[x]?=q.heap[x]?:=λ_ _ _ _=>rfl;obtain⟨b3,d⟩:∃b3,a3 a=b3:=⟨_,A⟩;rw[d]at L;cases b3 with
 |wk p=>
  obtain⟨Q,D,f,n⟩:=L;cases p with
  |work s cl e6 o=>exact QP sl i G W S v t H d D f n
  |done O s a5 cl o=>exact IW sl i G W S v t H d (Xs A) ⟨A,A,A⟩ D f n
  |quit c7 a5 cl o=>exact QO sl i G W S v t H d D f n
 |lv c7=>
  obtain⟨a2,d3,R,rfl,q1,b1,c8⟩:=mc L.1 H;have b0:∀h∈R,(XY h).touch?=F:=λh r=>touch_mute (q1 h r)
  have k:kg b q q T T a (XP a c.frame.fn c.frame.place R):=nP b0 λh r a6 a8=>by rcases qY (q1 h r)with b7|b7<;>(rw[b7]at a8;cases a8)
  obtain⟨a0,a1⟩:=fJ (x:=.lv a2) i k c9 (by rw[d];exact⟨A,A,A⟩) ⟨λp g=>(by cases g),λp g=>by rw[d]at g;cases g⟩;refine tR sl i G W S v t (b1 q) k (.lv a2) (by rw[d];exact .right _ (.left _ _ (ZI _))) ⟨by rw[a_];exact c8,L.2.mine G ?_⟩ (by rw[d];rfl) (λ_ _ _ _ _=>rfl) a0 a1 (jR λ_ _=>rfl);intro c6 Z p g;obtain⟨h,r,rfl⟩:=Go.Conc.mem_ofEvents Z;simp_all
 |pq l c7=>
  obtain⟨⟨b2,X,Y⟩,d9,w,f2,f3,b9⟩:=L;obtain⟨a2,d3,R,rfl,q1,b1,c8⟩:=mc d9 H;have b0:∀h∈R,(XY h).touch?=F:=λh r=>touch_mute (q1 h r)
  have k:kg b q q T T a (XP a c.frame.fn c.frame.place R):=nP b0 λh r a6 a8=>by grind [qY]
  obtain⟨a0,a1⟩:=fJ (x:=.pq l a2) i k c9 (by rw[d];exact⟨A,A,A⟩) ⟨λp g=>(by cases g),λp g=>by simp_all⟩;refine tR sl i G W S v t (b1 q) k (.pq l a2) (by rw[d];exact .right _ (.left _ _ (ZI _))) ⟨⟨b2,X,Y.frame k A (jd.refl y)⟩,by simp_all [a_],w,?_,?_,b9.1.mine G ?_,b9.2.own G k λc6 Z p g=>?_⟩ (by rw[d];rfl) (λ_ _ _ _ _=>rfl) a0 a1 (jR λ_ _=>rfl)
  .simp_all [abn,t_]
  .simp_all [ZL,t_]
  .intro c6 Z p g;obtain⟨h,r,rfl⟩:=Go.Conc.mem_ofEvents Z;simp_all
  obtain⟨h,r,rfl⟩:=Go.Conc.mem_ofEvents Z;simp_all
 |pb l s Q o e7 f9 g0=>rw[L.2.1]at H;cases H
 |pr l s Q o=>
  obtain⟨_,d7,⟨b2,X,Y⟩,N,a9,a4,c0⟩:=L;have e2:¬je P l o.S o.ro s o.β o.w c:=by rw[d]at b8;exact b8
  have same:∀O z,0<O->O<U.size->(a3 O).chan=C z->z=l.rc:=λO z D f n=>by have:=i.one O a z l.rc D v f ((XZ.1 t).1) n (by rw[d];rfl);subst this;rw[d]at n;exact(YR n).symm
  cases Q with
  |leaf=>exact absurd c0 e2
  |node a7=>
   rcases c0 with g|⟨_,e1⟩
   .simp_all
   obtain⟨e8,d1,d0,e,new,f5,D,f,n,b5,d4,d5⟩:=e1 q N.rel a4.2.1.kn;have k:=fE N f n b5 a9 c.frame.fn c.frame.place;have e0:e.heap[l.rc]?=q.heap[l.rc]?:=fV N f ((XZ.1 Y.heap).1) (Xr Y.own);obtain⟨e3,e4⟩:=a4.2.1.VN G a4.2.2 N f n b5 a9 c.frame.fn c.frame.place;obtain⟨a0,a1⟩:=fJ (x:=.pr l s (a7 q) {o with β:=d1,w:=d0}) i k (λx d6 d8 _=>fV N f d6 d8) (by rw[d];exact⟨A,A,A⟩) ⟨λp g=>(by cases g),λp g=>by simp_all⟩
   exact tR sl i G W S v t D k (.pr l s (a7 q) {o with β:=d1,w:=d0}) (by rw[d];exact .right _ (.right _ (.mk a7 q))) ⟨d4,d7,⟨b2,X,Y.frame k e0 (jd.refl y)⟩,N.own f n k,by rw[js f.lE];exact a9,⟨a4.1.step f,e3,e4⟩,d5⟩ (by rw[d];rfl)
    (λO z f0 f1 e9=>by grind) a0 a1 (jR λQ b6=>fV N f (i.wg Q b6).qa (Xr ((i.wg Q b6).rS _ (Xr A))))
theorem yC{N:E->aF}{a9:XD}(sl:Xz (E×E))(m:bz P U q b T y N)(G:cS b q T)(e2:aG P b q T 0 y)(j3:U[0]?=C a9)(j9:a9.status=.running\/a9.offers=F)(d6:0<a)(b2:U[a]?=C c)(h5:c.status=.running)(hd:vf P c (N a)):
 ∃a7 b0 e h o,runT P (crowd U q sl) a=(.next (crowd b0 e sl),h)/\Ms.lt (aF.ms a7) (N a).ms/\b0.size=U.size/\(b0[0]?=C a9\/∃H a1,b0[0]?=C (Go.Conc.woken P H a1 e a9))/\bz P b0 e (b++h) o y (λd=>if d=a then a7 else N d)/\cS (b++h) e o/\aG P (b++h) e o 0 y/\Deaf (b++h) 0=Deaf b 0/\aF.pd a7=(N a).pd/\(∀e6 i k,0<e6->e6<U.size->(N e6).chan=C i->LF q i k->LF e i k)/\(∀z,y.tag=C z->e.heap[z.D.Wg]?=q.heap[z.D.Wg]?):=by
 have f7:=m.each a c d6 b2;have a2:a<U.size:=(XZ.1 b2).1;have d7:(a==0)=Xp:=by simp;omega
 have wk:∀(e:K)(H a1:XD),(∀d i,0<d->d<U.size->d≠a->(N d).chan=C i->e.heap[i]?=q.heap[i]?)->∀d,d≠a->0<d->∀n,U[d]?=C n->woken P H a1 e n=n:=by exactλe H a1 e5 d l b4 n g=>(m.each d n b4 g).woken H a1 λi a4=>e5 d i b4 (XZ.1 g).1 l a4
 have a3:∀(h:XO),(∀u∈h,u.g=a)->∀d,d≠a->Deaf (b++h) d=Deaf b d:=λh h8 d l=>f_ b (g':=a) (λw=>l w.symm) h h8;have d2:∀(fn:XU)(v:String)(R:Xu XQ),∀u∈XP a fn v R,u.g=a:=λfn v R u r=>by obtain⟨w,_,rfl⟩:=Go.Conc.mem_ofEvents r;rfl
 obtain⟨e9,t⟩:∃e9,N a=e9:=⟨_,A⟩;rw[t]at f7;cases e9 with
 |lv a6=>rw[t]at hd;exact hd.elim
 |wk n=>rw[t]at hd;exact hd.elim
 |pq f a6=>rw[t]at hd;exact hd.elim
 |pb f s z X j2 a0 b7=>rw[t]at hd;exact hd.elim
 |pr f s z X=>
  obtain⟨_,h2,⟨a8,O,p⟩,d1,c7,a5,k1⟩:=f7;have c9:f.rc<q.heap.size:=(XZ.1 p.heap).1
  have same:∀d i,0<d->d<U.size->(N d).chan=C i->i=f.rc:=λd i Q S W=>by have:=m.one d a i f.rc Q d6 S a2 W (by rw[t];rfl);subst this;rw[t]at W;exact(YR W).symm
  have lone:∀d i,0<d->d<U.size->d≠a->(N d).chan=C i->False:=λd i l d8 d9 a4=>d9 (m.one d a i f.rc l d6 d8 a2 a4 (by rw[t];rfl))
  have g0:∀b9 O cl H L i,∀z,y.tag=C z->(q.setChan f.rc b9 O cl H L i).heap[z.D.Wg]?=q.heap[z.D.Wg]?:=λb9 O cl H L i z c0=>by simp only[K.setChan];rw[Yj (λw=>?_)];obtain⟨_,_,h0⟩:=(m.wg z c0).mode.live;have g:q.heap[z.D.Wg]?=_:=h0;rw[<-w,p.heap]at g;cases g
  have f8:je P f X.S X.ro s X.β X.w c:=by rw[t]at hd;exact hd
  cases s with
  |zero=>
   obtain⟨_,j6,g4,j5,e4,a6,j8⟩:=f8;have d0:=e4 q _ _ _ _ _ p.heap
   have x:kg b q (q.setChan f.rc 4 O J (f.n-0) a8 Xp) T T a (XP a c.frame.fn c.frame.place #[⟨.obj f.rc,Xp,J⟩,⟨.obj f.rc,J,J⟩]):=by
    refine⟨by simp[K.setChan],A,λL d5=>?_,λ_ _ _ _=>rfl,λi0 L _ Q S=>by grind [World.setChan],λu r n g b3=>?_,dX (by simp),Xr λu r n g b3=>?_,A⟩
    rotate_right
    .obtain⟨w,Y,rfl⟩:=Go.Conc.mem_ofEvents r;simp only[ZM,Yg,Yo,Ze]at Y;rcases Y with rfl|rfl
     .simp[XY,MemAct.touch?]at g;subst g;exact p.own
     grind [MemAct.ofEvent,MemAct.touch?]
    .by_cases c6:L=f.rc
     .subst c6;exact Xs (Xr (Xr p.own))
     grind [World.setChan]
    obtain⟨w,Y,rfl⟩:=Go.Conc.mem_ofEvents r;refine⟨A,f.rc,?_⟩;simp only[ZM,Yg,Yo,Ze]at Y;rcases Y with rfl|rfl
    .simp[XY,MemAct.touch?]at g;subst g;exact⟨Xr A,by simp[K.setChan];exact c9,Xs ⟨c9,Xs (Xs ⟨p.own,Xr A⟩)⟩⟩
    grind [MemAct.ofEvent,MemAct.touch?]
   obtain⟨b5,f9⟩:=fJ (x:=.pq f a6) m x (λL d5 c8 e0=>by
    simp only[K.setChan]
    rw[Yj (λw=>by subst w;exact e0 _ _ _ _ _ _ p.heap)]) (by rw[t];exact⟨A,A,A⟩) ⟨λn g=>(by cases g),λn g=>by grind⟩
   refine⟨.pq f a6,_,_,_,T,J_ (P:=P) (sl:=sl) (i:=a) b2 (by rw[d7];exact d0),?_,by simp,?_,?_,G.step x,e2.other (by omega) x,a3 _ (d2 _ _ _) 0 (by omega),by rw[t];rfl,λd i k q1 e7 e8⟨b9,g1,cl,i7,i9,b6⟩=>by
    have:=same d i q1 e7 e8;subst this;rw[p.heap]at b6;cases b6
    exact⟨_,_,_,_,_,by simp only[K.setChan];rw[Yh c9]⟩,g0 _ _ _ _ _ _⟩
   .rw[t];exact .left _ _ (by simp)
   .grind
   refine m.jY G x (jd.refl y) (by simp) (λd l d8=>mX d l (((λe H a1=>wk e H a1 λd i Q S W b1=>(lone d i Q S W b1).elim) (q.setChan f.rc 4 O J (f.n-0) a8 Xp) c g4) d l d8)) (a3 _ (d2 _ _ _)) (λd i Q S W b1=>(lone d i Q S W b1).elim) a2 (λd4 _ Z=>?_) (λi a4=>by rw[t];exact⟨_,A⟩) (λd l _ u r=>by grind) b5 (λz c0=>by grind);rw[Yh (by grind)]at Z;cases Z;have f1:XP a c.frame.fn c.frame.place #[⟨.obj f.rc,Xp,J⟩,⟨.obj f.rc,J,J⟩]=#[{g:=a,fn:=c.frame.fn,pos:=c.frame.place,act:=.access ⟨.obj f.rc,Xp,J⟩},{g:=a,fn:=c.frame.fn,pos:=c.frame.place,act:=.close f.rc}]:=by simp[XP,XY]
   have f6:(b++#[({g:=a,fn:=c.frame.fn,pos:=c.frame.place,act:=.access ⟨.obj f.rc,Xp,J⟩}:MemOp),{g:=a,fn:=c.frame.fn,pos:=c.frame.place,act:=.close f.rc}])[b.size+1]?=C {g:=a,fn:=c.frame.fn,pos:=c.frame.place,act:=.close f.rc}:=by simp
   have j4:Deaf (b++XP a c.frame.fn c.frame.place #[⟨.obj f.rc,Xp,J⟩,⟨.obj f.rc,J,J⟩]) a=0:=by rw[a_,c7];rfl
   refine⟨⟨a8,O,⟨by grind [World.setChan],by have:=p.count;omega,p.room,p.own,p.msgs⟩⟩,by grind,b.size+1,?_,?_,?_⟩
   .grind [Trace.act?]
   .rw[f1];refine⟨a,fG f6,?_⟩
    have g5:(b++#[({g:=a,fn:=c.frame.fn,pos:=c.frame.place,act:=.access ⟨.obj f.rc,Xp,J⟩}:MemOp),{g:=a,fn:=c.frame.fn,pos:=c.frame.place,act:=.close f.rc}])[b.size]?=C {g:=a,fn:=c.frame.fn,pos:=c.frame.place,act:=.access ⟨.obj f.rc,Xp,J⟩}:=by simp
    rw[deaf_succ g5,deaf_old (Ye _)];exact c7
   refine⟨?_,a5.2.1.own G x λu r n g b3 c8=>?_⟩
   rotate_left
   .obtain⟨w,Y,rfl⟩:=Go.Conc.mem_ofEvents r;simp only[ZM,Yg,Yo,Ze]at Y;rcases Y with rfl|rfl
    .simp[XY,MemAct.touch?]at g;subst g;exact absurd p.own c8
    grind [MemAct.ofEvent,MemAct.touch?]
   intro d u n l g8 g b3 c8;rw[f1]at l⊢
   have h1:=aar l;simp at h1;by_cases g9:d=b.size+1
   .exact Xr g9
   exact Xs (hb_po (by omega) l f6 g8)
  |succ s=>
   obtain⟨_,a0,b7,e4,e5,h4,h3⟩:=f8;obtain⟨b8,f2⟩:=h3.tree;have d0:=e4 q d1.rel
   have f4:partners (U.setIfInBounds a ph) f.rc Xp=[]:=by
    refine partners_nil λd n g=>?_;rcases aax U a d n g with⟨rfl,rfl⟩|⟨d9,g⟩
    .rfl
    rcases Yp d with rfl|b4
    .grind [offersAt]
    refine ZU ?_ _ _;have l:=m.each d n b4 g;have j7:=lone d;generalize h6:N d=i6 at l;cases i6 with
    |lv a6=>rcases l.1.status with m|m<;>rw[m]<;>simp
    |wk n=>obtain⟨f0,_,_,l⟩:=l;rcases l.status with m|m<;>rw[m]<;>simp
    |pr d3 i2 f0 i8=>rw[l.1];simp
    |pq d3 a6=>rcases l.2.1.status with m|m<;>rw[m]<;>simp
    |pb d3 i2 f0 i8 d4 k2 k3=>exact(lone d d3.rc b4 (XZ.1 g).1 d9 (by rw[h6];rfl)).elim
   have h9:an y.S y.β (f.τ (f.n-(s+1))) a0:=an.to a5.1.1 h4 e5;by_cases h7:O.size<4
   ·
    have e1:=crowd_send_room (P:=P) (sl:=sl) (i:=a) b2 (by rw[d7];exact d0) p.heap h7 f4
    have x:kg b q (q.setChan f.rc 4 (O.push a0) Xp (f.n-(s+1)+1) a8 Xp) T T a (XP a c.frame.fn c.frame.place #[]++#[{g:=a,fn:=c.frame.fn,pos:=c.frame.place,act:=.send f.rc (f.n-(s+1))},{g:=a,fn:=c.frame.fn,pos:=c.frame.place,act:=.sendDone f.rc (f.n-(s+1))}]):=by
     refine⟨by simp[K.setChan],A,λL d5=>?_,λ_ _ _ _=>rfl,λi0 L _ Q S=>by grind [World.setChan],λu r n g b3=>?_,λu r H=>?_,Xr λu r n g b3=>by simp[XP]at r;rcases r with rfl|rfl<;>simp[MemAct.touch?]at g,A⟩
     .by_cases c6:L=f.rc
      .subst c6;exact Xs (Xr (Xr p.own))
      grind [World.setChan]
     .simp[XP]at r;rcases r with rfl|rfl<;>simp[MemAct.touch?]at g
     simp[XP]at r
     grind
    have f5:∀u∈(XP a c.frame.fn c.frame.place #[]++#[{g:=a,fn:=c.frame.fn,pos:=c.frame.place,act:=.send f.rc (f.n-(s+1))},{g:=a,fn:=c.frame.fn,pos:=c.frame.place,act:=.sendDone f.rc (f.n-(s+1))}]:XO),u.g=a:=by grind
    obtain⟨b5,f9⟩:=fJ (x:=.pr f s b8 X) m x (λL d5 c8 e0=>by
     simp only[K.setChan]
     rw[Yj (λw=>by subst w;exact e0 _ _ _ _ _ _ p.heap)]) (by rw[t];exact⟨A,A,A⟩) ⟨λn g=>(by cases g),λn g=>by grind⟩
    have e3:∀d,d≠a->(U.setIfInBounds a (c.finishComm P #[scase f.rc a0 b7] .send 0 I Xp))[d]?=U[d]?:=λd l=>Yj (λw=>l w.symm)
    refine⟨.pr f s b8 X,_,_,_,T,e1,?_,YD ..,?_,?_,G.step x,e2.other (by omega) x,a3 _ f5 0 (by omega),by rw[t];rfl,λd i k q1 e7 e8⟨b9,g1,cl,i7,i9,b6⟩=>by
     have:=same d i q1 e7 e8;subst this;rw[p.heap]at b6;cases b6
     exact⟨_,_,_,_,_,by simp only[K.setChan];rw[Yh c9]⟩,g0 _ _ _ _ _ _⟩
    .rw[t];exact .left _ _ (by simp)
    .grind
    refine m.jY G x (jd.refl y) (YD ..) (λd l _=>e3 d l) (a3 _ f5) (λd i Q S W b1=>(lone d i Q S W b1).elim) a2 (λd4 _ Z=>?_) (λi a4=>by rw[t];exact⟨_,A⟩) (λd l _ u r=>by grind) b5 (λz c0=>by grind);rw[Yh a2]at Z;cases Z;rw[aba];refine⟨A,by omega,⟨a8,O.push a0,?_⟩,?_,?_,⟨a5.1,a5.2.1.own G x (λu r n g=>by simp[XP]at r;rcases r with rfl|rfl<;>simp[MemAct.touch?]at g),a5.2.2⟩,f2⟩
    .have g7:=p.count;refine⟨?_,?_,by simp;omega,p.own,?_⟩
     .grind [World.setChan]
     .grind
     intro d n g;rw[Zq]at g;split at g
     .grind
     exact p.msgs d n g
    .refine d1.stay x λH L g6=>?_;have c6:L≠f.rc:=by
      intro w;subst w;rcases d1.dz H _ g6 _ (Xr A)with m|⟨m,_⟩<;>(rw[p.own]at m;cases m)
     grind [World.setChan]
    have g2:(XP a c.frame.fn c.frame.place #[]++#[{g:=a,fn:=c.frame.fn,pos:=c.frame.place,act:=.send f.rc (f.n-(s+1))},{g:=a,fn:=c.frame.fn,pos:=c.frame.place,act:=.sendDone f.rc (f.n-(s+1))}]:XO)=[({g:=a,fn:=c.frame.fn,pos:=c.frame.place,act:=.send f.rc (f.n-(s+1))}:MemOp),{g:=a,fn:=c.frame.fn,pos:=c.frame.place,act:=.sendDone f.rc (f.n-(s+1))}].toArray:=by rfl
    rw[g2,aaf,c7];rfl
   ·
    have g7:=p.count;have k0:=p.room
    have e1:=crowd_waits (P:=P) (sl:=sl) (i:=a) b2 (by rw[d7];exact d0) (λj0 f3=>by
     simp only[ZM,Yg,Yo,Ze]at f3;subst f3
     exact ways_send_none p.heap (by omega) f4)
    have x:kg b q q T T a (XP a c.frame.fn c.frame.place #[]):=mR (λu r n g=>by grind [MemOp.ofEvents]) (λu r=>by grind [MemOp.ofEvents]);obtain⟨b5,f9⟩:=fJ (x:=.pb f s b8 X c a0 b7) m x (λ_ _ _ _=>rfl) (by rw[t];exact⟨A,A,A⟩) ⟨λn g=>(by cases g),λn g=>by grind⟩;have e3:∀d,d≠a->(U.setIfInBounds a (parked c #[scase f.rc a0 b7] .send))[d]?=U[d]?:=λd l=>Yj (λw=>l w.symm);have g3:b++XP a c.frame.fn c.frame.place #[]=b:=by rfl
    refine⟨.pb f s b8 X c a0 b7,_,_,_,T,e1,?_,YD ..,?_,?_,G.step x,e2.other (by omega) x,a3 _ (d2 _ _ _) 0 (by omega),by rw[t];rfl,λ_ _ _ _ _ _ m=>m,λ_ _=>rfl⟩
    .rw[t];exact .left _ _ (by show 2*s+3<2*(s+1)+2;omega)
    .grind
    refine m.jY G x (jd.refl y) (YD ..) (λd l _=>e3 d l) (a3 _ (d2 _ _ _)) (λ_ _ _ _ _ _=>rfl) a2 (λd4 _ Z=>?_) (λi a4=>by rw[t];exact⟨_,A⟩) (λd l _ u r=>by grind) b5 (λz c0=>by grind);rw[Yh a2]at Z;cases Z;rw[g3];exact⟨h2,A,h5,⟨a8,O,p,by omega⟩,d1,c7,a5,h9,f2⟩
theorem DC{f:E->aF}{l:XD}(sl:Xz (E×E))(n:bz P U q b T y f)(G:cS b q T)(u:aG P b q T 0 y)(p:U[0]?=C l)(w:l.status=.running)(s:0<a)(r:U[a]?=C c)(t:c.status=.running):
 ∃g d e h o,runT P (crowd U q sl) a=(.next (crowd d e sl),h)/\Ms.lt (aF.ms g) (f a).ms/\d.size=U.size/\d[0]?=C l/\bz P d e (b++h) o y (λv=>if v=a then g else f v)/\cS (b++h) e o/\aG P (b++h) e o 0 y/\Deaf (b++h) 0=Deaf b 0/\aF.pd g=(f a).pd/\∀m i k,0<m->m<U.size->(f m).chan=C i->LF q i k->LF e i k:=by
 by_cases hd:vf P c (f a)
 .obtain⟨g,d,e,h,o,q1,z,D,H,L,N,O,Q,R,x,_⟩:=yC sl n G u p (Xr w) s r t hd
  grind [woken_run]
 obtain⟨g,d,e,h,o,q1,z,D,⟨S,W,H⟩,L,N,O,Q,R,x,_⟩:=quiet_step sl n G u p s r t hd
 grind [woken_run]
end
variable{c:XO}{b:E}{a:XD}{l:K}{k:Xn}{d:E}
section
variable{f:K}{h:Loc->Own}{m:bR}{e:XO}
theorem uy.at{d:PD}(a:uy d c q T b)(e:E):uy d c (q.at e) T b:=⟨a.KW,a.ro,a.low,a.kn,a.Lh⟩
theorem uy.chan{m:PD}{n p D z:E}{o:Xu Xn}{r H:Xy}(a:uy m c q T b)(U:∀h∈e,∀l,h.act.touch?=C l->False)(Q:∀k i d,q.heap[n]?≠C (Xx #[k] i d)):uy m (c++e) (q.setChan n p o r D z H) T b where
 KW:=by
  intro y h l t s x v w;rcases Yf t with⟨S,u⟩|⟨_,R⟩
  .exact a.KW y h l u s x v w
  simp_all
 ro:=a.ro
 low:=λg f=>⟨(a.low g f).1,by
  obtain⟨L,O⟩:=cO (a.low g f).1;have:=(a.low g f).2
  simp_all [K.setChan]⟩
 kn:=by
  obtain⟨i,d,N⟩:=a.kn;refine⟨i,d,?_⟩
  grind [World.setChan]
 Lh:=a.Lh
theorem cC.at{t:aF}(i:cC P b a q c T y t)(g:E):cC P b a (q.at g) c T y t:=by
 cases t with
 |lv D=>exact i
 |wk U=>obtain⟨p,k,l,e⟩:=i;exact⟨p,k,l,e.at g⟩
 |pr u z p H=>obtain⟨k,l,⟨o,h,e⟩,r,m,f,n⟩:=i;exact⟨k,l,⟨o,h,⟨e.heap,e.count,e.room,e.own,e.msgs⟩⟩,r.at g,m,⟨f.1,f.2.1.at g,f.2.2⟩,n⟩
 |pb u z p H L S W=>obtain⟨k,l,v,⟨o,h,e,w⟩,r,m,f,n,s⟩:=i;exact⟨k,l,v,⟨o,h,⟨e.heap,e.count,e.room,e.own,e.msgs⟩,w⟩,r.at g,m,⟨f.1,f.2.1.at g,f.2.2⟩,n,s⟩
 |pq u D=>obtain⟨⟨o,h,e⟩,m,d,f,n,s,x⟩:=i;exact⟨⟨o,h,⟨e.heap,e.count,e.room,e.own,e.msgs⟩⟩,m,d,f,n,s,x.at g⟩
theorem bz.at{f:E->aF}(d:bz P U q c T y f)(e:E):bz P U (q.at e) c T y f:=⟨λb a L H=>(d.each b a L H).at e,d.one,d.above,λg D=>by
 obtain⟨h,r,s,t,u,v,w,x,z,i,k,l,m,n,o,p⟩:=d.wg g D
 exact⟨h,r.same A (λ_=>⟨A,A⟩),s,t,u,v,w,x,z,i,k,l,m,n,o,p⟩,d.ops⟩
theorem cC.Mr{h:aF}{i:PD}(g:cC P b a q c T y h)(d:h.pd=C i):∃p f cl e,kK i q T y p f cl e:=by
 cases h with
 |lv o=>cases d
 |wk z=>cases d
 |pr k n m r=>cases d;obtain⟨_,_,⟨f,e,l⟩,_⟩:=g;grind
 |pb k n m r s x D=>cases d;obtain⟨_,_,_,⟨f,e,l,_⟩,_⟩:=g;grind
 |pq k o=>cases d;obtain⟨⟨f,e,l⟩,_⟩:=g;grind
abbrev dc:=Xz (E×PD×E)
def eP(e:dc)(U:Xu XD)(q:K)(c:E->aF):Prop:=
 match e with
 |none=>∀b,0<b->b<U.size->(c b).pd=F
 |some (d,a,f)=>0<d/\d<U.size/\(c d).pd=C a/\LF q a.rc f
def db(P:XI)(b:dc)(d:Xq Ms)(U:Xu XD)(q:K)(c:XO)(T:Loc->Own)(y:bR):Prop:=
 ∃a,d=ug a U.size/\bz P U q c T y a/\eP b U q a
theorem iM{n:dc}{t:Xu XD}{i:E->aF}{z:aF}(p:eP n U q i)(S:t.size=U.size)(O:z.pd=(i b).pd)
 (Q:∀s o x,0<s->s<U.size->(i s).chan=C o->LF q o x->LF f o x):eP n t f (λg=>if g=b then z else i g):=by
 cases n with
 |none=>
  intro g v r;rw[S]at r;by_cases w:g=b
  .subst w;simp only[Ym];rw[O];exact p g v r
  simp only[w,Yq];exact p g v r
 |some W=>
  obtain⟨d,D,g⟩:=W;obtain⟨u,H,L,N⟩:=p;refine⟨u,by omega,?_,Q d D.rc g u H (by rw[aF.cD,L];rfl) N⟩
  grind
theorem bz.main{p:E->aF}{r g₁:XD}{S:Ren}{D:K}{new Y:Xq XQ}(w:bz P U q c T y p)(G:cS c q T)(N:aG P c q T 0 y)(a6:U[0]?=C r)
 (z:bB y.S y.β S y.w D q f new Y)(b4:∀u,y.ro u->D.heap[u]?=y.w.heap[u]?)(b3:∀v∈new,v.write=J->∀u,y.ro u->v.loc≠.obj u/\∀t,v.loc=.cell t->t.block≠u)(a9:Deaf c 0=0):
 bz P ((U.map (Go.Conc.woken P r g₁ f)).setIfInBounds 0 g₁) f (c++XP 0 r.frame.fn r.frame.place (kept Y).toArray) (Own.more T 0 q.heap.size f.heap.size) {y with β:=S,w:=D} p/\
  ∀O i Q,0<O->O<U.size->(p O).chan=C i->LF q i Q->LF f i Q:=by
 have X:=fE N z b4 b3 a9 r.frame.fn r.frame.place
 have H:∀g i,0<g->g<U.size->(p g).chan=C i->f.heap[i]?=q.heap[i]?:=by
  intro g i o s n;rw[aF.cD]at n;cases L:(p g).pd with
  |none=>rw[L]at n;cases n
  |some c0=>rw[L]at n;cases n;obtain⟨d0,c9,cl,c7,W⟩:=(w.each g _ o (Yb s)).Mr L;exact fV N z (XZ.1 W.heap).1 (Xr W.own)
 obtain⟨b5,b6⟩:=fJ (x:=p 0) w X (λc6 a8 b1 _=>fV N z a8 b1) ⟨A,A,A⟩ ⟨λt x=>⟨t,x⟩,λt x=>⟨t,x⟩⟩;refine⟨?_,λg i Q o s n⟨a0,a1,a2,a3,a4,a5⟩=>⟨a0,a1,a2,a3,a4,by rw[H g i o s n];exact a5⟩⟩
 have:=w.jY (gs':=(U.map (Go.Conc.woken P r g₁ f)).setIfInBounds 0 g₁) (s':={y with β:=S,w:=D}) (j:=0) G X ⟨A,z.le,A⟩ (by simp) (λg o s=>mX g o λt x=>(w.each g t s x).woken r g₁ λi n=>H g i s (XZ.1 x).1 n)
  (λg o=>js z.lE _ _ _ _ _) (λg i o s _ n=>H g i o s n) ((XZ.1 a6).1) (r:=p 0) (λa b0=>absurd b0 (by omega)) (λi n=>⟨i,n⟩) (λg o _ b7 b2=>by rw[tN _ _ _ _ b7 b2];exactλv=>o v.symm) b5 (λZ a7=>by simpa using b6 Z a7)
 have v:(λg=>if g=0 then p 0 else p g)=p:=by funext g;by_cases w:g=0<;>simp[w]
 simp_all
def aj(P:XI)(t:dc):uT P (Xq Ms) where
 lt:=dU Ms.lt
 wf:=dU.wf Ms.wf
 Ok:=db P t
 awake:=λ⟨d,_,o,_⟩ b a r l=>(o.each b a r l).awake
 at_:=λz⟨d,D,i,g⟩=>⟨d,D,i.at z,by
  cases t with
  |none=>exact g
  |some a9=>exact g⟩
 step:=by rintro u U q c T y v b a sl⟨d,rfl,i,g⟩ G s p x r l L;obtain⟨a3,w,f,e,h,q1,W,n,X,Y,Z,a0,a1,a2,S⟩:=DC sl i G s p x r l L;exact⟨_,w,f,e,h,q1,by rw[<-n];rw[n];exact lx (XZ.1 l).1 W,X,⟨_,by rw[n],Y,iM g n a2 S⟩,Z,a0,a1⟩
 main:=by
  rintro u U q c T y v k b0 a8 f new a7⟨d,rfl,i,g⟩ G s p H x a6 a4 O N;obtain⟨Q,R⟩:=i.main (g₁:=k) G s p a4 O N H;refine⟨d,by simp,Q,?_⟩;have:=iM (t:=(U.map (Go.Conc.woken P v k f)).setIfInBounds 0 k) (b:=0) (z:=d 0) (f:=f) g (by simp) A R;have u:(λm=>if m=0 then d 0 else d m)=d:=by funext m;by_cases o:m=0<;>simp[o]
  simp_all
theorem qy{sl:Xz (E×E)}{n i:XD}{shape r:CommShape}{H:Xy}{w:K}{g u y p:E}{o:Xu Xn}{x z:Xy}{D s:Xn}
 (S:U[b]?=C a)(L:stepG P (b==0) a l=.comm n #[rcase g D] H shape w R)(N:w.heap[g]?=C (.chan u o x y p z))(a1:0<o.size)
 (W:j≠b)(X:U[j]?=C (parked i #[scase g k s] r))(a0:partners (U.setIfInBounds b ph) g J=[(j,0)]):
 runT P (crowd U l sl) b=(.next (crowd ((U.setIfInBounds j (i.finishComm P #[scase g k s] r 0 I Xp)).setIfInBounds b (n.finishComm P #[rcase g D] shape 0 (o.getD 0 I) J)) (w.setChan g u ((o.extract 1 o.size).push k) x (y+1) (p+1) z) sl),
  XP b a.frame.fn a.frame.place R++#[{g:=b,fn:=n.frame.fn,pos:=n.frame.place,act:=.recv g p u},{g:=b,fn:=n.frame.fn,pos:=n.frame.place,act:=.recvDone g p},
   {g:=j,fn:=i.frame.fn,pos:=i.frame.place,act:=.send g y},{g:=j,fn:=i.frame.fn,pos:=i.frame.place,act:=.sendDone g y}]):=by
 rw[runT_crowd_comm S L];have Y:=stand_get (i:=b) W X;have O:=finishPartner_at P (U.setIfInBounds b ph) Y (cs:=#[scase g k s]) (sh:=r) A 0 I;have Q:(U.setIfInBounds b ph).getD j default=parked i #[scase g k s] r:=by simp_all
 have Z:offeredValue (U.setIfInBounds b ph) j 0=k:=by grind [offeredValue,parked,scase]
 simp[communicate,ways,rcase,N,a0,a1,choose,Sem.run,Question.forced,bind,Sem.bind,pure,K.setChan,crowd,O,Q,Z,set_stand2,finishComm_parked,scase,parked];rfl
def AtRecv(P:XI)(c:E)(d:Xn)(b a:XD):Prop:=
 b.status=.running/\a.status=.running/\∀q,stepG P J b q=.comm a #[rcase c d] J (.recv J) q #[]
def Jf(P:XI)(d:E)(b:PD)(e:E)(h:Xn)(a:XD)(y:bR)(U:Xu XD)(q:K)(c:XO):Prop:=
 ∃f T,cS c q T/\aG P c q T 0 y/\Deaf c 0=0/\
  ((e<b.n/\∃g,U[0]?=C (Go.Conc.served a (.tuple #[g,.bool J]))/\an y.S y.β (b.τ e) g/\db P (C (d,b,e+1)) f U q c T y)\/
   (e=b.n/\U[0]?=C (Go.Conc.served a (.tuple #[h,.bool Xp]))/\db P F f U q c T y))
theorem bz.chan{L:Xu XD}{w:E->aF}{u:PD}(G:cS c q T)(r:bz P U q c T y w)(b0:kg c q f T h 0 e)(a2:0<d)(a3:d<U.size)(a9:(w d).pd=C u)(a4:L.size=U.size)
 (b3:∀g,g≠d->0<g->L[g]?=U[g]?)(hd:∀g,0<g->Deaf (c++e) g=Deaf c g){v:aF}(c7:∀a,L[d]?=C a->cC P d a f (c++e) h y v)(a5:v.pd=C u\/v.pd=F)(b9:∀H∈e,H.g=0\/H.g=d)(a8:∀t,v≠.wk t)
 (O:∀m,m<q.heap.size->(T (.obj m)=.sync\/T (.obj m)=.void)->(∀z x cl p n s,q.heap[m]?≠C (.chan z x cl p n s))->f.heap[m]?=q.heap[m]?):
 bz P L f (c++e) h y (λg=>if g=d then v else w g) where
 ops:=by
  intro g H a6;rw[a4];rcases Yf a6 with⟨_,b4⟩|⟨_,c0⟩
  .exact r.ops g H b4
  grind
 wg:=by
  intro o S;have i:=r.wg o S
  have b2:f.heap[o.D.Wg]?=q.heap[o.D.Wg]?:=O _ i.qa (Xr (i.rS _ (Xr A))) λz x cl p n s k=>by obtain⟨_,_,l⟩:=i.mode.live;have:q.heap[o.D.Wg]?=_:=l;rw[k]at this;cases this
  have b1:f.heap[o.D.gb]?=q.heap[o.D.gb]?:=O _ i.ue (Xs i.Ab) λz x cl p n s k=>by obtain⟨_,_,l,_⟩:=i.gb;rw[k]at l;cases l
  have a7:∀t,w d≠.wk t:=λt k=>by rw[k]at a9;cases a9
  rw[a4];refine i.keep b0 b2 (λQ=>Q.same b1) (λg=>?_) (λg t k=>?_) λg t k=>?_
  .by_cases D:g=d
   .subst D;simp only[Ym];generalize w g=b5 at a7;cases v<;>cases b5<;>first|exact⟨rfl,rfl,rfl⟩|(exact absurd rfl (a8 _))|(exact absurd rfl (a7 _))
   simp only[D,Yq,and_self]
  .by_cases D:g=d
   .subst D;simp only[Ym]at k;exact absurd k (a8 t)
   simp only[D,Yq]at k;exact⟨t,k⟩
  grind
 each:=by
  intro b a R Y;by_cases Z:b=d
  .simp_all
  simp only[Z,Yq];rw[b3 b Z R]at Y;refine(r.each b a R Y).frame G b0 (by omega) (hd b R) (jd.refl y) (λn a5=>?_) (λH c6 b7=>by grind) λo S=>?_
  rotate_left
  .have i:=r.wg o S;refine fD.same (O _ i.qa (Xr (i.rS _ (Xr A))) λz x cl p n s k=>?_) (O _ i.ue (Xs i.Ab) λz x cl p n s k=>?_)
   .obtain⟨_,_,l⟩:=i.mode.live;have:q.heap[o.D.Wg]?=_:=l;rw[k]at this;cases this
   obtain⟨_,_,l,_⟩:=i.gb;simp_all
  exact absurd (r.one b d n u.rc R a2 ((XZ.1 Y).1) a3 a5 (by simp_all [aF.cD])) Z
 one:=by
  intro p m n s i Q W X l N;rw[a4]at W X;have k:(w d).chan=C u.rc:=by simp_all [aF.cD]
  by_cases a0:p=d<;>by_cases a1:m=d
  .omega
  .simp only[a1,Yq]at N;exact absurd (r.one m d s u.rc Q a2 X a3 N k) a1
  .simp only[a0,Yq]at l;exact absurd (r.one p d n u.rc i a2 W a3 l k) a0
  simp only[a0,Yq]at l;simp only[a1,Yq]at N;exact r.one p m n s i Q W X l N
 above:=λg a6=>by rw[hd g (by omega)];exact r.above g (by omega)
theorem lh{p v y z:E}{u:Xu Xn}{w D:Xy}(N:T (.obj p)=.sync)(r:∀g∈e,∀i,g.act.touch?=C i->False)(x:∀g∈e,∀s,g.act≠.mark (.release s)):kg c q (q.setChan p v u w y z D) T T b e where
 norel:=x
 kF:=Xr λg n i o _=>(r g n i o).elim
 size:=by simp[K.setChan]
 os:=A
 out:=A
 heap:=λt _=>by grind [World.setChan]
 old:=λ_ _ _ _=>rfl
 new:=λO t _ H L=>by grind [World.setChan]
 touch:=λg n i o _=>(r g n i o).elim
theorem nA{d m u t:E}{l:Xu Xn}{n v:Xy}(i:aG P c q T b y)(h:T (.obj d)=.sync)(s:∀g∈e,∀w,g.act.touch?=C w->False)(r:∀g∈e,∀a,g.act≠.mark (.release a)):aG P (c++e) (q.setChan d m l n u t v) T b y:=
 i.stay (lh (b:=b) h s r) λa k p=>by
  have x:k≠d:=by intro o;subst o;rcases i.dz a _ p _ (Xr A)with f|⟨f,_⟩<;>(rw[h]at f;cases f)
  grind [World.setChan]
theorem pN{k:E->aF}{h:PD}{n:XD}(b:bz P U q c T y k)(z:U[0]?=C n)(p:0<d)(r:d<U.size)(L:(k d).pd=C h)(H:∀a,U[d]?=C a->a.status≠.blocked):
 partners (U.setIfInBounds 0 ph) h.rc J=[]:=by
 refine partners_nil λf l g=>?_;rcases aax U 0 f l g with⟨rfl,rfl⟩|⟨D,g⟩
 .rfl
 by_cases o:f=d
 .simp_all [ZU]
 refine ZU ?_ _ _;have e:=b.each f l (by omega) g;generalize s:k f=v at e;cases v with
 |lv u=>rcases e.1.status with b|b<;>rw[b]<;>simp
 |wk l=>obtain⟨m,_,_,e⟩:=e;rcases e.status with b|b<;>rw[b]<;>simp
 |pr i t m w=>rw[e.1];simp
 |pq i u=>rcases e.2.1.status with b|b<;>rw[b]<;>simp
 |pb i t m w x S W=>exact absurd (b.one f d i.rc h.rc (by omega) p (XZ.1 g).1 r (by rw[s];rfl) (by simp_all [aF.cD])) o
theorem yX{d:PD}{c:Xu Xn}{e:E}(f:∀(b:E) a,c[b]?=C a->an y.S y.β (d.τ (e+b)) a):∀(b:E) a,(c.extract 1 c.size)[b]?=C a->an y.S y.β (d.τ (e+1+b)) a:=by grind [Array.getElem?_extract]
theorem KA{a2:E->aF}{g:PD}{m:E}{b8:Xn}{v:XD}(sl:Xz (E×E))(p:bz P U q c T y a2)(h6:eP (C (d,g,m)) U q a2)(G:cS c q T)(e4:aG P c q T 0 y)(d7:Deaf c 0=0)
 (a0:U[0]?=C v)(g5:AtRecv P g.rc b8 v a):
 ∃a3 f e,runT P (crowd U q sl) 0=(.next (crowd a3 f sl),e)/\(Jf P d g m b8 a y a3 f (c++e)\/(a3=U.setIfInBounds 0 (parked a #[rcase g.rc b8] (.recv J))/\f=q/\e=#[]/\q.heap[g.rc]?=C (.chan 4 #[] Xp m m Xp))):=by
 obtain⟨N,W,a9,h4⟩:=h6;have f8:0<U.size:=(XZ.1 a0).1;obtain⟨c0,b5⟩:∃c0,U[d]?=C c0:=⟨_,Yb W⟩;have d0:=p.each d c0 N b5;obtain⟨e7,a5⟩:∃e7,a2 d=e7:=⟨_,A⟩;rw[a5]at d0 a9;have d1:=g5.2.2
 have e6:∀{O u cl h},kK g q T y O u cl h->u=m:=by intro O u cl h w;obtain⟨_,_,_,_,_,r⟩:=h4;rw[w.heap]at r;cases r;rfl
 have e8:∀n s,s≠0->(U.setIfInBounds 0 n)[s]?=U[s]?:=λn s x=>Yj (λY=>x Y.symm);have i6:∀{U:Xu XD} n s,s≠0->(U.setIfInBounds 0 n)[s]?=U[s]?:=λn s x=>Yj (λY=>x Y.symm)
 have i1:∀(Q b1:MemAct)(a:XD),(∀l∈(XP 0 v.frame.fn v.frame.place #[]++#[{g:=0,fn:=a.frame.fn,pos:=a.frame.place,act:=Q},{g:=0,fn:=a.frame.fn,pos:=a.frame.place,act:=b1}]:XO),l.g=0):=by simp[XP]
 have take:∀(O:E)(cl:Xy)(h:Xu Xn)(d2:aF),kK g q T y O m cl h->0<h.size->(∀a,U[d]?=C a->a.status≠.blocked)->m<g.n->d2.pd=C g->
  (∀(e:XO),(∀l∈e,l.g=0)->(∀l∈e,∀n,l.act.touch?=C n->False)->(∀l∈e,∀Q,l.act≠.mark (.release Q))->kK g (q.setChan g.rc 4 (h.extract 1 h.size) cl O (m+1) Xp) T y O (m+1) cl (h.extract 1 h.size)->cC P d c0 (q.setChan g.rc 4 (h.extract 1 h.size) cl O (m+1) Xp) (c++e) T y d2)->
  ∃a3 f e,runT P (crowd U q sl) 0=(.next (crowd a3 f sl),e)/\(Jf P d g m b8 a y a3 f (c++e)\/(a3=U.setIfInBounds 0 (parked a #[rcase g.rc b8] (.recv J))/\f=q/\e=#[]/\q.heap[g.rc]?=C (.chan 4 #[] Xp m m Xp))):=by
  intro O cl h d2 w f9 c9 d9 e3 j7;have h3:g.rc<q.heap.size:=(XZ.1 w.heap).1;have X:=crowd_recv_buf (P:=P) (sl:=sl) (i:=0) a0 (d1 q) w.heap f9 (pN p a0 N W (by grind) c9);have a8:=i1 (.recv g.rc m 4) (.recvDone g.rc m) a
  have a1:∀l∈(XP 0 v.frame.fn v.frame.place #[]++#[{g:=0,fn:=a.frame.fn,pos:=a.frame.place,act:=.recv g.rc m 4},{g:=0,fn:=a.frame.fn,pos:=a.frame.place,act:=.recvDone g.rc m}]:XO),∀n,l.act.touch?=C n->False:=by simp[XP,MemAct.touch?]
  have R:∀l∈(XP 0 v.frame.fn v.frame.place #[]++#[{g:=0,fn:=a.frame.fn,pos:=a.frame.place,act:=.recv g.rc m 4},{g:=0,fn:=a.frame.fn,pos:=a.frame.place,act:=.recvDone g.rc m}]:XO),∀Q,l.act≠.mark (.release Q):=by simp[XP]
  have z:=lh (b:=0) (c:=c) (q:=q) (e:=(XP 0 v.frame.fn v.frame.place #[]++#[{g:=0,fn:=a.frame.fn,pos:=a.frame.place,act:=.recv g.rc m 4},{g:=0,fn:=a.frame.fn,pos:=a.frame.place,act:=.recvDone g.rc m}]:XO)) (v:=4) (u:=h.extract 1 h.size) (w:=cl) (y:=O) (z:=m+1) (D:=Xp) w.own a1 R;have a7:=w.count;have j8:=w.room
  have c8:kK g (q.setChan g.rc 4 (h.extract 1 h.size) cl O (m+1) Xp) T y O (m+1) cl (h.extract 1 h.size):=by
   refine⟨?_,by simp;omega,by simp;omega,w.own,yX w.msgs⟩
   grind [World.setChan]
  refine⟨_,_,_,X,Xr ⟨_,T,G.step z,nA e4 w.own a1 R,?_,Xr ⟨d9,h.getD 0 I,?_,?_,λb=>if b=d then d2 else a2 b,A,?_,N,by grind,by grind,⟨_,_,_,_,_,c8.heap⟩⟩⟩⟩
  .have b2:(XP 0 v.frame.fn v.frame.place #[]++#[{g:=0,fn:=a.frame.fn,pos:=a.frame.place,act:=.recv g.rc m 4},{g:=0,fn:=a.frame.fn,pos:=a.frame.place,act:=.recvDone g.rc m}]:XO)=[({g:=0,fn:=a.frame.fn,pos:=a.frame.place,act:=.recv g.rc m 4}:MemOp),{g:=0,fn:=a.frame.fn,pos:=a.frame.place,act:=.recvDone g.rc m}].toArray:=by rfl
   rw[b2,aaf,d7];rfl
  .rw[Yh f8];rfl
  .have r:h[0]?=C h[0]:=Yb f9;rw[YG,r];exact w.msgs 0 _ r
  exact p.chan G z N W (by grind) (by simp) (λs _ a4=>e8 _ s (by omega)) (λs a4=>f_ c (g':=0) (by omega) _ a8) (λZ L=>by
   grind) (Xr e3) (λl S=>Xr (a8 l S)) (λn r=>by rw[r]at e3;cases e3) (λb1 b4 e2 e1=>by
   simp only[K.setChan]
   rw[Yj (λY=>by subst Y;exact e1 _ _ _ _ _ _ w.heap)])
 cases e7 with
 |lv b7=>cases a9
 |wk n=>cases a9
 |pr f0 D d4 e9=>
  cases a9;obtain⟨f4,d5,⟨u,h,o⟩,c6,a6,H,c7⟩:=d0;obtain rfl:=e6 o;by_cases b4:0<h.size
  .have a7:=o.count;exact take _ _ h (.pr g D d4 e9) o b4 (λZ L=>by grind) (by omega) A λe e5 b6 R w=>⟨f4,d5,⟨_,_,w⟩,c6.other (i:=0) (by omega) (lh o.own b6 R),by rw[f_ c (g':=0) (by omega) e e5];exact a6,⟨H.1,H.2.1.chan b6 (by rw[o.heap];simp),H.2.2⟩,c7⟩
  have d6:h=#[]:=Y_ (by omega);subst d6
  have X:=crowd_waits (P:=P) (sl:=sl) (i:=0) a0 (d1 q) (λj0 f5=>by
   simp only[ZM,Yg,Yo,Ze]at f5;subst f5
   exact ways_recv_none o.heap (pN p a0 N W (by rw[a5];rfl) (λZ L=>by grind)))
  have a7:=o.count;simp at a7;exact⟨_,_,_,X,Xs ⟨A,A,by rfl,by rw[o.heap,<-a7]⟩⟩
 |pb f0 D d4 e9 t d3 i8=>
  cases a9;obtain⟨f4,d5,j1,⟨u,h,o,j2⟩,c6,a6,H,c7,b3⟩:=d0;obtain rfl:=e6 o;subst d5;have h3:g.rc<q.heap.size:=(XZ.1 o.heap).1
  have h1:partners (U.setIfInBounds 0 ph) g.rc J=[(d,0)]:=by
   rw[partners_one (j:=d) (g:=parked t #[scase g.rc d3 i8] .send) (stand_get (by omega) b5),offersAt_parked_send,XN A]
   .rfl
   intro m n f7 r;rcases aax U 0 m n r with⟨rfl,rfl⟩|⟨j4,r⟩
   .rfl
   refine ZU ?_ _ _;have x:=p.each m n (by omega) r;generalize h5:a2 m=i5 at x;cases i5 with
   |lv b7=>rcases x.1.status with p|p<;>rw[p]<;>simp
   |wk n=>obtain⟨f1,_,_,x⟩:=x;rcases x.status with p|p<;>rw[p]<;>simp
   |pr b0 i0 f1 i7=>rw[x.1];simp
   |pq b0 b7=>rcases x.2.1.status with p|p<;>rw[p]<;>simp
   |pb b0 i0 f1 i7 Z j9 k0=>exact absurd (p.one m d b0.rc g.rc (by omega) N (XZ.1 r).1 W (by rw[h5];rfl) (by rw[a5];rfl)) f7
  have X:=qy (P:=P) (sl:=sl) (b:=0) (j:=d) a0 (d1 q) o.heap (by omega) (by omega) b5 h1;rw[aba]at X;have a7:=o.count
  have b2:∀(n:E),(XP 0 v.frame.fn v.frame.place #[]++#[{g:=0,fn:=a.frame.fn,pos:=a.frame.place,act:=.recv g.rc u 4},{g:=0,fn:=a.frame.fn,pos:=a.frame.place,act:=.recvDone g.rc u},
   {g:=d,fn:=t.frame.fn,pos:=t.frame.place,act:=.send g.rc n},{g:=d,fn:=t.frame.fn,pos:=t.frame.place,act:=.sendDone g.rc n}]:XO)=
   [({g:=0,fn:=a.frame.fn,pos:=a.frame.place,act:=.recv g.rc u 4}:MemOp),{g:=0,fn:=a.frame.fn,pos:=a.frame.place,act:=.recvDone g.rc u},{g:=d,fn:=t.frame.fn,pos:=t.frame.place,act:=.send g.rc n},{g:=d,fn:=t.frame.fn,pos:=t.frame.place,act:=.sendDone g.rc n}].toArray:=by
   simp[XP]
  rw[b2]at X
  have a1:∀l∈[({g:=0,fn:=a.frame.fn,pos:=a.frame.place,act:=.recv g.rc u 4}:MemOp),{g:=0,fn:=a.frame.fn,pos:=a.frame.place,act:=.recvDone g.rc u},{g:=d,fn:=t.frame.fn,pos:=t.frame.place,act:=.send g.rc (g.n-(D+1))},{g:=d,fn:=t.frame.fn,pos:=t.frame.place,act:=.sendDone g.rc (g.n-(D+1))}].toArray,∀n,l.act.touch?=C n->False:=by simp[MemAct.touch?]
  have R:∀l∈[({g:=0,fn:=a.frame.fn,pos:=a.frame.place,act:=.recv g.rc u 4}:MemOp),{g:=0,fn:=a.frame.fn,pos:=a.frame.place,act:=.recvDone g.rc u},{g:=d,fn:=t.frame.fn,pos:=t.frame.place,act:=.send g.rc (g.n-(D+1))},{g:=d,fn:=t.frame.fn,pos:=t.frame.place,act:=.sendDone g.rc (g.n-(D+1))}].toArray,(∀Q,l.act≠.mark (.release Q))/\(l.g=0\/l.g=d):=by simp
  have g6:∀s,Deaf (c++[({g:=0,fn:=a.frame.fn,pos:=a.frame.place,act:=.recv g.rc u 4}:MemOp),{g:=0,fn:=a.frame.fn,pos:=a.frame.place,act:=.recvDone g.rc u},{g:=d,fn:=t.frame.fn,pos:=t.frame.place,act:=.send g.rc (g.n-(D+1))},{g:=d,fn:=t.frame.fn,pos:=t.frame.place,act:=.sendDone g.rc (g.n-(D+1))}].toArray) s=Deaf c s:=by intro s;rw[aaf];rfl
  have z:=lh (b:=0) (c:=c) (q:=q) (v:=4) (u:=(h.extract 1 h.size).push d3) (w:=Xp) (y:=g.n-(D+1)+1) (z:=u+1) (D:=Xp) o.own a1 (λl S=>(R l S).1)
  have c8:kK g (q.setChan g.rc 4 ((h.extract 1 h.size).push d3) Xp (g.n-(D+1)+1) (u+1) Xp) T y (g.n-D) (u+1) Xp ((h.extract 1 h.size).push d3):=by
   refine⟨?_,by simp;omega,by simp;omega,o.own,λh7 n r=>?_⟩
   .grind [World.setChan]
   rw[Zq]at r;split at r
   .grind
   exact yX o.msgs h7 n r
  refine⟨_,_,_,X,Xr ⟨_,T,G.step z,nA e4 o.own a1 (λl S=>(R l S).1),by grind,Xr ⟨by omega,h.getD 0 I,?_,?_,λb=>if b=d then .pr g D d4 e9 else a2 b,A,?_,N,by grind,by simp only[Ym];rfl,⟨_,_,_,_,_,c8.heap⟩⟩⟩⟩
  .rw[Yh (by grind)];rfl
  .have r:h[0]?=C h[0]:=Yb (by omega);rw[YG,r];exact o.msgs 0 _ r
  refine p.chan G z N W (by rw[a5];rfl) (by simp) (λs f7 a4=>?_) (λs a4=>g6 s) (λZ L=>?_) (Xr A) (λl S=>(R l S).2) (λn r=>by cases r) (λb1 b4 e2 e1=>by
   simp only[K.setChan]
   rw[Yj (λY=>by subst Y;exact e1 _ _ _ _ _ _ o.heap)])
  .grind
  rw[i6 _ d (by omega),Yh W]at L;cases L
  exact⟨A,by omega,⟨_,_,c8⟩,c6.stay z (λQ b1 g4=>by
   have j3:b1≠g.rc:=by intro Y;subst Y;rcases c6.dz Q _ g4 _ (Xr A)with p|⟨p,_⟩<;>(rw[o.own]at p;cases p)
   grind [World.setChan]),by grind,⟨H.1,H.2.1.chan a1 (by rw[o.heap];simp),H.2.2⟩,b3⟩
 |pq f0 b7=>
  cases a9;obtain⟨⟨u,h,o⟩,a6,g0,H,c7,b3⟩:=d0;obtain rfl:=e6 o
  have c9:∀Z,U[d]?=C Z->Z.status≠.blocked:=λZ L=>by rw[b5]at L;cases L;rcases a6.status with p|p<;>rw[p]<;>simp
  have a7:=o.count;by_cases b4:0<h.size
  .refine take _ _ h (.pq g b7) o b4 c9 (by omega) A λe e5 b6 R w=>?_;have z:=lh (b:=0) (c:=c) (q:=q) (e:=e) (v:=4) (u:=h.extract 1 h.size) (w:=J) (y:=g.n) (z:=u+1) (D:=Xp) o.own b6 R;refine⟨⟨_,_,w⟩,by rw[f_ c (g':=0) (by omega) e e5];exact a6,g0,?_,?_,b3.1.frame G z (by omega),b3.2.chan b6 (by rw[o.heap];simp)⟩
   .rw[abn (t_ H)];exact H
   grind [heard_old,lt_of_act?]
  have d6:h=#[]:=Y_ (by omega);subst d6;have X:=crowd_recv_closed (P:=P) (sl:=sl) (i:=0) a0 (d1 q) o.heap (pN p a0 N W (by rw[a5];rfl) c9);have b2:(XP 0 v.frame.fn v.frame.place #[]++#[{g:=0,fn:=a.frame.fn,pos:=a.frame.place,act:=.recvClosed g.rc}]:XO)=#[({g:=0,fn:=a.frame.fn,pos:=a.frame.place,act:=.recvClosed g.rc}:MemOp)]:=by rfl
  rw[b2]at X
  have a1:∀l∈(#[({g:=0,fn:=a.frame.fn,pos:=a.frame.place,act:=.recvClosed g.rc}:MemOp)]:XO),∀n,l.act.touch?=C n->False:=by simp[MemAct.touch?]
  have a8:∀l∈(#[({g:=0,fn:=a.frame.fn,pos:=a.frame.place,act:=.recvClosed g.rc}:MemOp)]:XO),l.g=0:=by simp
  have z:kg c q q T T 0 (#[({g:=0,fn:=a.frame.fn,pos:=a.frame.place,act:=.recvClosed g.rc}:MemOp)]:XO):=mR a1 (λl S Q=>by grind)
  have e0:(c++#[({g:=0,fn:=a.frame.fn,pos:=a.frame.place,act:=.recvClosed g.rc}:MemOp)])[c.size]?=C {g:=0,fn:=a.frame.fn,pos:=a.frame.place,act:=.recvClosed g.rc}:=by simp
  have h2:=t_ H
  have d9:Knows (c++#[({g:=0,fn:=a.frame.fn,pos:=a.frame.place,act:=.recvClosed g.rc}:MemOp)]) 0 g0:=by refine⟨c.size,_,e0,A,Xs (.single (Xs ⟨.closed (c:=g.rc) (by grind [act?_old]) (act?_of e0),(ZL h2).2 c7,0,fG e0,?_⟩))⟩;rw[deaf_old (Ye _)];exact d7
  refine⟨_,_,_,X,Xr ⟨_,T,G.step z,e4.stay z (λ_ _ _=>rfl),?_,Xs ⟨by omega,?_,λb=>if b=d then .lv b7 else a2 b,A,?_,?_⟩⟩⟩
  .have g3:(#[({g:=0,fn:=a.frame.fn,pos:=a.frame.place,act:=.recvClosed g.rc}:MemOp)]:XO)=[({g:=0,fn:=a.frame.fn,pos:=a.frame.place,act:=.recvClosed g.rc}:MemOp)].toArray:=A;rw[g3,aaf,d7];rfl
  .rw[Yh f8];rfl
  .refine p.chan G z N W (by rw[a5];rfl) (by simp) (λs _ a4=>e8 _ s (by omega)) (λs a4=>f_ c (g':=0) (by omega) _ a8) (λZ L=>?_) (Xs A) (λl S=>Xr (a8 l S)) (λn r=>by cases r) (λ_ _ _ _=>rfl);rw[e8 _ d (by omega),b5]at L;cases L;refine⟨by rw[f_ c (g':=0) (by omega) _ a8];exact a6,λh8 l n x g7 r h0 e2=>?_⟩;rcases Yf x with⟨g9,a4⟩|⟨_,j5⟩
   .exact Knows.of_before ((b3.1 h8 l n a4 g7 r h0 (e2.imp id (ZL g9).1)).app _) d9
   grind
  intro b g8 f6;simp at f6;by_cases d8:b=d
  .simp[d8];rfl
  simp only[d8,Yq];cases j6:(a2 b).pd with
  |none=>rfl
  |some b0=>exact absurd (p.one b d b0.rc g.rc g8 N f6 W (by grind [aF.cD]) (by rw[a5];rfl)) d8
def jo(q:K)(b a:E):Prop:=q.heap[b]?=C (.chan 4 #[] Xp a a Xp)
theorem DH{x:E->aF}{g:PD}{k:E}{a0:Xn}{i:XD}(sl:Xz (E×E))(p:bz P U q c T y x)(i1:eP (C (d,g,k)) U q x)(N:jo q g.rc k)(G:cS c q T)(c7:aG P c q T 0 y)(g4:Deaf c 0=0)
 (a6:U[0]?=C (parked a #[rcase g.rc a0] (.recv J)))(k8:a.status=.running)(b4:0<b)(a3:U[b]?=C i)(h7:i.status=.running):
 ∃D f e,runT P (crowd U q sl) b=(.next (crowd D f sl),e)/\(Jf P d g k a0 a y D f (c++e)\/
  ∃h d2,dU Ms.lt (ug d2 D.size) (ug x U.size)/\bz P D f (c++e) h y d2/\eP (C (d,g,k)) D f d2/\cS (c++e) f h/\aG P (c++e) f h 0 y/\Deaf (c++e) 0=0/\
   ((jo f g.rc k/\D[0]?=C (parked a #[rcase g.rc a0] (.recv J)))\/D[0]?=C {parked a #[rcase g.rc a0] (.recv J)with status:=.running})):=by
 have b5:b<U.size:=(XZ.1 a3).1;obtain⟨L,Q,c0,h8⟩:=i1;have X:(x d).chan=C g.rc:=by simp_all [aF.cD]
 by_cases hd:vf P i (x b)
 ·
  have e6:=p.each b i b4 a3;obtain⟨d1,Y⟩:∃d1,x b=d1:=⟨_,A⟩;rw[Y]at e6 hd;cases d1 with
  |lv Z=>exact hd.elim
  |wk s=>exact hd.elim
  |pq O Z=>exact hd.elim
  |pb O R d4 f0 k5 d3 a0=>exact hd.elim
  |pr O R d4 f0=>
   have g8:b=d:=p.one b d O.rc g.rc b4 L b5 Q (by rw[Y];rfl) X;subst g8;rw[Y]at c0;cases c0;obtain⟨_,k9,⟨l6,f6,v⟩,c8,e2,a5,l1⟩:=e6;have o:=v.heap;rw[N]at o;simp only[Yr,Obj.chan.injEq]at o;obtain⟨_,i4,_,l2,i5,_⟩:=o;subst i4;subst i5;have e5:g.rc<q.heap.size:=(XZ.1 N).1;have e3:(b==0)=Xp:=by simp;omega
   have g2:=v.count;cases R with
   |zero=>
    obtain⟨_,h3,d7,g5,c9,Z,l0⟩:=hd;have c6:=c9 q _ _ _ _ _ N;have b1:XP b i.frame.fn i.frame.place #[⟨.obj g.rc,Xp,J⟩,⟨.obj g.rc,J,J⟩]=#[{g:=b,fn:=i.frame.fn,pos:=i.frame.place,act:=.access ⟨.obj g.rc,Xp,J⟩},{g:=b,fn:=i.frame.fn,pos:=i.frame.place,act:=.close g.rc}]:=by simp[XP,XY]
    have H:kg c q (q.setChan g.rc 4 #[] J k k Xp) T T b (XP b i.frame.fn i.frame.place #[⟨.obj g.rc,Xp,J⟩,⟨.obj g.rc,J,J⟩]):=by
     refine⟨by simp[K.setChan],A,λS d8=>?_,λ_ _ _ _=>rfl,λl4 S _ a7 a8=>by grind [World.setChan],λt u s o b6=>?_,dX (by simp),Xr λt u s o b6=>?_,A⟩
     rotate_right
     .obtain⟨z,a2,rfl⟩:=Go.Conc.mem_ofEvents u;simp only[ZM,Yg,Yo,Ze]at a2;rcases a2 with rfl|rfl
      .simp[XY,MemAct.touch?]at o;subst o;exact v.own
      simp_all [XY,MemAct.touch?]
     .by_cases d9:S=g.rc
      .subst d9;exact Xs (Xr (Xr v.own))
      grind [World.setChan]
     rw[b1]at u;simp only[ZM,Yg,Yo,Ze]at u;rcases u with rfl|rfl
     .simp[MemAct.touch?]at o;subst o;exact⟨A,g.rc,Xr A,by simp[K.setChan];exact e5,Xs ⟨e5,Xs (Xs ⟨v.own,Xr A⟩)⟩⟩
     simp_all [MemAct.touch?]
    have f7:∀l,l≠b->Deaf (c++XP b i.frame.fn i.frame.place #[⟨.obj g.rc,Xp,J⟩,⟨.obj g.rc,J,J⟩]) l=Deaf c l:=λl r=>f_ c (g':=b) (λz=>r z.symm) _ (λt u=>by grind);have lone:∀l w,0<l->l<U.size->l≠b->(x l).chan=C w->False:=λl w a7 a8 b2 b3=>b2 (p.one l b w g.rc a7 L a8 Q b3 X)
    have i3:∀l,l≠b->0<l->∀s,U[l]?=C s->Go.Conc.woken P i d7 (q.setChan g.rc 4 #[] J k k Xp) s=s:=λl r W s o=>(p.each l s W o).woken i d7 λw e0=>(lone l w W (XZ.1 o).1 r e0).elim
    have g7:(q.setChan g.rc 4 #[] J k k Xp).heap[g.rc]?=C (.chan 4 #[] J k k Xp):=by simp_all [K.setChan]
    refine⟨_,_,_,J_ (P:=P) (sl:=sl) (i:=b) a3 (by rw[e3];exact c6),Xs ⟨T,λj=>if j=b then .pq g Z else x j,?_,?_,⟨L,by simp_all,by simp only[Ym];rfl,⟨_,_,_,_,_,g7⟩⟩,G.step H,c7.other (by omega) H,by grind,.inr ?_⟩⟩
    .simp only[YD,ZR];exact lx b5 (by rw[Y];exact .left _ _ (by simp))
    .obtain⟨i6,l3⟩:=fJ (x:=.pq g Z) p H (λS d8 a9 b7=>by
    simp only[K.setChan]
    rw[Yj (λz=>by subst z;exact b7 _ _ _ _ _ _ N)]) (by rw[Y];exact⟨A,A,A⟩) ⟨λs o=>(by cases o),λs o=>by simp_all⟩
     refine p.jY G H (jd.refl y) (by simp) (λl r W=>mX l r (i3 l r W)) f7 (λl w a7 a8 b2 b3=>(lone l w a7 a8 b2 b3).elim) b5 (λd6 _ a4=>?_) (λw e0=>⟨g.rc,X⟩) (λk r _ t u=>by grind) i6 (λd4 k6=>by simp_all);rw[Yh (by simp_all)]at a4;cases a4
     have e4:(c++#[({g:=b,fn:=i.frame.fn,pos:=i.frame.place,act:=.access ⟨.obj g.rc,Xp,J⟩}:MemOp),{g:=b,fn:=i.frame.fn,pos:=i.frame.place,act:=.close g.rc}])[c.size+1]?=C {g:=b,fn:=i.frame.fn,pos:=i.frame.place,act:=.close g.rc}:=by simp
     have k7:Deaf (c++XP b i.frame.fn i.frame.place #[⟨.obj g.rc,Xp,J⟩,⟨.obj g.rc,J,J⟩]) b=0:=by rw[a_,e2];rfl
     refine⟨⟨k,#[],?_⟩,by simp_all,c.size+1,?_,?_,?_⟩
     .refine⟨?_,by simp at g2⊢;omega,by simp,v.own,by simp⟩;simp_all
     .simp_all [XO.act?]
     .rw[b1];refine⟨b,fG e4,?_⟩
      have f9:(c++#[({g:=b,fn:=i.frame.fn,pos:=i.frame.place,act:=.access ⟨.obj g.rc,Xp,J⟩}:MemOp),{g:=b,fn:=i.frame.fn,pos:=i.frame.place,act:=.close g.rc}])[c.size]?=C {g:=b,fn:=i.frame.fn,pos:=i.frame.place,act:=.access ⟨.obj g.rc,Xp,J⟩}:=by simp
      rw[deaf_succ f9,deaf_old (Ye _)];exact e2
     refine⟨?_,a5.2.1.own G H λt u s o b6 a9=>?_⟩
     rotate_left
     .obtain⟨z,a2,rfl⟩:=Go.Conc.mem_ofEvents u;simp only[ZM,Yg,Yo,Ze]at a2;rcases a2 with rfl|rfl
      .simp[XY,MemAct.touch?]at o;subst o;exact absurd v.own a9
      simp_all [XY,MemAct.touch?]
     intro i7 t s r g6 o b6 a9;rw[b1]at r⊢
     have h2:=aar r;simp at h2;by_cases h0:i7=c.size+1
     .exact Xr h0
     exact Xs (hb_po (by omega) r e4 g6)
    rw[Yj (by omega),Yu,a6];simp only[ZA,Yr];unfold Go.Conc.woken;rw[XN (by rw[h3,g5];rfl)]
    grind [again_recv_closed]
   |succ R=>
    obtain⟨_,d3,m0,c9,i2,h5,h4⟩:=hd;obtain⟨f1,g0⟩:=h4.tree;have c6:=c9 q c8.rel;have e7:an y.S y.β (g.τ (g.n-(R+1))) d3:=an.to a5.1.1 h5 i2
    have h6:partners (U.setIfInBounds b ph) g.rc Xp=[(0,0)]:=by
     rw[partners_one (j:=0) (g:=parked a #[rcase g.rc a0] (.recv J)) (stand_get (by omega) a6),offersAt_parked_recv,XN A]
     .rfl
     intro l s h1 o;rcases aax U b l s o with⟨rfl,rfl⟩|⟨g9,o⟩
     .rfl
     refine ZU ?_ _ _;have r:=p.each l s (by omega) o;generalize h9:x l=k0 at r;cases k0 with
     |lv Z=>rcases r.1.status with p|p<;>rw[p]<;>simp
     |wk s=>obtain⟨d5,_,_,r⟩:=r;rcases r.status with p|p<;>rw[p]<;>simp
     |pr O i9 d5 k1=>rw[r.1];simp
     |pq O Z=>rcases r.2.1.status with p|p<;>rw[p]<;>simp
     |pb O i9 d5 k1 d6 l8 l9=>exact absurd (p.one l b O.rc g.rc (by omega) L (XZ.1 o).1 Q (by rw[h9];rfl) X) g9
    have b0:=crowd_send_meets (P:=P) (sl:=sl) (i:=b) (j:=0) a3 (by rw[e3];exact c6) v.heap (by omega) a6 h6;rw[aba,finishComm_recv]at b0
    have f8:(XP b i.frame.fn i.frame.place #[]++#[{g:=b,fn:=i.frame.fn,pos:=i.frame.place,act:=.send g.rc k},{g:=0,fn:=a.frame.fn,pos:=a.frame.place,act:=.recv g.rc k 4},
     {g:=b,fn:=i.frame.fn,pos:=i.frame.place,act:=.sendDone g.rc k},{g:=0,fn:=a.frame.fn,pos:=a.frame.place,act:=.recvDone g.rc k}]:XO)=
     [({g:=b,fn:=i.frame.fn,pos:=i.frame.place,act:=.send g.rc k}:MemOp),{g:=0,fn:=a.frame.fn,pos:=a.frame.place,act:=.recv g.rc k 4},{g:=b,fn:=i.frame.fn,pos:=i.frame.place,act:=.sendDone g.rc k},{g:=0,fn:=a.frame.fn,pos:=a.frame.place,act:=.recvDone g.rc k}].toArray:=by rfl
    have i0:g.n-(R+1)=k:=by omega
    rw[i0]at b0 e7;rw[f8]at b0
    have b9:∀t∈[({g:=b,fn:=i.frame.fn,pos:=i.frame.place,act:=.send g.rc k}:MemOp),{g:=0,fn:=a.frame.fn,pos:=a.frame.place,act:=.recv g.rc k 4},{g:=b,fn:=i.frame.fn,pos:=i.frame.place,act:=.sendDone g.rc k},{g:=0,fn:=a.frame.fn,pos:=a.frame.place,act:=.recvDone g.rc k}].toArray,∀s,t.act.touch?=C s->False:=by simp[MemAct.touch?]
    have b8:∀t∈[({g:=b,fn:=i.frame.fn,pos:=i.frame.place,act:=.send g.rc k}:MemOp),{g:=0,fn:=a.frame.fn,pos:=a.frame.place,act:=.recv g.rc k 4},{g:=b,fn:=i.frame.fn,pos:=i.frame.place,act:=.sendDone g.rc k},{g:=0,fn:=a.frame.fn,pos:=a.frame.place,act:=.recvDone g.rc k}].toArray,(∀a1,t.act≠.mark (.release a1))/\(t.g=0\/t.g=b):=by simp
    have g3:∀l,Deaf (c++[({g:=b,fn:=i.frame.fn,pos:=i.frame.place,act:=.send g.rc k}:MemOp),{g:=0,fn:=a.frame.fn,pos:=a.frame.place,act:=.recv g.rc k 4},{g:=b,fn:=i.frame.fn,pos:=i.frame.place,act:=.sendDone g.rc k},{g:=0,fn:=a.frame.fn,pos:=a.frame.place,act:=.recvDone g.rc k}].toArray) l=Deaf c l:=by intro l;rw[aaf];rfl
    have H:=lh (b:=0) (c:=c) (q:=q) (v:=4) (u:=#[]) (w:=Xp) (y:=k+1) (z:=k+1) (D:=Xp) v.own b9 (λt u=>(b8 t u).1)
    have e1:kK g (q.setChan g.rc 4 #[] Xp (k+1) (k+1) Xp) T y (g.n-R) (k+1) Xp #[]:=by
     refine⟨?_,by simp;omega,by simp,v.own,by simp⟩
     grind [World.setChan]
    refine⟨_,_,_,b0,Xr ⟨_,T,G.step H,nA c7 v.own b9 (λt u=>(b8 t u).1),by grind,Xr ⟨by omega,d3,?_,e7,λj=>if j=b then .pr g R f1 f0 else x j,A,?_,L,by grind,by simp only[Ym];rfl,⟨_,_,_,_,_,e1.heap⟩⟩⟩⟩
    .rw[Yj (by omega),Yh (by omega)];rfl
    .refine p.chan G H L Q (by rw[Y];rfl) (by simp) (λl h1 W=>?_) (λl W=>g3 l) (λd6 a4=>?_) (Xr A) (λt u=>(b8 t u).2) (λs o=>by cases o) (λS d8 a9 b7=>by
    simp only[K.setChan]
    rw[Yj (λz=>by subst z;exact b7 _ _ _ _ _ _ N)])
     .grind
     rw[Yh (by grind)]at a4;cases a4
     exact⟨A,by omega,⟨_,_,e1⟩,c8.stay H (λa1 S g1=>by
      have d9:S≠g.rc:=by intro z;subst z;rcases c8.dz a1 _ g1 _ (Xr A)with p|⟨p,_⟩<;>(rw[v.own]at p;cases p)
      grind [World.setChan]),by grind,⟨a5.1,a5.2.1.chan b9 (by rw[N];simp),a5.2.2⟩,g0⟩
 obtain⟨e9,D,f,e,h,q1,l5,j4,⟨a1,f2,e8⟩,j5,j6,j7,j8,j9,d0,_⟩:=quiet_step sl p G c7 a6 b4 a3 h7 hd;rw[woken_recv_open a1 f2 (by rw[(d0 d g.rc 0 L Q X).1];exact N)]at e8;refine⟨D,f,e,q1,Xs ⟨h,_,?_,j5,iM ⟨L,Q,c0,h8⟩ j4 j9 (λk w j0 f3 f4 f5=>(d0 k w j0 f3 f4 f5).2),j6,j7,j8.trans g4,Xr ⟨?_,e8⟩⟩⟩
 .simp_all [lx]
 unfold jo;rw[(d0 d g.rc 0 L Q X).1];exact N
end
variable{b:XD}{d:Xq Ms}{a:XO}{c:E}
section
theorem AtRecv.again{c:E}{d:Xn}{e:Xu CommCase}{f:CommShape}(a:AtRecv P c d b b):AtRecv P c d {parked b e f with status:=.running} b:=
 ⟨A,a.1,λq=>by rw[stepG_tries];have:=a.2.2 q;rw[<-a.1];exact this⟩
theorem np{b:dc}(c:E)(e:db P b d U q a T y):db P b d U (q.at c) a T y:=(aj P b).at_ c e
theorem Kg{e:PD}{i:E}{o:Xn}(S:AtRecv P e.rc o b b):∀(d:Xq Ms),
 (∀(U:Xu XD)(q:K)(sl:Xz (E×E))(a:XO)(T:Loc->Own)(y:bR)(t:XD),db P (C (c,e,i)) d U q a T y->cS a q T->aG P a q T 0 y->U[0]?=C t->Deaf a 0=0->AtRecv P e.rc o t b->
   bY P U q sl a λk v _ Q=>Jf P c e i o b y k v Q)/\
 (∀(U:Xu XD)(q:K)(sl:Xz (E×E))(a:XO)(T:Loc->Own)(y:bR),db P (C (c,e,i)) d U q a T y->cS a q T->aG P a q T 0 y->U[0]?=C (parked b #[rcase e.rc o] (.recv J))->Deaf a 0=0->jo q e.rc i->
   bY P U q sl a λk v _ Q=>Jf P c e i o b y k v Q):=by
 intro d
 induction (dU.wf Ms.wf).apply d with
 |intro d _ a6=>
  have b4:∀(U:Xu XD)(q:K)(sl:Xz (E×E))(a:XO)(T:Loc->Own)(y:bR),db P (C (c,e,i)) d U q a T y->cS a q T->aG P a q T 0 y->U[0]?=C (parked b #[rcase e.rc o] (.recv J))->Deaf a 0=0->jo q e.rc i->
   bY P U q sl a λk v _ Q=>Jf P c e i o b y k v Q:=by
   intro U q sl a T y r G O m H L;have a4:∀u∈U,Go.Conc.awake u:=by
    intro u a5;obtain⟨g,h,rfl⟩:=Zd.1 a5;rcases Yp g with rfl|s
    .have:U[0]=parked b #[rcase e.rc o] (.recv J):=by simpa[Yb h]using m
     rw[this];exactλa Z=>by cases Z
    exact(aj P (C (c,e,i))).awake r g _ s (Yb h)
   have d6:∃(g:E)(b:XD),U[g]?=C b/\b.status=.running:=by
    obtain⟨a1,_,l,d4,b6,N,e6⟩:=r;have X:=l.each c _ d4 (Yb b6);refine⟨c,_,Yb b6,?_⟩;obtain⟨a7,d5⟩:∃a7,a1 c=a7:=⟨_,A⟩;rw[d5]at X N;cases a7 with
    |lv d8=>cases N
    |wk u=>cases N
    |pr a8 d7 b9 e3=>exact X.1
    |pb a8 d7 b9 e3 e5 f1 o=>cases N;obtain⟨_,_,_,⟨e2,c0,z,c9⟩,_⟩:=X;have:=z.heap;rw[L]at this;cases this;simp at c9
    |pq a8 d8=>cases N;obtain⟨⟨e2,c0,z⟩,_⟩:=X;have:=z.heap;rw[L]at this;cases this
   obtain⟨g,c7,f,p,h,W,Y⟩:=s_ (P:=P) (w:=q) (sl:=sl) a4 d6;have s:0<g:=by
    rcases Yp g with rfl|c8
    .rw[m]at h;cases h;cases W
    exact c8
   obtain⟨a1,rfl,l,a0⟩:=np f r;obtain⟨k,w,b8,x,n⟩:=DH p l a0 (show jo (q.at f) e.rc i from L) (G.at f) (O.at f) H m S.1 s h W;refine bY.head (Y.trans x) ?_;rcases n with n|⟨R,b7,b5,a9,b0,b1,b2,b3,a2⟩
   .exact .now n
   rcases a2 with⟨a2,a3⟩|a3
   .exact(a6 _ b5).2 k w p _ R y ⟨b7,A,a9,b0⟩ b1 b2 a3 b3 a2
   exact(a6 _ b5).1 k w p _ R y _ ⟨b7,A,a9,b0⟩ b1 b2 a3 b3 S.again
  refine⟨?_,b4⟩;intro U q sl a T y t r G O m H D;have a4:∀u∈U,Go.Conc.awake u:=by
   intro u a5;obtain⟨g,h,rfl⟩:=Zd.1 a5;rcases Yp g with rfl|s
   .have:U[0]=t:=by simpa[Yb h]using m
    rw[this];exactλa Z=>by rw[D.1]at Z;cases Z
   exact(aj P (C (c,e,i))).awake r g _ s (Yb h)
  obtain⟨g,c7,f,p,h,W,Y⟩:=s_ (P:=P) (w:=q) (sl:=sl) a4 ⟨0,t,m,D.1⟩;rcases Yp g with rfl|s
  .obtain⟨a1,rfl,l,a0⟩:=np f r;obtain⟨k,w,b8,x,n⟩:=KA p l a0 (G.at f) (O.at f) H m D;refine bY.head (Y.trans x) ?_;rcases n with n|⟨rfl,rfl,rfl,L⟩
   .exact .now n
   rw[aay];refine b4 _ (q.at f) p a T y ⟨a1,by simp,?_,?_⟩ (G.at f) (O.at f) (by rw[Yh (XZ.1 m).1]) H ?_
   .exact⟨λg b h S=>l.each g b h (by rwa [Yj (by omega)]at S),by simpa using l.one,by simpa using l.above,by simpa using l.wg,by simpa using l.ops⟩
   .obtain⟨q1,d9,e0,e1⟩:=a0;exact⟨q1,by simpa using d9,e0,e1⟩
   exact L
  obtain⟨c6,k,w,b8,R,x,n,z,d0,d1,d2,d3⟩:=(aj P (C (c,e,i))).step p (np f r) (G.at f) (O.at f) m D.1 s h W;refine bY.head (Y.trans x) ?_;exact(a6 c6 n).1 k w p _ R y t d0 d1 d2 z (d3.trans H) D
end
end
end Go.Sim
namespace Wt
def blank(a:Out):Out:={a with idx:=0}
def Alike(a b:cz×Xq Out):Prop:=a.1=b.1/\a.2.map blank=b.2.map blank
theorem Alike.rfl(a:cz×Xq Out):Alike a a:=⟨Eq.refl _,Eq.refl _⟩
theorem El(c j:Xt)(b:cz)(a:Ev):Alike (gN c b a) (gN j b a):=by refine⟨Eq.refl _,?_⟩;unfold gN;simp only[P_];exact Xq.map_congr_left λd _=>Eq.refl _
theorem jT(c j:Xt):∀(b:Xq Ev)(a:cz),Alike (tell c a b) (tell j a b)
 |[],a=>Alike.rfl _
 |d::b,a=>by obtain⟨e,f⟩:=El c j a d;unfold tell;simp only;rw[e];obtain⟨g,h⟩:=jT c j b (gN j a d).1;refine⟨g,?_⟩;simp only[ZX,f,h]
theorem vB(a j:Xt)(b:cz)(id:Xt):Alike (MK a b id) (MK j b id):=jT a j _ _
theorem vC(c j:Xt):∀(b:Xq Xt)(a:cz),Alike (ends c a b) (ends j a b)
 |[],a=>Alike.rfl _
 |id::b,a=>by obtain⟨d,e⟩:=vB c j a id;unfold ends;simp only;rw[d];obtain⟨f,g⟩:=vC c j b (MK j a id).1;refine⟨f,?_⟩;simp only[ZX,e,g]
theorem Alike.app{a b:cz×Xq Out}(c:Alike a b){d e:Out}(f:blank d=blank e):Alike (a.1,a.2++[d]) (b.1,b.2++[e]):=by refine⟨c.1,?_⟩;simp only[ZX,Zj,Zs,c.2,f]
theorem EL(a j:Xt)(c:cz)(b:dA):Alike (write c a b) (write c j b):=by
 unfold write;split
 .exact(vB a j c b.ak).app (Eq.refl _)
 simp only;split
 .split
  .exact⟨Eq.refl _,Eq.refl _⟩
  exact(jT a j _ _).app (Eq.refl _)
 split
 .exact⟨Eq.refl _,Eq.refl _⟩
 split
 .exact(jT a j _ _).app (Eq.refl _)
 exact(jT a j _ _).app (Eq.refl _)
theorem DK(d j:Xt)(c:cz)(b:dA)(a:BP):(dF c d b a).1=(dF c j b a).1/\blank (dF c d b a).2=blank (dF c j b a).2:=by
 unfold dF;split
 .exact⟨Eq.refl _,Eq.refl _⟩
 simp only;split
 .split
  .exact⟨Eq.refl _,Eq.refl _⟩
  exact⟨Eq.refl _,Eq.refl _⟩
 exact⟨Eq.refl _,Eq.refl _⟩
theorem GM{b j:Xt}(g:b<64)(h:j<64)(c:cz)(a:dA):Alike (step c b a) (step c j a):=by
 have f:task b a=task j a:=by unfold task;rw[XH (show¬64<=b by omega),XH (show¬64<=j by omega)]
 unfold step;rw[f];split
 .exact⟨Eq.refl _,Eq.refl _⟩
 .split
  .exact⟨Eq.refl _,Eq.refl _⟩
  exact⟨Eq.refl _,Eq.refl _⟩
 .exact(vC b j _ _).app (Eq.refl _)
 .split
  .exact⟨Eq.refl _,Eq.refl _⟩
  exact EL b j _ a
 obtain⟨d,e⟩:=DK b j c a (look c.tree a.op.path);refine⟨d,?_⟩;show[blank (dF c b a (look c.tree a.op.path)).2]=[blank (dF c j a (look c.tree a.op.path)).2];rw[e]
def cw:cz->Xq dA->cz×Xq Out
 |a,[]=>(a,[])
 |a,b::c=>((cw (step a 0 b).1 c).1,(step a 0 b).2++(cw (step a 0 b).1 c).2)
theorem qK:∀(c:Xq dA)(b:cz)(a:Xt),a+c.length<=64->Alike (handle b a c) (cw b c)
 |[],b,a,_=>Alike.rfl _
 |d::c,b,a,e=>by simp only[Yv]at e;obtain⟨f,g⟩:=GM (b:=a) (j:=0) (by omega) (by omega) b d;unfold handle cw;simp only;rw[f];obtain⟨h,i⟩:=qK c (step b 0 d).1 (a+1) (by omega);refine⟨h,?_⟩;simp only[ZX,g,i]
theorem zn(c:cz)(a:Xt)(b:dA):1<=(step c a b).2.length:=by
 unfold step;split
 .simp
 .split<;>simp
 .simp
 .split
  .simp
  unfold write;split
  .simp
  simp only;split
  .split<;>simp
  split
  .simp
  split<;>simp
 simp
theorem tA:∀(c:Xq dA)(b:cz)(a:Xt),c.length<=(handle b a c).2.length
 |[],b,a=>YH _
 |d::c,b,a=>by unfold handle;simp only[YA,Yv];have:=zn b a d;have:=tA c (step b a d).1 (a+1);omega
end Wt
