/- Proved here: parts of the proof of the claimed theorem, no conditions; the last text states it -/
import Derived.Test.YtfgpkeppjomkmaaGreatDoorRows
import Derived.Test.YtfgpkeppjomkmaaGreatDoorR2
set_option linter.all false
set_option maxRecDepth 100000
set_option maxHeartbeats 16000000
open _root_ renaming rfl->A,Nat->E,Int->VB,List->VD,Array->VE,Bool->VI,if_neg->VK,Option->VL,congrArg->VU,if_pos->VV,ByteArray->VX
open Option renaming some->C,none->I
open Go renaming undef->F,World->K,Value->Vx,TypeId->VJ,Frame->VM,Goroutine->VO,Act->VQ,Sem->VR,Program->VS,Addr->VT,Trace->VY,Event->Wa,MapEntry->Wb,FuncId->Wc,Operand->Wd
open Bool renaming true->J,false->Vz
open Go.Lib renaming hid->VF
open Go.MemOp renaming ofEvents->VZ
open Go.Op renaming operands->We
open Go.MemAct renaming ofEvent->Wf
open Go.IntKind renaming i64->M
open Go.Value renaming int->Vy,slice->VG,pointer->VW
open Or renaming inl->VA,inr->VC
open Go.Obj renaming cells->VH
open Go.Ending renaming returned->VN
open Go.Item renaming inRegion->VP
namespace Go.Sim
open Go.Conc Go.Proofs Go.RowKit
open Go.ConcN (PermW PermW.app PermW.of fork_knows WgLive RelBy sumTo)
open Go.ConcR (KK wgBlock WgAt stA smA rd wr mk DC0)
variable{b:VS}{f:Set}{h:Ren}{a:Vx}{W:Vx}{Q:Vx}{n:E}
section
variable{c e d g:Type}{i:Ren->c->e->Prop}{S:Ren->d->g->Prop}
theorem BP{c d:Type}(a:c)(b:c->VR d):((pure a:VR c) >>= b)=b a:=A
theorem JJ(d:UnOp)(e:an f h a W):ae b f (Vr f) h (Op.unary d a) (Op.unary d W):=by
 cases e<;>cases d<;>first|exact ai|exact fe|exact aC (.bool _)|skip
 .rename_i c n;show ae b f (Vr f) h (Op.intArith .sub c 0 n) (Op.intArith .sub c 0 n);exact lN (qe _ _ _ _)
 rename_i c n;show ae b f (Vr f) h (Op.intBits .xor c (if c.signed then-1 else c.max) n) (Op.intBits .xor c (if c.signed then-1 else c.max) n);exact lN (sN _ _ _ _)
theorem gC(c:an f h a W):ae b f (St h (bC h)) h (Instr.sureAddr a) (Instr.sureAddr W):=by cases c<;>first|exact ai|exact aq ‹_›
theorem En{c d:VT}(g:bC h c d)(e i:E):ae b f (St h (bC h)) h (partAt c e i) (partAt d e i):=by
 unfold partAt;refine au (fG g) λa=>?_;have k:bC h {block:=c.block,off:=c.off+e} {block:=d.block,off:=d.off+e}:=⟨g.1,by simp[g.2.1],A⟩;refine au (fG k) λQ=>?_;dsimp only;by_cases l:Q=a+i
 .simp only[l,Wv];exact aq k
 simp only[l,Wy];exact aq ⟨g.1,k.2.1,A⟩
theorem uP{a c:VT}(e:bC h a c)(d:Field):ae b f (St h (bC h)) h (fieldPlace a d) (fieldPlace c d):=by
 unfold fieldPlace;refine au (aS _) λn=>?_;split
 .exact En e _ _
 exact aq (e.add _)
theorem AN(d:VJ)(m:an f h a W)(c:E):ae b f (Vr f) h (Instr.fieldAt d a c) (Instr.fieldAt d W c):=by
 unfold Instr.fieldAt;refine au (az d) λe=>?_;cases e<;>try exact ai
 rename_i i;dsimp only;cases i[c]? with
 |none=>exact ai
 |some g=>refine ay (gC m) λo p k=>?_;exact ay (uP k g) λq r l=>aC (.ptr l)
theorem Ea(c:VJ)(e:an f h a W):ae b f (Vr f) h (Instr.loadAt c a) (Instr.loadAt c W):=by unfold Instr.loadAt;exact ay (gC e) λg i d=>lN (sR d c)
theorem Cs(c:VJ){d:Vx}(g:an f h a W)(i:an f h Q d):ae b f (St h λ_ _=>True) h (Instr.storeAt c a Q) (Instr.storeAt c W d):=by unfold Instr.storeAt;exact ay (gC g) λk l e=>Aa e i c
theorem Bd(q:Base b h)(g:VJ){s:Vx}(r:an f h a W)(v:an f h Q s):ae b f (Vr f) h (Instr.indexAt g a Q) (Instr.indexAt g W s):=by
 unfold Instr.indexAt;refine au (jT v) λw=>?_;obtain⟨l,c⟩:=w;dsimp only;refine au (az g) λt=>?_
 have fin:∀(m:VI)(base k:VL VT)(len:E)(e:VJ),(base=I/\k=I\/∃d i,base=C d/\k=C i/\bC h d i)->
  ae b f (Vr f) h
   (match base with
     |some d=>(do
      if 0<=c/\c<len then pure (VW (C (d.add (c.toNat*(<-Go.sizeOf e)))))
      else if m then unsupported (.noEntry "op/indexAddr.an index out of range at an array of length 0 or 1 (ledger 616)")
      else boundsPanic l c len .index:VR Vx)
     |none=>boundsPanic l c 0 .index)
   (match k with
     |some d=>(do
      if 0<=c/\c<len then pure (VW (C (d.add (c.toNat*(<-Go.sizeOf e)))))
      else if m then unsupported (.noEntry "op/indexAddr.an index out of range at an array of length 0 or 1 (ledger 616)")
      else boundsPanic l c len .index:VR Vx)
     |none=>boundsPanic l c 0 .index):=by
  intro m base k len e u;rcases u with⟨rfl,rfl⟩|⟨d,i,rfl,rfl,o⟩
  .exact eA q _ _ _ _
  dsimp only;split
  .exact au (aS e) λn=>aC (.ptr (o.add _))
  cases m
  .exact eA q _ _ _ _
  exact .lost A
 cases t with
 |array len e=>dsimp only;refine ay (gC r) λd i o=>?_;rw[BP,BP];refine au (az g) λp=>?_;exact fin _ _ _ _ _ (VC ⟨d,i,A,A,o⟩)
 |slice e=>
  cases r<;>try exact ai
  .refine au (az g) λp=>?_;exact fin Vz _ _ 0 e (VA ⟨A,A⟩)
  refine au (az g) λp=>?_;exact fin _ _ _ _ _ (VC ⟨_,_,A,A,‹_›⟩)
 |_=>exact ai
def lQ(f:Set)(h:Ren):VL Vx->VL Vx->Prop
 |I,I=>True
 |C a,C b=>an f h a b
 |_,_=>False
theorem dT(d:Base b h)(e:an f h a W)(Q:E)(c:BoundsCode):ae b f (St h Eq) h (Instr.sliceBound a Q c) (Instr.sliceBound W Q c):=by
 unfold Instr.sliceBound;refine au (jT e) λg=>?_;dsimp only;split
 .exact aq A
 exact eA d _ _ _ _
theorem eF(c:Base b h)(r:VI)(len o:E){d e i k l m:VL Vx}(a:lQ f h d e)(g:lQ f h i k)(p:lQ f h l m):
 ae b f (St h Eq) h (Instr.sliceBounds r len o d i l) (Instr.sliceBounds r len o e k m):=by
 unfold Instr.sliceBounds;cases l<;>cases m<;>first|(exact p.elim)|skip
 .cases i<;>cases k<;>first|(exact g.elim)|skip
  .cases d<;>cases e<;>first|(exact a.elim)|skip
   .exact aq A
   exact au (dT c a _ _) λq=>aq A
  refine au (dT c g _ _) λs=>?_;cases d<;>cases e<;>first|(exact a.elim)|skip
  .exact aq A
  exact au (dT c a _ _) λq=>aq A
 refine au (dT c p _ _) λt=>?_;cases i<;>cases k<;>first|(exact g.elim)|skip
 .exact ai
 refine au (dT c g _ _) λs=>?_;cases d<;>cases e<;>first|(exact a.elim)|skip
 .exact aq A
 exact au (dT c a _ _) λq=>aq A
theorem JB(r:Base b h)(P:VJ)(w:an f h a W){L N D H p s:VL Vx}(t:lQ f h L N)(u:lQ f h D H)(v:lQ f h p s):
 ae b f (Vr f) h (Instr.slice P a L D p) (Instr.slice P W N H s):=by
 unfold Instr.slice;refine au (az P) λx=>?_;have X:lQ f h I I:=trivial;cases x with
 |string=>
  cases w<;>try exact ai
  rename_i Z;have U:p.isSome=s.isSome:=by cases p<;>cases s<;>first|rfl|exact v.elim
  dsimp only;rw[<-U];cases p.isSome
  .exact au (eF r _ _ _ t u X) λq=>aC (.string _)
  exact .lost A
 |slice R=>
  cases w<;>try exact ai
  .refine au (eF r _ _ _ t u v) λq=>?_;obtain⟨k,o,l⟩:=q;refine au (aS R) λO=>?_;have:(if l=k then(I:VL VT)else VL.map (λa:VT=>a.add (k*O)) I)=I:=by split<;>rfl
   rw[this];exact aC (.aP _ _)
  rename_i m T n Y z;refine au (eF r _ _ _ t u v) λq=>?_;obtain⟨k,o,l⟩:=q;refine au (aS R) λO=>?_;split
  .exact aC (.slice ‹bC h _ _› _ _)
  exact aC (.slice (bC.add ‹bC h _ _› _) _ _)
 |pointer arr=>
  have main:ae b f (Vr f) h
   (do
     let m<-asAddr a
     let .array n y<-underlying arr|stuck "Slice: array type expected"
     let (k,o,l)<-Instr.sliceBounds Vz n n L D p
     let size<-Go.sizeOf y
     pure (VG (C (if l=k then m else m.add (k*size))) (o-k) (l-k)):VR Vx)
   (do
     let m<-asAddr W
     let .array n y<-underlying arr|stuck "Slice: array type expected"
     let (k,o,l)<-Instr.sliceBounds Vz n n N H s
     let size<-Go.sizeOf y
     pure (VG (C (if l=k then m else m.add (k*size))) (o-k) (l-k))):=by
   refine ay (uu r w) λm T z=>?_;refine au (az arr) λx=>?_;cases x<;>try exact ai
   refine au (eF r _ _ _ t u v) λq=>?_;obtain⟨k,o,l⟩:=q;refine au (aS _) λO=>?_;split
   .exact aC (.slice z _ _)
   exact aC (.slice (z.add _) _ _)
  cases w<;>exact main
 |_=>exact ai
theorem Ck(k:Base b h)(c:VJ)(o:an f h a W){p q l m r s:VL Vx}(d:lQ f h p q)(e:lQ f h l m)(g:lQ f h r s):
 ae b f (Vr f) h (Instr.sliceAt c a p l r) (Instr.sliceAt c W q m s):=by
 unfold Instr.sliceAt;refine au (az c) λt=>?_;have other:=JB (b:=b) k c o d e g;cases t with
 |array n x=>
  dsimp only;refine ay (gC o) λv w i=>?_;refine au (eF k _ _ _ d e g) λu=>?_;obtain⟨z,y,D⟩:=u;refine au (aS _) λH=>?_;dsimp only;split
  .exact aC (.slice i _ _)
  exact aC (.slice (i.add _) _ _)
 |_=>exact other
theorem Ix(d:Base b h)(c:VJ){g:Vx}(e:an f h a W)(m:an f h Q g):ae b f (Vr f) h (Instr.index c a Q) (Instr.index c W g):=by
 unfold Instr.index;refine au (jT m) λo=>?_;obtain⟨t,s⟩:=o;dsimp only;refine au (az c) λi=>?_;cases i with
 |array n k=>
  cases e<;>try exact ai
  rename_i q r l p;dsimp only;split
  .exact au (aS k) λu=>lN (iy ⟨l,p⟩ _ _)
  exact eA d _ _ _ _
 |string=>
  cases e<;>try exact ai
  dsimp only;split
  .exact aC (.int _ _)
  exact eA d _ _ _ _
 |_=>exact ai
theorem Ie(d:VJ)(k:an f h a W)(c:E):ae b f (Vr f) h (Instr.field d a c) (Instr.field d W c):=by
 unfold Instr.field;refine au (az d) λe=>?_;cases e<;>try exact ai
 rename_i g;dsimp only;cases g[c]? with
 |none=>exact ai
 |some o=>exact ay (Hp k) λl m i=>lN (iy i _ _)
theorem AM(k:an f h a W)(c:E):ae b f (Vr f) h (Instr.extract a c) (Instr.extract W c):=by
 cases k<;>try exact ai
 rename_i d o i m;unfold Instr.extract;dsimp only;cases g:d[c]? with
 |none=>exact ai
 |some p=>obtain⟨q,e,l⟩:=ax.get ⟨i,m⟩ g;rw[e];exact aC l
theorem qi(c:VJ)(e:an f h a W):ae b f (Vr f) h (Instr.makeInterface c a) (Instr.makeInterface c W):=by unfold Instr.makeInterface;refine au (az c) λd=>?_;cases d<;>first|exact ai|exact aC (.iface _ e)
theorem Ho(c:iF b)(a:VJ):ae b f (Vr f) h (Instr.alloc a J (.tuple #[])) (Instr.alloc a J (.tuple #[])):=by unfold Instr.alloc;refine ay (cJ c a) λi k c=>?_;exact bindM (oY c a) λl e g _⟨_,d⟩=>aC (.ptr d)
theorem NZ(c:VJ)(e:an f h a W):ae b f (Vr f) h (Instr.box c a) (Instr.box c W):=by unfold Instr.box;exact bindM (oY e c) λk g i _⟨_,d⟩=>aC (.ptr d)
theorem Bw(d:VJ){a c:VL Vx}(e:lQ f h a c):ae b f (Vr f) h (Instr.makeMap d a) (Instr.makeMap d c):=by
 unfold Instr.makeMap
 have fin:ae b f (Vr f) h (do pure (.map (C (<-newObj (.map #[] 0)))):VR Vx) (do pure (.map (C (<-newObj (.map #[] 0))))):=
  .new (.map 0 .nil) λn l m k i=>.pure (.map i)
 cases a<;>cases c<;>first|(exact e.elim)|skip
 .exact fin
 refine au (az d) λg=>?_;cases g<;>try exact ai
 exact au (dN e) λ_=>fin
theorem ax.const{m p:VE Vx}(o:ax f h m p)(hd:an f h (default:Vx) (default:Vx)):ax f h ((VE.range n).map (m[·%m.size]!)) ((VE.range n).map (p[·%p.size]!)):=by
 refine⟨by simp,λt a W k l=>?_⟩;rw[WE]at k l;rw[<-o.1]at l;cases r:(VE.range n)[t]? with
 |none=>rw[r]at k;cases k
 |some u=>
  rw[r]at k l;simp only[Xp,Wz]at k l;subst k;subst l;rw[getElem!_def,getElem!_def];cases q:m[u%m.size]? with
  |none=>rw[o.none q];exact hd
  |some w=>obtain⟨x,s,v⟩:=o.get q;rw[s];exact v
end
section
variable{c d g i:Type}{e:Ren->c->d->Prop}{S:Ren->g->i->Prop}
theorem jW:an f h (default:Vx) (default:Vx):=.bool _
theorem mo(a:E):ae b f (St h λ_ _=>True) h (askRoom a) (askRoom a):=by
 unfold askRoom;split
 .exact .mark .noRoom A (.pure ⟨A,trivial⟩)
 exact aq trivial
theorem EV(q:Base b h){k:RuntimeError}(p:∀l m n o,k≠.typeAssertion l m n o):ae b f e h (runtimePanic k:VR c) (runtimePanic k:VR d):=bz q p
theorem jB(p:Base b h){a:RuntimeError}(k:∀l m n o,a≠.typeAssertion l m n o){q:c->VR g}{r:d->VR i}:ae b f S h (runtimePanic a >>= q) (runtimePanic a >>= r):=
 bindM (bz (l:=λ_ _ _=>False) p k) (λ_ _ _ _ k=>k.elim)
theorem wN(s:iF b)(k:Base b h)(l:VJ){o:Vx}(q:an f h a W)(r:an f h Q o):ae b f (Vr f) h (Instr.makeSlice l a Q) (Instr.makeSlice l W o):=by
 unfold Instr.makeSlice;refine au (az l) λg=>?_;cases g<;>try exact ai
 rename_i d;refine au (dN q) λlen=>?_;refine au (dN r) λv=>?_;refine ay (bL d) λw x⟨c,_⟩=>?_;subst c;dsimp only;split
 .split
  .exact jB k (λe m n g c=>by cases c)
  split
  .exact jB k (λe m n g c=>by cases c)
  exact au (cr _) λy=>jB k (λe m n g c=>by cases c)
 refine ay (mo _) λ_ _ _=>?_;refine au (aS d) λz=>?_;split
 .refine bindM (gW (ax.const ax.nil jW) d) λu e p _⟨_,i⟩=>aC (.slice i _ _)
 refine ay (cJ s d) λD H t=>?_;refine bindM (gW (ax.const (dO t) jW) d) λu e p _⟨_,i⟩=>aC (.slice i _ _)
theorem AO{b c:VE Vx}(g:ax f h b c)(k:E):∀(d e:VD (Vx×E)),aZ (λa W=>an f h a.1 W.1/\a.2=W.2) d e->
 ax f h (d.foldl (λb a=>b.setIfInBounds (k+a.2) a.1) b) (e.foldl (λb a=>b.setIfInBounds (k+a.2) a.1) c):=by
 intro d e l
 induction l generalizing b c with
 |nil=>exact g
 |cons i _ m=>simp only[Yo];rw[<-i.2];exact m (g.set _ i.1)
theorem FC{c d:VD Vx}(e:aZ (an f h) c d):∀b,aZ (λa W=>an f h a.1 W.1/\a.2=W.2) (c.zipIdx b) (d.zipIdx b):=by
 induction e with
 |nil=>intro b;exact .nil
 |cons g _ i=>intro b;simp only[VD.zipIdx_cons];exact .cons ⟨g,A⟩ (i _)
def Kl(f:Set)(h:Ren)(a b:E×Vx):Prop:=a.1=b.1/\an f h a.2 b.2
theorem uQ(c:E->VL (E×E)){e g:VD (E×Vx)}(o:aZ (Kl f h) e g):∀{a b:VE Vx},ax f h a b->
 (Instr.fill c a e=I/\Instr.fill c b g=I)\/∃i k,Instr.fill c a e=C i/\Instr.fill c b g=C k/\ax f h i k:=by
 induction o with
 |nil=>intro a b d;exact VC ⟨a,b,A,A,d⟩
 |cons p _ r=>
  rename_i t u e g _;intro a b d;obtain⟨q,x⟩:=t;obtain⟨w,y⟩:=u;obtain⟨l,n⟩:=p;simp only at l n;subst l;unfold Instr.fill;cases c q with
  |none=>exact VA ⟨A,A⟩
  |some v=>
   obtain⟨s,size⟩:=v;have m:=dO n;dsimp only;rw[<-m.1,<-d.1];split
   .exact VA ⟨A,A⟩
   refine r ?_;rw[<-VE.foldl_toList,<-VE.foldl_toList,VE.toList_zipIdx,VE.toList_zipIdx];exact AO d s _ _ (FC m.list 0)
theorem Mj{g k:Type}{c:g->VR k}(m:∀a,ae b f (St h Eq) h (c a) (c a))(i:VE g):ae b f (St h Eq) h (i.mapM c) (i.mapM c):=by
 rw[ZK];rw[<-ZT]
 have:∀(d:VD g)(acc:VE k),ae b f (St h Eq) h (d.foldlM (λbs e=>Functor.map bs.push (c e)) acc) (d.foldlM (λbs e=>Functor.map bs.push (c e)) acc):=by
  intro d
  induction d with
  |nil=>intro acc;exact aq A
  |cons a d n=>intro acc;simp only[ZE];exact au (au (m a) λe=>aq A) λl=>n l
 exact this _ _
theorem Hu(s:iF b)(d:VJ){k l:VE (E×Vx)}(g:aZ (Kl f h) k.toList l.toList):ae b f (Vr f) h (Instr.build d k) (Instr.build d l):=by
 unfold Instr.build;refine ay (cJ s d) λx y t=>?_;have i:=dO t;dsimp only;refine au (az d) λo=>?_;cases o with
 |struct r=>
  dsimp only;refine au (Mj (λq=>au (aS q.type) λv=>aq A) r) λw=>?_;rcases uQ (w[·]?) g i with⟨a,c⟩|⟨m,n,a,c,e⟩
  .rw[a];exact ai
  rw[a,c];exact aC (ml e)
 |array v p=>
  dsimp only;refine au (aS p) λsize=>?_;rcases uQ (λu=>C (u*size,size)) g i with⟨a,c⟩|⟨m,n,a,c,e⟩
  .rw[a];exact ai
  rw[a,c];exact aC (ml e)
 |_=>exact ai
theorem uE(s:iF b)(p:VJ)(len:E){n o:VE (E×Vx)}(l:aZ (Kl f h) n.toList o.toList):ae b f (Vr f) h (Instr.buildSlice p len n) (Instr.buildSlice p len o):=by
 unfold Instr.buildSlice;refine au (az p) λr=>?_;cases r<;>try exact ai
 rename_i a;refine au (aS a) λsize=>?_
 have fin:∀{d e:VE Vx},ax f h d e->ae b f (Vr f) h
  (do
    let C cells:=Instr.fill (λc=>C (c*size,size)) ((VE.range (len*size)).map (d[·%d.size]!)) n.toList|stuck "buildSlice: a part of the wrong size"
    pure (VG (C (<-newRow a cells)) len len):VR Vx)
  (do
    let C cells:=Instr.fill (λc=>C (c*size,size)) ((VE.range (len*size)).map (e[·%e.size]!)) o.toList|stuck "buildSlice: a part of the wrong size"
    pure (VG (C (<-newRow a cells)) len len)):=by
  intro d e m;rcases uQ (λc=>C (c*size,size)) l (ax.const (n:=len*size) m jW)with⟨k,q⟩|⟨w,x,k,q,t⟩
  .rw[k];exact ai
  rw[k,q];exact bindM (gW t a) λz u v _⟨_,l⟩=>aC (.slice l _ _)
 dsimp only;by_cases g:len*size>2^24
 .rw[VV g,VV g];exact .lost A
 rw[VK g,VK g];by_cases i:len*size=0
 .rw[VV i,VV i];exact fin ax.nil
 rw[VK i,VK i];exact ay (cJ s a) λd e m=>fin (dO m)
theorem rN(c:an f h a W):ae b f (St h Eq) h (Builtin.lenOf a) (Builtin.lenOf W):=by cases c<;>first|exact ai|exact aq rfl
theorem Ab(d:VD UInt8):ax f h (d.toArray.map λc=>Vx.int .u8 c.toNat) (d.toArray.map λc=>Vx.int .u8 c.toNat):=by
 refine⟨A,λi a W b g=>?_⟩;rw[b]at g;cases g;rw[WE]at b;cases e:d.toArray[i]? with
 |none=>rw[e]at b;cases b
 |some c=>rw[e]at b;cases b;exact .int _ _
theorem ot(a:VE UInt8):ax f h (a.map λb=>Vx.int .u8 b.toNat) (a.map λb=>Vx.int .u8 b.toNat):=by obtain⟨c⟩:=a;exact Ab c
theorem gr(size c:E)(d:an f h a W):ae b f (St h (ax f h)) h (Builtin.firstCells size c a) (Builtin.firstCells size c W):=by cases d<;>first|exact ai|exact aq ax.nil|exact aq (ot _)|exact kB ‹_› _
theorem kG{c d:VE Vx}(b:ax f h c d)(a:E):ax f h (Builtin.zeroCells c a) (Builtin.zeroCells d a):=by unfold Builtin.zeroCells;rw[<-b.1];have:=ax.const (n:=a*c.size) b jW;rw[<-b.1]at this;exact this
end
variable{a:VS}{b:Vx}
section
variable{d e g i:Type}{c:Ren->d->e->Prop}{S:Ren->g->i->Prop}
theorem cA(b:VJ):ae a f (St h λc d=>c=d/\a.underlying b=C c) h (underlying b) (underlying b):=by
 refine bI ?_;cases e:a.underlying b with
 |none=>exact ai
 |some g=>simp[aq]
theorem wO(size p i:E)(f:VL VT)(b:Vx){c:VI->VR g}(d:∀a,gd (c a)):gd (Builtin.mayShare size p i f b >>= c):=by
 have l:∀(e:VT)(h:E){c:VI->VR g},(∀a,gd (c a))->gd (Builtin.holdsCells e h >>= c):=by intro e h c d;refine gd.shape λo=>?_;cases o<;>exact d _
 have n:∀a:VI,gd ((do
  if !a then return J
  match b with
  |VG (C k) _ _=>do pure (!(<-Builtin.holdsCells k (i*size))||f.any (·.block==k.block))
  |_=>pure Vz:VR VI) >>= c):=by
  intro a;cases a
  .exact d J
  cases b<;>first|exact d Vz|skip
  rename_i m _ _;cases m
  .exact d Vz
  simp only[VI.not_true,WC,Wy,bind_assoc,pure_bind]
  grind
 unfold Builtin.mayShare;cases f with
 |none=>grind
 |some e=>rw[bind_assoc];exact l e _ λa=>(gd.frozen λq=>n _)
def TT(h:Ren)(c d:VL VT):Prop:=c=I/\d=I\/∃a b,c=C a/\d=C b/\bC h a b
theorem nA{d e:Type}{c:Ren->d->e->Prop}{g:Prop}[Decidable g]{b Q:VR d}{W i:VR e}(k:g->ae a f c h b W)(l:¬g->ae a f c h Q i):ae a f c h (if g then b else Q) (if g then W else i):=by grind
theorem Dd(a2:iF a)(y:Base a h)(O:VE VJ)(a4:VJ){x X:VE Vx}(Y:ax f h x X):
 ae a f (Vr f) h (Builtin.append_ O a4 x) (Builtin.append_ O a4 X):=by
 unfold Builtin.append_;cases c7:O[0]? with
 |none=>exact ai
 |some c6=>
  cases b1:x[0]? with
  |none=>exact ai
  |some d2=>
   obtain⟨d3,a9,a1⟩:=Y.get b1;rw[a9];cases b2:x[1]? with
   |none=>exact ai
   |some b=>
    obtain⟨W,b0,z⟩:=Y.get b2;rw[b0];dsimp only;refine au (az c6) λn=>?_;cases n<;>try exact ai
    rename_i d
    have main:∀(s:VI)(T U:VR E)(t u:E->VR (VE Vx)),ae a f (St h Eq) h T U->(∀c,ae a f (St h (ax f h)) h (t c) (u c))->∀(size:E)(base o:VL VT)(e i:E),TT h base o->an f h (.slice base e i) (.slice o e i)->
     ae a f (Vr f) h
      (do
        let c<-T
        let k:=e+c
        if k<=i then
         let new<-t c
         if let C m:=base then storeCells (m.add (e*size)) new.toList
         pure (.slice base k i)
        else
         if(k:VB)>IntKind.i64.max/\(s=J\/(<-typeInfo d).bytes=0)then runtimePanic (.error "growslice: len out of range")
         if Builtin.nextslicecap k i*(<-typeInfo d).bytes>2^48 then(if s=J then runtimePanic (.error "growslice: len out of range")else do
          if !(<-Builtin.mayShare size e c base b)then mark .noRoom
          unsupported (.resourceLimit "append: a slice or a string whose bytes no memory bears"))
         let l<-choose (.appendCap k i d)
         askRoom (l*(<-typeInfo d).bytes)
         let old<-Builtin.firstCells size e (.slice base e i)
         let new<-t c
         let p:=Builtin.zeroCells (<-zeroValue d).cells (l-k)
         pure (VG (C (<-newRow d (old++new++p))) k l):VR Vx)
      (do
        let c<-U
        let k:=e+c
        if k<=i then
         let new<-u c
         if let C m:=o then storeCells (m.add (e*size)) new.toList
         pure (.slice o k i)
        else
         if(k:VB)>IntKind.i64.max/\(s=J\/(<-typeInfo d).bytes=0)then runtimePanic (.error "growslice: len out of range")
         if Builtin.nextslicecap k i*(<-typeInfo d).bytes>2^48 then(if s=J then runtimePanic (.error "growslice: len out of range")else do
          if !(<-Builtin.mayShare size e c o W)then mark .noRoom
          unsupported (.resourceLimit "append: a slice or a string whose bytes no memory bears"))
         let l<-choose (.appendCap k i d)
         askRoom (l*(<-typeInfo d).bytes)
         let old<-Builtin.firstCells size e (.slice o e i)
         let new<-u c
         let p:=Builtin.zeroCells (<-zeroValue d).cells (l-k)
         pure (VG (C (<-newRow d (old++new++p))) k l)):=by
     intro s T U t u b4 a0 size base o e i b3 b6;refine au b4 λc=>?_;dsimp only;split
     .refine ay (a0 c) λv a7 Q=>?_;rcases b3 with⟨rfl,rfl⟩|⟨m,a6,rfl,rfl,Z⟩
      .exact aC (.aP _ _)
      exact ay (gB (Z.add _) Q.list 0) λ_ _ _=>aC (.slice Z _ _)
     have tail:ae a f (Vr f) h
      (do
        let l<-choose (.appendCap (e+c) i d)
        askRoom (l*(<-typeInfo d).bytes)
        let old<-Builtin.firstCells size e (.slice base e i)
        let new<-t c
        let p:=Builtin.zeroCells (<-zeroValue d).cells (l-(e+c))
        pure (VG (C (<-newRow d (old++new++p))) (e+c) l):VR Vx)
      (do
        let l<-choose (.appendCap (e+c) i d)
        askRoom (l*(<-typeInfo d).bytes)
        let old<-Builtin.firstCells size e (.slice o e i)
        let new<-u c
        let p:=Builtin.zeroCells (<-zeroValue d).cells (l-(e+c))
        pure (VG (C (<-newRow d (old++new++p))) (e+c) l)):=by
      refine au (cr _) λc9=>?_;refine ay (bL d) λD H⟨g,_⟩=>?_;subst g;refine ay (mo _) λ_ _ _=>?_;refine ay (gr size e b6) λd0 d1 b5=>?_;exact ay (a0 c) λv a7 Q=>(ay (cJ a2 d) λq r R=>(bindM (gW ((b5.append Q).append (kG (dO R) _)) d) λd4 m a6 _⟨_,w⟩=>aC (.slice w _ _)))
     refine ay (bL d) λD H⟨g,_⟩=>?_;subst g;split
     .simp_all [jB]
     refine ay (bL d) λD H⟨g,_⟩=>?_;subst g;split
     .cases s
      rotate_left
      .simp_all [jB]
      refine .dead (gd.bind ?_ _);refine wO _ _ _ _ _ λc0=>?_;cases c0
      .exact .mark (.lost A)
      exact .lost A
     exact tail
    have b7:∀size c:E,ae a f (St h (ax f h)) h (if c*size=0 then pure #[]else do pure (Builtin.zeroCells (<-zeroValue d).cells c)) (if c*size=0 then pure #[]else do pure (Builtin.zeroCells (<-zeroValue d).cells c)):=by
     intro size c;split
     .exact aq ax.nil
     exact ay (cJ a2 d) λq r R=>aq (kG (dO R) _)
    have N:=λsize=>main Vz _ _ (λc=>Builtin.firstCells size c b) (λc=>Builtin.firstCells size c W) (rN z) (λc=>gr size c z) size;have a3:=λsize(L:VB)=>main J (pure L.toNat) (pure L.toNat) _ _ (aq A) (b7 size) size;cases c8:O[1]? with
    |none=>
     cases a1<;>try exact ai
     .exact au (aS d) λsize=>N size I I _ _ (VA ⟨A,A⟩) (.aP _ _)
     exact au (aS d) λsize=>N size _ _ _ _ (VC ⟨_,_,A,A,‹_›⟩) (.slice ‹_› _ _)
    |some a5=>
     cases a1<;>try exact ai
     .refine au (aS d) λsize=>ay (cA a5) λn a8 hd=>?_;obtain⟨g,hd⟩:=hd;subst g;cases n
      case int b8=>refine ay (show ae a f (St h λq r:VI=>q=J/\r=J) h _ _ from aq ⟨A,A⟩) λq r S=>?_;obtain⟨rfl,rfl⟩:=S;refine nA (λ_=>?_) λw=>absurd A w;refine au (dN z) λL=>?_;refine nA (λ_=>(jB y (λm P v n g=>by cases g))) λ_=>?_;refine ay (bL d) λD H⟨g,_⟩=>?_;subst g;exact nA (λ_=>(au (cr _) λb9=>(jB y (λm P v n g=>by cases g)))) λ_=>(a3 size _ I I _ _ (VA ⟨A,A⟩) (.aP _ _))
      all_goals exact N size I I _ _ (VA ⟨A,A⟩) (.aP _ _)
     refine au (aS d) λsize=>ay (cA a5) λn a8 hd=>?_;obtain⟨g,hd⟩:=hd;subst g;cases n
     case int b8=>refine ay (show ae a f (St h λq r:VI=>q=J/\r=J) h _ _ from aq ⟨A,A⟩) λq r S=>?_;obtain⟨rfl,rfl⟩:=S;refine nA (λ_=>?_) λw=>absurd A w;refine au (dN z) λL=>?_;refine nA (λ_=>(jB y (λm P v n g=>by cases g))) λ_=>?_;refine ay (bL d) λD H⟨g,_⟩=>?_;subst g;exact nA (λ_=>(au (cr _) λb9=>(jB y (λm P v n g=>by cases g)))) λ_=>(a3 size _ _ _ _ _ (VC ⟨_,_,A,A,‹_›⟩) (.slice ‹_› _ _))
     all_goals exact N size _ _ _ _ (VC ⟨_,_,A,A,‹_›⟩) (.slice ‹_› _ _)
theorem Ob(d:VE VJ)(k:VJ){b e:VE Vx}(n:ax f h b e):ae a f (Vr f) h (Builtin.cap_ d k b) (Builtin.cap_ d k e):=by
 unfold Builtin.cap_;cases r:d[0]? with
 |none=>exact ai
 |some p=>
  cases m:b[0]? with
  |none=>exact ai
  |some v=>
   obtain⟨w,l,i⟩:=n.get m;rw[l];refine au (az p) λc=>?_;cases c with
   |array s g=>exact aC (.int _ _)
   |pointer arr=>refine au (az arr) λc=>?_;cases c<;>first|exact ai|exact aC (.int _ _)
   |slice g=>cases i<;>first|exact ai|exact aC (.int _ _)
   |chan q g=>
    cases i<;>first|exact ai|exact aC (.int _ _)|skip
    refine ay (bJ ‹_›) λt u o=>?_;cases o<;>first|exact ai|exact aC (.int _ _)
   |_=>exact ai
theorem OL(l:VE VJ)(n:VJ){d m:VE Vx}(s:ax f h d m):ae a f (Vr f) h (Builtin.len_ l n d) (Builtin.len_ l n m):=by
 unfold Builtin.len_;cases H:l[0]? with
 |none=>exact ai
 |some w=>
  cases r:d[0]? with
  |none=>exact ai
  |some N=>
   obtain⟨O,o,c⟩:=s.get r;rw[o];refine au (az w) λe=>?_;cases e with
   |array L g=>exact aC (.int _ _)
   |pointer arr=>refine au (az arr) λe=>?_;cases e<;>first|exact ai|exact aC (.int _ _)
   |string=>cases c<;>first|exact ai|exact aC (.int _ _)
   |slice g=>cases c<;>first|exact ai|exact aC (.int _ _)
   |map t g=>
    cases c<;>first|exact ai|exact aC (.int _ _)|skip
    refine ay (bJ ‹_›) λu v k=>?_;cases k<;>first|exact ai|skip
    rename_i p q t i;have:p.size=q.size:=by have:=i.length;omega
    dsimp only;rw[this];exact aC (.int _ _)
   |chan D g=>
    cases c<;>first|exact ai|exact aC (.int _ _)|skip
    refine ay (bJ ‹_›) λu v k=>?_;cases k<;>first|exact ai|skip
    rename_i x y z cl b Q P i;dsimp only;rw[i.1];exact aC (.int _ _)
   |_=>exact ai
theorem Lh(e:VE VJ)(m:VJ){c g:VE Vx}(k:ax f h c g):ae a f (Vr f) h (Builtin.copy_ e m c) (Builtin.copy_ e m g):=by
 unfold Builtin.copy_;cases x:e[0]? with
 |none=>exact ai
 |some w=>
  cases s:c[0]? with
  |none=>exact ai
  |some y=>
   obtain⟨z,q,u⟩:=k.get s;rw[q];cases t:c[1]? with
   |none=>exact ai
   |some b=>
    obtain⟨W,r,d⟩:=k.get t;rw[r];refine au (az w) λp=>?_;cases p<;>try exact ai
    rename_i i;cases u<;>try exact ai
    .exact au (rN d) λv=>(au (aS i) λsize=>(ay (gr size _ d) λn o l=>aC (.int _ _)))
    refine au (rN d) λv=>?_;exact au (aS i) λsize=>(ay (gr size _ d) λn o l=>(ay (gB ‹_› l.list 0) λ_ _ _=>aC (.int _ _)))
theorem iE:an f h (.tuple #[]) (.tuple #[]):=aY
theorem Hy(r:f.cj=J)(t:iF a)(d:VE VJ)(i:VJ){b e:VE Vx}(o:ax f h b e):ae a f (Vr f) h (Builtin.clear_ d i b) (Builtin.clear_ d i e):=by
 unfold Builtin.clear_;cases w:d[0]? with
 |none=>exact ai
 |some v=>
  cases n:b[0]? with
  |none=>exact ai
  |some z=>
   obtain⟨D,m,s⟩:=o.get n;rw[m];refine au (az v) λl=>?_;cases s with
   |fq=>exact aC iE
   |aP c k=>exact aC iE
   |map g=>
    refine ay (bJ g) λx y q=>?_;cases q<;>first|exact ai|skip
    exact .setObj g (.map _ .nil) (VA r) (.pure iE)
   |slice p c k=>
    cases c with
    |zero=>exact aC iE
    |succ c=>
     cases l<;>try exact ai
     exact ay (cJ t _) λH L u=>(ay (gB p (kG (dO u) _).list 0) λ_ _ _=>aC iE)
   |_=>exact ai
theorem Mk{c:Vx}(e:an f h b W)(g:an f h Q c):ae a f (St h (an f h)) h (Builtin.min2 b Q) (Builtin.min2 W c):=by
 cases e<;>cases g<;>first|exact ai|exact fe|exact aq (.int _ _)|skip
 rename_i i k;exact ay (qP .leq i k) λm n d=>(au (uw d) λl=>aq (.string _))
theorem By:∀(c d:VD Vx),aZ (an f h) c d->∀{b W:Vx},an f h b W->ae a f (St h (an f h)) h (c.foldlM Builtin.min2 b) (d.foldlM Builtin.min2 W):=by
 intro c d e
 induction e with
 |nil=>simp_all [aq]
 |cons g _ i=>grind [ay,Mk]
theorem OP(g:VE VJ)(e:VJ){b c:VE Vx}(i:ax f h b c):ae a f (Vr f) h (Builtin.min_ g e b) (Builtin.min_ g e c):=by
 unfold Builtin.min_;have d:=i.list;generalize b.toList=m at d;generalize c.toList=n at d;cases d with
 |nil=>exact ai
 |cons l k=>simp_all [lN,By]
end
variable{b:VS}{a:Vx}
section
variable{c d e g:Type}{i:Ren->c->d->Prop}{S:Ren->e->g->Prop}
theorem ei(e:Base b h)(em:VI):∀(c:E)(g:VJ)(s t:Vx),an f h s t->ae b f (St h λ_ _=>True) h (Instr.checkKey em c g s) (Instr.checkKey em c g t)
 |0,_,_,_,_=>fe
 |c+1,g,s,t,n=>by
  unfold Instr.checkKey;refine au (az g) λk=>?_;cases k with
  |interface ms=>
   cases n<;>first|exact ai|exact aq trivial|skip
   rename_i r a W z;dsimp only;refine ay (bL r) λD N⟨d,_⟩=>?_;subst d;split
   .cases em
    .exact au (tr r) λO=>jB e (λv w i k d=>by cases d)
    exact jB e (λv w i k d=>by cases d)
   exact ei e em c r a W z
  |array len u=>
   cases n<;>try exact ai
   rename_i i x l q;dsimp only;refine au (forIn_range (λD H=>?_) _ _) λ_=>aq trivial;exact au (aS u) λP=>ay (iy ⟨l,q⟩ _ _) λo p m=>ay (ei e em c u o p m) λ_ _ _=>aq A
  |struct L=>
   cases n<;>try exact ai
   rename_i i x l q;dsimp only;refine au (rH (λy H=>?_) _ _) λ_=>aq trivial;split
   .exact ay (iy ⟨l,q⟩ _ _) λo p m=>ay (ei e em c y.type o p m) λ_ _ _=>aq A
   exact aq A
  |_=>exact aq trivial
def Kb(f:Set)(h:Ren):VL (E×Vx)->VL (E×Vx)->Prop
 |I,I=>True
 |C (a,b),C (j,c)=>a=j/\an f h b c
 |_,_=>False
theorem uR(n:Base b h)(o:pE h)(c:VJ){i k:Vx}(p:an f h i k){d e:VD Wb}(m:aZ (iT f h) d e):∀a,ae b f (St h (Kb f h)) h (Instr.findAsking c i d a) (Instr.findAsking c k e a):=by
 induction m with
 |nil=>intro a;exact aq trivial
 |cons g _ q=>
  intro a;unfold Instr.findAsking;refine au (rG n o c p g.1) λl=>?_;cases l
  .exact q _
  exact aq ⟨A,g.2.1⟩
theorem AK{m:TypeDesc}{o:VJ}{k:Vx}(d:Instr.sameNow m k a=C Vz){c:Type}{n:VI->VR c}(h:gd (n Vz)):gd (Op.equal o k a >>= n):=by
 unfold Op.equal;cases hd:Op.maxDepth with
 |zero=>exact .lost A
 |succ s=>
  unfold Op.equalIn;refine .program λb=>?_;simp only[program,Bind.bind,Sem.bind];cases r:b.underlying o with
  |none=>exact .lost A
  |some l=>
   cases m<;>cases k<;>first|(cases d;done)|skip
   all_goals (cases a<;>first|(cases d;done)|skip)
   .rename_i e f;have g:(e==f)=Vz:=by simpa[Instr.sameNow]using d
    cases l<;>first|exact .lost rfl|(simp only[Sem.bind,Pure.pure,g];exact h)
   .rename_i p e q f;by_cases i:p=q
    .have g:(e==f)=Vz:=by simpa[Instr.sameNow,i]using d
     cases l<;>first|exact .lost rfl|(simp only[Sem.bind,i,Wv,Pure.pure,g];exact h)
    simp[Instr.sameNow,i]at d
   rename_i e f;have g:(e==f)=Vz:=by simpa[Instr.sameNow]using d
   cases l<;>first|exact .lost rfl|(simp only[Sem.bind,Pure.pure,g];exact h)
theorem Cc(e:TypeDesc){c d:Vx}(i:an f h c d)(g:an f h a W):Instr.sameNow e c a=Instr.sameNow e d W\/(Instr.sameNow e c a=I/\(c=.tuple #[]\/a=.tuple #[])/\lU c=J/\lU a=J):=by
 cases e with
 |int m=>
  cases i with
  |bU b=>
   cases d<;>first|exact VA rfl|skip
   cases g<;>first|exact VA rfl|exact VC ⟨rfl,VA rfl,rfl,rfl⟩
  |int k l=>
   cases g with
   |bU b=>cases W<;>first|exact VA rfl|exact VC ⟨rfl,VC rfl,rfl,rfl⟩
   |_=>exact VA A
  |_=>exact VA A
 |string=>
  cases i with
  |bU b=>cases d<;>first|exact VA rfl|(simp only[bN]at b;done)
  |string k=>
   cases g with
   |bU b=>cases W<;>first|exact VA rfl|(simp only[bN]at b;done)
   |_=>exact VA A
  |_=>exact VA A
 |bool=>
  cases i with
  |bU b=>cases d<;>first|exact VA rfl|(simp only[bN]at b;done)
  |bool k=>
   cases g with
   |bU b=>cases W<;>first|exact VA rfl|(simp only[bN]at b;done)
   |_=>exact VA A
  |_=>exact VA A
 |_=>exact VA A
theorem AS(b:TypeDesc){c l:Vx}(v:an f h c l){d i:VD Wb}(e:aZ (iT f h) d i):∀a,
 (Instr.findNow b c d a=I/\Instr.findNow b l i a=I)\/(∃n o,Instr.findNow b c d a=C n/\Instr.findNow b l i a=C o/\Kb f h n o)\/(Instr.findNow b c d a=I/\∀g,gd (Instr.findAsking g c d a)):=by
 induction e with
 |nil=>intro a;exact VC (VA ⟨I,I,A,A,trivial⟩)
 |cons m _ w=>
  rename_i q y _ _ _;intro a;unfold Instr.findNow Instr.findAsking;rcases Cc b v m.1 with k|⟨k,u,q1,x⟩
  .rw[<-k];cases t:Instr.sameNow b c q.key with
   |none=>exact VA ⟨A,A⟩
   |some p=>
    cases p
    .rcases w (a+1)with e|e|⟨r,s⟩
     .exact VA e
     .exact VC (VA e)
     exact VC (VC ⟨r,λg=>AK t (s g)⟩)
    exact VC (VA ⟨_,_,A,A,A,m.2.1⟩)
  rw[k];exact VC (VC ⟨A,λg=>(oJ g u q1 x).bind _⟩)
theorem mD(o:Base b h)(p:pE h)(c:VJ){l m:Vx}(k:an f h l m){e g:VD Wb}(i:aZ (iT f h) e g):ae b f (St h (Kb f h)) h (Instr.findKey c l e) (Instr.findKey c m g):=by
 unfold Instr.findKey;refine au (az c) λn=>?_;rcases AS n k i 0 with⟨a,d⟩|⟨r,s,a,d,q⟩|⟨a,hd⟩
 .rw[a,d];exact uR o p c k i 0
 .rw[a,d];exact aq q
 rw[a];exact .dead (hd c)
theorem Ec(p:iF b)(t:Base b h)(D:pE h)(s:VJ){l:Vx}(N:an f h a W)(v:an f h Q l)(ok:VI):ae b f (Vr f) h (Instr.lookup s a Q ok) (Instr.lookup s W l ok):=by
 unfold Instr.lookup;refine au (az s) λz=>?_;cases z<;>try exact ai
 rename_i g o
 have main:∀{d e:VE Wb},aZ (iT f h) d.toList e.toList->ae b f (Vr f) h
  (do
    Instr.checkKey d.isEmpty 10000 g Q
    let (c,q)<-match<-Instr.findKey g Q d.toList with
     |some (_,c)=>pure (c,J)
     |none=>pure (<-zeroValue o,Vz)
    pure (if ok then .tuple #[c,.bool q]else c):VR Vx)
  (do
    Instr.checkKey e.isEmpty 10000 g l
    let (c,q)<-match<-Instr.findKey g l e.toList with
     |some (_,c)=>pure (c,J)
     |none=>pure (<-zeroValue o,Vz)
    pure (if ok then .tuple #[c,.bool q]else c)):=by
  intro d e n;have L:d.isEmpty=e.isEmpty:=by have:=n.length;simp only[Yq]at this;rw[YA];simp[VE.isEmpty,this]
  rw[<-L];refine ay (ei t _ _ g Q l v) λ_ _ _=>?_;refine ay (mD t D g v n) λy r i=>?_
  have fin:∀{c k:Vx}(m:VI),an f h c k->an f h (if ok=J then .tuple #[c,.bool m]else c) (if ok=J then .tuple #[k,.bool m]else k):=by
   intro c k m u;cases ok
   .exact u
   exact gE ((ax.nil.push u).push (.bool m))
  cases y with
  |none=>
   cases r with
   |none=>exact ay (cJ p o) λT U p=>aC (fin Vz p)
   |some x=>exact i.elim
  |some w=>
   cases r with
   |none=>obtain⟨_,_⟩:=w;exact i.elim
   |some x=>obtain⟨O,c⟩:=w;obtain⟨j,k⟩:=x;exact aC (fin J i.2)
 cases N<;>try exact ai
 .exact main .nil
 rename_i y r i;refine ay (bJ i) λR S H=>?_;cases H<;>try exact ai
 rename_i d e P n;exact main n
theorem aZ.mod{d e:VD Wb}(l:aZ (iT f h) d e)(a:E){g i:Wb->Wb}(m:∀b c,iT f h b c->iT f h (g b) (i c)):aZ (iT f h) (d.modify a g) (e.modify a i):=by
 induction l generalizing a with
 |nil=>cases a<;>exact .nil
 |cons k n o=>
  cases a with
  |zero=>exact .cons (m _ _ k) n
  |succ a=>exact .cons k (o a)
theorem aZ.erase{b c:VD Wb}(d:aZ (iT f h) b c)(a:E):aZ (iT f h) (b.eraseIdx a) (c.eraseIdx a):=by
 induction d generalizing a with
 |nil=>cases a<;>exact .nil
 |cons g e i=>
  cases a with
  |zero=>exact e
  |succ a=>exact .cons g (i a)
theorem PL{i k e g:VD Vx}(n:aZ (an f h) i k)(m:aZ (an f h) e g){c:Vx->Vx->VI}(o:∀a W Q l,an f h a W->an f h Q l->c a Q=J->c W l=J):
 ((i.zip e).all λb=>c b.1 b.2)=J->((k.zip g).all λb=>c b.1 b.2)=J:=by
 induction n generalizing e g with
 |nil=>intro _;rfl
 |cons q t s=>
  intro d;cases m with
  |nil=>rfl
  |cons r p=>
   simp only[VD.zip_cons_cons,Y',WH]at d⊢
   exact⟨o _ _ _ _ q r d.1,s p d.2⟩
theorem lM(c:pE h):∀(d:E)(e g i k:Vx),an f h e g->an f h i k->Instr.sameBits d e i=J->Instr.sameBits d g k=J
 |0,e,g,i,k,n,o,b=>by
  cases n<;>cases o<;>first|exact b|(unfold Instr.sameBits at b;cases b;done)|skip
  .rename_i v w l x y m;simp only[Instr.sameBits,B_,Wz]at b⊢
   have:=addr_eq c l m;rw[YA]at this;simpa using this.1 (by simpa using b)
  rename_i H L p u P q;simp only[Instr.sameBits]at b⊢
  rw[<-Em c p q];exact b
 |d+1,e,g,i,k,n,o,b=>by
  cases n<;>cases o<;>first|exact b|(unfold Instr.sameBits at b;cases b;done)|skip
  .rename_i v w l x y m;simp only[Instr.sameBits,B_,Wz]at b⊢
   have:=addr_eq c l m;rw[YA]at this;simpa using this.1 (by simpa using b)
  .rename_i H L p u P q;simp only[Instr.sameBits]at b⊢
   rw[<-Em c p q];exact b
  .rename_i u R S z a0 a W r;simp only[Instr.sameBits,WH]at b⊢
   exact⟨b.1,lM c d R S a W z r b.2⟩
  rename_i U X s N Y Z t O;simp only[Instr.sameBits,WH]at b⊢
  refine⟨?_,PL (ax.list ⟨s,N⟩) (ax.list ⟨t,O⟩) (λa W Q T r D=>lM c d a W Q T r D) b.2⟩;rw[<-s,<-t];exact b.1
theorem zm(m:pE h){e g c d:Vx}(i:an f h e g)(a:an f h c d):ae b f (St h (an f h)) h (Instr.keyThatStays e c) (Instr.keyThatStays g d):=by
 unfold Instr.keyThatStays;have k:=lM m 10000 e g c d i a;cases l:Instr.sameBits 10000 e c with
 |true=>rw[k l];exact aq a
 |false=>
  cases n:Instr.sameBits 10000 g d with
  |true=>exact .jV _ A 0 (aq a)
  |false=>
   refine au (cr _) λo=>?_;refine aq ?_;split
   .exact a
   exact i
theorem od(x:f.cj=J)(o:Base b h)(w:pE h)(s:VJ){D H m n:Vx}(S:an f h D H)(i:an f h m n)(y:an f h a W):ae b f (St h λ_ _=>True) h (Instr.mapUpdate s D m a) (Instr.mapUpdate s H n W):=by
 unfold Instr.mapUpdate;refine au (az s) λt=>?_;cases t<;>try exact ai
 rename_i z a2;cases S<;>try exact ai
 .exact EV o (λZ a0 a1 t d=>by cases d)
 rename_i a5 a6 q;refine ay (bJ q) λa3 a4 T=>?_;cases T<;>try exact ai
 rename_i k l cl e;refine ay (ei o _ _ z m n i) λ_ _ _=>?_;refine ay (mD o w z i e) λY L p=>?_;cases Y with
 |none=>
  cases L with
  |none=>exact .setObj q (.map _ (by rw[Zo,Zo];exact e.append (.cons ⟨i,y,A⟩ .nil))) (VA x) (.pure ⟨A,trivial⟩)
  |some r=>exact p.elim
 |some r=>
  cases L with
  |none=>obtain⟨_,_⟩:=r;exact p.elim
  |some X=>
   obtain⟨c,a7⟩:=r;obtain⟨j,a8⟩:=X;obtain⟨d,_⟩:=p;subst d;dsimp only
   have R:an f h (((k[c]?).map (·.key)).getD m) (((l[c]?).map (·.key)).getD n):=by
    have u:k[c]?=k.toList[c]?:=by simp
    have v:l[c]?=l.toList[c]?:=by simp
    cases g:k.toList[c]? with
    |none=>
     have:l.toList[c]?=I:=by rw[f_]at g⊢;rw[<-e.length];exact g
     rw[u,v,g,this];exact i
    |some d=>obtain⟨N,O,P⟩:=e.get g;rw[u,v,g,O];exact P.1
   refine ay (zm w R i) λa9 b0 U=>?_;refine .setObj q (.map _ ?_) (VA x) (.pure ⟨A,trivial⟩);rw[VE.toList_modify,VE.toList_modify];exact aZ.mod e c λd N Q=>⟨U,y,Q.2.2⟩
theorem Dt(p:f.cj=J)(d:Base b h)(L:pE h)(m:VE VJ)(t:VJ){a n:VE Vx}(o:ax f h a n):ae b f (Vr f) h (Builtin.delete_ m t a) (Builtin.delete_ m t n):=by
 unfold Builtin.delete_;cases W:m[0]? with
 |none=>exact ai
 |some T=>
  cases D:a[0]? with
  |none=>exact ai
  |some X=>
   obtain⟨Y,w,N⟩:=o.get D;rw[w];cases H:a[1]? with
   |none=>exact ai
   |some q=>
    obtain⟨r,x,e⟩:=o.get H;rw[x];dsimp only;refine au (az T) λu=>?_;cases u<;>try exact ai
    rename_i k U;cases N<;>try exact ai
    .exact ay (ei d _ _ k q r e) λ_ _ _=>aC iE
    rename_i a1 a2 i;refine ay (bJ i) λZ a0 O=>?_;cases O<;>try exact ai
    rename_i y z cl c;have P:y.isEmpty=z.isEmpty:=by have:=c.length;simp only[Yq]at this;rw[YA];simp[VE.isEmpty,this]
    dsimp only;rw[<-P];refine ay (ei d _ _ k q r e) λ_ _ _=>?_;refine ay (mD d L k e c) λS s g=>?_;cases S with
    |none=>
     cases s with
     |none=>exact .setObj i (.map _ c) (VA p) (.pure iE)
     |some l=>exact g.elim
    |some l=>
     cases s with
     |none=>obtain⟨_,_⟩:=l;exact g.elim
     |some R=>obtain⟨Q,a3⟩:=l;obtain⟨j,a4⟩:=R;obtain⟨v,_⟩:=g;subst v;refine .setObj i (.map _ ?_) (VA p) (.pure iE);rw[Zx,Zx];exact aZ.erase c Q
end
variable{a:VS}{b:Vx}{c:Vx}
section
variable{d e g i:Type}{k:Ren->d->e->Prop}{S:Ren->g->i->Prop}
theorem rQ{b c:Obj}(d:gK f h b c):ae a f (Vr f) h (do pure (VW (C ⟨<-newObj b,0,I⟩)):VR Vx) (do pure (VW (C ⟨<-newObj c,0,I⟩))):=
 .new d λi k l g e=>.pure (.ptr ⟨e,A,A⟩)
theorem Jb(c:VJ)(e:an f h b W):ae a f (Vr f) h (Instr.range c b) (Instr.range c W):=by
 unfold Instr.range;refine au (az c) λg=>?_;cases g<;>try exact ai
 .cases e<;>try exact ai
  exact rQ (.stringIter _ _)
 cases e<;>try exact ai
 .exact rQ (.oU _ _ _)
 rename_i m n d;refine ay (bJ d) λk l i=>?_;cases i<;>try exact ai
 exact rQ (.mapIter d _ _ _)
theorem aZ.filter{n o:VD Wb}(s:aZ (iT f h) n o){p p':Wb->VI}(u:∀l m,iT f h l m->p l=p' m):aZ (iT f h) (n.filter p) (o.filter p'):=by
 induction s with
 |nil=>exact .nil
 |cons q _ r=>
  rename_i l m _ _ _;have t:=u _ _ q;simp only[VD.filter_cons];rw[<-t];cases p l
  .exact r
  exact .cons q r
theorem aZ.all{c d:VD Wb}(i:aZ (iT f h) c d){e g:Wb->VI}(k:∀a b,iT f h a b->e a=g b):c.all e=d.all g:=by
 induction i with
 |nil=>rfl
 |cons l _ m=>simp only[Y',k _ _ l,m]
def Kj(f:Set)(h:Ren):VL Wb->VL Wb->Prop
 |I,I=>True
 |C a,C b=>iT f h a b
 |_,_=>False
theorem aZ.Ps{a b:VD Wb}(c:aZ (iT f h) a b):aZ (Kj f h) (a.map C) (b.map C):=by
 induction c with
 |nil=>exact .nil
 |cons d _ e=>exact .cons d e
theorem Mq(a0:an f h b W)(z:VI)(P:VJ):ae a f (Vr f) h (Instr.next b z P) (Instr.next W z P):=by
 have x:ae a f (Vr f) h (pure (.tuple #[.bool Vz]):VR Vx) (pure (.tuple #[.bool Vz])):=aC (gE (ax.nil.push (.bool _)));unfold Instr.next;cases a0<;>try exact ai
 rename_i Q R S;obtain⟨a8,a3,b1⟩:=Q;obtain⟨a9,a7,b2⟩:=R;obtain⟨r,p,k⟩:=S;simp only at r p k;subst p;subst k;cases a3 with
 |succ l=>exact ai
 |zero=>
  refine ay (bJ r) λa1 a2 w=>?_;cases w<;>cases z<;>first|exact ai|exact x|skip
  .rename_i b0 y;dsimp only;split
   .refine .setObj r (.stringIter _ _) (VC A) (.pure ?_);exact gE (((ax.nil.push (.bool _)).push (.int _ _)).push (.int _ _))
   exact x
  rename_i a5 a6 H d seen last;refine ay (bJ H) λa1 a2 w=>?_;cases w<;>try exact ai
  rename_i e g cl u;dsimp only;have X:e.size=g.size:=by have:=u.length;simpa using this
  have T:(!seen.isEmpty&&!e.isEmpty&&e.all (λ(c:Wb)=>decide (c.born>=last)))=(!seen.isEmpty&&!g.isEmpty&&g.all (λ(c:Wb)=>decide (c.born>=last))):=by
   have n:e.isEmpty=g.isEmpty:=by rw[YA];simp[VE.isEmpty,X]
   have t:e.all (λ(c:Wb)=>decide (c.born>=last))=g.all (λ(c:Wb)=>decide (c.born>=last)):=by rw[<-VE.all_toList,<-VE.all_toList];exact aZ.all u λc m i=>by rw[i.2.2]
   rw[n,t]
  rw[<-T];split
  .exact .lost A
  have D:=aZ.filter u (p:=λ(c:Wb)=>!seen.contains c.born) (p':=λ(c:Wb)=>!seen.contains c.born) λc m i=>by rw[i.2.2]
  have L:=aZ.filter D (p:=λ(c:Wb)=>decide (c.born<d)) (p':=λ(c:Wb)=>decide (c.born<d)) λc m i=>by rw[i.2.2]
  have Y:=aZ.filter D (p:=λ(c:Wb)=>decide (c.born>=d)) (p':=λ(c:Wb)=>decide (c.born>=d)) λc m i=>by rw[i.2.2]
  have q:aZ (Kj f h)
   ((if((e.filter λ(c:Wb)=>!seen.contains c.born).filter λ(c:Wb)=>decide (c.born<d)).isEmpty=J then #[I]else #[])++(((e.filter λ(c:Wb)=>!seen.contains c.born).filter λ(c:Wb)=>decide (c.born<d))++((e.filter λ(c:Wb)=>!seen.contains c.born).filter λ(c:Wb)=>decide (c.born>=d))).map C).toList
   ((if((g.filter λ(c:Wb)=>!seen.contains c.born).filter λ(c:Wb)=>decide (c.born<d)).isEmpty=J then #[I]else #[])++(((g.filter λ(c:Wb)=>!seen.contains c.born).filter λ(c:Wb)=>decide (c.born<d))++((g.filter λ(c:Wb)=>!seen.contains c.born).filter λ(c:Wb)=>decide (c.born>=d))).map C).toList:=by
   rw[Xj,Xj];refine aZ.append ?_ ?_
   .have n:((e.filter λ(c:Wb)=>!seen.contains c.born).filter λ(c:Wb)=>decide (c.born<d)).isEmpty=((g.filter λ(c:Wb)=>!seen.contains c.born).filter λ(c:Wb)=>decide (c.born<d)).isEmpty:=by
     have:=L.length;rw[<-Yr,<-Yr,<-Yr,<-Yr]at this;simp only[Yq]at this;rw[YA];simp only[VE.isEmpty,this]
    rw[<-n];split
    .exact .cons trivial .nil
    exact .nil
   rw[YJ,YJ,Xj,Xj];refine aZ.Ps (aZ.append ?_ ?_)
   .simpa only[Yr]using L
   simpa only[Yr]using Y
  generalize ((if((e.filter λ(c:Wb)=>!seen.contains c.born).filter λ(c:Wb)=>decide (c.born<d)).isEmpty=J then #[I]else #[])++(((e.filter λ(c:Wb)=>!seen.contains c.born).filter λ(c:Wb)=>decide (c.born<d))++((e.filter λ(c:Wb)=>!seen.contains c.born).filter λ(c:Wb)=>decide (c.born>=d))).map C)=o at q⊢
  generalize ((if((g.filter λ(c:Wb)=>!seen.contains c.born).filter λ(c:Wb)=>decide (c.born<d)).isEmpty=J then #[I]else #[])++(((g.filter λ(c:Wb)=>!seen.contains c.born).filter λ(c:Wb)=>decide (c.born<d))++((g.filter λ(c:Wb)=>!seen.contains c.born).filter λ(c:Wb)=>decide (c.born>=d))).map C)=s at q⊢
  have Z:o.size=s.size:=by have:=q.length;simpa using this
  rw[<-Z];refine au (cr _) λl=>?_;have n:o[l]?=o.toList[l]?:=by simp
  have t:s[l]?=s.toList[l]?:=by simp
  rw[n,t];cases U:o.toList[l]? with
  |none=>exact ai
  |some a4=>
   obtain⟨O,p,k⟩:=q.get U;rw[p];cases a4 with
   |none=>
    cases O with
    |none=>exact x
    |some c=>exact k.elim
   |some c=>
    cases O with
    |none=>exact k.elim
    |some m=>dsimp only;have v:iT f h c m:=k;rw[<-v.2.2];refine .setObj r (.mapIter H _ _ _) (VC A) (.pure ?_);exact gE (((ax.nil.push (.bool _)).push v.1).push v.2.1)
theorem Ib(g:an f h b W):ae a f (Vr f) h (Instr.entry b) (Instr.entry W):=by
 unfold Instr.entry;cases g<;>try exact ai
 rename_i r s w;obtain⟨U,N,Z⟩:=r;obtain⟨X,T,a0⟩:=s;obtain⟨q,n,o⟩:=w;simp only at q n o;subst n;subst o;cases N with
 |succ S=>exact ai
 |zero=>
  refine ay (bJ q) λH L i=>?_;cases i<;>try exact ai
  rename_i Q R y Y seen last;dsimp only;cases seen.back? with
  |none=>exact ai
  |some d=>
   refine ay (bJ y) λH L i=>?_;cases i<;>try exact ai
   rename_i t u cl v;dsimp only;split
   .exact .lost A
   have D:∀{k l:VD Wb},aZ (iT f h) k l->Kj f h (k.find? λc=>c.born==d) (l.find? λc=>c.born==d):=by
    intro k l x
    induction x with
    |nil=>exact trivial
    |cons g _ z=>
     rename_i c m _ _ _;simp only[VD.find?_cons];rw[<-g.2.2];cases c.born==d
     .exact z
     exact g
   have e:=D v;rw[<-VE.find?_toList,<-VE.find?_toList];generalize t.toList.find? (λc=>c.born==d)=O at e;generalize u.toList.find? (λc=>c.born==d)=P at e;cases O with
   |none=>exact .lost A
   |some c=>
    cases P with
    |none=>exact e.elim
    |some m=>have p:iT f h c m:=e;exact aC (gE ((ax.nil.push p.1).push p.2.1))
theorem vW(q:iF a)(n d:VJ)(p:an f h b W):ae a f (Vr f) h (Instr.typeAssert b n d J) (Instr.typeAssert W n d J):=by
 have l:ae a f (Vr f) h (do pure (.tuple #[<-zeroValue d,.bool Vz]):VR Vx) (do pure (.tuple #[<-zeroValue d,.bool Vz])):=
  ay (cJ q d) λu v r=>aC (gE ((ax.nil.push r).push (.bool _)))
 have m:∀{c g:Vx},an f h c g->ae a f (Vr f) h (pure (.tuple #[c,.bool J]):VR Vx) (pure (.tuple #[g,.bool J])):=
  λe=>aC (gE ((ax.nil.push e).push (.bool _)))
 unfold Instr.typeAssert;refine au (az d) λk=>?_
 have other:∀{i:VJ}{c g:Vx},an f h c g->ae a f (Vr f) h
  (if i=d then pure (.tuple #[c,.bool J])else(do pure (.tuple #[<-zeroValue d,.bool Vz]):VR Vx))
  (if i=d then pure (.tuple #[g,.bool J])else(do pure (.tuple #[<-zeroValue d,.bool Vz]):VR Vx)):=by
  intro i c g e;split
  .exact m e
  exact l
 cases p with
 |nilIface=>cases k<;>exact l
 |iface i e=>
  cases k<;>try exact other e
  refine ay (bL i) λs t⟨o,_⟩=>?_;subst o;dsimp only;split
  .exact m (.iface _ e)
  exact l
 |_=>cases k<;>exact ai
theorem zJ:ae a f (St h Eq) h Instr.panicnil Instr.panicnil:=by
 unfold Instr.panicnil;refine ae.env λb=>?_;cases b<;>first|exact ai|skip
 exact bI (aq A)
theorem xY(d:Base a h)(e:an f h b W):ae a f (Vr f) h (Instr.panic b) (Instr.panic W):=by
 unfold Instr.panic;cases e<;>try exact ai
 .exact dW (.iface _ ‹_›)
 refine au zJ λm=>?_;split
 .exact dW .nilIface
 exact EV d (λg i k l c=>by cases c)
theorem Eg{d:Type}(c:VJ)(b:VE Vx)(e:VT->VR d):
 (newRow c b >>= λa=>markStringish a >>= λ_=>e a)=kg (.cells b c) λf=>e ⟨f,0,I⟩:=A
theorem wQ(e:E){g:Vx}(k:an f h c g):ax f h (Array.replicate e c) (Array.replicate e g):=by
 refine⟨by simp,λl b W a d=>?_⟩;rw[Zi]at a d;split at a
 .rename_i i;rw[VV i]at d;cases a;cases d;exact k
 cases a
theorem qQ(b:VJ)(c:VX):ae a f (Vr f) h (Conv.stringToBytes b c) (Conv.stringToBytes b c):=by unfold Conv.stringToBytes;refine au (cr _) λl=>?_;dsimp only;rw[Eg];refine .nE b ((ot _).append (wQ _ (.int _ _))) λg i k m e=>?_;have d:bC k ⟨g,0,I⟩ ⟨i,0,I⟩:=⟨e,A,A⟩;exact aC (.slice d _ _)
theorem DG{m:Type}{b:Vx->m->VR (ForInStep m)}(n:∀g i c,an f h g i->ae a f (St h Eq) h (b g c) (b i c)){k l:VD Vx}(o:aZ (an f h) k l):
 ∀d,ae a f (St h Eq) h (forIn k d b) (forIn l d b):=by
 induction o with
 |nil=>intro d;simp only[VD.forIn_nil];exact aq A
 |cons p _ q=>
  intro d;simp only[K_];refine au (n _ _ _ p) λc=>?_;cases c with
  |done e=>exact aq A
  |yield e=>exact q e
theorem pM(k:an f h b W):ae a f (Vr f) h (Conv.bytesToString b) (Conv.bytesToString W):=by
 unfold Conv.bytesToString;cases k<;>first|exact ai|exact aC (.string _)|skip
 rename_i m n e c d;refine ay (kB e c) λp q g=>?_;refine au ?_ λs=>aC (.string _);rw[<-YN,<-YN];refine DG (λd o r i=>?_) g.list _;cases i with
 |int l c=>cases l<;>first|exact .lost rfl|exact aq rfl
 |_=>exact .lost A
end
variable{d:VE Vx}
section
variable{e g i k:Type}{l:Ren->e->g->Prop}{S:Ren->i->k->Prop}
theorem vM{e g:VT}(k:bC h e g):ae a f (St h (bC h)) h (Conv.seenAt e) (Conv.seenAt g):=by
 refine ay (jG k.1) λb Q x=>?_;cases x with
 |none=>exact aq k
 |some c y=>
  rename_i q O;obtain⟨z,o,p⟩:=e;obtain⟨D,L,N⟩:=g;obtain⟨H,t,u⟩:=k;subst t;subst u;by_cases s:(decide (o=0)&&p.isNone)=J
  .simp_all [aq]
  simp only[s];have w:=c.2.2.symm;have v:=c.2.1.symm;rw[w,v];by_cases m:(p.isSome||q.spot.isSome)=J
  .simp only[m,Wv];exact fe
  simp only[m];refine bI ?_;cases byteOfCell a a.depth y o with
  |none=>exact fe
  |some r=>
   refine au (cZ c.1) λl=>?_;cases l with
   |none=>exact fe
   |some l=>
    obtain⟨i,cells⟩:=l;by_cases n:a.cellsOf i=0
    .simp only[n,Wv];exact fe
    simp only[n,Wy];cases cellAtBytes a a.depth i (cells/a.cellsOf i) q.off r with
    |none=>exact fe
    |some d=>exact aq ⟨c.1,A,A⟩
theorem Ax{d e:E}(c:h d e):ae a f (St h Eq) h (cellsIn d) (cellsIn e):=by
 refine au (cZ c) λi=>?_;cases i with
 |some b=>exact aq A
 |none=>refine ay (bJ c) λk l g=>?_;cases g<;>exact aq A
theorem lX{c d:VT}(e:bC h c d)(i:VJ)(g:E):ae a f (St h Eq) h (variablesAt c i g) (variablesAt d i g):=by
 refine bI ?_;refine au (cZ e.1) λk=>?_;cases k with
 |none=>exact aq A
 |some b=>rw[<-e.2.1];exact aq A
theorem mO{c d:VT}(e:bC h c d)(b:VJ):ae a f (Vr f) h (do pure (VW (C ⟨<-newObj (.view c b),0,I⟩)):VR Vx) (do pure (VW (C ⟨<-newObj (.view d b),0,I⟩))):=
 .new (.view e b) λk l m i g=>.pure (.ptr ⟨g,A,A⟩)
theorem kh(o n:VJ)(y:(∃m,a.underlying o=C (.pointer m)/\a.underlying n=C .unsafePointer)\/(∃m,a.underlying o=C .unsafePointer/\a.underlying n=C (.pointer m)))
 (u:an f h b W):ae a f (Vr f) h (Conv.unsafePointer o n b) (Conv.unsafePointer o n W):=by
 refine ay (cA o) λL N⟨q,hd⟩=>?_;subst q;refine ay (cA n) λO P⟨q,p⟩=>?_;subst q;rcases y with⟨m,r,s⟩|⟨m,r,s⟩
 .rw[r]at hd;rw[s]at p;cases hd;cases p;cases u<;>try exact ai
  .exact aC .cH
  rename_i w x t;refine ay (vM t) λz D c=>?_;refine au (Ax c.1) λd=>?_;refine au (aS m) λH=>?_;rw[<-c.2.1,<-c.2.2];cases d<;>dsimp only<;>split<;>first|exact mO c m|exact aC (.ptr c)
 rw[r]at hd;rw[s]at p;cases hd;cases p;cases u<;>try exact ai
 .exact aC .cH
 rename_i w x t;refine ay (vM t) λz D c=>?_;refine au (aS m) λH=>?_;refine au (lX c m 1) λR=>?_;split
 .exact aC (.ptr c)
 refine au (cZ c.1) λv=>?_;cases v with
 |none=>exact fe
 |some v=>
  refine bI ?_;refine bI ?_;split
  .exact fe
  grind [mO]
def Dp(a:VS)(d c:VJ):VI:=
 match a.underlying d,a.underlying c with
 |C (.int _),C (.int _)=>J
 |C .string,C (.slice b)=>match a.underlying b with|some (.int .u8)=>J|_=>Vz
 |C (.slice b),C .string=>match a.underlying b with|some (.int .u8)=>J|_=>Vz
 |C (.pointer _),C .unsafePointer=>J
 |C .unsafePointer,C (.pointer _)=>J
 |_,_=>Vz
theorem tD(b:VB):ae a f (Vr f) h (Conv.intToString b) (Conv.intToString b):=aC (.string _)
theorem AA(k g:VJ)(c:Dp a k g=J)(e:an f h b W):ae a f (Vr f) h (convert k g b) (convert k g W):=by
 refine ay (cA k) λw x⟨m,hd⟩=>?_;subst m;refine ay (cA g) λy z⟨m,p⟩=>?_;subst m;unfold Dp at c;rw[hd,p]at c;split at c<;>rename_i d i<;>first|cases c|skip
 all_goals simp only[Wz]at d i
 .subst d;subst i;cases e<;>first|exact fe|exact ai|exact aC (.int _ _)
 .subst d;subst i;cases e<;>try exact fe
  refine ay (cA _) λo v⟨eq,n⟩=>?_;subst eq;rw[n]at c;split at c<;>rename_i d<;>first|cases c|skip
  cases d;exact qQ _ _
 .subst d;subst i;rename_i l _ _
  have s:ae a f (Vr f) h (do match<-underlying l with|.int .u8=>Conv.bytesToString b|.int .i32=>Conv.runesToString b|_=>stuck "Convert: a slice of what to string?":VR Vx) (do match<-underlying l with|.int .u8=>Conv.bytesToString W|.int .i32=>Conv.runesToString W|_=>stuck "Convert: a slice of what to string?"):=by
   refine ay (cA _) λo v⟨eq,n⟩=>?_;subst eq;rw[n]at c;split at c<;>rename_i d<;>first|cases c|skip
   cases d;exact pM e
  cases e with
  |bU r=>
   have dd:gd (do match<-underlying l with|.int .u8=>Conv.bytesToString (.tuple #[])|.int .i32=>Conv.runesToString (.tuple #[])|_=>stuck "Convert: a slice of what to string?":VR Vx):=by
    refine .program λa=>?_;simp only[program,Bind.bind,Sem.bind];cases a.underlying l with
    |none=>exact .lost A
    |some o=>
     cases o with
     |int q=>cases q<;>exact .lost A
     |_=>exact .lost A
   cases W<;>first|exact .dead dd|(simp only[bN]at r)
  |int q t=>exact tD t
  |string u=>exact aC (.string u)
  |_=>exact s
 .subst d;subst i;have:=kh (a:=a) (h:=h) k g (VA ⟨_,hd,p⟩) e;cases e<;>first|exact this|exact fe
 simp_all [kh]
theorem nU:∀(c:E){d e:VT}(g:bC h d e)(acc:VX),ae a f (St h Eq) h (Extern.Bytes.loadBytes d c acc) (Extern.Bytes.loadBytes e c acc)
 |0,_,_,_,_=>aq A
 |c+1,d,e,g,acc=>by
  refine ay (qh g) λl m i=>?_;cases i<;>try exact ai
  rename_i k b;cases k<;>first|exact ai|exact nU c (g.add 1) _
theorem jU(c:an f h b W):ae a f (St h Eq) h (Extern.Bytes.bytesOf b) (Extern.Bytes.bytesOf W):=by cases c<;>first|exact ai|exact aq rfl|exact nU _ ‹_› _
theorem ux(c:an f h b W):ae a f (St h Eq) h (Extern.Bytes.asByte b) (Extern.Bytes.asByte W):=by
 cases c<;>try exact ai
 rename_i d b;cases d<;>first|exact ai|exact aq rfl
theorem Ci{a:VE Vx}(c:ax f h d a)(e:d=#[b]):∃W,a=#[W]/\an f h b W:=by
 subst e;have g:a.size=1:=c.1.symm;obtain⟨i⟩:=a
 match i,g with
 |[Q],_=>exact⟨Q,A,c.2 0 b Q A rfl⟩
theorem Cj{a:VE Vx}(c:ax f h d a)(k:d=#[b,Q]):∃W g,a=#[W,g]/\an f h b W/\an f h Q g:=by
 subst k;have l:a.size=2:=c.1.symm;obtain⟨m⟩:=a
 match m,l with
 |[i,e],_=>exact⟨i,e,A,c.2 0 b i A rfl,c.2 1 Q e A rfl⟩
def kq(a:VS)(f:Set)(d:VE Vx->VR Vx):Prop:=
 ∀(h:Ren)(b c:VE Vx),Base a h->pE h->ax f h b c->ae a f (Vr f) h (d b) (d c)
theorem MU:kq a f Extern.AbiNoEscape.same:=by
 intro h d i k l c;obtain⟨g⟩:=d
 match g,c with
 |[],c=>exact ai
 |[b],c=>obtain⟨W,rfl,e⟩:=Ci c A;exact aC e
 |_::_::_,c=>exact ai
theorem HH:kq a f Extern.BytealgCount.count:=by
 intro h e l n o c;obtain⟨k⟩:=e
 match k,c with
 |[],c=>exact ai
 |[b],c=>exact ai
 |[b,Q],c=>obtain⟨W,p,rfl,g,i⟩:=Cj c A;exact au (jU g) λm=>au (ux i) λd=>aC (.int _ _)
 |_::_::_::_,c=>exact ai
theorem Ee(e:Base a h)(g:∀b,a.globals.findIdx? (·.name== "internal/bytealg.MaxLen")=C b->0<b):ae a f (St h Eq) h Extern.BytealgIndex.maxLen Extern.BytealgIndex.maxLen:=by
 refine ay (o:=bC h) ?_ λl m d=>ay (qh d) λn o i=>dN i;refine bI ?_;cases c:a.globals.findIdx? (·.name== "internal/bytealg.MaxLen")with
 |none=>exact ai
 |some b=>have:=(VE.findIdx?_eq_some_iff_getElem.1 c).1;exact aq ⟨e.at (g b c) (G_ this),A,A⟩
theorem Iy(o:∀g,a.globals.findIdx? (·.name== "internal/bytealg.MaxLen")=C g->0<g):kq a f Extern.BytealgIndex.index:=by
 intro h m u n v c;obtain⟨r⟩:=m
 match r,c with
 |[],c=>exact ai
 |[b],c=>exact ai
 |[b,Q],c=>
  obtain⟨W,w,rfl,p,q⟩:=Cj c A;refine au (jU p) λe=>au (jU q) λd=>?_;refine au (Ee n o) λs=>?_;by_cases i:(decide (d.size<2)||decide ((d.size:VB)>s))=J
  .simp only[i,Wv];exact fe
  simp only[i];by_cases k:e.size>=2^32-15
  .simp only[k,Wv];exact fe
  simp only[k,Wy];generalize ((VD.range (e.size+1-d.size)).find? λl=>e.extract l (l+d.size)==d)=t;cases t<;>exact aC (.int _ _)
 |_::_::_::_,c=>exact ai
theorem wH:kq a f Extern.BytealgIndexByte.indexByte:=by
 intro h g o p q c;obtain⟨m⟩:=g
 match m,c with
 |[],c=>exact ai
 |[b],c=>exact ai
 |[b,Q],c=>obtain⟨W,r,rfl,i,k⟩:=Cj c A;refine au (jU i) λe=>au (ux k) λd=>?_;generalize ((VD.range e.size).find? λl=>e[l]! ==d)=n;cases n<;>exact aC (.int _ _)
 |_::_::_::_,c=>exact ai
theorem uM:∀(a b:E)(acc:VE Vx),ax f h acc acc->ax f h (Extern.BytealgMakeNoZero.digits a b acc) (Extern.BytealgMakeNoZero.digits a b acc)
 |0,_,_,c=>c
 |a+1,b,acc,c=>uM a (b/256) _ (c.push (.int _ _))
theorem vm(g e:VE VJ):kq a f (Extern.BytealgMakeNoZero.makeNoZero g e):=by
 intro h i u w x c
 have main:∀d:VB,ae a f (Vr f) h (Extern.BytealgMakeNoZero.makeNoZero g e #[Vy M d]) (Extern.BytealgMakeNoZero.makeNoZero g e #[Vy M d]):=by
  intro d;unfold Extern.BytealgMakeNoZero.makeNoZero;cases e[0]? with
  |none=>exact ai
  |some r=>
   refine au (az r) λl=>?_;cases l<;>try exact ai
   rename_i m;dsimp only;split
   .simp_all [jB]
   refine au (cr _) λk=>?_;refine ay (mo k) λ_ _ _=>?_;refine au (cr _) λv=>?_;exact bindM (gW (uM _ _ _ ax.nil) m) λy s t _⟨_,n⟩=>aC (.slice n _ _)
 obtain⟨q⟩:=i
 match q,c with
 |[],c=>exact ai
 |[b],c=>
  obtain⟨W,rfl,o⟩:=Ci c A;cases o with
  |int p d=>cases p<;>first|exact main d|exact ai
  |_=>exact ai
 |_::_::_,c=>exact ai
theorem iY{d:VE VJ}{e g:VJ->E->VR Vx}(k:∀b i,ae a f (Vr f) h (e b i) (g b i)):
 ae a f (Vr f) h (do let C b:=d[0]?|stuck "slices.overlaps: no parameter types"
                     let .slice c<-underlying b|stuck "slices.overlaps: slice type expected"
                     let size<-sizeOf c
                     e c size)
  (do let C b:=d[0]?|stuck "slices.overlaps: no parameter types"
      let .slice c<-underlying b|stuck "slices.overlaps: slice type expected"
      let size<-sizeOf c
      g c size):=by
 cases d[0]? with
 |none=>exact ai
 |some b=>grind [au,az,ai,aS]
theorem zI(s t:VE VJ)(x:pE h){c n e o:VT}(g:bC h c n)(i:bC h e o)(l d k p:E):
 ae a f (Vr f) h (Extern.SlicesOverlaps.overlaps s t #[VG (C c) l d,VG (C e) k p]) (Extern.SlicesOverlaps.overlaps s t #[VG (C n) l d,VG (C o) k p]):=by
 refine iY λS m=>?_;have O:=x _ _ _ _ g.1 i.1;have v:(n.block !=o.block)=(c.block !=e.block):=by grind
 have w:(n.block==o.block)=(c.block==e.block):=by grind
 dsimp only;rw[v,w,<-g.2.1,<-i.2.1];have fin:ae a f (Vr f) h (pure (.bool (c.block==e.block&&decide (c.off<e.off+k*m)&&decide (e.off<c.off+l*m)))) (pure (.bool (c.block==e.block&&decide (c.off<e.off+k*m)&&decide (e.off<c.off+l*m)))):=aC (.bool _);by_cases q:l=0\/k=0\/m=0
 .simp only[q,Wv];exact aC (.bool _)
 simp only[q,Wy];cases hd:(c.block !=e.block)with
 |false=>refine ay (eQ g) λb W z=>?_;refine ay (eQ i) λQ u H=>?_;simp_all
 |true=>
  have y:(c.block==e.block)=Vz:=by simp_all
  refine ay (eQ g) λb W z=>?_;refine ay (eQ i) λQ u H=>?_;simp only[VI.true_and];by_cases r:(b&&Q)=J
  .simp only[r,Wv];exact fe
  have D:¬(W&&u)=J:=by grind
  simp only[r,D,Wv];refine ay (ju g) λ_ _ _=>ay (ju i) λ_ _ _=>?_;refine ay (qk g i) λL N P=>?_;cases L
  .grind
  cases N
  .simp only[Wv,y,S_];refine .jV _ A 0 ?_;exact aC (.bool _)
  exact au (cr _) λR=>aC (.bool _)
theorem zH(r s:VE VJ):kq a f (Extern.SlicesOverlaps.overlaps r s):=by
 intro h n t u v c;obtain⟨p⟩:=n
 match p,c with
 |[],c=>exact ai
 |[b],c=>obtain⟨W,rfl,e⟩:=Ci c A;cases e<;>exact ai
 |[b,Q],c=>
  obtain⟨W,y,rfl,e,k⟩:=Cj c A;cases e with
  |aP q d=>
   cases k with
   |aP i g=>exact iY λl m=>aC (.bool _)
   |slice o i g=>exact iY λl m=>aC (.bool _)
   |_=>exact ai
  |slice w q d=>
   cases k with
   |aP i g=>exact iY λl m=>aC (.bool _)
   |slice o i g=>simp_all [zI]
   |_=>exact ai
  |_=>exact ai
 |b::_::_::_,c=>cases c.get (i:=0) (x:=b) A with|intro W e=>cases e.2<;>exact ai
theorem nQ(l:VE VJ)(g:VJ):kq a f (Builtin.unsafeSliceData_ l g):=by
 intro h n r t u e;obtain⟨q⟩:=n
 match q,e with
 |[],e=>exact ai
 |[b],e=>
  obtain⟨W,rfl,p⟩:=Ci e A;cases p with
  |aP k d=>exact aC .cH
  |slice i k d=>
   have m:∀c:VT,Builtin.unsafeSliceData_ l g #[VG (C c) k d]=(do
    if d≠0 then pure (VW (C c))
    else if(<-viewAt c.block).isSome then pure (VW (C c))
    else pure (VW (C ⟨<-newObj (.view c (<-elemOf g)),0,I⟩))):=λ_=>rfl
   show ae a f (Vr f) h (Builtin.unsafeSliceData_ l g #[VG (C _) k d]) _;rw[m,m];split
   .exact aC (.ptr i)
   refine ay (jG i.1) λw x o=>?_;cases o with
   |none=>grind [au,oI,mO]
   |some s v=>exact aC (.ptr i)
  |_=>exact ai
 |b::_::_,e=>exact ai
theorem sD(e:VE VJ)(p:VJ):kq a f (Builtin.unsafeString_ e p):=by
 intro h k q r s c;obtain⟨n⟩:=k
 match n,c with
 |[],c=>exact ai
 |[b],c=>
  obtain⟨W,rfl,d⟩:=Ci c A;cases d with
  |ptr=>exact ai
  |_=>exact ai
 |[b,Q],c=>
  obtain⟨W,w,rfl,d,i⟩:=Cj c A;cases d with
  |cH=>
   refine au (dN i) λo=>?_;cases e[0]? with
   |none=>exact ai
   |some pt=>
    dsimp only;split
    .simp_all [jB]
    split
    .exact fe
    split
    .exact aC (.string _)
    simp_all [EV]
  |ptr g=>
   refine au (dN i) λo=>?_;cases e[0]? with
   |none=>exact ai
   |some pt=>
    dsimp only;split
    .simp_all [jB]
    split
    .exact fe
    split
    .exact aC (.string _)
    refine au (oI pt) λl=>?_;refine au (lX g l _) λv=>?_;split
    .exact .jI _ g λu=>aC (.string _)
    exact fe
  |_=>exact ai
 |b::_::_::_,c=>obtain⟨W,d,m⟩:=c.get (i:=0) (x:=b) A;cases m<;>exact ai
end
def bK(fn:Wc->VI):E->Vx->VI
 |0,_=>Vz
 |_+1,.bool _=>J
 |_+1,.int _ _=>J
 |_+1,.string _=>J
 |_+1,VW I=>J
 |_+1,VG I _ _=>J
 |_+1,.map I=>J
 |_+1,.chan I=>J
 |_+1,.nilFunc=>J
 |_+1,.nilIface=>J
 |_+1,.func (.func c) d a=>fn c&&d.isEmpty&&a.isEmpty
 |b+1,.iface _ e=>bK fn b e
 |b+1,.agg a=>a.toList.all (bK fn b)
 |b+1,.tuple a=>a.toList.all (bK fn b)
 |_+1,_=>Vz
theorem im:∀(e:E)(c:Vx),bK f.fn e c=J->an f h c c
 |0,_,d=>by grind [bK]
 |e+1,c,d=>by
  have agg:∀b:VE Vx,b.toList.all (bK f.fn e)=J->ax f h b b:=by intro b i;refine⟨A,λv m D k l=>?_⟩;rw[k]at l;cases l;rw[Xn]at i;exact im e m (i m (by rw[WW];exact WN k))
  cases c with
  |bool s=>exact .bool _
  |int w y=>exact .int _ _
  |string z=>exact .string _
  |pointer a=>cases a with
   |none=>exact .cH
   |some a=>grind [bK]
  |slice a x b=>cases a with
   |none=>exact .aP _ _
   |some a=>grind [bK]
  |map a=>cases a with
   |none=>exact .fq
   |some a=>grind [bK]
  |chan a=>cases a with
   |none=>exact .eh
   |some a=>grind [bK]
  |nilFunc=>exact .nilFunc
  |nilIface=>exact .nilIface
  |func g q b=>cases g with
   |func g=>
    simp only[bK,WH]at d;obtain⟨⟨p,t⟩,u⟩:=d;have n:q=#[]:=by simp_all
    have o:b=#[]:=by simp_all
    subst n;subst o;exact .func (.func g p) A rfl (by simp) (by simp)
   |_=>simp[bK]at d
  |iface r c=>exact .iface r (im e c (by simpa[bK]using d))
  |agg b=>simp_all [ml,bK]
  |tuple b=>simp_all [gE,bK]
  |_=>grind [bK]
def dG(a:VS)(fn:Wc->VI):Wd->VI
 |.tmp _=>J
 |.const d=>bK fn 8 d
 |.global b=>decide (0<b)&&decide (b<a.globals.size)
 |.func c=>fn c
def Hs(a:VS)(cj:VI)(b:Builtin)(c:VE VJ):VI:=
 match b with
 |.append|.cap|.copy|.len|.min|.panic|.recover|.unsafeSliceData|.unsafeString=>J
 |.clear|.delete=>cj
 |_=>Vz
def uF(a:VS)(d:Builtin->VE VJ->VI)(b:Call):VI:=
 match b.callee with
 |.value _=>J
 |.builtin c=>d c b.argTypes
 |.invoke .. =>Vz
def iW(a:VS)(fn:Wc->VI)(d:Builtin->VE VJ->VI)(cj:VI)(c:Op):VI:=
 c.operands.toList.all (dG a fn)&&
 match c with
 |.ready _|.waits _|.sliceToArrayPointer .. |.makeChan .. |.mapEntry .. |.entryStore .. |.go _|.send .. |.recv .. |.select .. =>Vz
 |.convert g e _=>Dp a g e
 |.makeFunc (.func f) _ _=>fn f
 |.makeFunc .. =>Vz
 |.mapUpdate .. |.insert .. =>cj
 |.typeAssert _ _ _ ok=>ok
 |.call b|.defer b=>uF a d b
 |_=>J
def codeOk(a:VS)(fn:Wc->VI)(c:Builtin->VE VJ->VI)(cj:VI):Code->VI
 |.seq b d=>codeOk a fn c cj b&&codeOk a fn c cj d
 |.cond e b d=>dG a fn e&&codeOk a fn c cj b&&codeOk a fn c cj d
 |.block _ b|.loop b|.scope b=>codeOk a fn c cj b
 |.rangeFunc f _ b d=>dG a fn f&&codeOk a fn c cj b&&codeOk a fn c cj d&&cL b&&cL d
 |.region _ h _=>h.toList.all λg=>iW a fn c cj g.op
 |_=>J
structure Good(a:VS)(f:Set):Prop where
 tW:jO a
 zero:iF a
 code:f.code=codeOk a f.fn f.bi f.cj
 bi:f.bi=Hs a f.cj
 Tn:a.follows .rangeFuncRecover=J
 norace:∀i fn,f.fr i=J->a.funcs[i]?=C fn->fn.norace=Vz
 DH:∀i,f.fn i=J->f.fr i=J
 maxLen:∀m,a.globals.findIdx? (·.name== "internal/bytealg.MaxLen")=C m->0<m
 funcs:∀i,f.fn i=J->∃fn,a.funcs[i]?=C fn/\(fn.name== "runtime.NumGoroutine")=Vz/\
  ((∃k,fn.body=C k/\f.code k=J)\/(fn.body=I/\Extern.findNext fn=I/\∃l,Extern.find fn=C l/\kq a f l))
inductive Al(f:Set)(h:Ren):Next->Next->Prop
 |value {v w:Vx} (q:an f h v w):Al f h (.value v) (.value w)
 |skip:Al f h .skip .skip
 |enter (i:Wc) (x:f.fn i=J) {m n:VE Vx} (q:ax f h m n):Al f h (.enter i m) (.enter i n)
 |round {r s:E} (D:h r s) (i:Wc) (x:f.fr i=J) {t u:VE Vx} (H:ax f h t u) (k l:Code) (y:f.code k=J) (z:f.code l=J) (L:cL k=J) (N:cL l=J):Al f h (.round r i t k l) (.round s i u k l)
 |defer {o p:Deferred} (q:ra f h o p):Al f h (.defer o) (.defer p)
 |recover:Al f h .recover .recover
def Nr(f:Set):Ren->Next->Next->Prop:=λh a b=>Al f h a b
section
variable{b c d e:Type}{g:Ren->b->c->Prop}{S:Ren->d->e->Prop}
theorem bf{b c:VR Vx}(d:ae a f (Vr f) h b c):ae a f (Nr f) h (do pure (.value (<-b))) (do pure (.value (<-c))):=
 bindM d λk g i _ e=>aC (.value e)
theorem sC{b c:VR Unit}(d:ae a f (St h λ_ _=>True) h b c):ae a f (Nr f) h (do b;pure .skip) (do c;pure .skip):=
 ay d λ_ _ _=>aC .skip
theorem yK(G:Good a f)(p:Base a h)(q:pE h)(b:Wc)(g:f.fn b=J){c d:VE Vx}(i:ax f h c d):ae a f (Nr f) h (callFunc b c) (callFunc b d):=by
 obtain⟨fn,m,n,o⟩:=G.funcs b g;refine bI ?_;rw[m];dsimp only;rw[n];rcases o with⟨s,e,_⟩|⟨e,k,t,l,r⟩
 .simp only[e,VL.isNone_some,WC,Wy];exact aC (.enter b g i)
 simp only[e,VL.isNone_none,Wv,WC,Wy];refine .mark (.extern b) (by exact g) ?_;rw[k,l];exact bf (r h c d p q i)
theorem JM{s t:E}(r:h s t){o p:VE Vx}(q:ax f h o p):ae a f (Nr f) h (Instr.yield s o) (Instr.yield t p):=by
 refine ay (o:=λm u=>yw f h m u) ?_ λm u Q=>?_
 .refine ay (bJ r) λZ a0 P=>?_;cases P<;>first|exact ai|grind [aq]
 obtain⟨U,X,z,D,H,L,N,Y,O,v,W,w,x,y⟩:=Q;rw[<-H,<-q.1];split
 .exact ai
 refine aC ?_;rw[<-z,<-L,<-N];refine .round r _ w ?_ _ _ O v x y
 have:∀(c:VD E)(i k:VD Vx),aZ (an f h) i k->∀(e g:VE Vx),ax f h e g->
  ax f h ((c.zip i).foldl (λn(b:E×Vx)=>n.setIfInBounds b.1 b.2) e) ((c.zip k).foldl (λn(b:E×Vx)=>n.setIfInBounds b.1 b.2) g):=by
  intro c
  induction c with
  |nil=>intro i k _ e g d;exact d
  |cons b c S=>
   intro i k l e g d;cases l with
   |nil=>exact d
   |cons R l=>exact S _ _ l _ _ (d.set b R)
 have:=this m.params.toList _ _ q.list _ _ D
 grind [Array.toList_zip]
theorem KM(G:Good a f)(e:Base a h)(i:pE h)(g:Builtin)(b:VE VJ)(c:VJ)(m:VE VI)(n:f.bi g b=J){k l:VE Vx}(d:ax f h k l):
 ae a f (Nr f) h (builtin g b c m k) (builtin g b c m l):=by
 rw[G.bi]at n;cases g<;>first|(simp only[Hs,WC]at n;done)|skip
 .exact bf (Dd G.zero e b c d)
 .exact bf (Ob b c d)
 .exact bf (Hy (by simp_all [Hs]) G.zero b c d)
 .exact bf (Lh b c d)
 .exact bf (Dt (by simp_all [Hs]) e i b c d)
 .exact bf (OL b c d)
 .exact bf (OP b c d)
 .exact bf (xY e (d.getD 0 .nilIface))
 .exact aC .recover
 .exact bf (nQ b c _ _ _ e i d)
 exact bf (sD b c _ _ _ e i d)
theorem oL(G:Good a f)(d:Base a h)(k:pE h){b l:Target}(r:kx f h b l){g i:VE Vx}(c:ax f h g i):ae a f (Nr f) h (invoke b g) (invoke l i):=by
 cases r with
 |fn e o=>
  cases e with
  |func n e=>exact yK G d k n e (c.append o)
  |yield q=>exact JM q c
 |nil=>exact EV (k:=.nilDeref) d (by simp)
 |builtin m t b s p=>exact KM G d k m t b s p c
 |collected v=>exact ai
def lf(a:VS)(f:Set)(h:Ren)(c d:Wd->Vx):Prop:=∀b,dG a f.fn b=J->an f h (c b) (d b)
theorem zv{i k:Wd->Vx}(n:lf a f h i k){b:VE Wd}(l:∀g∈b.toList,dG a f.fn g=J):ax f h (b.map i) (b.map k):=by
 refine⟨by simp,λo g p c d=>?_⟩;rw[WE]at c d;cases m:b[o]? with
 |none=>simp_all
 |some e=>rw[m]at c d;cases c;cases d;exact n e (l e (by grind))
theorem tY{c d:Wd->Vx}(g:lf a f h c d){b:VL Wd}(e:∀i∈b.toArray.toList,dG a f.fn i=J):lQ f h (b.map c) (b.map d):=by
 cases b with
 |none=>trivial
 |some b=>exact g b (e b (by simp))
theorem BN{i k:Wd->Vx}(e:lf a f h i k):∀{c:VD (E×Wd)},(∀g∈c.map (·.2),dG a f.fn g=J)->aZ (Kl f h) (c.map λb=>(b.1,i b.2)) (c.map λb=>(b.1,k b.2))
 |[],_=>.nil
 |g::c,d=>.cons ⟨A,e _ (d _ (by simp))⟩ (BN e λl m=>d l (by simp_all))
theorem xX{e g:Wd->Vx}(k:lf a f h e g){d:VE (E×Wd)}(i:∀b∈d.toList.map (·.2),dG a f.fn b=J):
 aZ (Kl f h) (d.map λ(c,b)=>(c,e b)).toList (d.map λ(c,b)=>(c,g b)).toList:=by
 grind [Array.toList_map,BN]
theorem tf(G:Good a f){k l:Wd->Vx}(n:lf a f h k l)(b:Call)(o:VJ)(m:∀c∈b.operands.toList,dG a f.fn c=J)(g:uF a f.bi b=J):
 ae a f (St h (ra f h)) h (resolve k b o) (resolve l b o):=by
 have q:∀c∈b.args.toList,dG a f.fn c=J:=λc y=>m c (by simp_all [Call.operands])
 have e:=zv n q;unfold resolve;unfold uF at g;cases s:b.callee with
 |value d=>
  have i:=n d (m d (by simp_all [Call.operands]));dsimp only;generalize k d=H at i⊢
  generalize l d=L at i⊢
  cases i with
  |bU x=>exact ai
  |func t u r w v=>exact aq ⟨.fn t ⟨r,v⟩,ax.append ⟨u,w⟩ e⟩
  |nilFunc=>exact aq ⟨.nil,e⟩
  |_=>exact ai
 |builtin p=>rw[s]at g;exact aq ⟨.builtin p _ _ _ g,e⟩
 |invoke D z=>simp_all
theorem uO(G:Good a f)(m:Base a h)(y:pE h){x L:Wd->Vx}(d:lf a f h x L)(N:Oper)(k:iW a f.fn f.bi f.cj N.op=J):
 ae a f (Nr f) h (execOp x N) (execOp L N):=by
 obtain⟨b5,v,S,d6⟩:=N;unfold iW at k;rw[WH,Xn]at k;obtain⟨c,k⟩:=k;dsimp only at c k;have w:=G.zero;cases v<;>first|(cases k;done)|skip
 case move b=>exact aC (.value (d b (c b (by simp[We]))))
 case assign b=>exact aC (.value (d b (c b (by simp[We]))))
 case pick l i s=>
  refine au (uw (d l (c l (by simp[We])))) λe=>?_;cases e
  .exact aC (.value (d s (c s (by simp[We]))))
  exact aC (.value (d i (c i (by simp[We]))))
 case alloc e=>exact bf (Ho w e)
 case box e b=>exact bf (NZ e (d b (c b (by simp[We]))))
 case build e a8=>exact bf (Hu w e (xX d λb n=>c b (by simp_all [We])))
 case buildSlice e u a8=>exact bf (uE w e u (xX d λb n=>c b (by simp_all [We])))
 case load e i=>exact bf (Ea e (d i (c i (by simp[We]))))
 case store e i b=>exact sC (Cs e (d i (c i (by simp[We]))) (d b (c b (by simp[We]))))
 case nilCheck b=>
  have n:=d b (c b (by simp[We]))
  show ae a f (Nr f) h (match x b with
   |VW I|.nilIface|.nilFunc=>runtimePanic .nilDeref
   |.func (.method R) first T=>
    match(first[0]?:VL Vx)with
    |some .nilIface=>runtimePanic .nilDeref
    |some (.iface e b0)=>do
     if(<-nilAhead ((<-program).types.size+Made.depth) e b0 R)!=C Vz then
      unsupported (.noEntry "op/nilCheck.the method's receiver behind this interface value is a nil pointer, or cannot be seen to be none, and the arguments act or may panic (ledger 612)")
     pure (.value (.func (.method R) first T))
    |_=>pure (.value (.func (.method R) first T))
   |b=>pure (.value b)) _
  unfold execOp;dsimp only;generalize x b=e1 at n⊢
  generalize L b=a9 at n⊢
  cases n with
  |bU q=>
   cases a9<;>first|exact q.elim|skip
   .exact aC (.value (.bU q))
   .rename_i i;cases i with
    |none=>exact q.elim
    |some i=>exact aC (.value (.bU q))
   .exact aC (.value (.bU q))
   .exact aC (.value (.bU q))
   .exact aC (.value (.bU q))
   rename_i fn _ _;cases fn<;>first|exact q.elim|exact aC (.value (.bU q))
  |cH=>simp_all [EV]
  |nilIface=>simp_all [EV]
  |nilFunc=>simp_all [EV]
  |func a5 Y X a1 a0=>cases a5 with
   |func o a4=>exact aC (.value (.func (.func o a4) Y X a1 a0))
   |yield a6=>exact aC (.value (.func (.yield a6) Y X a1 a0))
  |bool s=>exact aC (.value (.bool s))
  |int t u=>exact aC (.value (.int t u))
  |string H=>exact aC (.value (.string H))
  |ptr p=>exact aC (.value (.ptr p))
  |aP u l=>exact aC (.value (.aP u l))
  |slice p u l=>exact aC (.value (.slice p u l))
  |fq=>exact aC (.value .fq)
  |map p=>exact aC (.value (.map p))
  |eh=>exact aC (.value .eh)
  |chan p=>exact aC (.value (.chan p))
  |iface e p=>exact aC (.value (.iface e p))
  |agg P Q=>exact aC (.value (.agg P Q))
  |tuple P Q=>exact aC (.value (.tuple P Q))
 case binOp v e b g a2=>have n:=d b (c b (by simp[We]));have r:=d g (c g (by simp[We]));exact bf (ay (AJ v e b g n r) λ_ _ _=>Ht m y v e n r)
 case unOp v e b=>exact bf (JJ v (d b (c b (by simp[We]))))
 case convert H O b=>exact bf (AA H O k (d b (c b (by simp[We]))))
 case makeInterface e b=>exact bf (qi e (d b (c b (by simp[We]))))
 case makeFunc o i s=>
  cases o<;>first|(cases k;done)|skip
  rename_i o;have U:ax f h (i.map x) (i.map L):=zv d λb n=>c b (by simp_all [We]);have W:ax f h (s.map x) (s.map L):=zv d λb n=>c b (by simp_all [We]);exact bf (aC (.func (.func o k) U.1 W.1 U.2 W.2))
 case makeMap e d7=>exact bf (Bw e (tY d λg r=>c g (by simp_all [We])))
 case makeSlice e Z l=>exact bf (wN w m e (d Z (c Z (by simp[We]))) (d l (c l (by simp[We]))))
 case slice e b c6 b9 d3=>
  refine bf (Ck m e (d b (c b (by simp[We]))) (tY d λg r=>c g ?_) (tY d λg r=>c g ?_) (tY d λg r=>c g ?_))
  .simp only[We,Xj,WL];exact VA (VA (VC r))
  .simp only[We,Xj,WL];exact VA (VC r)
  simp_all [We]
 case fieldAddr e b o=>exact bf (AN e (d b (c b (by simp[We]))) o)
 case field e b o=>exact bf (Ie e (d b (c b (by simp[We]))) o)
 case indexAddr e b g=>exact bf (Bd m e (d b (c b (by simp[We]))) (d g (c g (by simp[We]))))
 case index e b g=>exact bf (Ix m e (d b (c b (by simp[We]))) (d g (c g (by simp[We]))))
 case lookup e b g ok=>exact bf (Ec w m y e (d b (c b (by simp[We]))) (d g (c g (by simp[We]))) ok)
 case mapUpdate e D t b=>exact sC (od k m y e (d D (c D (by simp[We]))) (d t (c t (by simp[We]))) (d b (c b (by simp[We]))))
 case insert e D t b=>exact sC (od k m y e (d D (c D (by simp[We]))) (d t (c t (by simp[We]))) (d b (c b (by simp[We]))))
 case range e b=>exact bf (Jb e (d b (c b (by simp[We]))))
 case next z H=>exact bf (Mq (d z (c z (by simp[We]))) H S)
 case entry z=>exact bf (Ib (d z (c z (by simp[We]))))
 case typeAssert b e a2 ok=>
  cases ok
  .cases k
  exact bf (vW w e a2 (d b (c b (by simp[We]))))
 case extract b a7=>exact bf (AM (d b (c b (by simp[We]))) a7)
 case call l=>exact ay (tf G d l S c k) λO a3 hd=>oL G m y hd.1 hd.2
 case defer l=>exact ay (tf G d l S c k) λO a3 hd=>aC (.defer hd)
 case panic b=>exact bf (xY m (d b (c b (by simp[We]))))
end
variable{b:VS}{v:Vx}{e:VD Item}
def lR(f:Set)(h:Ren)(a b:PanicEntry):Prop:=an f h a.v b.v/\a.recovered=b.recovered/\a.goexit=b.goexit
inductive jN(f:Set)(h:Ren):FrameMode->FrameMode->Prop
 |run:jN f h .run .run
 |returning:jN f h .returning .returning
 |panicking {a d:VD PanicEntry} (i:aZ (lR f h) a d):jN f h (.panicking a) (.panicking d)
inductive pI(h:Ren):VL E->VL E->Prop
 |none:pI h I I
 |some {a d:E} (i:h a d):pI h (C a) (C d)
def qu(a:Oper):VI:=match a.op with|.defer _=>Vz|_=>J
def CK(f:Set)(c b:VI)(a:Code):Prop:=c=J\/(f.code a=J/\(b=J->cL a=J))
def UH(b:VS)(f:Set)(c e:VI)(d:VE Oper):Prop:=c=J\/∀a∈d.toList,iW b f.fn f.bi f.cj a.op=J/\(e=J->qu a=J)
inductive pH(b:VS)(f:Set)(c a:VI)(h:Ren):Item->Item->Prop
 |code (d:Code) (k:CK f c a d):pH b f c a h (.code d) (.code d)
 |inBlock (id:E):pH b f c a h (.inBlock id) (.inBlock id)
 |inLoop (d:Code) (k:CK f c a d):pH b f c a h (.inLoop d) (.inLoop d)
 |inScope (d:Code) (k:CK f c a d):pH b f c a h (.inScope d) (.inScope d)
 |inRegion (n:VE Oper) (i:VD E) (k:UH b f c a n):pH b f c a h (.inRegion n i) (.inRegion n i)
 |inRangeFunc {i m:E} (k:h i m):pH b f c a h (.inRangeFunc i) (.inRangeFunc m)
 |endRangeFunc {i m:E} (k:h i m):pH b f c a h (.endRangeFunc i) (.endRangeFunc m)
 |beginRound:pH b f c a h .beginRound .beginRound
def zM:Item->VI
 |.code _|.inBlock _|.inLoop _|.inScope _=>J
 |_=>Vz
def zN(e:VD Item):VI:=e.all zM
def encI:Item->Code
 |.code a=>.block 0 a
 |.inBlock id=>.exit id
 |.inLoop a=>.loop a
 |.inScope a=>.scope a
 |_=>.skip
def SK:VD Item->Code
 |[]=>.skip
 |a::b=>.seq (encI a) (SK b)
def mW(e:VD Item):Item:=.code (.cond (.const (VW (C ⟨0,0,I⟩))) (SK e) .skip)
inductive jR(b:VS)(f:Set)(c d:VI)(h:Ren):VD Item->VD Item->Prop
 |nil:jR b f c d h [] []
 |tail {e:VD Item} (q:d=Vz) (p:zN e=J):jR b f c d h [mW e] e
 |cons {i k:Item} {m n:VD Item} (o:pH b f c d h i k) (r:jR b f c d h m n):jR b f c d h (i::m) (k::n)
structure bG(b:VS)(f:Set)(c:VI)(h:Ren)(a d:VM):Prop where
 fn:a.fn=d.fn
 mF:f.fr a.fn=J
 tmps:ax f h a.tmps d.tmps
 todo:jR b f c a.roundOf.isSome h a.todo d.todo
 defers:aZ (ra f h) a.defers d.defers
 mode:jN f h a.mode d.mode
 kind:a.kind=d.kind
 kindOk:a.kind=.normal\/a.kind=.deferred
 roundOf:pI h a.roundOf d.roundOf
section
variable{c g:VI}{l:Ren}
theorem lR.mono(k:h.le l){a d:PanicEntry}(i:lR f h a d):lR f l a d:=⟨i.1.mono k,i.2⟩
theorem jN.mono(k:h.le l){d i:FrameMode}(a:jN f h d i):jN f l d i:=by
 cases a with
 |run=>exact .run
 |returning=>exact .returning
 |panicking a=>exact .panicking (a.mono λ_ _ m=>m.mono k)
theorem pI.mono(k:h.le l){d i:VL E}(a:pI h d i):pI l d i:=by
 cases a with
 |none=>exact .none
 |some a=>exact .some (k _ _ a)
theorem pH.mono(m:h.le l){i k:Item}(a:pH b f c g h i k):pH b f c g l i k:=by
 cases a with
 |code d a=>exact .code d a
 |inBlock n=>exact .inBlock n
 |inLoop d a=>exact .inLoop d a
 |inScope d a=>exact .inScope d a
 |inRegion p o a=>exact .inRegion p o a
 |inRangeFunc a=>exact .inRangeFunc (m _ _ a)
 |endRangeFunc a=>exact .endRangeFunc (m _ _ a)
 |beginRound=>exact .beginRound
theorem jR.imp{d:VI}{k m:VD Item}(a:jR b f c g h k m)(n:∀e i,pH b f c g h e i->pH b f d g l e i):jR b f d g l k m:=by
 induction a with
 |nil=>exact .nil
 |tail p o=>exact .tail p o
 |cons a _ q=>exact .cons (n _ _ a) q
theorem bG.mono(d:h.le l){k m:VM}(a:bG b f c h k m):bG b f c l k m:=
 ⟨a.fn,a.mF,a.tmps.mono d,a.todo.imp λ_ _ i=>i.mono d,a.defers.mono λ_ _ i=>i.mono d,a.mode.mono d,a.kind,a.kindOk,a.roundOf.mono d⟩
theorem bG.eval(n:Base b h){k m:VM}(o:bG b f c h k m):lf b f h k.eval m.eval:=by
 intro q a;cases q with
 |tmp p=>exact o.tmps.getD p aY
 |const v=>exact im 8 v a
 |global r=>simp only[dG,WH,Xs]at a;exact .ptr ⟨n.at a.1 (G_ a.2),A,A⟩
 |func k=>exact .func (.func k a) A rfl (by simp) (by simp)
theorem bG.finish{x y:VM}(a0:bG b f c h x y){w:Vx}(Z:an f h v w):bG b f c h (x.finish v) (y.finish w):=by
 obtain⟨fn,U,a6,a2,a4,a3,a5⟩:=x;obtain⟨N,u,H,L,S,R,T⟩:=y;obtain⟨d,g,a,O,i,k,l,m,n⟩:=a0;simp only at d g a O i k l m n;cases O with
 |nil=>exact⟨d,g,a,.nil,i,k,l,m,n⟩
 |tail Y P=>
  have W:Frame.finish ⟨N,u,H,L,S,R,T⟩ w=⟨N,u,H,L,S,R,T⟩:=by
   cases H with
   |nil=>rfl
   |cons a1 e=>cases a1<;>first|rfl|(simp[zN,zM]at P)
  rw[W];exact⟨d,g,a,.tail Y P,i,k,l,m,n⟩
 |cons X o=>
  cases X with
  |inRegion t D Q=>
   cases D with
   |nil=>exact⟨d,g,a,.cons (.inRegion t [] Q) o,i,k,l,m,n⟩
   |cons s D=>
    simp only[Frame.finish];refine⟨d,g,?_,.cons (.inRegion t D Q) o,i,k,l,m,n⟩;show ax f h (match(t[s]?).bind (·.dst)with|some q=>U.setIfInBounds q v|none=>U) (match(t[s]?).bind (·.dst)with|some q=>u.setIfInBounds q w|none=>u);cases(t[s]?).bind (·.dst)with
    |none=>exact a
    |some q=>exact a.set q Z
  |inRangeFunc z=>exact⟨d,g,a,.cons (.endRangeFunc z) o,i,k,l,m,n⟩
  |beginRound=>exact⟨d,g,a,o,i,k,l,m,n⟩
  |code p r=>exact⟨d,g,a,.cons (.code p r) o,i,k,l,m,n⟩
  |inBlock s=>exact⟨d,g,a,.cons (.inBlock s) o,i,k,l,m,n⟩
  |inLoop p r=>exact⟨d,g,a,.cons (.inLoop p r) o,i,k,l,m,n⟩
  |inScope p r=>exact⟨d,g,a,.cons (.inScope p r) o,i,k,l,m,n⟩
  |endRangeFunc z=>exact⟨d,g,a,.cons (.endRangeFunc z) o,i,k,l,m,n⟩
theorem bG.raise{n o:VM}(u:bG b f c h n o){q r:VD PanicEntry}(p:aZ (lR f h) q r):bG b f c h (n.raise q) (o.raise r):=by
 obtain⟨fn,P,R,w,H,z,N⟩:=n;obtain⟨y,Q,S,x,L,D,O⟩:=o;obtain⟨a,d,e,g,i,s,k,l,m⟩:=u;simp only at a d e g i s k l m;cases s with
 |run=>exact⟨a,d,e,g,i,.panicking p,k,l,m⟩
 |returning=>exact⟨a,d,e,g,i,.panicking p,k,l,m⟩
 |panicking t=>exact⟨a,d,e,g,i,.panicking (p.append t),k,l,m⟩
theorem ax.replicate(c:E){d:Vx}(e:an f h v d):ax f h (Array.replicate c v) (Array.replicate c d):=by
 refine⟨by simp,λi k l a b=>?_⟩;rw[Zi]at a b;split at a
 .rename_i g;rw[VV g]at b;cases a;cases b;exact e
 cases a
theorem bG.enter(G:Good b f){a:Wc}(l:f.fn a=J){d g:VE Vx}(k:ax f h d g)(e:CallKind)(q:e=.normal\/e=.deferred):
 bG b f c h (Frame.enter b a d e) (Frame.enter b a g e):=by
 obtain⟨fn,n,s,o⟩:=G.funcs a l;unfold Frame.enter;refine⟨A,G.DH a l,?_,.cons (.code _ (VC ⟨?_,λm=>by cases m⟩)) .nil,.nil,.run,A,q,.none⟩
 .show ax f h (d++Array.replicate _ F) (g++Array.replicate _ F);rw[<-k.1];exact k.append (ax.replicate _ aY)
 rw[n];rcases o with⟨r,i,p⟩|⟨i,_⟩
 .simp only[XS,i,Xw];exact p
 simp only[XS,i,VL.getD_none];rw[G.code];rfl
theorem bG.round(G:Good b f){i k:E}(r:h i k){g:Wc}(p:f.fr g=J){l m:VE Vx}(s:ax f h l m){a d:Code}(n:f.code a=J)(o:f.code d=J)
 (t:cL a=J)(u:cL d=J)(e:CallKind)(q:e=.normal\/e=.deferred):
 bG b f c h (Frame.round i g l a d e) (Frame.round k g m a d e):=
 ⟨A,p,s,.cons (.code _ (VC ⟨n,λ_=>t⟩)) (.cons .beginRound (.cons (.code _ (VC ⟨o,λ_=>u⟩)) .nil)),.nil,.run,A,q,.some r⟩
theorem pe(d:E):∀(g c:Code),cL g=J->findLabel g d=C c->cL c=J
 |.seq f h,c,b,a=>by
  simp only[cL,WH]at b;simp only[findLabel]at a;cases e:findLabel f d with
  |some i=>rw[e]at a;cases a;simp only[cL,WH];exact⟨pe d f i b.1 e,b.2⟩
  |none=>rw[e]at a;exact pe d h c b.2 a
 |.label k,c,b,a=>by
  simp only[findLabel]at a;split at a
  .cases a;rfl
  cases a
 |.skip,_,_,a|.region ..,_,_,a|.cond ..,_,_,a|.block ..,_,_,a|.loop ..,_,_,a|.rangeFunc ..,_,_,a|.exit ..,_,_,a
 |.scope ..,_,_,a|.goto ..,_,_,a|.ret,_,_,a|.refuse ..,_,_,a=>by simp[findLabel]at a
theorem DD(id:E){a:VD Item}(m:jR b f c g h e a):(exitTo id e=I/\(exitTo id a=I\/g=Vz))\/∃k l,exitTo id e=C k/\exitTo id a=C l/\jR b f c g h k l:=by
 induction m with
 |nil=>exact VA ⟨A,VA A⟩
 |tail o r=>exact VA ⟨A,VC o⟩
 |cons n p i=>
  cases n with
  |inBlock q=>
   simp only[exitTo];by_cases d:(q==id)=J
   .simp only[d,Wv];exact VC ⟨_,_,A,A,p⟩
   simp only[d];exact i
  |_=>exact i
theorem mv{fn:Wc->VI}{h:Builtin->VE VJ->VI}{cj:VI}(e:E):∀(i d:Code),codeOk b fn h cj i=J->findLabel i e=C d->codeOk b fn h cj d=J
 |.seq g k,d,c,a=>by
  simp only[codeOk,WH]at c;simp only[findLabel]at a;cases f:findLabel g e with
  |some l=>rw[f]at a;cases a;simp only[codeOk,WH];exact⟨mv e g l c.1 f,c.2⟩
  |none=>rw[f]at a;exact mv e k d c.2 a
 |.label m,d,c,a=>by
  simp only[findLabel]at a;split at a
  .cases a;rfl
  cases a
 |.skip,_,_,a|.region ..,_,_,a|.cond ..,_,_,a|.block ..,_,_,a|.loop ..,_,_,a|.rangeFunc ..,_,_,a|.exit ..,_,_,a
 |.scope ..,_,_,a|.goto ..,_,_,a|.ret,_,_,a|.refuse ..,_,_,a=>by simp[findLabel]at a
theorem DN(G:Good b f)(d:E){l:VD Item}(k:jR b f c g h e l):(gotoIn d e=I/\(gotoIn d l=I\/g=Vz))\/∃p q,gotoIn d e=C p/\gotoIn d l=C q/\jR b f c g h p q:=by
 induction k with
 |nil=>exact VA ⟨A,VA A⟩
 |tail t w=>exact VA ⟨A,VC t⟩
 |cons r u o=>
  cases r with
  |inScope i a=>
   simp only[gotoIn];cases n:findLabel i d with
   |none=>exact o
   |some m=>
    refine VC ⟨_,_,A,A,.cons (.code m ?_) (.cons (.inScope i a) u)⟩;rcases a with a|⟨a,s⟩
    .exact VA a
    rw[G.code]at a;exact VC ⟨by rw[G.code];exact mv d i m a n,λk=>pe d i m (s k) n⟩
  |_=>exact o
end
def kept(b:VD Wa):VD Wa:=b.filter λa=>match a.loc with|.mark (.extern _)=>Vz|_=>J
section
variable{b:VI}{c:Ren}
theorem seen_eq(G:Good a f){fn:Wc}(l:f.fr fn=J){g b:VD Wa}(i:aZ (lP f h) g b):seen a fn b.toArray=(kept b).toArray:=by
 have s:∀d,f.fr d=J->(a.funcs[d]?).any (·.norace)=Vz:=by
  intro d l;cases u:a.funcs[d]? with
  |none=>rfl
  |some e=>simp[G.norace d e l u]
 have v:∀(g b:VD Wa),aZ (lP f h) g b->∀acc:VE Wa,
  (b.foldl (λ(e:VI×VE Wa) c=>match c.loc with
    |.mark (.extern d)=>((a.funcs[d]?).any (·.norace),e.2)
    |_=>(e.1,if e.1&&!c.sync then e.2 else e.2.push c)) (Vz,acc)).2=acc++(kept b).toArray:=by
  intro g b i
  induction i with
  |nil=>intro acc;simp[kept]
  |@cons c t g b k w m=>
   intro acc;rw[Yo];obtain⟨q,z,y⟩:=t;obtain⟨p,wr,x⟩:=c;replace k:=k.1;have n:ed f h p q:=k;clear k;cases q with
   |mark r=>
    have o:zx f r=J:=by cases p<;>simp only[ed]at n;obtain⟨c,i⟩:=n;exact c▸i
    cases r<;>first|(cases o;done)|skip
    .simp only[s _ (G.DH _ o)];rw[m acc];simp[kept]
    simp only[S_,WC,Wy];rw[m _];simp[kept]
   |_=>simp only[S_,WC,Wy];rw[m _];simp[kept]
 have:=v g b i #[];unfold seen;simp only[VD.foldl_toArray',s fn l];rw[Yf]at this;rw[<-this];rfl
structure cO(a:VS)(f:Set)(b:VI)(h:Ren)(e g:VD VM):Prop where
 rel:aZ (bG a f b h) e g
 bot:∀d,e.getLast?=C d->d.kind=.normal/\d.roundOf=I
def tag(a:VM):CallKind×VL E:=(a.kind,a.roundOf)
theorem cO.zC{k r g m:VD VM}(p:cO a f b h k r)(s:aZ (bG a f b c) g m)(o:g.map tag=k.map tag):cO a f b c g m:=by
 refine⟨s,λl q=>?_⟩;have d:(g.map tag).getLast?=C (tag l):=by rw[VD.getLast?_map,q];rfl
 rw[o,VD.getLast?_map]at d;cases i:k.getLast? with
 |none=>rw[i]at d;cases d
 |some n=>
  rw[i]at d;have e:tag n=tag l:=by simpa using d
  have:=p.bot n i;unfold tag at e;rw[Prod.mk.injEq]at e;exact⟨e.1▸this.1,e.2▸this.2⟩
theorem mY{i k:VM}{e n:VD VM}(u:cO a f b h (i::e) (k::n))(o:VD VM)(base:VD VM):
 (tryRecover i (e++o)=I/\tryRecover k (n++base)=I)\/
 ∃l m d g,tryRecover i (e++o)=C (l,d++o)/\tryRecover k (n++base)=C (m,g++base)/\an f h l m/\aZ (bG a f b h) d g/\d.map tag=e.map tag:=by
 cases u.rel with
 |cons q a0=>
  rcases q.kindOk with c|c
  .have r:=q.kind▸c;exact VA ⟨by unfold tryRecover;rw[c],by unfold tryRecover;rw[r]⟩
  have r:k.kind=.deferred:=q.kind▸c;cases a0 with
  |nil=>have:=(u.bot i A).1;rw[c]at this;cases this
  |@cons P Q d g N Y=>
   unfold tryRecover;rw[c,r];simp only[Xe];have O:=N.mode;obtain⟨fn,b4,b6,a2,a8,a6,b2⟩:=P;obtain⟨a4,b5,b7,a3,a9,a7,b3⟩:=Q;obtain⟨v,w,x,y,z,U,D,H,L⟩:=N;simp only at v w x y z U D H L O;cases O with
   |run=>exact VA ⟨A,A⟩
   |returning=>exact VA ⟨A,A⟩
   |panicking W=>
    cases W with
    |nil=>exact VA ⟨A,A⟩
    |@cons R S old b0 X Z=>
     obtain⟨l,a1,T⟩:=R;obtain⟨m,b1,a5⟩:=S;obtain⟨p,s,t⟩:=X;simp only at p s t;subst s;subst t;cases a1
     .cases T
      .refine VC ⟨l,m,_::d,_::g,A,A,p,.cons ⟨v,w,x,y,z,.panicking (.cons ⟨p,A,A⟩ Z),D,H,L⟩ Y,?_⟩;simp[tag]
      exact VA ⟨A,A⟩
     exact VA ⟨A,A⟩
theorem th(v:Base a h)(fn:Func){k l:VE Vx}(s:ax f h k l):ae a f (St h (an f h)) h (results fn k) (results fn l):=by
 unfold results
 have one:∀e:ResultVar,ae a f (St h (an f h)) h
  (match e with|.tmp d=>pure (k.getD d F)|.cell g d=>do loadVar d (<-asAddr (k.getD g F)):VR Vx)
  (match e with|.tmp d=>pure (l.getD d F)|.cell g d=>do loadVar d (<-asAddr (l.getD g F))):=by
  intro e;cases e with
  |tmp d=>exact aq (s.getD d aY)
  |cell g d=>exact ay (uu v (s.getD g aY)) λy z q=>sR q d
 refine ay (o:=ax f h) ?_ λx t m=>?_
 .rw[ZK,ZK,<-ZT,<-ZT]
  have:∀(n:VD ResultVar)(acc o:VE Vx),ax f h acc o->ae a f (St h (ax f h)) h
   (n.foldlM (λbs e=>Functor.map bs.push (match e with|.tmp d=>pure (k.getD d F)|.cell g d=>do loadVar d (<-asAddr (k.getD g F)):VR Vx)) acc)
   (n.foldlM (λbs e=>Functor.map bs.push (match e with|.tmp d=>pure (l.getD d F)|.cell g d=>do loadVar d (<-asAddr (l.getD g F)):VR Vx)) o):=by
   intro n
   induction n with
   |nil=>intro acc o i;exact aq i
   |cons e n w=>intro acc o i;simp only[ZE];refine ay (o:=ax f h) ?_ λy z q=>w _ _ q;exact ay (one e) λD H m=>aq (i.push m)
  exact this _ _ _ ax.nil
 have r:=m.1;by_cases i:x.size=1
 .have p:t.size=1:=by rw[<-r];exact i
  simp only[i,p,X'];exact aq (m.2 0 _ _ (Wj (by omega)) (Wj (by omega)))
 have p:¬t.size=1:=by rw[<-r];exact i
 simp only[i,p,dif_neg,Zp];exact aq (gE m)
end
variable{c:VS}{a:K}{q:K}{n:Vx}{l:VM}
def rg(g:VM)(a:VD VM):VO:={frame:=g,callers:=a,status:=.running,dying:=I}
def Qq(k:K->GStep)(a:K)(h:VM)(f:VD VM)(d:K):Prop:=
 a.drawn<=d.drawn/\∃i:E->Question->E,∀c:E->Question->E,(∀b e,a.drawn<=b->b<d.drawn->c b e=i b e)->
  ∃g,k {a with tape:=c}=.go (rg h f) {d with tape:=c} g
def Kd(i:K->GStep)(a:K):Prop:=
 ∃(f:E->Question->E)(g:E),∀d:E->Question->E,(∀b c,a.drawn<=b->b<g->d b c=f b c)->
  ∃h k e,i {a with tape:=d}=.ended h k e
def nJ(c:VS)(f:Set)(d:VI)(h:Ren)(e base:VD VM)(a q:K)(n:K->GStep)(r:GStep):Prop:=
 Kd n a\/∃p k l b g o i new m,Qq n a k (b++e) o/\
  r=.go (rg l (g++base)) i (kept m).toArray/\bD f h p a o q i new m/\cO c f d p (k::b) (l::g)
def Qs(c:VS)(f:Set)(d:VI)(h:Ren)(main:VI)(e base:VD VM)(g m:VM)(i k:VD VM)(a q:K):Prop:=
 nJ c f d h e base a q (stepG c J (rg g (i++e))) (stepG c main (rg m (k++base)) q)
def Ig{a:Type}:Result a->Prop
 |.ok .. =>True
 |.halt (.panic _) _=>True
 |.halt .goexit _=>True
 |_=>False
section
variable{d:VI}{main:VI}{e base:VD VM}{g m:VM}{i k:VD VM}
theorem cN{s:K->GStep}{t:GStep}(x:aU f h a q){p r:VM}{b o:VD VM}(v:∀a,s a=.go (rg p (b++e)) a)
 (w:t=.go (rg r (o++base)) q)(u:cO c f d h (p::b) (r::o)):nJ c f d h e base a q s t:=
 VC ⟨h,p,r,b,o,a,q,[],[],⟨Wl _,a.tape,λy _=>⟨_,v _⟩⟩,w,bD.refl x,u⟩
theorem mN(v:aU f h a q){p r:VM}{b o:VD VM}(t:∀a,stepG c J (rg g (i++e)) a=.go (rg p (b++e)) a)
 (u:∀a,stepG c main (rg m (k++base)) a=.go (rg r (o++base)) a)(s:cO c f d h (p::b) (r::o)):Qs c f d h main e base g m i k a q:=
 cN v t (u q) s
theorem eD{g:K->GStep}{l:GStep}(k:∀a,∃b i,g a=.ended b i):nJ c f d h e base a q g l:=
 VA ⟨a.tape,0,λm _=>by obtain⟨b,i,n⟩:=k {a with tape:=m};simp_all⟩
theorem Bh(a l:VD Wa):kept (a++l)=kept a++kept l:=by simp[kept]
def PQ(f:Set){a i:Type}(b:Ren->a->i->Prop):Result a->Prop
 |.ok c _=>∃h d,b h c d
 |.halt e _=>∃h g,lg f h e g
def JZ(f:Set){i a:Type}(b:Ren->i->a->Prop):Result a->Prop
 |.ok d _=>∃h c,b h c d
 |.halt g _=>∃h e,lg f h e g
theorem JZ.Ig{k d:Type}{e:Ren->k->d->Prop}{c:Result d}(b:JZ f e c):Sim.Ig c:=by
 cases c with
 |ok l a=>trivial
 |halt g a=>obtain⟨h,b,i⟩:=b;cases b<;>cases g<;>first|exact i.elim|trivial
theorem vo(G:Good c f){fn:Wc}(b3:f.fr fn=J){b0 b1:Type}{O:Ren->b0->b1->Prop}{a0:VR b0}{a1:VR b1}(y:ae c f O h a0 a1)(d4:aU f h a q){X:Result b0->GStep}{a2:Result b1->GStep}
 {U:K->GStep}{W:GStep}
 (left:∀a,PQ f O (a0.runT c a #[]).1->∃x,U a=GStep.after x (X (a0.runT c a #[]).1))
 (right:JZ f O (a1.runT c q #[]).1->W=GStep.after (seen c fn (a1.runT c q #[]).2) (a2 (a1.runT c q #[]).1))
 (ok:∀o P Q b r new u,bD f h o a b q r new u->O o P Q->nJ c f d o e base b r (λa=>X (.ok P a)) (a2 (.ok Q r)))
 (halt:∀o y T b r,h.le o->lg f o y T->aU f o b r->nJ c f d o e base b r (λa=>X (.halt y a)) (a2 (.halt T r)))
 (lost:∀a y b S,a0.runT c a #[]=(.halt y b,S)->Halt.lost y=J->∃a8 a9 S,U a=.ended a8 a9 S):nJ c f d h e base a q U W:=by
 obtain⟨a5,N,⟨hd,Z⟩,b6⟩:=sound G.tW y a q #[] #[] d4
 have e1:(∃H b x,N=(.halt H b,x)/\Halt.lost H=J)->nJ c f d h e base a q U W:=by rintro⟨H,b,x,rfl,b5⟩;exact VA ⟨a5,b.drawn,λp L=>lost _ _ _ _ (Z p L) b5⟩
 have b2:(∀p,PQ f O (iK p N).1)->∀(b:K)(r:K)(o:Ren)(a3:K->GStep)(a4:GStep)(new u:VD Wa),dr N=b.drawn->a.drawn<=b.drawn->(∀p,X (iK p N).1=a3 {b with tape:=p})->W=GStep.after (kept u).toArray a4->
  bD f h o a b q r new u->nJ c f d o e base b r a3 a4->nJ c f d h e base a q U W:=by
  intro tB b r o a3 a4 new u e2 d0 hF w v d2;rcases d2 with⟨a6,d5,c8⟩|⟨e0,c6,c7,b7,b8,a9,b9,vq,d6,⟨d1,a6,c9⟩,e3,d8,d3⟩
  .refine VA ⟨λs t=>if s<b.drawn then a5 s t else a6 s t,max (dr N) d5,λp L=>?_⟩;have b4:=tB p;obtain⟨x,z⟩:=left {a with tape:=p} (by grind)
   rw[Z p (λs t D Y=>by grind),hF]at z
   obtain⟨a8,d9,S,a7⟩:=c8 p (λs t D Y=>by grind)
   rw[a7]at z;exact⟨a8,d9,_,z⟩
  refine VC ⟨e0,c6,c7,b7,b8,a9,b9,new++vq,u++d6,⟨Wu d0 d1,λs t=>if s<b.drawn then a5 s t else a6 s t,λp L=>?_⟩,?_,v.trans d8,d3⟩
  .have b4:=tB p
   obtain⟨x,z⟩:=left {a with tape:=p} (by rw[Z p (λs t D Y=>by
    have:=L s t D (by omega)
    dsimp only at this;rw[VV (by omega)]at this;exact this)];exact b4)
   rw[Z p (λs t D Y=>by
    have:=L s t D (by omega)
    dsimp only at this;rw[VV (by omega)]at this;exact this),hF]at z
   obtain⟨S,a7⟩:=c9 p (λs t D Y=>by
    have:=L s t (by omega) (by omega)
    dsimp only at this;rw[VK (by omega)]at this;exact this)
   rw[a7]at z;exact⟨_,z⟩
  simp_all [Bh,GStep.after]
 obtain⟨d7,x⟩:=N;cases d7 with
 |ok P b=>obtain⟨o,Q,r,new,u,R,c0,w,v⟩:=b6;refine b2 (λp=>⟨o,Q,w⟩) b r o _ _ new u A hd (λp=>rfl) ?_ v (ok o P Q b r new u v w);rw[right (by rw[R];exact⟨o,P,w⟩),R];dsimp only;rw[Yf,seen_eq G b3 v.la]
 |halt H b=>
  rcases b6 with b5|⟨o,T,r,new,u,R,c0,w,v⟩
  .simp_all
  refine b2 (λp=>⟨o,T,w⟩) b r o _ _ new u A hd (λp=>rfl) ?_ v (halt o H T b r v.le w v.rel);rw[right (by rw[R];exact⟨o,H,w⟩),R];dsimp only;rw[Yf,seen_eq G b3 v.la]
theorem xU(G:Good c f){fn:Wc}(W:f.fr fn=J){y z:Type}{H:Ren->y->z->Prop}{Q:VR y}{u:VR z}(b:ae c f H h Q u)(Z:aU f h a q){s:Result y->GStep}{v:Result z->GStep}
 {R:K->GStep}{S:GStep}
 (left:∀a,∃D,R a=GStep.after D (s (Q.runT c a #[]).1))
 (right:Ig (u.runT c q #[]).1->S=GStep.after (seen c fn (u.runT c q #[]).2) (v (u.runT c q #[]).1))
 (ok:∀o L N r p new a0,bD f h o a r q p new a0->H o L N->nJ c f d o e base r p (λa=>s (.ok L a)) (v (.ok N p)))
 (halt:∀o b P r p,h.le o->lg f o b P->aU f o r p->nJ c f d o e base r p (λa=>s (.halt b a)) (v (.halt P p)))
 (lost:∀b a,Halt.lost b=J->∃w x O,s (.halt b a)=.ended w x O):nJ c f d h e base a q R S:=
 vo G W b Z (λa _=>left a) (λb=>right b.Ig) ok halt λa X r O T Y=>by obtain⟨D,t⟩:=left a;obtain⟨w,x,a1,U⟩:=lost X r Y;rw[T]at t;dsimp only at t;rw[U]at t;exact⟨w,x,_,t⟩
theorem nD(G:Good c f){fn:Wc}(a0:f.fr fn=J){O P:Type}{Q:Ren->O->P->Prop}{R:VR O}{D:VR P}(b:ae c f Q h R D)(a4:aU f h a q){u:Result O->GStep}{H:Result P->GStep}
 {S:K->GStep}{T:GStep}
 (left:∀a,∃W,S a=GStep.after W (u (R.runT c a #[]).1))
 (right:Ig (D.runT c q #[]).1->T=GStep.after (seen c fn (D.runT c q #[]).2) (H (D.runT c q #[]).1))
 (ok:∀o x y,h.le o->Q o x y->(∃s t p r,(∀a,u (.ok x a)=.go (rg s (p++e)) a)/\(∀a,H (.ok y a)=.go (rg t (r++base)) a)/\cO c f d o (s::p) (t::r))\/∀a,∃v w,u (.ok x a)=.ended v w)
 (halt:∀o b z,h.le o->lg f o b z->(∃s t p r,(∀a,u (.halt b a)=.go (rg s (p++e)) a)/\(∀a,H (.halt z a)=.go (rg t (r++base)) a)/\cO c f d o (s::p) (t::r))\/∀a,∃v w,u (.halt b a)=.ended v w)
 (lost:∀b a,Halt.lost b=J->∃v w,u (.halt b a)=.ended v w):nJ c f d h e base a q S T:=by
 refine xU G a0 b a4 left right ?_ ?_ (λb a a1=>by obtain⟨v,w,a7⟩:=lost b a a1;simp_all)
 .intro o x y a6 X new a8 U N;have a5:=U.rel;rcases ok o x y U.le N with⟨s,t,p,r,Y,Z,a3⟩|L
  .grind [cN]
  exact eD L
 intro o b z a6 X a2 N a5;rcases halt o b z a2 N with⟨s,t,p,r,Y,Z,a3⟩|L
 .grind [cN]
 exact eD L
theorem AH:∀{b c:VD PanicEntry},aZ (lR f h) b c->aZ (lR f h) (b.dropWhile (!·.goexit)) (c.dropWhile (!·.goexit))
 |_,_,.nil=>.nil
 |_,_,.cons (a:=e) (a':=g) a d=>by
  simp only[VD.dropWhile_cons];rw[<-a.2.2];split
  .exact AH d
  exact .cons a d
theorem fI(a:VM)(n:Vx):tag (a.finish n)=tag a:=by grind [Frame.finish,tag]
theorem jg(a:VM)(n:VD PanicEntry):tag (a.raise n)=tag a:=by grind [Frame.raise,tag]
theorem zP{D H:VM}(T:bG c f d h g m)(a6:bG c f d h D H){P:Vx}(b4:an f h n P):
 ∃l L,(∀o b a,doReturn c o g (D::b) I n a=.go (rg l b) a)/\(∀o b a,doReturn c o m (H::b) I P a=.go (rg L b) a)/\bG c f d h l L/\tag l=tag D:=by
 rcases T.kindOk with p|p
 .have z:m.kind=.normal:=T.kind▸p;exact⟨D.finish n,H.finish P,λo b a=>by simp_all [doReturn,rg],λo b a=>by simp_all [doReturn,rg],a6.finish b4,fI _ _⟩
 have z:m.kind=.deferred:=T.kind▸p;obtain⟨fn,X,Z,Q,b7,N,O⟩:=D;obtain⟨S,Y,a0,R,b8,U,W⟩:=H;obtain⟨r,s,t,u,v,a5,w,x,y⟩:=a6;simp only at r s t u v a5 w x y
 have same:∃l L,(∀o b a,doReturn c o g (⟨fn,X,Z,Q,b7,N,O⟩::b) I n a=.go (rg l b) a)/\(∀o b a,doReturn c o m (⟨S,Y,a0,R,b8,U,W⟩::b) I P a=.go (rg L b) a)/\bG c f d h l L/\tag l=(N,O):=by
  cases a5 with
  |run=>exact⟨_,_,λo b a=>by simp only[doReturn,p];rfl,λo b a=>by simp only[doReturn,z];rfl,⟨r,s,t,u,v,.run,w,x,y⟩,A⟩
  |returning=>exact⟨_,_,λo b a=>by simp only[doReturn,p];rfl,λo b a=>by simp only[doReturn,z];rfl,⟨r,s,t,u,v,.returning,w,x,y⟩,A⟩
  |panicking b2=>
   cases b2 with
   |nil=>exact⟨_,_,λo b a=>by simp only[doReturn,p];rfl,λo b a=>by simp only[doReturn,z];rfl,⟨r,s,t,u,v,.panicking .nil,w,x,y⟩,A⟩
   |@cons b0 b1 old b9 b3 a7=>
    obtain⟨c6,c0,a4⟩:=b0;obtain⟨c7,d5,d4⟩:=b1;obtain⟨a1,a2,a3⟩:=b3;simp only at a1 a2 a3;subst a2;subst a3;cases c0 with
    |false=>exact⟨_,_,λo b a=>by simp only[doReturn,p];rfl,λo b a=>by simp only[doReturn,z];rfl,⟨r,s,t,u,v,.panicking (.cons (a:=⟨c6,Vz,a4⟩) (a':=⟨c7,Vz,a4⟩) ⟨a1,A,A⟩ a7),w,x,y⟩,A⟩
    |true=>
     have hd:=AH a7;generalize a8:old.dropWhile (!·.goexit)=d2 at hd;generalize a9:b9.dropWhile (!·.goexit)=d3 at hd;cases hd with
     |nil=>exact⟨⟨fn,X,Z,Q,.returning,N,O⟩,⟨S,Y,a0,R,.returning,U,W⟩,λo b a=>by simp only[doReturn,p,a8];rfl,λo b a=>by simp only[doReturn,z,a9];rfl,⟨r,s,t,u,v,.returning,w,x,y⟩,A⟩
     |@cons c8 c9 d0 d1 b5 b6=>exact⟨⟨fn,X,Z,Q,.panicking (c8::d0),N,O⟩,⟨S,Y,a0,R,.panicking (c9::d1),U,W⟩,λo b a=>by simp only[doReturn,p,a8];rfl,λo b a=>by simp only[doReturn,z,a9];rfl,⟨r,s,t,u,v,.panicking (.cons b5 b6),w,x,y⟩,A⟩
 exact same
def eN(c:VS)(g:VM)(b:VD VM):Result Next->GStep
 |.ok e a=>stepG.apply c J g b I (.pure e) a
 |.halt d a=>stepG.apply c J g b I (.halt d) a
theorem aN(a:GStep):GStep.after #[] a=a:=by cases a<;>simp[GStep.after]
theorem aX(fn:Wc):seen c fn #[]=#[]:=by simp[seen]
theorem fL(g:VM)(t:VD VM)(o:VR Next)(a:K):∃s,stepG.apply c J g t I o a=GStep.after s (eN c g t (o.runT c a #[]).1)/\
 (g.kind≠.early->Ig (o.runT c a #[]).1->s=seen c g.fn (o.runT c a #[]).2):=by
 unfold stepG.apply;simp only[Wv];generalize o.runT c a #[]=x;obtain⟨u,r⟩:=x;cases u with
 |ok z w=>
  refine⟨seen c g.fn (if(g.kind==.early)=J then #[]else r),?_,λp _=>?_⟩
  .unfold eN stepG.apply;simp only[VR.runT,Wv,Xy,aX,aN]
  simp_all
 |halt b w=>
  cases b with
  |blocked=>exact⟨#[],by unfold eN stepG.apply;simp[aN],λ_ b=>b.elim⟩
  |waiting=>exact⟨#[],by unfold eN stepG.apply;simp[aN],λ_ b=>b.elim⟩
  |unsupported v=>
   cases v with
   |initOrder y=>exact⟨#[],by unfold eN stepG.apply;simp[aN],λ_ b=>b.elim⟩
   |_=>
    exact⟨seen c g.fn (if(g.kind==.early)=J then #[]else r),by unfold eN stepG.apply;simp only[VR.runT,Wv,Xy,aX,aN],λp _=>by
     have:(g.kind==CallKind.early)=Vz:=by simpa using p
     simp[this]⟩
  |_=>
   exact⟨seen c g.fn (if(g.kind==.early)=J then #[]else r),by unfold eN stepG.apply;simp only[VR.runT,Wv,Xy,aX,aN],λp _=>by
    have:(g.kind==CallKind.early)=Vz:=by simpa using p
    simp[this]⟩
theorem DY{h:Ren}{a b:VM}(e:bG c f d h a b):(match a.todo with|.call _ J _ _::_=>CallKind.wrapped|_=>.normal)=.normal/\(match b.todo with|.call _ J _ _::_=>CallKind.wrapped|_=>.normal)=.normal:=by
 have:=e.todo;generalize a.todo=l at this;generalize b.todo=m at this;cases this with
 |nil=>simp
 |tail k i=>exact⟨A,by
   grind [zN,zM]⟩
 |cons g _=>cases g<;>exact⟨A,A⟩
theorem cO.top{b:Ren}{k l:VD VM}{g n:VM}(i:cO c f d h (g::k) (n::l))(p:h.le b){a e:VM}(o:bG c f d b a e)(m:tag a=tag g):cO c f d b (a::k) (e::l):=by
 cases i.rel with
 |cons _ q=>exact i.zC (.cons o (q.mono λ_ _ r=>r.mono p)) (by simp[m])
theorem cO.push{b:Ren}{t u:VD VM}{s x:VM}(y:cO c f d h (s::t) (x::u))(D:h.le b){o p r:VM}(z:bG c f d b o p)(w:tag o=tag s)(H:bG c f d b l r):cO c f d b (l::o::t) (r::p::u):=by have v:=y.top D z w;exact⟨.cons H v.rel,λL N=>v.bot L (by simp_all)⟩
theorem ru(G:Good c f)(b2:aU f h a q)(t:cO c f d h (g::i) (m::k)){o b:VM}(w:bG c f d h o b)(u:tag o=tag g)(c9:b.fn=m.fn)
 {R S:VR Next}(s:ae c f (Nr f) h R S){a0:K->GStep}{a1:GStep}
 (left:∀a,a0 a=stepG.apply c J o (i++e) I R a)
 (right:a1=stepG.apply c J b (k++base) I S q):nJ c f d h e base a q a0 a1:=by
 have X:bG c f d h g m:=by cases t.rel with|cons s _=>exact s
 have d0:b.kind≠.early:=by rw[<-w.kind];rcases w.kindOk with s|s<;>rw[s]<;>simp
 have a9:f.fr m.fn=J:=X.fn▸X.mF;refine nD G a9 s b2 (u:=eN c o (i++e)) (H:=eN c b (k++base)) (λa=>?_) (λc8=>?_) ?_ ?_ ?_
 .obtain⟨a2,a6,_⟩:=fL (c:=c) o (i++e) R a
  grind
 .obtain⟨a2,a6,c6⟩:=fL (c:=c) b (k++base) S q;simp_all
 .intro z d3 d4 r b0;left;have p:=w.mono r;obtain⟨d1,d2⟩:=DY w;cases b0 with
  |value Q=>
   refine⟨o.finish _,b.finish _,i,k,λa=>?_,λa=>?_,t.top r (p.finish Q) (by rw[fI,u])⟩
   .simp only[eN,stepG.apply,VR.runT,Wv,Xy,aX,aN,rg]
   simp only[eN,stepG.apply,VR.runT,Wv,Xy,aX,aN,rg]
  |skip=>
   refine⟨o.finish F,b.finish F,i,k,λa=>?_,λa=>?_,t.top r (p.finish aY) (by rw[fI,u])⟩
   .simp only[eN,stepG.apply,VR.runT,Wv,Xy,aX,aN,rg]
   simp only[eN,stepG.apply,VR.runT,Wv,Xy,aX,aN,rg]
  |enter x P N=>
   refine⟨Frame.enter c x _ .normal,Frame.enter c x _ .normal,o::i,b::k,λa=>?_,λa=>?_,t.push r p u (bG.enter G P N .normal (VA A))⟩
   .simp only[eN,stepG.apply,VR.runT,Wv,Xy,aX,aN,rg,Xe]
    grind
   simp only[eN,stepG.apply,VR.runT,Wv,Xy,aX,aN,rg,Xe]
   grind
  |round y x P b1 T l N a8 b4 b5=>
   refine⟨Frame.round _ x _ T l .normal,Frame.round _ x _ T l .normal,o::i,b::k,λa=>?_,λa=>?_,t.push r p u (bG.round G y P b1 N a8 b4 b5 .normal (VA A))⟩
   .simp only[eN,stepG.apply,VR.runT,Wv,Xy,aX,aN,rg,Xe]
   simp only[eN,stepG.apply,VR.runT,Wv,Xy,aX,aN,rg,Xe]
  |@defer U W hd=>
   have b3:bG c f d z {o with defers:=U::o.defers} {b with defers:=W::b.defers}:=⟨p.fn,p.mF,p.tmps,p.todo,.cons hd p.defers,p.mode,p.kind,p.kindOk,p.roundOf⟩;refine⟨({o with defers:=U::o.defers}:VM).finish F,({b with defers:=W::b.defers}:VM).finish F,i,k,λa=>?_,λa=>?_,t.top r (b3.finish aY) (by rw[fI,<-u];rfl)⟩
   .simp only[eN,stepG.apply,VR.runT,Wv,Xy,aX,aN,rg]
   simp only[eN,stepG.apply,VR.runT,Wv,Xy,aX,aN,rg]
  |recover=>
   have Z:=t.top r p u;rcases mY Z e base with⟨H,L⟩|⟨n,b8,a3,a4,H,L,Q,a7,c7⟩
   .refine⟨o.finish .nilIface,b.finish .nilIface,i,k,λa=>?_,λa=>?_,t.top r (p.finish .nilIface) (by rw[fI,u])⟩
    .cases v:o.roundOf<;>simp only[eN,stepG.apply,VR.runT,Wv,Xy,aX,aN,rg,v,G.Tn,H]
    cases v:b.roundOf<;>simp only[eN,stepG.apply,VR.runT,Wv,Xy,aX,aN,rg,v,G.Tn,L]
   refine⟨o.finish n,b.finish b8,a3,a4,λa=>?_,λa=>?_,Z.zC (.cons (p.finish Q) a7) (by grind [fI])⟩
   .cases v:o.roundOf<;>simp only[eN,stepG.apply,VR.runT,Wv,Xy,aX,aN,rg,v,G.Tn,H]
   cases v:b.roundOf<;>simp only[eN,stepG.apply,VR.runT,Wv,Xy,aX,aN,rg,v,G.Tn,L]
 .intro z s a5 r Y;left;have p:=w.mono r;cases s<;>cases a5<;>first|exact Y.elim|skip
  .have O:aZ (lR f z) [{v:=_,recovered:=Vz}] [{v:=_,recovered:=Vz}]:=.cons ⟨Y,A,A⟩ .nil;refine⟨o.raise _,b.raise _,i,k,λa=>?_,λa=>?_,t.top r (p.raise O) (by rw[jg,u])⟩
   .simp only[eN,stepG.apply,VR.runT,Wv,Xy,aX,aN,rg]
   simp only[eN,stepG.apply,VR.runT,Wv,Xy,aX,aN,rg]
  have O:aZ (lR f z) [goexitEntry] [goexitEntry]:=.cons ⟨aY,A,A⟩ .nil;refine⟨o.raise _,b.raise _,i,k,λa=>?_,λa=>?_,t.top r (p.raise O) (by rw[jg,u])⟩
  .simp only[eN,stepG.apply,VR.runT,Wv,Xy,aX,aN,rg]
  simp only[eN,stepG.apply,VR.runT,Wv,Xy,aX,aN,rg]
 intro s a y;cases s<;>first|(cases y;done)|skip
 .rename_i b7;cases b7<;>first|(cases y;done)|exact⟨_,_,by simp only[eN,stepG.apply,VR.runT,Wv,Xy,aX,aN];rfl⟩
 exact⟨_,_,by simp only[eN,stepG.apply,VR.runT,Wv,Xy,aX,aN];rfl⟩
end
variable{U:K}{m:VD VM}{n:VD Item}
section
variable{e:VI}
theorem jY{a c:E}(d:h a c):ae b f (St h (yw f h)) h (Instr.getLoop a) (Instr.getLoop c):=by unfold Instr.getLoop;refine ay (bJ d) λg i e=>?_;cases e<;>first|exact ai|grind [aq]
def Qm(f:Set)(h:Ren):Ren->E×VD Deferred->E×VD Deferred->Prop:=λa b c=>h.le a/\a b.1 c.1/\aZ (ra f a) b.2 c.2
theorem wD(fn:Wc)(R:f.fr fn=J){x y:VE Vx}(W:ax f h x y)(t:VE Tmp){k o:Code}(P:f.code k=J)(Q:f.code o=J)(a2:cL k=J)(a3:cL o=J)
 {D H:VL E}(T:pI h D H):ae b f (Qm f h) h (Instr.enterLoop fn x t k o D) (Instr.enterLoop fn y t k o H):=by
 unfold Instr.enterLoop
 have mk:∀(p:Ren)(u v:E),h.le p->p u v->gK f p (.loop {state:=.ready,pending:=I,fn,tmps:=x,params:=t,assign:=k,body:=o,defers:=u}) (.loop {state:=.ready,pending:=I,fn,tmps:=y,params:=t,assign:=k,body:=o,defers:=v}):=
  λp u v r hd=>.loop ⟨A,A,A,W.mono r,A,A,A,hd,P,Q,by simp,R,a2,a3⟩
 cases T with
 |none=>refine ae.new (.deferred .nil) λa0 a1 p r z=>?_;exact .new (mk p a0 a1 r z) λY Z a8 s w=>.pure ⟨Ren.le_trans r s,w,.cons ⟨.collected (s _ _ z),ax.nil⟩ .nil⟩
 |some S=>dsimp only;refine ay (jY S) λa9 b0 X=>?_;exact .new (mk h _ _ (Ren.le_refl _) X.2.2.2.2.2.2.2.1) λY Z a8 s w=>.pure ⟨s,w,.nil⟩
theorem uA(o:Base b h){d e:E}(a:h d e):ae b f (St h λ_ _=>True) h (Instr.beginRound d) (Instr.beginRound e):=by
 unfold Instr.beginRound;refine ay (jY a) λl p c=>?_;refine ay (o:=λ_ _=>True) (.setObj a (.loop ?_) (VC A) (.pure ⟨A,trivial⟩)) λ_ _ _=>?_
 .obtain⟨n,g,i,k⟩:=c;exact⟨A,g,i,k⟩
 rw[<-c.1];cases l.state with
 |ready=>exact aq trivial
 |done=>simp_all [bz]
 |busy=>simp_all [bz]
 |exhausted=>simp_all [bz]
theorem yW{c e:E}(a:h c e)(j:VL Code)(r:∀d,j=C d->f.code d=J/\cL d=J):ae b f (St h (an f h)) h (Instr.endRound c j) (Instr.endRound e j):=by unfold Instr.endRound;refine ay (jY a) λx y s=>?_;refine ay (o:=λ_ _=>True) (.setObj a (.loop ?_) (VC A) (.pure ⟨A,trivial⟩)) λ_ _ _=>aq (.bool _);obtain⟨u,w,k,l,m,n,o,p,q,g,v,i⟩:=s;exact⟨A,A,k,l,m,n,o,p,q,g,r,i⟩
theorem AI(t:Base b h){e g:E}(c:h e g):ae b f (St h λj o=>j=o/\∀d,j=C d->f.code d=J/\cL d=J) h (Instr.endLoop e) (Instr.endLoop g):=by
 unfold Instr.endLoop;refine ay (jY c) λp q a=>?_;have n:=a.1;have i:(q.state==LoopState.busy)=(p.state==LoopState.busy):=by rw[n]
 dsimp only;rw[i];split
 .simp_all [jB]
 refine ay (o:=λ_ _=>True) (.setObj c (.loop ?_) (VC A) (.pure ⟨A,trivial⟩)) λ_ _ _=>aq ⟨a.2.1,a.2.2.2.2.2.2.2.2.2.2.1⟩;obtain⟨s,k,l,m⟩:=a;exact⟨A,k,l,m⟩
theorem sc{c d:E}(a:h c d):ae b f (St h (aZ (ra f h))) h (Instr.takeDeferred c) (Instr.takeDeferred d):=by
 unfold Instr.takeDeferred;refine ay (bJ a) λi k e=>?_;cases e<;>first|exact ai|skip
 exact ay (o:=λ_ _=>True) (.setObj a .lx (VC A) (.pure ⟨A,trivial⟩)) λ_ _ _=>aq ‹_›
end
def Ao(b:VS)(f:Set)(c:VM):Prop:=
 match c.todo with
 |.code (.cond l _ _)::_=>dG b f.fn l=J
 |.code (.rangeFunc g k d e)::_=>f.code (.rangeFunc g k d e)=J
 |VP i (h::_)::_=>∀a,i[h]?=C a->iW b f.fn f.bi f.cj a.op=J/\(c.roundOf.isSome=J->qu a=J)
 |_=>True
section
variable{e:VI}{main:VI}{d base:VD VM}{c g:VM}{i l:VD VM}
theorem Base.jK{w:Ren}{H:K}{new D:VD Wa}(k:Base b h)(u:aU f h a q)(v:bD f h w a H q U new D):Base b w:=by
 refine⟨λx s t=>v.le _ _ (k.1 x s t),λo p z=>?_⟩;rcases v.fresh o p z with y|⟨s,t⟩
 .exact k.2 o p y
 have L:=u.left k.types;have N:=u.right k.types;omega
theorem aU.QZ(g:aU f h a q):pE h:=λb c d e=>g.inj b c d e
theorem be{d:VI}{c:VM}(e:c.mode=.run):stepG b d (rg c m) a=stepG.exec b d J c m I a:=by simp_all [stepG,rg]
theorem hY{d:VI}{c:VM}(e:c.mode≠.run):stepG b d (rg c m) a=unwind b d c m I a:=by simp[stepG,rg]
theorem cO.head(a:cO b f e h (c::i) (g::l)):bG b f e h c g:=by cases a.rel with|cons a _=>exact a
theorem cO.tail(a:cO b f e h (c::i) (g::l)):aZ (bG b f e h) i l:=by cases a.rel with|cons _ a=>exact a
theorem bG.wj{c d:VM}(a:bG b f e h c d){g:VD Item}(i:jR b f e c.roundOf.isSome h n g):bG b f e h {c with todo:=n} {d with todo:=g}:=
 ⟨a.fn,a.mF,a.tmps,i,a.defers,a.mode,a.kind,a.kindOk,a.roundOf⟩
theorem gy(y:aU f h a q)(k:cO b f e h (c::i) (g::l))(p:c.mode=.run){m:VD Item}(u:jR b f e c.roundOf.isSome h n m)
 (v:∀a,stepG.exec b J J c (i++d) I a=.go {frame:={c with todo:=n},callers:=i++d,status:=.running,dying:=I} a)
 (x:∀a,stepG.exec b main J g (l++base) I a=.go {frame:={g with todo:=m},callers:=l++base,status:=.running,dying:=I} a):Qs b f e h main d base c g i l a q:=by
 have w:g.mode=.run:=by have:=k.head.mode;rw[p]at this;cases t:g.mode<;>rw[t]at this<;>first|rfl|cases this
 refine mN y (p:={c with todo:=n}) (r:={g with todo:=m}) (λa=>?_) (λa=>?_) (k.top (Ren.le_refl _) (k.head.wj u) A)
 .rw[be p];exact v a
 rw[be w];exact x a
def Td:VL Code->VI
 |none=>J
 |some .ret=>J
 |_=>Vz
def oO(b:VS)(g:VI)(c:VM)(m:VD VM)(d:VL Code)(a:K):GStep:=
 match c.roundOf with
 |none=>if Td d=J then .go (rg {c with mode:=.returning} m) a else .ended (.stuck "exit, goto: no such block or label" (c.pos b)) a
 |some f=>
  let (h,e):=(Instr.endRound f d).runT b a #[]
  GStep.after (seen b c.fn e)<|match h with
  |.ok i a=>doReturn b g c m I i a
  |.halt _ a=>.ended (.stuck "range over a function: no such loop" (c.pos b)) a
theorem nB(G:Good b f)(b2:Base b h)(H:aU f h a q)(m:cO b f e h (c::i) (g::l))(o:c.mode=.run)(j:VL Code)(W:c.roundOf.isSome=J->∀d,j=C d->f.code d=J/\cL d=J)
 (u:∀a,stepG.exec b J J c (i++d) I a=oO b J c (i++d) j a)
 (a1:∀a,stepG.exec b main J g (l++base) I a=oO b main g (l++base) j a):Qs b f e h main d base c g i l a q:=by
 have k:=m.head;have Z:g.mode=.run:=by have:=k.mode;rw[o]at this;cases n:g.mode<;>rw[n]at this<;>first|rfl|cases this
 have w:=k.roundOf;generalize p:c.roundOf=b6 at w;generalize a0:g.roundOf=b7 at w;cases w with
 |none=>
  by_cases D:Td j=J
  .refine mN H (p:={c with mode:=.returning}) (r:={g with mode:=.returning}) (λa=>?_) (λa=>?_) (m.top (Ren.le_refl _) ⟨k.fn,k.mF,k.tmps,k.todo,k.defers,.returning,k.kind,k.kindOk,k.roundOf⟩ A)
   .rw[be o,u];unfold oO;rw[p];simp only[D,Wv]
   simp_all [be,oO]
  refine eD λa=>⟨_,_,by rw[be o,u];unfold oO;rw[p];simp only[D];rfl⟩
 |@some a5 b5 Y=>
  have b4:i≠[]:=by intro n;subst n;have:=(m.bot c A).2;simp_all
  cases m.tail with
  |nil=>simp_all
  |@cons x y s t z U=>
   refine nD G (fn:=g.fn) (k.fn▸k.mF) (yW Y j (W (by rw[p];rfl))) H
    (u:=λv=>match v with|.ok r a=>doReturn b J c (x::s++d) I r a|.halt _ a=>.ended (.stuck "range over a function: no such loop" (c.pos b)) a)
    (H:=λv=>match v with|.ok r a=>doReturn b main g (y::t++base) I r a|.halt _ a=>.ended (.stuck "range over a function: no such loop" (g.pos b)) a) (λa=>⟨seen b c.fn ((Instr.endRound a5 j).runT b a #[]).2,?_⟩) (λ_=>?_) ?_ ?_ ?_
   .rw[be o,u];unfold oO;rw[p]
   .rw[be Z,a1];unfold oO;rw[a0]
   .rintro L r b8 X⟨rfl,a3⟩;left;obtain⟨N,O,Q,R,S,T⟩:=zP (c:=b) k z a3;refine⟨N,O,s,t,λa=>Q J _ a,λa=>R main _ a,?_⟩;have a2:cO b f e L (x::s) (y::t):=⟨.cons z U,λP a4=>m.bot P (by rw[u_];exact a4)⟩;exact a2.top (Ren.le_refl _) S T
   .intro L n b1 X b3;exact VC λa=>⟨_,_,A⟩
   simp
theorem MF{d a:VM}(c:bG b f e h d a)(g:d.mode=.run):a.mode=.run:=by have:=c.mode;rw[g]at this;cases c:a.mode<;>rw[c]at this<;>first|rfl|cases this
theorem CK.of{d:VI}{b c:Code}(a:CK f e d b)(g:f.code b=J->f.code c=J)(h:cL b=J->cL c=J):CK f e d c:=by
 rcases a with a|⟨a,i⟩
 .exact VA a
 exact VC ⟨g a,λk=>h (i k)⟩
theorem Lt(G:Good b f)(W:Base b h)(g8:pE h)(p:aU f h a q)(n:cO b f e h (c::i) (g::l))(b4:c.mode=.run)(d4:Ao b f c)(hd:e=J->c.roundOf=I):Qs b f e h main d base c g i l a q:=by
 have t:=n.head;have e9:=MF t b4;have f1:=t.todo;have a5:=G.code;obtain⟨fn,z,j2,L,i5,Q,s⟩:=c;obtain⟨b3,D,j3,N,i6,R,H⟩:=g;simp only at b4 e9 f1;subst b4;subst e9;have i9:s.isSome=J->e=Vz:=by grind
 cases f1 with
 |nil=>exact nB G W p n A I (by simp) (λa=>rfl) (λa=>rfl)
 |tail Z w=>exact eD λa=>⟨_,_,by rw[be A];rfl⟩
 |@cons i2 i3 O P hit w=>
  cases hit with
  |inBlock id=>exact gy p n A w (λa=>rfl) (λa=>rfl)
  |inScope m _=>exact gy p n A w (λa=>rfl) (λa=>rfl)
  |inLoop m o=>exact gy p n A (.cons (.code m o) (.cons (.inLoop m o) w)) (λa=>rfl) (λa=>rfl)
  |inRangeFunc o=>exact eD λa=>⟨_,_,A⟩
  |beginRound=>
   refine ru G p n t A rfl (R:=(do s.elim (stuck "beginRound: no round") Instr.beginRound;pure .skip)) (S:=(do H.elim (stuck "beginRound: no round") Instr.beginRound;pure .skip)) ?_ (λa=>by rfl) (by rfl);have Z:pI h s H:=t.roundOf;cases Z with
   |none=>exact ai
   |some b1=>exact ay (uA W b1) λ_ _ _=>aC .skip
  |@endRangeFunc r b8 o=>
   have a7:fn=b3:=t.fn;subst a7
   refine nD G (fn:=fn) t.mF (AI W o) p
    (u:=λx=>match x with|.ok d9 a=>.go (rg ⟨fn,z,(d9.map Item.code).toList++O,L,.run,Q,s⟩ (i++d)) a|.halt (.panic b2) a=>.go (rg (Frame.raise ⟨fn,z,.endRangeFunc r::O,L,.run,Q,s⟩ [{v:=b2,recovered:=Vz}]) (i++d)) a|.halt _ a=>.ended (.stuck "range over a function: no such loop" (VM.pos b ⟨fn,z,.endRangeFunc r::O,L,.run,Q,s⟩)) a)
    (H:=λx=>match x with|.ok d9 a=>.go (rg ⟨fn,D,(d9.map Item.code).toList++P,N,.run,R,H⟩ (l++base)) a|.halt (.panic b2) a=>.go (rg (Frame.raise ⟨fn,D,.endRangeFunc b8::P,N,.run,R,H⟩ [{v:=b2,recovered:=Vz}]) (l++base)) a|.halt _ a=>.ended (.stuck "range over a function: no such loop" (VM.pos b ⟨fn,D,.endRangeFunc b8::P,N,.run,R,H⟩)) a)
    (λa=>⟨seen b fn ((Instr.endLoop r).runT b a #[]).2,by rfl⟩) (λ_=>by rfl) ?_ ?_ ?_
   .rintro a0 j i4 X⟨rfl,rfl,c0⟩;refine VA ⟨_,_,i,l,λa=>rfl,λa=>rfl,n.top (Ren.le_refl _) (t.wj ?_) A⟩;cases j with
    |none=>exact w
    |some a3=>exact .cons (.code a3 (VC ⟨(c0 a3 A).1,λ_=>(c0 a3 A).2⟩)) w
   .intro a0 o T X b9;cases o<;>cases T<;>first|exact b9.elim|skip
    .have d2:aZ (lR f a0) [{v:=_,recovered:=Vz}] [{v:=_,recovered:=Vz}]:=.cons ⟨b9,A,A⟩ .nil;exact VA ⟨_,_,i,l,λa=>rfl,λa=>rfl,n.top X ((t.mono X).raise d2) (by rw[jg])⟩
    simp
   intro o a b1;cases o<;>first|(cases b1;done)|simp
  |inRegion y r o=>
   cases r with
   |nil=>exact gy p n A w (λa=>rfl) (λa=>rfl)
   |cons c7 i8=>
    have d8:yielded y z=yielded y D:=by
     funext j
     unfold yielded;cases i0:(y[j]?).bind (·.dst)with
     |none=>rfl
     |some a4=>
      dsimp only[Option.bind_some];have f2:ax f h z D:=t.tmps;cases b6:z[a4]? with
      |none=>rw[f2.none b6]
      |some a3=>
       obtain⟨f7,u,x⟩:=f2.get b6;rw[u];cases x with
       |bU c0=>cases f7<;>first|exact c0.elim|rfl
       |_=>rfl
    by_cases d6:(((y[c7]?).map (Region.wanted · (yielded y z))).getD Vz)=J
    .have c6:(((y[c7]?).map (Region.wanted · (yielded y D))).getD Vz)=J:=by simp_all
     cases a9:y[c7]? with
     |none=>simp_all
     |some c8=>
      rw[a9]at d6 c6;obtain⟨h1,f0⟩:=d4 c8 a9;refine ru G p n t A rfl (uO G W g8 (t.eval W) c8 h1) (λa=>?_) ?_
      .rw[be A];simp only[stepG.exec,d6,Wv,stepG.oper,VM.oper?,a9];cases s with
       |none=>rfl
       |some r=>
        have:=f0 A
        grind [qu]
      rw[be A];simp only[stepG.exec,c6,Wv,stepG.oper,VM.oper?,a9];have Z:pI h s H:=t.roundOf;cases Z with
      |none=>rfl
      |some r=>
       have:=f0 A
       grind [qu]
    have c6:¬(((y[c7]?).map (Region.wanted · (yielded y D))).getD Vz)=J:=by simp_all
    refine mN p (λa=>?_) (λa=>?_) (n.top (Ren.le_refl _) (t.finish aY) (fI _ _))
    .rw[be A];simp only[stepG.exec,d6];rfl
    rw[be A];simp only[stepG.exec,c6];rfl
  |code a3 o=>
   cases a3 with
   |skip=>exact gy p n A w (λa=>rfl) (λa=>rfl)
   |label r=>exact gy p n A w (λa=>rfl) (λa=>rfl)
   |refuse j5=>exact eD λa=>⟨_,_,A⟩
   |seq k m=>
    refine gy p n A (.cons (.code k (o.of (λu=>?_) λu=>?_)) (.cons (.code m (o.of (λu=>?_) λu=>?_)) w)) (λa=>rfl) (λa=>rfl)
    all_goals first|(rw[a5]at u⊢;simp_all [codeOk])|simp_all [cL]
   |block id k=>
    refine gy p n A (.cons (.code k (o.of (λu=>?_) λu=>?_)) (.cons (.inBlock id) w)) (λa=>rfl) (λa=>rfl)
    all_goals simp_all [codeOk,cL]
   |loop k=>have T:CK f e s.isSome k:=o.of (λu=>by simp_all [codeOk]) (λu=>by simp_all [cL]);exact gy p n A (.cons (.code k T) (.cons (.inLoop k T) w)) (λa=>rfl) (λa=>rfl)
   |scope k=>have T:CK f e s.isSome k:=o.of (λu=>by simp_all [codeOk]) (λu=>by simp_all [cL]);exact gy p n A (.cons (.code k T) (.cons (.inScope k T) w)) (λa=>rfl) (λa=>rfl)
   |ret=>exact nB G W p n A (C .ret) (λ_ d u=>by cases u;exact⟨by rw[a5];rfl,A⟩) (λa=>rfl) (λa=>rfl)
   |cond a1 k m=>
    have b5:an f h (Frame.eval ⟨fn,z,.code (.cond a1 k m)::O,L,.run,Q,s⟩ a1) (Frame.eval ⟨b3,D,.code (.cond a1 k m)::P,N,.run,R,H⟩ a1):=t.eval W a1 d4;have h8:CK f e s.isSome k:=o.of (λu=>by simp_all [codeOk]) (λu=>by simp_all [cL]);have h9:CK f e s.isSome m:=o.of (λu=>by simp_all [codeOk]) (λu=>by simp_all [cL]);generalize b6:Frame.eval ⟨fn,z,.code (.cond a1 k m)::O,L,.run,Q,s⟩ a1=a3 at b5;generalize i1:Frame.eval ⟨b3,D,.code (.cond a1 k m)::P,N,.run,R,H⟩ a1=f7 at b5;cases b5 with
    |bool a2=>
     refine gy p n A (.cons (.code (if a2 then k else m) (by cases a2<;>assumption)) w) (λa=>?_) (λa=>?_)
     .simp only[stepG.exec,b6]
     simp_all [stepG.exec]
    |_=>exact eD λa=>⟨_,_,by rw[be A];simp only[stepG.exec,b6];rfl⟩
   |exit id=>
    rcases DD id w with⟨S,a6|a6⟩|⟨a2,f6,S,a6,Z⟩
    rotate_left
    .have d3:s=I:=by
      simp_all
     subst d3;exact eD λa=>⟨_,_,by rw[be A];simp only[stepG.exec,S,YL];rfl⟩
    rotate_left
    .refine nB G W p n A (C (.exit id)) (λ_ d u=>by cases u;exact⟨by rw[a5];rfl,A⟩) (λa=>?_) (λa=>?_)
     .simp only[stepG.exec,S,YL];rfl
     simp only[stepG.exec,a6,YL];rfl
    refine gy p n A Z (λa=>?_) (λa=>?_)
    .simp only[stepG.exec,S,VL.elim_some]
    simp_all [stepG.exec]
   |goto id=>
    rcases DN G id w with⟨S,a6|a6⟩|⟨a2,f6,S,a6,Z⟩
    rotate_left
    .have d3:s=I:=by
      simp_all
     subst d3;exact eD λa=>⟨_,_,by rw[be A];simp only[stepG.exec,S,YL];rfl⟩
    rotate_left
    .refine nB G W p n A (C (.goto id)) (λ_ d u=>by cases u;exact⟨by rw[a5];rfl,A⟩) (λa=>?_) (λa=>?_)
     .simp only[stepG.exec,S,YL];rfl
     simp only[stepG.exec,a6,YL];rfl
    refine gy p n A Z (λa=>?_) (λa=>?_)
    .simp only[stepG.exec,S,VL.elim_some]
    simp_all [stepG.exec]
   |region id y g0=>
    have a9:UH b f e s.isSome y:=by
     rcases o with o|⟨o,T⟩
     .exact VA o
     refine VC λc8 b4=>⟨?_,λZ=>?_⟩
     .rw[a5]at o;grind [codeOk]
     have:=T Z;simp only[cL,Xn]at this;exact this c8 b4
    cases g0 with
    |false=>exact gy p n A (.cons (.inRegion y _ a9) w) (λa=>rfl) (λa=>rfl)
    |true=>
     have a7:fn=b3:=t.fn;subst a7
     refine nD G (fn:=fn) t.mF (cr (.order fn id)) p
      (u:=λx=>match x with|.ok a2 a=>.go (rg ⟨fn,z,VP y (Region.schedule (b.follows .mixedOrders) y a2)::O,L,.run,Q,s⟩ (i++d)) a|.halt _ a=>.ended (.stuck "order" "") a)
      (H:=λx=>match x with|.ok a2 a=>.go (rg ⟨fn,D,VP y (Region.schedule (b.follows .mixedOrders) y a2)::P,N,.run,R,H⟩ (l++base)) a|.halt _ a=>.ended (.stuck "order" "") a)
      (λa=>⟨#[],?_⟩) (λ_=>?_) ?_ ?_ ?_
     .rw[be A];simp only[stepG.exec,choose,Sem.run,VR.runT,Question.forced,aN];rfl
     .rw[be A];simp only[stepG.exec,choose,Sem.run,VR.runT,Question.forced,aX,aN];rfl
     .rintro a0 a2 f6 X⟨rfl,rfl⟩;exact VA ⟨_,_,i,l,λa=>rfl,λa=>rfl,n.top (Ren.le_refl _) (t.wj (.cons (.inRegion y _ a9) w)) A⟩
     .intro a0 o T X b9;exact VC λa=>⟨_,_,A⟩
     simp
   |rangeFunc v Y k m=>
    have d1:f.code (.rangeFunc v Y k m)=J:=d4;rw[a5]at d1;simp only[codeOk,WH]at d1;obtain⟨⟨⟨⟨g1,g2⟩,g3⟩,g4⟩,g5⟩:=d1;have a7:fn=b3:=t.fn;subst a7;have b5:an f h (Frame.eval ⟨fn,z,.code (.rangeFunc v Y k m)::O,L,.run,Q,s⟩ v) (Frame.eval ⟨fn,D,.code (.rangeFunc v Y k m)::P,N,.run,R,H⟩ v):=t.eval W v g1
    refine xU G (fn:=fn) t.mF (wD fn t.mF t.tmps Y (k:=k) (o:=m) (by rw[a5];exact g2) (by rw[a5];exact g3) g4 g5 t.roundOf) p
     (s:=λx=>match x with
       |.ok (r,mark) a=>stepG.apply b J ⟨fn,z,.inRangeFunc r::O,mark++L,.run,Q,s⟩ (i++d) I (do let a4<-resolve (Frame.eval ⟨fn,z,.inRangeFunc r::O,mark++L,.run,Q,s⟩) {callee:=.value v,args:=#[.const (.func (.yield r) #[] #[])],argTypes:=#[]} 0;invoke a4.target a4.args) a
       |.halt _ a=>.ended (.stuck "range over a function: no such loop" (VM.pos b ⟨fn,z,.code (.rangeFunc v Y k m)::O,L,.run,Q,s⟩)) a)
     (v:=λx=>match x with
       |.ok (r,mark) a=>stepG.apply b J ⟨fn,D,.inRangeFunc r::P,mark++N,.run,R,H⟩ (l++base) I (do let a4<-resolve (Frame.eval ⟨fn,D,.inRangeFunc r::P,mark++N,.run,R,H⟩) {callee:=.value v,args:=#[.const (.func (.yield r) #[] #[])],argTypes:=#[]} 0;invoke a4.target a4.args) a
       |.halt _ a=>.ended (.stuck "range over a function: no such loop" (VM.pos b ⟨fn,D,.code (.rangeFunc v Y k m)::P,N,.run,R,H⟩)) a)
     (λa=>⟨seen b fn ((Instr.enterLoop fn z Y k m s).runT b a #[]).2,by rw[be A];rfl⟩) (λ_=>by rw[be A];rfl) ?_ ?_ ?_
    .rintro a0⟨r,f3⟩⟨b8,f4⟩ h5 U new i7 e3⟨_,b1,h0⟩;have X:=e3.le;have d7:=e3.rel;have a8:=t.mono X;have h2:=n.top X a8 A;have g6:Base b a0:=W.jK p e3;have g9:pE a0:=λk f8 m f9=>d7.inj k f8 m f9
     refine ru G d7 h2 (o:=⟨fn,z,.inRangeFunc r::O,f3++L,.run,Q,s⟩) (b:=⟨fn,D,.inRangeFunc b8::P,f4++N,.run,R,H⟩)
      ⟨A,a8.mF,a8.tmps,.cons (.inRangeFunc b1) (w.imp λ_ _ a3=>a3.mono X),h0.append a8.defers,.run,a8.kind,a8.kindOk,a8.roundOf⟩ A rfl ?_ (λa=>rfl) A
     refine ay (o:=ra f a0) ?_ λa4 h6 hd=>oL G g6 g9 hd.1 hd.2;have d8:ax f a0 #[.func (.yield r) #[] #[]] #[.func (.yield b8) #[] #[]]:=ax.push ax.nil (.func (.yield b1) A rfl (by simp) (by simp));have d5:=b5.mono X
     have f5:∀(b0:VE Vx)(e0 e1:VD Item)(c9 d0:VD Deferred)(b7:CallKind)(x:VL E)(r:E),resolve (Frame.eval ⟨fn,b0,.inRangeFunc r::e0,c9,.run,b7,x⟩) {callee:=.value v,args:=#[.const (.func (.yield r) #[] #[])],argTypes:=#[]} 0
      =Deferred.ofValue (Frame.eval ⟨fn,b0,.code (.rangeFunc v Y k m)::e1,d0,.run,b7,x⟩ v) #[.func (.yield r) #[] #[]]:=by
      intro b0 e0 e1 c9 d0 b7 x r;unfold resolve;have S:Frame.eval ⟨fn,b0,.inRangeFunc r::e0,c9,.run,b7,x⟩ v=Frame.eval ⟨fn,b0,.code (.rangeFunc v Y k m)::e1,d0,.run,b7,x⟩ v:=by cases v<;>rfl
      simp[S,Frame.eval]
     rw[f5 z O O (f3++L) L,f5 D P P (f4++N) N];generalize Frame.eval ⟨fn,z,.code (.rangeFunc v Y k m)::O,L,.run,Q,s⟩ v=b2 at d5;generalize Frame.eval ⟨fn,D,.code (.rangeFunc v Y k m)::P,N,.run,R,H⟩ v=j4 at d5;unfold Deferred.ofValue;cases d5 with
     |func a7 d2 g7 h4 h3=>exact aq ⟨.fn a7 ⟨g7,h3⟩,ax.append ⟨d2,h4⟩ d8⟩
     |nilFunc=>exact aq ⟨.nil,d8⟩
     |_=>exact ai
    .intro a0 o T h5 U X b9 d7;exact eD λa=>⟨_,_,A⟩
    simp
end
variable{O:VE Wa}
section
variable{i:VI}{main:VI}{g base:VD VM}{c k:VM}{d e:VD VM}
def zA:Target->VI
 |.nil=>J
 |_=>Vz
def OW:FrameMode->VI
 |.panicking _=>J
 |_=>Vz
def rD(b:VS)(c:VM)(d:VD VM):Result Next->GStep
 |.ok (.enter e g) a=>.go (rg (Frame.enter b e g .deferred) (c::d)) a
 |.ok (.round i e k f h) a=>.go (rg (Frame.round i e k f h .deferred) (c::d)) a
 |.ok .recover a=>match c.mode,tryRecover c d with
  |.returning,C (_,d)=>.go (rg c d) a
  |_,_=>.go (rg c d) a
 |.ok _ a=>.go (rg c d) a
 |.halt (.panic l) a=>.go (rg (c.raise [{v:=l,recovered:=Vz}]) d) a
 |.halt .goexit a=>.go (rg (c.raise [goexitEntry]) d) a
 |.halt _ a=>.ended (.stuck "" "") a
def IU:Halt->VI
 |.panic _=>J
 |.goexit=>J
 |_=>Vz
theorem lT(e:VM)(h:VD VM)(c:Deferred)(a:K)(i:(zA c.target&&OW e.mode)=Vz)
 (d:match((invoke c.target c.args).runT b a #[]).1 with
   |.ok g _=>(match g with|.value _|.skip|.enter .. |.round .. |.defer _|.recover=>True|_=>False)
   |.halt d _=>IU d=J):callDeferred b e h I c a=GStep.after (seen b e.fn ((invoke c.target c.args).runT b a #[]).2) (rD b e h ((invoke c.target c.args).runT b a #[]).1):=by
 unfold callDeferred;generalize (invoke c.target c.args).runT b a #[]=n at d;obtain⟨l,O⟩:=n;cases l with
 |ok g m=>cases g<;>first|exact d.elim|(rw[VK (λd=>by have f:(zA c.target&&OW e.mode)=J:=d;rw[i]at f;cases f)];rfl)
 |halt k m=>cases k<;>first|(cases d;done)|(rw[VK (λd=>by have f:(zA c.target&&OW e.mode)=J:=d;rw[i]at f;cases f)];rfl)
theorem pN(d:VM)(i:VD VM)(c:Deferred)(a:K)(l:(zA c.target&&OW d.mode)=Vz){f:Halt}{n:K}
 (e:(invoke c.target c.args).runT b a #[]=(.halt f n,O))(k:Halt.lost f=J):∃m o h,callDeferred b d i I c a=.ended m o h:=by
 unfold callDeferred;rw[VK (λe=>by have g:(zA c.target&&OW d.mode)=J:=e;rw[l]at g;cases g)];simp only[e];cases f<;>first|(cases k;done)|exact⟨_,_,_,rfl⟩
theorem rE(G:Good b f)(L:Base b h)(c7:pE h)(d2:aU f h a q)(U:cO b f i h (c::d) (k::e)){p t:Deferred}(hd:ra f h p t){l m:VM}(T:bG b f i h l m)(W:tag l=tag c)
 {b2:K->GStep}{b3:GStep}(left:∀a,b2 a=callDeferred b l (d++g) I p a)(right:b3=callDeferred b m (e++base) I t q):nJ b f i h g base a q b2 b3:=by
 have a3:=T.mode;have z:zA p.target=zA t.target:=by have:=hd.1;generalize p.target=r at this;generalize t.target=s at this;cases this<;>rfl
 have D:OW l.mode=OW m.mode:=by generalize l.mode=r at a3;generalize m.mode=s at a3;cases a3<;>rfl
 cases v:zA p.target&&OW l.mode with
 |true=>refine eD λa=>⟨.unsupported (.noEntry "machine/Return: a deferred call of a nil function value, made while the frame is unwinding") (VM.pos b l),a,?_⟩;rw[left];unfold callDeferred;refine VV ?_;exact v
 |false=>
  have c8:(zA t.target&&OW m.mode)=Vz:=by rw[<-z,<-D];exact v
  have d9:=U.top (Ren.le_refl _) T W
  have b1:∀x n y,Nr f n x y->(match x with|.value _|.skip|.enter .. |.round .. |.defer _|.recover=>True|_=>False)/\(match y with|.value _|.skip|.enter .. |.round .. |.defer _|.recover=>True|_=>False):=by intro x n y R;cases R<;>exact⟨trivial,trivial⟩
  refine vo G (fn:=m.fn) (T.fn▸T.mF) (oL G L c7 hd.1 hd.2) d2 (X:=rD b l (d++g)) (a2:=rD b m (e++base)) (λa P=>⟨_,(left a).trans (lT l _ p a v ?_)⟩) (λP=>right.trans (lT m _ t q c8 ?_)) ?_ ?_ (λa Q S O b7 a5=>by rw[left];exact pN l _ p a v b7 a5)
  .generalize (invoke p.target p.args).runT b a #[]=a9 at P;obtain⟨a8,O⟩:=a9;cases a8 with
   |ok x S=>obtain⟨n,y,R⟩:=P;exact(b1 x n y R).1
   |halt Q S=>obtain⟨n,a1,a7⟩:=P;cases Q<;>cases a1<;>first|exact a7.elim|rfl
  .generalize (invoke t.target t.args).runT b q #[]=a9 at P;obtain⟨a8,O⟩:=a9;cases a8 with
   |ok x S=>obtain⟨n,y,R⟩:=P;exact(b1 y n x R).2
   |halt Q S=>obtain⟨n,a1,a7⟩:=P;cases a1<;>cases Q<;>first|exact a7.elim|rfl
  .intro n x y S a4 new e0 o R;have u:=o.le;have N:=T.mono u;have w:=U.top u N W;cases R with
   |value d1=>exact cN o.rel (λa=>rfl) A w
   |skip=>exact cN o.rel (λa=>rfl) A w
   |defer hd=>exact cN o.rel (λa=>rfl) A w
   |enter a2 v H=>exact cN o.rel (p:=Frame.enter b a2 _ .deferred) (r:=Frame.enter b a2 _ .deferred) (b:=l::d) (o:=m::e) (λa=>rfl) A (U.push u N W (bG.enter G v H .deferred (VC A)))
   |round a5 a2 v d0 r s H L d4 d5=>exact cN o.rel (p:=Frame.round _ a2 _ r s .deferred) (r:=Frame.round _ a2 _ r s .deferred) (b:=l::d) (o:=m::e) (λa=>rfl) A (U.push u N W (bG.round G a5 v d0 H L d4 d5 .deferred (VC A)))
   |recover=>
    rcases mY w g base with⟨z,D⟩|⟨b4,e1,b5,b6,z,D,d1,b9,c0⟩
    .refine cN o.rel (p:=l) (r:=m) (b:=d) (o:=e) (λa=>?_) ?_ w
     .simp only[rD,z];cases l.mode<;>rfl
     simp only[rD,D];cases m.mode<;>rfl
    have c9:=w.zC (.cons N b9) (by simp[c0])
    have d3:∀r s,jN f h r s->l.mode=r->m.mode=s->nJ b f i n g base S a4 (λa=>rD b l (d++g) (.ok .recover a)) (rD b m (e++base) (.ok .recover a4)):=by
     intro r s c6 H L;cases c6 with
     |returning=>exact cN o.rel (p:=l) (r:=m) (b:=b5) (o:=b6) (λa=>by simp only[rD,z,H]) (by simp only[rD,D,L]) c9
     |run=>exact cN o.rel (p:=l) (r:=m) (b:=d) (o:=e) (λa=>by simp only[rD,z,H]) (by simp only[rD,D,L]) w
     |panicking _=>exact cN o.rel (p:=l) (r:=m) (b:=d) (o:=e) (λa=>by simp only[rD,z,H]) (by simp only[rD,D,L]) w
    exact d3 _ _ a3 A rfl
  intro n b8 a1 S a4 u Q b0;have N:=T.mono u;cases b8<;>cases a1<;>first|exact Q.elim|skip
  .have a6:aZ (lR f n) [{v:=_,recovered:=Vz}] [{v:=_,recovered:=Vz}]:=.cons ⟨Q,A,A⟩ .nil;exact cN b0 (λa=>rfl) A (U.top u (N.raise a6) (by rw[jg,W]))
  have a6:aZ (lR f n) [goexitEntry] [goexitEntry]:=.cons ⟨aY,A,A⟩ .nil;exact cN b0 (λa=>rfl) A (U.top u (N.raise a6) (by rw[jg,W]))
theorem Dk{c d:VM}(a:bG b f i h c d):c.catches b=Vz/\d.catches b=Vz:=by
 have:=a.todo;unfold VM.catches;generalize c.todo=p at this;generalize d.todo=m at this;cases this with
 |nil=>constructor<;>(split<;>rename_i a<;>first|rfl|cases a)
 |tail o l=>
  constructor
  .split<;>rename_i a<;>first|rfl|cases a
  cases m with
  |nil=>split<;>rename_i a<;>first|rfl|cases a
  |cons n q=>cases n<;>first|(simp[zN,zM]at l;done)|(split<;>rename_i g e<;>first|rfl|cases e)
 |cons k _=>cases k<;>(constructor<;>(split<;>rename_i g e<;>first|rfl|cases e))
theorem Fy(G:Good b f)(U:Base b h)(b0:pE h)(u:aU f h a q)(t:cO b f i h (c::d) (k::e))(X:c.mode≠.run)(e4:¬(d=[]/\c.defers=[])):Qs b f i h main g base c k d e a q:=by
 have l:=t.head;have Y:=l.mode;have e3:k.mode≠.run:=by intro m;rw[m]at Y;generalize c.mode=P at Y X;cases Y;exact X A
 have r:∀a,stepG b J (rg c (d++g)) a=unwind b J c (d++g) I a:=λa=>hY X;have s:∀a,stepG b main (rg k (e++base)) a=unwind b main k (e++base) I a:=λa=>hY e3;obtain⟨fn,p,D,d0,Z,v,x⟩:=c;obtain⟨d3,z,H,d1,a0,w,y⟩:=k;have e1:fn=d3:=l.fn;subst e1;have e0:aZ (ra f h) d0 d1:=l.defers;cases e0 with
 |@cons c8 c9 a5 a6 hd b6=>
  have a9:bG b f i h ⟨fn,p,D,a5,Z,v,x⟩ ⟨fn,z,H,a6,a0,w,y⟩:=⟨A,l.mF,l.tmps,l.todo,b6,l.mode,l.kind,l.kindOk,l.roundOf⟩;obtain⟨e8,f1⟩:=c8;obtain⟨e9,f2⟩:=c9;have e6:kx f h e8 e9:=hd.1;cases e6 with
  |@collected n f4 e5=>
   refine nD G (fn:=fn) l.mF (sc e5) u
    (u:=λn=>match n with|.ok a4 a=>.go (rg ⟨fn,p,D,a4++a5,Z,v,x⟩ (d++g)) a|.halt _ a=>.ended (.stuck "the deferred calls of a range-over-func loop have been taken" (VM.pos b ⟨fn,p,D,_,Z,v,x⟩)) a)
    (H:=λn=>match n with|.ok a4 a=>.go (rg ⟨fn,z,H,a4++a6,a0,w,y⟩ (e++base)) a|.halt _ a=>.ended (.stuck "the deferred calls of a range-over-func loop have been taken" (VM.pos b ⟨fn,z,H,_,a0,w,y⟩)) a)
    (λa=>⟨seen b fn ((Instr.takeDeferred n).runT b a #[]).2,by rw[r];rfl⟩) (λ_=>by rw[s];rfl) ?_ ?_ ?_
   .rintro o b4 f0 L⟨rfl,b2⟩;exact VA ⟨_,_,d,e,λa=>rfl,λa=>rfl,t.top (Ren.le_refl _) (⟨A,l.mF,l.tmps,l.todo,b2.append b6,l.mode,l.kind,l.kindOk,l.roundOf⟩:bG b f i o ⟨fn,p,D,b4++a5,Z,v,x⟩ ⟨fn,z,H,f0++a6,a0,w,y⟩) A⟩
   .intro o m d6 L e2;exact VC λa=>⟨_,_,A⟩
   intro m a _;exact⟨_,_,A⟩
  |fn R S=>exact rE G U b0 u t hd a9 A (λa=>by rw[r];rfl) (by rw[s];rfl)
  |nil=>exact rE G U b0 u t hd a9 A (λa=>by rw[r];rfl) (by rw[s];rfl)
  |builtin Q f6 f5 f3 m=>exact rE G U b0 u t hd a9 A (λa=>by rw[r];rfl) (by rw[s];rfl)
 |nil=>
  have d7:d≠[]:=λm=>e4 ⟨m,A⟩;cases t.tail with
  |nil=>exact absurd A d7
  |@cons P a2 N O T d8=>
   have b1:∀o,h.le o->cO b f i o (P::N) (a2::O):=λo L=>⟨.cons (T.mono L) (d8.mono λ_ _ b4=>b4.mono L),λd2 b2=>t.bot d2 (by rw[u_];exact b2)⟩
   obtain⟨c6,c7⟩:=Dk l;cases Y with
   |run=>exact absurd A X
   |panicking d9=>
    refine mN u (p:=P.raise _) (r:=a2.raise _) (b:=N) (o:=O) (λa=>?_) (λa=>?_) ((b1 h (Ren.le_refl _)).top (Ren.le_refl _) (T.raise d9) (jg _ _))
    .rw[r];simp only[unwind,c6,WC,Wy,Xe];rfl
    rw[s];simp only[unwind,c7,WC,Wy,Xe];rfl
   |returning=>
    cases W:b.funcs[fn]? with
    |none=>
     obtain⟨Q,a3,R,S,a7,a8⟩:=zP (c:=b) l T (l.tmps.getD 0 aY);refine mN u (p:=Q) (r:=a3) (b:=N) (o:=O) (λa=>?_) (λa=>?_) ((b1 h (Ren.le_refl _)).top (Ren.le_refl _) a7 a8)
     .rw[r];simp only[unwind,W];exact R J _ a
     rw[s];simp only[unwind,W];exact S main _ a
    |some b5=>
     refine nD G (fn:=fn) l.mF (th U b5 l.tmps) u
      (u:=λn=>match n with|.ok a1 a=>doReturn b J ⟨fn,p,D,[],.returning,v,x⟩ (P::N++g) I a1 a|.halt (.stuck b3) a=>.ended (.stuck b3 (VM.pos b ⟨fn,p,D,[],.returning,v,x⟩)) a|.halt _ a=>.ended (.stuck "return: the result variables cannot be read" (VM.pos b ⟨fn,p,D,[],.returning,v,x⟩)) a)
      (H:=λn=>match n with|.ok a1 a=>doReturn b main ⟨fn,z,H,[],.returning,w,y⟩ (a2::O++base) I a1 a|.halt (.stuck b3) a=>.ended (.stuck b3 (VM.pos b ⟨fn,z,H,[],.returning,w,y⟩)) a|.halt _ a=>.ended (.stuck "return: the result variables cannot be read" (VM.pos b ⟨fn,z,H,[],.returning,w,y⟩)) a)
      (λa=>⟨seen b fn ((results b5 p).runT b a #[]).2,by rw[r];simp only[unwind,W];rfl⟩) (λ_=>by rw[s];simp only[unwind,W];rfl) ?_ ?_ ?_
     .rintro o a1 f7 L⟨rfl,e7⟩;left;obtain⟨Q,a3,R,S,a7,a8⟩:=zP (c:=b) l T e7;exact⟨Q,a3,N,O,λa=>R J _ a,λa=>S main _ a,(b1 o (Ren.le_refl _)).top (Ren.le_refl _) a7 a8⟩
     .intro o m d6 L e2;right;intro a;cases m<;>exact⟨_,_,A⟩
     intro m a _;cases m<;>exact⟨_,_,A⟩
theorem Cq(G:Good b f)(o:Base b h)(m:aU f h a q)(p:cO b f i h (c::d) (k::e))(s:c.mode=.run->Ao b f c)(hd:i=J->c.roundOf=I)(r:¬(d=[]/\c.mode≠.run/\c.defers=[])):
 Qs b f i h main g base c k d e a q:=by
 by_cases l:c.mode=.run
 .exact Lt G o m.QZ m p l (s l) hd
 exact Fy G o m.QZ m p l λn=>r ⟨n.1,l,n.2⟩
theorem Ac(G:Good b f){c l:VM}(o:bG b f Vz h c l):Ao b f c\/∃d,c.todo=[mW d]:=by
 have g:=o.todo;generalize k:c.todo=m at g;have s:c.todo=m:=k
 suffices i:(∃d,m=[mW d])\/Ao b f c by
  rcases i with⟨d,rfl⟩|i
  .exact VC ⟨d,A⟩
  exact VA i
 subst k;unfold Ao;generalize c.todo=d at g;generalize l.todo=w at g;cases g with
 |nil=>exact VC trivial
 |tail u t=>exact VA ⟨_,A⟩
 |cons p _=>
  right;cases p with
  |code r a=>
   rcases a with a|⟨a,_⟩
   .cases a
   cases r<;>first|trivial|skip
   rw[G.code]at a;simp only[codeOk,WH]at a;exact a.1.1
  |inRegion x n e=>
   cases n with
   |nil=>trivial
   |cons v n=>
    rcases e with e|e
    .cases e
    intro q a;exact e q (by rw[WW];exact WN a)
  |_=>trivial
theorem lW(G:Good b f)(o:Base b h)(r:aU f h a q)(n:cO b f Vz h (c::d) (k::e))(p:¬(d=[]/\c.mode≠.run/\c.defers=[])):Qs b f Vz h main g base c k d e a q:=by
 rcases Ac G n.head with l|⟨t,l⟩
 .exact Cq G o r n (λ_=>l) (by simp) p
 by_cases m:c.mode=.run
 .obtain⟨fn,x,y,s,v,u,w⟩:=c;simp only at m l;subst m l;exact eD λa=>⟨_,_,by rw[be A];rfl⟩
 exact Cq G o r n (λl=>absurd l m) (by simp) p
end
variable{f:VD VM}{e:K}
def dC:VM:={fn:=0,tmps:=#[],todo:=[.code (.cond (.const .nilFunc) .skip .skip)],defers:=[{target:=.nil,args:=#[]}],mode:=.run,kind:=.normal}
def Shape(a:VM)(b:VD VM):Prop:=b=[]/\((a.mode≠.run/\a.defers=[]/\a.kind=.normal)\/(a.mode=.run/\∃c,a.todo=[mW c]))
inductive yu(c:VS)(d:VM->K->Prop):VM->VD VM->K->Prop
 |stop {b:VM} {g:VD VM} {a:K} (q:Shape b g) (s:∃(p:E)(o:E->Question->E),∀m:E->Question->E,(∀h l,p<=h->h<a.drawn->m h l=o h l)->d b {a with tape:=m}):yu c d b g a
 |step {b:VM} {g:VD VM} {a:K} (q:¬Shape b g) (r:¬Kd (stepG c J (rg b (g++[dC]))) a)
   (t:∀k i n,Qq (stepG c J (rg b (g++[dC]))) a k (i++[dC]) n->yu c d k i n):yu c d b g a
def Sy(c:VS)(d:VM->K->Prop)(m:VM)(l:VD VM)(a:K)(g:E)(k:E->Question->E):Prop:=
 g<=a.drawn/\∀i:E->Question->E,(∀b h,g<=b->b<a.drawn->i b h=k b h)->
  ∃n f e,runN c n (lone m (l++[dC]) {a with tape:=i})=.next (lone f [dC] e)/\d f e/\Shape f []
section
variable{d:VM->K->Prop}
theorem kT{d e:VM}{b:VD VM}{g:K}(k:stepG c J (rg d f) a=.go (rg e b) g O):step c (lone d f a)=.next (lone e b g):=by refine step_lone_go ?_;have:stepG c J {frame:=d,callers:=f,status:=.running,dying:=I} a=.go {frame:=e,callers:=b,status:=.running,dying:=I} g O:=k;rw[this];rfl
theorem gS{b:VM}{e:K}{d:Outcome}(g:stepG c J (rg b f) a=.ended d e O):step c (lone b f a)=.ended d e:=by refine step_lone_ended ?_;have:stepG c J {frame:=b,callers:=f,status:=.running,dying:=I} a=.ended d e O:=g;rw[this];rfl
theorem mK{d g:VM}{c:VD VM}(b:lone d f a=lone g c e):d=g/\f=c/\a=e:=by unfold lone at b;simp only[Machine.mk.injEq,VE.mk.injEq,VD.cons.injEq,VO.mk.injEq]at b;exact⟨b.2.1.1.1,b.2.1.1.2.1,b.1⟩
theorem EZ{d:VM}(z:(d.mode≠.run/\d.defers=[]/\d.kind=.normal)\/(d.mode=.run/\∃D,d.todo=[mW D])):∀g,g≠0->∀q e,runN c g (lone d [dC] a)≠.next (lone q [dC] e):=by
 rcases z with⟨n,hd,y⟩|⟨n,R,u⟩
 rotate_left
 .intro g s q e f;cases g with
  |zero=>exact s A
  |succ g=>
   have i:∃h b,step c (lone d [dC] a)=.ended h b:=by obtain⟨fn,U,W,P,S,Q,T⟩:=d;simp only at n u;subst n u;exact⟨_,_,gS (by rw[be A];rfl)⟩
   obtain⟨h,b,i⟩:=i;simp only[runN,i]at f;cases f
 have H:(∃h b,step c (lone d [dC] a)=.ended h b)\/∃p b,step c (lone d [dC] a)=.next (lone p [] b)/\∃h o,step c (lone p [] b)=.ended h o:=by
  have m:stepG c J (rg d [dC]) a=unwind c J d [dC] I a:=hY n
  have fin:∀(k:Vx) b,∃h o,step c (lone (dC.finish k) [] b)=.ended h o:=λk b=>⟨_,_,gS (by rw[be A];rfl)⟩
  cases l:d.mode with
  |run=>exact absurd l n
  |panicking w=>
   cases t:d.catches c with
   |true=>exact VA ⟨_,_,gS (by rw[m];simp only[unwind,hd,l,t,Wv];rfl)⟩
   |false=>refine VC ⟨dC.raise w,a,kT (by rw[m];simp only[unwind,hd,l,t,WC,Wy];rfl),?_⟩;refine⟨_,_,gS (by rw[hY (by simp[Frame.raise,dC])];rfl)⟩
  |returning=>
   have dr:∀k b,doReturn c J d [dC] I k b=.go (rg (dC.finish k) []) b:=by intro k b;simp only[doReturn,y];rfl
   cases r:c.funcs[d.fn]? with
   |none=>exact VC ⟨_,_,kT (by rw[m];simp only[unwind,hd,l,r];exact dr _ _),fin _ _⟩
   |some fn=>
    generalize v:(results fn d.tmps).runT c a #[]=N;obtain⟨L,O⟩:=N;cases L with
    |ok k b=>exact VC ⟨_,_,kT (by rw[m];simp only[unwind,hd,l,r,v,dr];rfl),fin _ _⟩
    |halt f b=>cases f<;>exact VA ⟨_,_,gS (by rw[m];simp only[unwind,hd,l,r,v];rfl)⟩
 intro g s q e f;cases g with
 |zero=>exact s A
 |succ g=>
  simp only[runN]at f;rcases H with⟨h,b,i⟩|⟨p,b,i,h,o,x⟩
  .rw[i]at f;cases f
  rw[i]at f;cases g with
  |zero=>simp only[runN]at f;have:=(mK (Zg f)).2.1;cases this
  |succ g=>simp only[runN,x]at f;cases f
structure yv(c:VS)(d:VM->K->Prop) where
 fr:VM
 L:VD VM
 w:K
 b:E
 H:E->Question->E
 runs:Sy c d fr L w b H
 no:¬yu c d fr L w
theorem yv.BG(a:yv c d):¬Shape a.fr a.L:=by
 intro n;obtain⟨f,h⟩:=n;obtain⟨t,p⟩:=a.runs;refine a.no (.stop ⟨f,h⟩ ⟨a.b,a.H,λr q=>?_⟩);obtain⟨i,m,e,b,o,s⟩:=p r q;rw[f]at b;by_cases g:i=0
 .subst g;simp only[runN]at b;obtain⟨k,_,l⟩:=mK (Zg b);rw[k,l];exact o
 exact absurd b (EZ h i g m e)
theorem yv.next(b:yv c d):∃l:yv c d,l.b=b.b/\b.w.drawn<=l.w.drawn/\(∀a f,b.b<=a->a<b.w.drawn->l.H a f=b.H a f)/\
 ∀g:E->Question->E,(∀a f,b.w.drawn<=a->a<l.w.drawn->g a f=l.H a f)->step c (lone b.fr (b.L++[dC]) {b.w with tape:=g})=.next (lone l.fr (l.L++[dC]) {l.w with tape:=g}):=by
 have D:=b.BG;obtain⟨Q,N⟩:=b.runs
 have R:¬Kd (stepG c J (rg b.fr (b.L++[dC]))) b.w:=by
  rintro⟨x,W,o⟩
  let g:E->Question->E:=λa f=>if a<b.w.drawn then b.H a f else x a f
  obtain⟨p,H,e,i,L,t⟩:=N g λa f _ h=>by simp only[g,h,Wv]
  obtain⟨X,Y,O,k⟩:=o g λa f h _=>by simp only[g];rw[VK (by omega)]
  have k:=gS k;cases p with
  |zero=>
   simp only[runN]at i;obtain⟨w,s,_⟩:=mK (Zg i);refine D ⟨?_,w▸t.2⟩;cases y:b.L with
   |nil=>rfl
   |cons P U=>rw[y]at s;have:=VU List.length s;simp at this
  |succ p=>simp only[runN,k]at i;cases i
 have S:∃n m q,Qq (stepG c J (rg b.fr (b.L++[dC]))) b.w n (m++[dC]) q/\¬yu c d n m q:=by refine Classical.byContradiction λT=>b.no (.step D R λn m q o=>Classical.byContradiction λz=>T ⟨n,m,q,o,z⟩)
 obtain⟨n,m,q,⟨hd,x,o⟩,z⟩:=S
 let r:E->Question->E:=λa f=>if a<b.w.drawn then b.H a f else x a f
 refine⟨⟨n,m,q,b.b,r,⟨Wu Q hd,λg v=>?_⟩,z⟩,A,hd,λa f _ h=>by simp only[r,h,Wv],λg v=>?_⟩
 .obtain⟨p,H,e,i,L,t⟩:=N g λa f u h=>by
   have:=v a f u (by omega);simpa only[r,h,Wv]using this
  obtain⟨O,k⟩:=o g λa f u h=>by have:=v a f (by omega) h;simp only[r]at this;rw[VK (by omega)]at this;exact this
  have k:=kT k;cases p with
  |zero=>
   simp only[runN]at i;obtain⟨w,s,_⟩:=mK (Zg i);refine absurd ⟨?_,w▸t.2⟩ D;cases y:b.L with
   |nil=>rfl
   |cons P U=>rw[y]at s;have:=VU List.length s;simp at this
  |succ p=>simp only[runN,k]at i;exact⟨p,H,e,i,L,t⟩
 obtain⟨O,k⟩:=o g λa f u h=>by have:=v a f u h;simp only[r]at this;rw[VK (by omega)]at this;exact this
 exact kT k
theorem zo{u:VM}{t:VD VM}{r:E}{z:E->Question->E}(l:Sy c d u t a r z):yu c d u t a:=by
 refine Classical.byContradiction λU=>?_
 let a0:yv c d:=⟨u,t,a,r,z,l,U⟩
 let o:yv c d->yv c d:=λi=>Classical.choose i.next
 have y:∀i,(o i).b=i.b/\i.w.drawn<=(o i).w.drawn/\(∀g h,i.b<=g->g<i.w.drawn->(o i).H g h=i.H g h)/\
  ∀n:E->Question->E,(∀g h,i.w.drawn<=g->g<(o i).w.drawn->n g h=(o i).H g h)->step c (lone i.fr (i.L++[dC]) {i.w with tape:=n})=.next (lone (o i).fr ((o i).L++[dC]) {(o i).w with tape:=n}):=λi=>Classical.choose_spec i.next
 let k:E->yv c d:=λb=>E.rec a0 (λ_ i=>o i) b
 have w:∀b,k (b+1)=o (k b):=λb=>rfl
 have T:∀b,(k b).b=r:=by
  intro b;induction b with
  |zero=>rfl
  |succ b s=>rw[w,(y _).1,s]
 have mono:∀m b,m<=b->(k m).w.drawn<=(k b).w.drawn/\∀g h,r<=g->g<(k m).w.drawn->(k b).H g h=(k m).H g h:=by
  intro m b a4
  induction b with
  |zero=>obtain rfl:m=0:=by omega
         exact⟨Wl _,λ_ _ _ _=>rfl⟩
  |succ b s=>
   by_cases x:m=b+1
   .subst x;exact⟨Wl _,λ_ _ _ _=>rfl⟩
   obtain⟨P,X⟩:=s (by omega);rw[w];obtain⟨_,Y,Z,_⟩:=y (k b);refine⟨Wu P Y,λg h p l=>?_⟩;rw[Z g h (by rw[T];exact p) (Ws l P)];exact X g h p l
 let n:E->Question->E:=λg h=>open Classical in if l:∃b,g<(k b).w.drawn then(k (Classical.choose l)).H g h else 0
 have N:∀b g h,r<=g->g<(k b).w.drawn->n g h=(k b).H g h:=by
  intro b g h p q;have v:∃b,g<(k b).w.drawn:=⟨b,q⟩;have x:n g h=(k (Classical.choose v)).H g h:=by simp only[n];rw[X' v]
  rw[x];have L:=Classical.choose_spec v;generalize Classical.choose v=m at L;rcases E.le_total m b with l|l
  .exact((mono m b l).2 g h p L).symm
  exact(mono b m l).2 g h p q
 have W:r<=(k 0).w.drawn:=l.1
 have run:∀b,runN c b (lone u (t++[dC]) {a with tape:=n})=.next (lone (k b).fr ((k b).L++[dC]) {(k b).w with tape:=n}):=by
  intro b
  induction b with
  |zero=>rfl
  |succ b s=>
   rw[runN_add,s];simp only[runN];rw[w]
   have:=(y (k b)).2.2.2 n λg h p q=>by
    rw[<-w]at q⊢
    exact N (b+1) g h (Wu (Wu W (mono 0 b (Xg _)).1) p) q
   rw[this]
 obtain⟨b,a2,e,H,a3,R⟩:=l.2 n λg h p q=>N 0 g h p q;rw[run b]at H;obtain⟨Q,D,_⟩:=mK (Zg H);refine(k b).BG ⟨?_,Q▸R.2⟩;cases S:(k b).L with
 |nil=>rfl
 |cons a1 a5=>rw[S]at D;have:=VU List.length D;simp at this
def Ql(c:VS)(f:Wc)(d:Ending->K->Prop)(e:VM)(a:K):Prop:=∃b,(∀g:b=.outgrown,False)/\d b a/\e.fn=f/\e.leaving c a b
def Tp(g:K->Prop)(a:K):Prop:=∃(f:E)(e:E->Question->E),∀d:E->Question->E,(∀b c,f<=b->b<a.drawn->d b c=e b c)->g {a with tape:=d}
theorem Tp.all{c:K->Prop}(d:∀b,c {a with tape:=b}):Tp c a:=⟨0,λ_ _=>0,λb _=>d b⟩
theorem Tp.mono{g h:K->Prop}(b:Tp g a)(l:∀a,g a->h a):Tp h a:=by obtain⟨k,i,b⟩:=b;exact⟨k,i,λn m=>l _ (b n m)⟩
theorem Tp.low{h:K->Prop}(g:Tp h a):∃(c:E)(f:E->Question->E),c<=a.drawn/\∀e:E->Question->E,(∀b d,c<=b->b<a.drawn->e b d=f b d)->h {a with tape:=e}:=by obtain⟨c,f,g⟩:=g;exact⟨min c a.drawn,f,E.min_le_right _ _,λe l=>g e λb d i k=>l b d (Wu (E.min_le_left _ _) i) k⟩
theorem Tp.one{d:K->Prop}(b:Tp d a):∃e,d {a with tape:=e}:=by obtain⟨f,c,b⟩:=b;exact⟨c,b c λ_ _ _ _=>rfl⟩
theorem Tp.and{d e:K->Prop}(c:Tp d a)(h:∀b,e {a with tape:=b}):Tp (λa=>d a/\e a) a:=by obtain⟨g,f,c⟩:=c;exact⟨g,f,λb i=>⟨c b i,h b⟩⟩
theorem nY{g:Wc}{l:VE Vx}{d:Ending->K->Prop}(h:Tp (λa=>Calls c g l a d) a)(x:∀a,¬d .outgrown a)(s:∀b a,d b a->∃i,b=VN i):
 yu c (Ql c g d) (Frame.enter c g l .normal) [] a:=by
 obtain⟨m,k,r,h⟩:=h.low;refine zo (r:=m) (z:=k) ⟨r,λw u=>?_⟩;obtain⟨b,e,o,n,p,q,f⟩:=h w u [dC];obtain⟨i,rfl⟩:=s b e n;obtain⟨v,t⟩:=p;refine⟨v,o,e,t,⟨VN i,by simp,n,q,f⟩,A,VA ⟨?_,f.2.1,f.2.2.1⟩⟩;rw[f.1];simp
end
variable{f:Set}{m:E->Prop}{c:VO}
inductive wu(b:VS)(f:Set)(main:VI)(m:E->Prop)(Stop:Ren->K->VO->Prop):Ren->K->VO->Prop
 |stop {h:Ren} {a:K} {c:VO} (r:Stop h a c):wu b f main m Stop h a c
 |step {h:Ren} {a:K} {c:VO} (s:c.status=.running) (o:K->Ren->K->VO->Prop)
   (r:∀q,aU f h a q->∃g k i U new n,stepG b main c q=.go g U (kept n).toArray/\bD f h k a i q U new n/\(∀e,m e->i.heap[e]?=a.heap[e]?)/\(∀l∈new,l.write=J->∀e,m e->l.loc≠.obj e/\∀p,l.loc=.cell p->p.block≠e)/\g.status=.running/\o q k i g)
   (t:∀q k i g,o q k i g->wu b f main m Stop k i g):wu b f main m Stop h a c
section
variable{main:VI}{Stop d:Ren->K->VO->Prop}
theorem wu.bind(e:wu b f main m Stop h a c)(p:∀k i g,Stop k i g->wu b f main m d k i g):wu b f main m d h a c:=by
 induction e with
 |stop e=>simp_all
 |step l o e _ n=>exact .step l o e n
theorem wu.pure{g₁:VO}(k:c.status=.running)(l:g₁.status=.running)(g:∀q,stepG b main c q=.go g₁ q)(p:wu b f main m Stop h a g₁):wu b f main m Stop h a c:=
 .step k (λ_ o n e=>o=h/\n=a/\e=g₁) (λq i=>⟨g₁,h,a,q,[],[],g q,bD.refl i,λ_ _=>rfl,by simp,l,A,A,A⟩) (by simp_all)
def ma(f:Set)(m:E->Prop)(a:K):Prop:=∀c,m c->∃d,a.heap[c]?=C d/\match d with
 |.cells b _ e=>e=(0,b.size)/\0<b.size/\¬aT b
 |.map .. =>True
 |_=>False
def ko(f:Set)(m:E->Prop)(a:K):Prop:=f.cj=Vz\/∀b,m b->∀c d,a.heap[b]?≠C (.map c d)
theorem ko.keep{d:K}(c:ko f m a)(e:∀b,m b->d.heap[b]?=a.heap[b]?):ko f m d:=by
 rcases c with c|c
 .exact VA c
 exact VC λb h g i=>by simp_all
theorem ma.keep{d:K}(g:ma f m a)(e:∀b,m b->d.heap[b]?=a.heap[b]?):ma f m d:=λb c=>by rw[e b c];exact g b c
theorem bD.kD{H:Ren}{r:K}{new z:VD Wa}(k:bD f h H a r q U new z)(x:f.cj=Vz){d:E}{o:Obj}(w:a.heap[d]?=C o)(N:Sim.kD o=J):
 ∃p,r.heap[d]?=C p/\Sim.kD p=J:=by
 by_cases l:∃b∈new,b.write=J/\b.loc=.obj d
 .exact k.nO x d l
 by_cases m:∃b∈new,b.write=J/\∃c,b.loc=.cell c/\c.block=d
 .obtain⟨b,e,g,c,i,rfl⟩:=m;obtain⟨s,D,t,n,_⟩:=k.il b e g c i;exact⟨_,n,A⟩
 rcases k.iB d (Wh.1 w).1 (λb e g=>⟨λy=>l ⟨b,e,g,y⟩,λc i v=>m ⟨b,e,g,c,i,v⟩⟩)with n|⟨s,D,t,L,_,u⟩
 .simp_all
 exact⟨_,u,A⟩
structure kK(f:Set)(a l:K):Prop where
 jI:∀e,a.frozen? e=J->l.frozen? e=J
 nm:f.cj=Vz->∀(g:E)(i:Obj),a.heap[g]?=C i->kD i=J->∃k,l.heap[g]?=C k/\kD k=J
theorem kK.refl(a:K):kK f a a:=⟨λ_ b=>b,λ_ g e c d=>⟨e,c,d⟩⟩
theorem kK.trans{w₁ n:K}(i:kK f a w₁)(k:kK f w₁ n):kK f a n:=
 ⟨λe t=>k.jI e (i.jI e t),λl g u r s=>by obtain⟨v,o,p⟩:=i.nm l g u r s;exact k.nm l g v o p⟩
theorem bD.later{k:Ren}{c:K}{new i:VD Wa}(b:bD f h k a c q U new i):kK f a c:=⟨b.jI,λg l m d e=>b.kD g d e⟩
def gJ(f:Set)(m:E->Prop)(d a:K):Prop:=∃c,kK f a c/\∀b,m b->c.heap[b]?=d.heap[b]?
theorem Bm(G:Good b f){u:VM->K->Prop}{c:VM}{d:VD VM}(g:yu b u c d a):∀{h:Ren}{m:VM}{r:VD VM}{q:K},Base b h->aU f h a q->cO b f Vz h (c::d) (m::r)->
 ∃l e v k U,Shape e []/\bG b f Vz l e v/\Base b l/\aU f l k U/\h.le l/\Tp (u e) k/\kK f a k:=by
 induction g with
 |@stop c d a g w=>intro h m r q n o x;obtain⟨rfl,i⟩:=g;exact⟨h,c,m,a,q,⟨A,i⟩,x.head,n,o,Ren.le_refl _,w,.refl _⟩
 |@step c d a g a1 x W=>
  intro h m r q n o y
  have S:¬(d=[]/\c.mode≠.run/\c.defers=[]):=by rintro⟨s,i,t⟩;subst s;exact g ⟨A,VA ⟨i,t,(y.bot c A).1⟩⟩
  rcases lW G (main:=J) (g:=[dC]) (base:=[]) n o y S with a2|⟨l,e,v,z,Z,k,U,new,a3,R,w,p,T⟩
  .simp_all
  obtain⟨Y,H,L,X,D,s,i,t,N,O,P,Q⟩:=W e z k R (n.jK o p) p.rel T;exact⟨Y,H,L,X,D,s,i,t,N,Ren.le_trans p.le O,P,p.later.trans Q⟩
theorem iz{a5:Ren}{x:K}{new a2:VD Wa}(Q:ma f m a)(a0:ko f m a)(o:bD f h a5 a x q U new a2)
 (Z:gJ f m a x):
 (∀b,m b->x.heap[b]?=a.heap[b]?)/\∀d∈new,d.write=J->∀b,m b->d.loc≠.obj b/\∀c,d.loc=.cell c->c.block≠b:=by
 obtain⟨b6,⟨Y,a1⟩,N⟩:=Z;have O:∀b,m b->∀d∈new,d.write=J->d.loc≠.obj b/\∀c,d.loc=.cell c->c.block≠b:=by
  intro b l d e i;obtain⟨S,g,t⟩:=Q b l;have D:=(Wh.1 g).1;cases S with
  |cells r H b0=>
   refine⟨λn=>o.qw d e i b n r H _ g,λc n p=>?_⟩;subst p;have b1:=o.wr d e i c n D;obtain⟨c1,a3,X,k,s⟩:=o.il d e i c n;obtain⟨c2,a9,y,L⟩:=o.pT _ r H _ g
   grind [World.frozen?]
  |map a7 b3=>
   have P:f.cj=Vz:=by
    rcases a0 with w|w
    .exact w
    grind
   have u:=N b l;rw[g]at u;have no:∀v,x.heap[b]?=C v->kD v=J->False:=by intro v k s;obtain⟨b4,y,L⟩:=a1 P b v k s;rw[u]at y;cases y;cases L
   refine⟨λn=>?_,λc n p=>?_⟩
   .obtain⟨v,k,s⟩:=o.nO P b ⟨d,e,i,n⟩;simp_all
   subst p;obtain⟨c1,a3,X,k,_⟩:=o.il d e i c n;exact no _ k A
  |_=>exact t.elim
 refine⟨λb l=>?_,λd e i b l=>O b l d e i⟩;obtain⟨S,g,t⟩:=Q b l;have D:=(Wh.1 g).1;rcases o.iB b D (λd e i=>O b l d e i)with w|⟨r,H,a8,W,k,s⟩
 .exact w
 rw[g]at k;cases k;obtain⟨t,b2,_⟩:=t;subst t;obtain⟨R,z⟩:=W;have u:=N b l;rw[g]at u
 have a4:∀c,(decide (R<=c)&&decide (c<z))=J->c<r.size:=by intro c p;have:=Y ⟨b,c,I⟩ (by unfold K.frozen?;rw[s];exact p);unfold K.frozen? at this;rw[u]at this;simp at this;exact this
 have T:∀c,c<r.size->R<=c/\c<z:=by intro c p;have:=o.jI ⟨b,c,I⟩ (by unfold K.frozen?;rw[g];simp;exact p);unfold K.frozen? at this;rw[s]at this;simpa using this
 have a6:=T (r.size-1) (by omega);have b5:=a4 (z-1) (by simp;omega)
 grind
def ys(b:VS)(f:Set)(n:VM->K->Prop)(base:VD VM)(m:E->Prop)(l:Ren)(g:K)(h:Ren)(a:K)(c:VO):Prop:=
 ∃e k,c=rg k base/\Shape e []/\bG b f Vz h e k/\Base b h/\l.le h/\(∀d i,h d i->l d i\/g.heap.size<=d)/\g.heap.size<=a.heap.size/\(∀d,m d->a.heap[d]?=g.heap[d]?)/\Tp (n e) a
theorem Cd(G:Good b f){z:VM->K->Prop}{base:VD VM}{y:Ren}{l:K}(c6:ma f m l)(b8:ko f m l)
 (b6:∀n p W g U,Shape p []->bG b f Vz n p W->Base b n->aU f n g U->y.le n->Tp (z p) g->gJ f m l g)
 {i:VM}{s:VD VM}(o:yu b z i s a):∀{h:Ren}{v:VM}{t:VD VM},Base b h->cO b f Vz h (i::s) (v::t)->(∀e,m e->a.heap[e]?=l.heap[e]?)->
 y.le h->(∀e u,h e u->y e u\/l.heap.size<=e)->l.heap.size<=a.heap.size->wu b f main m (ys b f z base m y l) h a (rg v (t++base)):=by
 induction o with
 |@stop i s a o Q=>
  intro h v t H x r L P R;obtain⟨b3,O⟩:=o;subst b3;have b4:t=[]:=by cases x.tail;rfl
  subst b4;exact .stop ⟨i,v,A,⟨A,O⟩,x.head,H,L,P,R,r,Q⟩
 |@step i s a o d5 c7 c8=>
  intro h v t H x r L P R
  have b9:¬(s=[]/\i.mode≠.run/\i.defers=[]):=by rintro⟨D,O,b2⟩;subst D;exact o ⟨A,VA ⟨O,b2,(x.bot i A).1⟩⟩
  refine .step A (λ_ n g b1=>wu b f main m (ys b f z base m y l) n g b1) (λq X=>?_) (λ_ _ _ _ o=>o);rcases lW G (main:=main) (g:=[dC]) (base:=base) H X x b9 with d6|⟨n,p,W,T,d3,g,U,new,c9,Z,Q,k,a0⟩
  .simp_all
  have Y:=H.jK X k;obtain⟨d2,a9,b0,d0,a1,a2,a3,a4,a5,a6,a7,a8⟩:=Bm G (c7 p T g Z) Y k.rel a0;have c0:=c6.keep r;have b7:=b8.keep r;obtain⟨d1,N,S⟩:=b6 d2 a9 b0 d0 a1 a2 a3 a4 a5 (Ren.le_trans L (Ren.le_trans k.le a6)) a7;obtain⟨N,S⟩:=iz c0 b7 k ⟨d1,a8.trans N,λe w=>by rw[S e w,r e w]⟩;refine⟨_,n,g,U,new,c9,Q,k,N,S,A,c8 p T g Z Y a0 (λe w=>by rw[N e w,r e w]) (Ren.le_trans L k.le) (λe u b5=>?_) (Wu R k.size)⟩;rcases k.fresh e u b5 with D|⟨D,_⟩
  .exact P e u D
  omega
def Qj(b:VS)(f:Set)(o:Vx->K->Prop)(d:VM)(p:VD VM)(m:E->Prop)(n:Ren)(e:K)(h:Ren)(a:K)(c:VO):Prop:=
 ∃i k,c=rg (d.finish k) p/\an f h i k/\Base b h/\n.le h/\(∀g l,h g l->n g l\/e.heap.size<=g)/\e.heap.size<=a.heap.size/\(∀d,m d->a.heap[d]?=e.heap[d]?)/\Tp (o i) a
theorem nC(G:Good b f){v:Vx->K->Prop}{p z:VM}(T:Base b h)(X:bG b f Vz h p z)(S:aU f h a q)(r:Tp (λa=>∃i,v i a/\p.leaving b a (VN i)) a):
 ∃fn i u w k U new t,b.funcs[p.fn]?=C fn/\(results fn z.tmps).runT b q #[]=(.ok u U,t.toArray)/\an f h i u/\bD f h w a k q U new t/\w=h/\k.heap=a.heap/\Tp (v i) k/\p.mode=.returning:=by
 obtain⟨y,o,r⟩:=r;obtain⟨b5,_,a1,_,_,fn,Y,_⟩:=r o λ_ _ _ _=>rfl;obtain⟨D,a6,L,a2⟩:=sound G.tW (th T fn X.tmps (f:=f)) a q #[] #[] S
 have H:∀l:E->Question->E,(∀e g,y<=e->e<a.drawn->l e g=o e g)->∃i,v i {a with tape:=l}/\(results fn p.tmps).run b {a with tape:=l}=.ok i {a with tape:=l}:=by intro l s;obtain⟨i,R,_,_,_,a8,b1,n⟩:=r l s;simp_all
 obtain⟨i,R,n⟩:=H (λe g=>if e<a.drawn then o e g else D e g) λe g _ P=>by rw[VV P]
 have Q:=L.2 (λe g=>if e<a.drawn then o e g else D e g) (λe g a0 _=>by grind);rw[<-H_ b _ _ #[],Q]at n;obtain⟨a4,N⟩:=a6;cases a4 with
 |halt b2 k=>simp_all [iK]
 |ok x k=>
  simp only[iK,Result.ok.injEq]at n;obtain⟨rfl,n⟩:=n;obtain⟨w,u,U,new,t,O,a7,⟨rfl,a3⟩,a5⟩:=a2;have Z:k.heap=a.heap:=by have:=VU World.heap n;exact this
  have W:k.drawn=a.drawn:=by have:=VU K.drawn n;exact this
  refine⟨fn,x,u,_,k,U,new,t,Y,by rw[O,Yf],a3,a5,A,Z,⟨y,o,λl s=>?_⟩,a1⟩;rw[W]at s;obtain⟨b6,b0,b4⟩:=H l s
  have a9:=L.2 l (λe g a0 b3=>by
   exfalso;have:dr (Result.ok x k,N)=k.drawn:=A
   omega)
  simp_all [iK]
theorem MV(G:Good b f){p:Vx->K->Prop}{e:VM}{k:VD VM}{s:Ren}{o:K}(a3:ma f m o)(a1:ko f m o)
 (d:ys b f (λl a=>∃n,p n a/\l.leaving b a (VN n)) (e::k) m s o h a c):wu b f main m (Qj b f p e k m s o) h a c:=by
 obtain⟨l,g,rfl,⟨_,a4⟩,i,u,Z,S,b4,v,t⟩:=d;have a5:l.mode≠.run/\l.defers=[]/\l.kind=.normal:=by
  rcases a4 with d|⟨d,_⟩
  .exact d
  obtain⟨b6,n,_,Y⟩:=t.one;rw[Y.1]at d;cases d
 obtain⟨b3,hd,W⟩:=a5;have P:g.defers=[]:=by have:=i.defers;rw[hd]at this;generalize g.defers=b1 at this;cases this;rfl
 have X:=i.kind▸W;refine .step A (λ_ z b0 L=>Qj b f p e k m s o z b0 L) (λq O=>?_) (λ_ _ _ _ d=>.stop d);obtain⟨fn,n,x,z,y,U,new,w,Q,H,a6,r,rfl,T,N,a2⟩:=nC G u i O t;have a0:g.mode=.returning:=by have:=i.mode;rw[a2]at this;cases d:g.mode<;>rw[d]at this<;>first|rfl|cases this
 have D:stepG b main (rg g (e::k)) q=unwind b main g (e::k) I q:=hY (by simp_all);have R:=i.fn▸Q
 have a9:stepG b main (rg g (e::k)) q=.go (rg (e.finish x) k) U (kept w).toArray:=by rw[D];simp only[unwind,P,a0,R,H,doReturn,X,GStep.after];rw[seen_eq G (i.fn▸i.mF) r.la];simp[rg]
 obtain⟨a7,a8⟩:=iz (a3.keep v) (a1.keep v) r ⟨y,.refl _,λb2 _=>by rw[T]⟩;exact⟨_,_,y,U,new,w,a9,r,a7,a8,A,n,x,A,a6,u,Z,S,by simp_all,λb1 b5=>by simp_all,N⟩
theorem Jw(G:Good b f){g:Wc}{p q:VE Vx}{d:Ending->K->Prop}{n:VM}{t:VD VM}(X:Tp (λa=>Calls b g p a d) a)(a5:∀a,¬d .outgrown a)(a6:∀l a,d l a->∃c,l=VN c)
 (Z:f.fn g=J)(T:Base b h)(S:ax f h p q)(w:ma f m a)(v:ko f m a)
 (Y:∀k c u e U,Base b k->aU f k e U->h.le k->an f k c u->Tp (d (VN c)) e->gJ f m a e):
 wu b f main m (Qj b f (λc a=>d (VN c) a) n t m h a) h a (rg (Frame.enter b g q .normal) (n::t)):=by
 have a3:=nY X a5 a6
 have a8:cO b f Vz h [Frame.enter b g p .normal] [Frame.enter b g q .normal]:=⟨.cons (bG.enter G Z S .normal (VA A)) .nil,λc9 o=>by simp only[v_,Wz]at o;subst o;exact⟨A,A⟩⟩
 have conv:∀i e,Ql b g d i e->∃c,d (VN c) e/\i.leaving b e (VN c):=by
  rintro i e⟨l,_,c0,_,r⟩
  grind
 have b3:=Cd (main:=main) (base:=n::t) (m:=m) (y:=h) (l:=a) G w v (z:=Ql b g d) (λk D b8 e U _ L r N O P=>by
  obtain⟨fn,c,u,d1,b4,y,new,c7,_,_,b0,x,rfl,c6,R,_⟩:=nC (v:=λc a=>d (VN c) a) G r L N (P.mono λa s=>conv D a s);obtain⟨b5,b1,b2⟩:=Y _ c u b4 y r x.rel O b0 R
  exact⟨b5,x.later.trans b1,b2⟩) a3 T a8 (λ_ _=>rfl) (Ren.le_refl _) (λn b7 H=>VA H) (Wl _)
 refine b3.bind λk e b9 o=>?_;obtain⟨i,z,l,a7,a0,W,a4,a1,a9,a2,Q⟩:=o;exact MV G w v ⟨i,z,l,a7,a0,W,a4,a1,a9,a2,Q.mono λa s=>conv i a s⟩
end
variable{i:E}{d:E}{c:VS}{b:VY}{j:E}
section
inductive dw where
 |iG (i:E)
 |ro
 |sync
 |void
 deriving DecidableEq
structure WD where
 ty:VJ
 Wg:E
 gv:E
 gs:Vx
 gb:E
 xH:VJ
 gn:E
 own:E->E->Prop
 gh:E->Obj->Prop:=λ_ _=>False
 g0:VL K:=I
structure dm where
 D:WD
 wt:E
 pend:E
 vb:E
 lo:E
 hi:E
 fin:E->VD (E×VE Vx)->K->Prop
structure bT where
 S:Set
 β:Ren
 w:K
 ro:E->Prop
 tag:VL dm:=I
def aA(b:Loc)(a:E):Prop:=b=.obj a\/∃c,b=.cell c/\c.block=a
def zr(B:E):Loc->Prop
 |.cell a=>a.block<B
 |.obj b=>b<B
 |_=>True
structure aV where
 W0:K
 GD:E->Prop
variable[Inhabited aV]
def dq:K:=(default:aV).W0
def GD:E->Prop:=(default:aV).GD
def PS(b:Loc):Prop:=∃a,aA b a/\a<dq.heap.size
structure TH(q:K)(R:Loc->dw):Prop where
 ro:∀l e,aA l e->e<dq.heap.size->R l=.ro
 heap:∀e,e<dq.heap.size->q.heap[e]?=dq.heap[e]?
 size:dq.heap.size<=q.heap.size
 os:q.os=dq.os
 out:q.output=dq.output
structure cR(b:VY)(q:K)(R:Loc->dw):Prop where
 clean:∀m,¬Race m b
 mine:∀g i,g.isMemory=J->R g=.iG i->Perm b i g
 low:∀i a,touchAt b i=C a->zr q.heap.size a.loc
 NJ:∀e a,touchAt b e=C a->a.loc.isMemory=J->R a.loc=.sync->a.kind=.atomic\/(a.kind=.said/\b.g? e=C 0)
 norel:∀l,NoRelease l b
 OH:∀(e:E) k a i,b[e]?=C k->k.act.touch?=C a->a.loc.isMemory=J->R a.loc=.iG i->k.g=i\/Knows b 0 e
 iU:∀e a,touchAt b e=C a->a.loc.isMemory=J->R a.loc≠.sync->b.heard e
 row:∀g,g.isMemory=J->R g=.ro->PermW b 0 g
 jH:TH q R
structure aH(c:VS)(b:VY)(q:K)(R:Loc->dw)(i:E)(a:bT):Prop where
 base:Base c a.β
 rel:aU a.S a.β a.w q
 cY:ma a.S a.ro a.w
 dv:∀g e,a.β g e->∀k,aA k e->R k=.iG i\/(R k=.ro/\a.ro g)
 dY:∀g e,a.β g e->∀k,aA k e->R k=.ro->PermW b i k
 low:dq.heap.size<=q.heap.size/\∀g e,a.β g e->e<dq.heap.size->GD g
def dw.more(R:Loc->dw)(i d k:E):Loc->dw:=λa=>
 match a with
 |.cell e=>if d<=e.block/\e.block<k then .iG i else R a
 |.obj g=>if d<=g/\g<k then .iG i else R a
 |_=>R a
theorem qp{R:Loc->dw}{e:E}{a:Loc}{b:E}(c:aA a b)(f:b<d):dw.more R i d e a=R a:=by
 rcases c with rfl|⟨g,rfl,rfl⟩
 .simp only[dw.more];grind
 simp only[dw.more];grind
theorem qo{R:Loc->dw}{c:E}{b:Loc}{a:E}(e:aA b a)(f:d<=a)(g:a<c):dw.more R i d c b=.iG i:=by
 rcases e with rfl|⟨h,rfl,rfl⟩
 .simp only[dw.more];rw[VV ⟨f,g⟩]
 simp_all [dw.more]
section
variable{R:Loc->dw}
theorem vU{a:Wa}{d:Touch}(b:(Wf a).touch?=C d):(d.loc=a.loc/\d.write=a.write/\∀c,a.loc≠.mark c)\/∃c,a.loc=.mark c:=by
 obtain⟨e,wr,f⟩:=a;cases e with
 |mark c=>simp
 |obj h=>cases wr<;>cases f<;>simp[Wf,MemAct.touch?]at b<;>(grind)
 |cell g=>simp[Wf,MemAct.touch?]at b;grind
 |output=>simp[Wf,MemAct.touch?]at b;grind
 |goroutines=>simp[Wf,MemAct.touch?]at b;grind
theorem vV{a:Wa}{e:Mark}(k:zx f e=J)(g:a.loc=.mark e):(Wf a).touch?=I:=by obtain⟨l,wr,m⟩:=a;simp only at g;subst g;cases e<;>first|(cases k;done)|rfl
theorem iv{f a:Type}{b:f->a->Prop}{c:VD f}{d:VD a}(g:aZ b c d){e:a}(h:e∈d):∃k∈c,b k e:=by
 induction g with
 |nil=>cases h
 |cons l _ m=>grind
theorem vR{g:bT}(u:aH c b q R i g){D:Ren}{a1:K}{new v:VD Wa}(x:bD g.S g.β D g.w a1 q U new v)
 (S:∀h∈new,h.write=J->∀a,g.ro a->h.loc≠.obj a/\∀e,h.loc=.cell e->e.block≠a){fn:Wc}{a0:String}{w:MemOp}(Q:w∈VZ i fn a0 (kept v).toArray){e:Touch}(X:w.act.touch?=C e):
 w.g=i/\(e.loc.isMemory=J->∃d,aA e.loc d/\d<U.heap.size/\(q.heap.size<=d\/(d<q.heap.size/\(R e.loc=.iG i\/(R e.loc=.ro/\e.write=Vz/\PermW b i e.loc/\∃a,g.β a d/\g.ro a))))):=by
 obtain⟨h,a3,rfl⟩:=Go.Conc.mem_ofEvents Q;refine⟨A,λt=>?_⟩;have P:h∈v:=by simp_all [kept]
 obtain⟨k,N,hrel⟩:=iv x.la P;rcases vU X with⟨o,H,a2⟩|⟨a6,o⟩
 .have n:∀a d,D a d->(k.loc=.obj a\/∃r,k.loc=.cell r/\r.block=a)->aA e.loc d->∃d,aA e.loc d/\d<U.heap.size/\(q.heap.size<=d\/(d<q.heap.size/\(R e.loc=.iG i\/(R e.loc=.ro/\e.write=Vz/\PermW b i e.loc/\∃a,g.β a d/\g.ro a)))):=by
   intro a d z m s;refine⟨d,s,x.rel.right z,?_⟩;rcases x.fresh a d z with l|⟨_,l⟩
   .right;refine⟨u.rel.right l,?_⟩;rcases u.dv a d l e.loc s with p|⟨p,y⟩
    .exact VA p
    right;refine⟨p,?_,u.dY a d l e.loc s p,a,l,y⟩;rw[H];cases T:h.write with
    |false=>rfl
    |true=>
     have W:k.write=J:=by rw[hrel.2.1];exact T
     have:=S k N W a y;rcases m with m|⟨r,m,O⟩
     .exact absurd m this.1
     exact absurd O (this.2 r m)
   exact VA l
  have f:=hrel.1;rw[o];rw[o]at n t;generalize a4:k.loc=Z at f n;generalize a5:h.loc=Y at f n t;cases Z<;>cases Y<;>simp only[ed]at f
  .exact n _ _ f.1 (VC ⟨_,A,A⟩) (VC ⟨_,A,A⟩)
  .exact n _ _ f (VA A) (VA A)
  .cases t
  simp_all
 have f:=hrel.1;rw[o]at f;cases L:k.loc<;>rw[L]at f<;>simp only[ed]at f
 grind [vV]
theorem bj{b:Loc}{a B:E}(c:aA b a):zr B b↔a<B:=by rcases c with rfl|⟨d,rfl,rfl⟩<;>exact Iff.rfl
theorem bP{a:Loc}{b:E}(c:aA a b):a.isMemory=J:=by rcases c with rfl|⟨d,rfl,_⟩<;>rfl
theorem df{d:Loc}{b c:E}(e:aA d b)(a:aA d c):b=c:=by rcases e with rfl|⟨f,rfl,rfl⟩<;>rcases a with a|⟨g,a,rfl⟩<;>cases a<;>rfl
theorem cM{a:Loc}(c:a.isMemory=J):∃b,aA a b:=by
 cases a with
 |cell d=>exact⟨_,VC ⟨_,A,A⟩⟩
 |obj b=>exact⟨_,VA A⟩
 |_=>cases c
structure jM(b:VY)(q U:K)(R n:Loc->dw)(i:E)(m:VY):Prop where
 size:q.heap.size<=U.heap.size
 os:U.os=q.os
 heap:∀e,e<q.heap.size->R (.obj e)=.iG i\/(R (.obj e)=.sync\/R (.obj e)=.void)\/U.heap[e]?=q.heap[e]?\/False
 old:∀l e,aA l e->e<q.heap.size->n l=R l
 new:∀l e,aA l e->q.heap.size<=e->e<U.heap.size->n l=.iG i
 touch:∀k∈m,∀g,k.act.touch?=C g->g.loc.isMemory=J->k.g=i/\∃e,aA g.loc e/\e<U.heap.size/\
  (q.heap.size<=e\/(e<q.heap.size/\(R g.loc=.iG i\/(R g.loc=.ro/\g.write=Vz/\PermW b i g.loc)\/(R g.loc=.sync/\(g.kind=.atomic\/(g.kind=.said/\i=0))))))
 norel:∀k∈m,∀a,k.act≠.mark (.release a)
 iU:(∀k∈m,∀g,k.act.touch?=C g->g.loc.isMemory=J->n g.loc=.sync)\/(Deaf b i=0/\∀k∈m,k.g=i/\k.act≠.mark .disable/\k.act≠.mark .enable)
 out:U.output=q.output
theorem TH.step{b r:VY}{q U:K}{R n:Loc->dw}{i:E}(e:TH q R)(l:jM b q U R n i r):TH U n where
 ro:=λp g o k=>by rw[l.old p g o (Ws k e.size)];exact e.ro p g o k
 heap:=λg k=>by
  have m:=e.ro (.obj g) g (VA A) k;rcases l.heap g (Ws k e.size)with a|(a|a)|a|a
  .rw[m]at a;cases a
  .rw[m]at a;cases a
  .rw[m]at a;cases a
  .exact a.trans (e.heap g k)
  simp_all
 size:=Wu e.size l.size
 os:=l.os.trans e.os
 out:=l.out.trans e.out
theorem sW{p:VI}{g:VY}{r:E}(z:¬Race p b)(Q:∀l∈g,∀m,l.act.touch?=C m->m.loc.isMemory=J->l.g=r)
 (N:∀i e,touchAt b i=C e->∀l∈g,∀a,l.act.touch?=C a->e.conflicts p a->Knows b r i):¬Race p (b++g):=by
 rintro⟨i,j,s,⟨e,a,D,H,k⟩,x,W⟩;obtain⟨m,S,T⟩:=Ys D;obtain⟨y,u,v⟩:=Ys H;have O:=k.2.1;have P:a.loc.isMemory=J:=k.1▸O;rcases Wp u with⟨o,Y⟩|⟨o,w⟩
 .have L:i<b.size:=E.lt_trans s o;have t:b[i]?=C m:=by grind
  exact z ⟨i,j,s,⟨e,a,by simp_all [VY.act?],by simp_all [VY.act?],k⟩,λn=>x (hb_app g n),λn=>W (hb_app g n)⟩
 rcases Wp S with⟨L,t⟩|⟨_,X⟩
 .exact x ((N i e (by rw[Xm t];exact T) y w a v k).hb_new o u (Q y w a v P))
 simp_all [hb_po]
theorem fy{c:VY}{a:E}{d:MemOp}(e:(b++c)[a]?=C d):(b++c).g? a=C d.g:=by simp[VY.g?,e]
theorem pU{a:VY}(e:Deaf b i=0)(g:∀d∈a,d.g=i/\d.act≠.mark .disable/\d.act≠.mark .enable):∀j,j<=a.size->(b++a).deaf i (b.size+j)=0
 |0,_=>by rw[E.add_zero,deaf_old (Wl _)];exact e
 |j+1,m=>by
  have f:j<a.size:=by omega
  have l:(b++a)[b.size+j]?=C a[j]:=by rw[YV (by omega),show b.size+j-b.size=j by omega,Wj f]
  rw[<-Y_,deaf_succ l,pU e g j (by omega)];obtain⟨_,h,k⟩:=g a[j] (VE.getElem_mem f);unfold deafStep;split
  .rename_i c;exact absurd c h
  .rename_i c;exact absurd c k
  rfl
theorem cR.step{U:K}{a1:Loc->dw}{i:E}{Q:VY}(G:cR b q R)(k:jM b q U R a1 i Q):cR (b++Q) U a1 where
 jH:=G.jH.step k
 clean:=by
  intro b3;refine sW (r:=i) (G.clean b3) (λy z n p v=>(k.touch y z n p v).1) λa g t y z s l b0=>?_;obtain⟨m,v,c0,P⟩:=b0;have a7:s.loc.isMemory=J:=m▸v;obtain⟨W,r,X,a3,Y⟩:=k.touch y z s l a7;rcases Y with Y|⟨Y,T|⟨T,a8,a9⟩|⟨T,a8⟩⟩
  .have:=G.low a g t;rw[m,bj X]at this;omega
  .exact G.mine _ _ a7 T a g t m
  .refine a9 a g t m ?_;simp_all
  have b6:=G.NJ a g t v (by rw[m];exact T)
  grind [Trace.g?,knows_own]
 mine:=by
  intro x j L m a g t w;obtain⟨n,p,D⟩:=Ys t;obtain⟨s,l⟩:=cM L;rcases Wp p with⟨P,a0⟩|⟨_,N⟩
  .have o:=G.low a g (by simp_all [Xm]);rw[w,bj l]at o;rw[k.old x s l o]at m;exact(G.mine x j L m a g (by simp_all [Xm]) w).app Q
  obtain⟨W,r,q1,H,e⟩:=k.touch n N g D (w▸L);rw[w]at q1;have:=df q1 l;subst this;have b8:j=i:=by
   rcases e with e|⟨O,e⟩
   .rw[k.new x r l e H]at m;cases m;rfl
   rw[k.old x r l O]at m;rw[w,m]at e;rcases e with e|⟨e,_⟩|⟨e,_⟩<;>cases e
   rfl
  grind [knows_own]
 row:=by
  intro x L m a g t w b2;obtain⟨n,p,D⟩:=Ys t;obtain⟨s,l⟩:=cM L;rcases Wp p with⟨P,a0⟩|⟨_,N⟩
  .have o:=G.low a g (by simp_all [Xm]);rw[w,bj l]at o;rw[k.old x s l o]at m;exact(G.row x L m a g (by simp_all [Xm]) w b2).app Q
  obtain⟨W,r,q1,H,e⟩:=k.touch n N g D (w▸L);rw[w]at q1;have:=df q1 l;subst this;rcases e with e|⟨O,e⟩
  .rw[k.new x r l e H]at m;cases m
  rw[k.old x r l O]at m;simp_all
 low:=by
  intro a g t;obtain⟨n,p,D⟩:=Ys t;rcases Wp p with⟨P,a0⟩|⟨_,N⟩
  .have:=G.low a g (by simp_all [Xm]);have b9:=k.size;cases m:g.loc<;>rw[m]at this<;>simp only[zr]at this⊢<;>omega
  by_cases S:g.loc.isMemory=J
  .obtain⟨_,r,q1,H,e⟩:=k.touch n N g D S
   grind [bj]
  cases m:g.loc<;>rw[m]at S<;>first|exact absurd rfl S|trivial
 NJ:=by
  intro a g t Z u;obtain⟨n,p,D⟩:=Ys t;rcases Wp p with⟨P,a0⟩|⟨_,N⟩
  .have o:=G.low a g (by simp_all [Xm]);have gk:(b++Q).g? a=b.g? a:=by simp_all [VY.g?]
   rw[gk];refine G.NJ a g (by simp_all [Xm]) Z ?_;obtain⟨s,l⟩:=cM Z;rw[bj l]at o;rw[<-k.old _ s l o];exact u
  have S:=Z;obtain⟨W,r,q1,H,e⟩:=k.touch n N g D S;rcases e with e|⟨O,e⟩
  .rw[k.new _ r q1 e H]at u;cases u
  rw[k.old _ r q1 O]at u;simp_all [fy]
 norel:=λg=>(G.norel g).app λy z=>k.norel y z g
 iU:=by
  intro a n p v u;obtain⟨y,z,D⟩:=Ys p;rcases Wp z with⟨a6,a4⟩|⟨b7,a5⟩
  .have o:=G.low a n (by simp_all [Xm]);obtain⟨s,l⟩:=cM v;rw[bj l]at o;rw[k.old _ s l o]at u;exact(Yg a6).2 (G.iU a n (by simp_all [Xm]) v u)
  rcases k.iU with a2|⟨X,a3⟩
  .grind
  have b1:=ZU z;rw[YD]at b1;have:=pU X a3 (a-b.size) (by omega);rw[show b.size+(a-b.size)=a by omega]at this;exact⟨i,by simp_all [VY.g?],this⟩
 OH:=by
  intro a y n j P p v u;rcases Wp P with⟨a6,a4⟩|⟨_,a5⟩
  .have o:=G.low a n (by simp_all [Xm]);obtain⟨s,l⟩:=cM v;rw[bj l]at o;rw[k.old _ s l o]at u;exact(G.OH a y n j a4 p v u).imp id λa2=>a2.app Q
  obtain⟨W,r,q1,H,e⟩:=k.touch y a5 n p v;left;rcases e with e|⟨O,e⟩
  .rw[k.new _ r q1 e H]at u;simp_all
  rw[k.old _ r q1 O]at u;simp_all
theorem fC{a:Wa}{c:Mark}(b:Wf a=.mark c):a.loc=.mark c:=by obtain⟨d,wr,e⟩:=a;cases d<;>cases wr<;>cases e<;>simp[Wf]at b<;>(subst b;rfl)
theorem DX{new c:VD Wa}(b:aZ (lP f h) new c)(i:E)(fn:Wc)(q:String):∀e∈VZ i fn q (kept c).toArray,∀d,e.act≠.mark (.release d):=by
 intro e o d l;obtain⟨g,s,rfl⟩:=Go.Conc.mem_ofEvents o;have m:g∈c:=by simp_all [kept]
 obtain⟨k,r,p⟩:=iv b m;have a:=p.1;rw[fC l]at a;cases b:k.loc<;>rw[b]at a<;>simp only[ed]at a;obtain⟨rfl,n⟩:=a;cases n
theorem BE{R:Loc->dw}{f:E}:∀a b,aA a b->b<d->dw.more R i d f a=R a:=λa b c e=>qp c e
theorem fQ{g:bT}(y:aH c b q R i g){u:Ren}{H:K}{new s:VD Wa}(n:bD g.S g.β u g.w H q U new s){a:E}(x:a<q.heap.size)(k:R (.obj a)=.sync\/R (.obj a)=.void):U.heap[a]?=q.heap[a]?:=by
 have no:∀d,g.β d a->False:=λd f=>by rcases k with k|k<;>rcases y.dv d a f (.obj a) (VA A)with l|⟨l,_⟩<;>(rw[k]at l;cases l)
 have t:∀d,u d a->False:=λd f=>by
  rcases n.fresh d a f with r|⟨_,r⟩
  .exact no d r
  omega
 have D:∀h∈s,h.write=J->h.loc≠.obj a/\∀o,h.loc=.cell o->o.block≠a:=by
  intro h w P;obtain⟨p,N,hrel⟩:=iv n.la w;have e:=hrel.1;refine⟨λm=>?_,λo m z=>?_⟩
  .rw[m]at e;cases f:p.loc<;>rw[f]at e<;>simp only[ed]at e;exact t _ e
  rw[m]at e;subst z;cases f:p.loc<;>rw[f]at e<;>simp only[ed]at e;exact t _ e.1
 rcases n.same a x D with v|⟨⟨L,O,_⟩,_⟩
 .exact v
 simp_all
theorem fu{h:bT}(s:aH c b q R i h){H:Ren}{z:K}{new r:VD Wa}(k:bD h.S h.β H h.w z q U new r)
 (b5:∀l,h.ro l->z.heap[l]?=h.w.heap[l]?)(b4:∀f∈new,f.write=J->∀l,h.ro l->f.loc≠.obj l/\∀n,f.loc=.cell n->n.block≠l)(Y:Deaf b i=0)(fn:Wc)(a9:String):
 jM b q U R (dw.more R i q.heap.size U.heap.size) i (VZ i fn a9 (kept r).toArray) where
 size:=k.um
 os:=k.os
 norel:=DX k.la _ _ _
 iU:=VC ⟨Y,λa7 y=>by
  obtain⟨f,w,rfl⟩:=Go.Conc.mem_ofEvents y;have Z:f∈r:=by simp_all [kept]
  obtain⟨m,L,a1⟩:=iv k.la Z;have a:=a1.1;refine⟨A,λu=>?_,λu=>?_⟩<;>
  .rw[fC u]at a;cases g:m.loc<;>rw[g]at a<;>simp only[ed]at a;obtain⟨rfl,x⟩:=a
   cases x⟩
 old:=BE
 new:=λb8 d g N O=>qo g N O
 touch:=λa7 y n p x=>by grind [vR]
 heap:=by
  intro d a0;by_cases v:R (.obj d)=.iG i
  .simp_all
  right;have a6:∀f∈r,f.write=J->f.loc≠.obj d/\∀n,f.loc=.cell n->n.block≠d:=by
   intro f w a3;obtain⟨m,L,hrel⟩:=iv k.la w;have b6:m.write=J:=by rw[hrel.2.1];exact a3
   have a5:∀e,H e d->(m.loc=.obj e\/∃D,m.loc=.cell D/\D.block=e)->False:=by
    intro e W Q;rcases k.fresh e d W with t|⟨_,t⟩
    .rcases s.dv e d t (.obj d) (VA A)with o|⟨_,o⟩
     .exact v o
     grind
    omega
   have a:=hrel.1;refine⟨λp=>?_,λn p a4=>?_⟩
   .rw[p]at a;cases g:m.loc<;>rw[g]at a<;>simp only[ed]at a
    grind
   rw[p]at a;subst a4;cases g:m.loc<;>rw[g]at a<;>simp only[ed]at a;exact a5 _ a.1 (VC ⟨_,g,A⟩)
  rcases k.same d a0 a6 with P|⟨⟨e,T,X⟩,b0,d0,b1,b2,b7,P,Q⟩
  .simp_all
  exfalso;have a2:h.ro e:=by
   rcases s.dv e d T (.obj d) (VA A)with o|⟨o,S⟩
   .exact absurd o v
   exact S
  obtain⟨c0,a8,c7⟩:=s.cY e a2;obtain⟨cl,tl,b3,q1,c8⟩:=X (Wh.1 a8).1
  grind
 out:=k.out
theorem pn{e:Loc->dw}{d:VY}(k:jM b q U R e i d){a:Loc}(g:a.isMemory=J)(s:R a=.ro){c:E}(r:aA a c)(t:c<q.heap.size)(f:PermW b j a):PermW (b++d) j a:=by
 refine f.app λn h o l m u=>?_;obtain⟨_,p,q1,v,w⟩:=k.touch n h o l (m▸g)
 grind [df]
theorem aH.own{m:bT}(f:aH c b q R i m){u:Ren}{r:K}{new x:VD Wa}(n:bD m.S m.β u m.w r q U new x)
 (w:∀d,m.ro d->r.heap[d]?=m.w.heap[d]?){s:Loc->dw}{t:VY}(o:jM b q U R s i t):aH c (b++t) U s i {m with β:=u,w:=r} where
 base:=f.base.jK f.rel n
 low:=⟨Wu f.low.1 o.size,λd e k v=>by
  rcases n.fresh d e k with a|⟨_,a⟩
  .exact f.low.2 d e a v
  have:=f.low.1;omega⟩
 rel:=n.rel
 cY:=f.cY.keep w
 dv:=by
  intro d e k l g;rcases n.fresh d e k with a|⟨_,a⟩
  .rw[o.old l e g (f.rel.right a)];exact f.dv d e a l g
  exact VA (o.new l e g a (n.rel.right k))
 dY:=by
  intro d e k l g p;rcases n.fresh d e k with a|⟨_,a⟩
  .rw[o.old l e g (f.rel.right a)]at p;exact pn o (bP g) p g (f.rel.right a) (f.dY d e a l g p)
  rw[o.new l e g a (n.rel.right k)]at p;cases p
theorem aH.stay{p:bT}(e:aH c b q R j p){r:Loc->dw}{t:VY}(m:jM b q U R r i t)(x:∀g a,p.β g a->U.heap[a]?=q.heap[a]?):aH c (b++t) U r j p where
 base:=e.base
 low:=⟨Wu e.low.1 m.size,e.low.2⟩
 cY:=e.cY
 dv:=by intro g a k n l;rw[m.old n a l (e.rel.right k)];exact e.dv g a k n l
 dY:=by intro g a k n l o;have s:=e.rel.right k;rw[m.old n a l s]at o;exact pn m (bP l) o l s (e.dY g a k n l o)
 rel:=⟨e.rel.inj,λg a k=>by
  obtain⟨y,z,u,v,w⟩:=e.rel.obj g a k
  grind,by rw[e.rel.os,m.os]⟩
theorem aH.other(D:i≠j){v:bT}(a:aH c b q R j v){t:Loc->dw}{w:VY}(o:jM b q U R t i w):aH c (b++w) U t j v where
 base:=a.base
 low:=⟨Wu a.low.1 o.size,a.low.2⟩
 cY:=a.cY
 dv:=by intro n e l p m;rw[o.old p e m (a.rel.right l)];exact a.dv n e l p m
 dY:=by intro n e l p m s;have r:=a.rel.right l;rw[o.old p e m r]at s;exact pn o (bP m) s m r (a.dY n e l p m s)
 rel:=by
  refine⟨a.rel.inj,λn e l=>?_,by rw[a.rel.os,o.os]⟩;obtain⟨H,L,x,y,z⟩:=a.rel.obj n e l;have r:=a.rel.right l;have u:=a.dv n e l (.obj e) (VA A);rcases o.heap e r with g|g|g|g
  .rcases u with k|⟨k,_⟩
   .rw[g]at k;cases k;exact absurd A D
   rw[g]at k;cases k
  .rcases g with g|g<;>rcases u with k|⟨k,_⟩<;>(rw[g]at k;cases k)
  .exact⟨H,L,x,by rw[g];exact y,z⟩
  simp_all
end
end
variable{b:VS}{c:VO}{a:VY}{R:Loc->dw}{y:bT}{T:VE VO}
section
variable[Inhabited aV]
inductive Tr where
 |leaf
 |node (g:K->Tr)
inductive Tr.lt:Tr->Tr->Prop
 |mk (g:K->Tr) (q:K):Tr.lt (g q) (.node g)
theorem Tr.acc:∀a:Tr,Acc Tr.lt a
 |.leaf=>⟨_,λd b=>by cases b⟩
 |.node c=>⟨_,λd b=>by cases b with|mk _ q=>exact Tr.acc (c q)⟩
theorem Tr.wf:WellFounded Tr.lt:=⟨Tr.acc⟩
inductive NS{g i:Type}(p:g->g->Prop)(y:i->i->Prop):g×i->g×i->Prop
 |left {n r:g} {o:i} (t:p r n):NS p y (r,o) (n,o)
 |right {n:g} {o s:i} (t:y s o):NS p y (n,s) (n,o)
theorem NS.acc{d e:Type}{f:d->d->Prop}{y:e->e->Prop}{c:d}(g:Acc f c):∀{b:e},Acc y b->Acc (NS f y) (c,b):=by
 induction g with
 |intro c _ k=>
  intro b h
  induction h with
  |intro b i l=>
   refine⟨_,λm a=>?_⟩;cases a with
   |left a=>exact k _ a ⟨_,i⟩
   |right a=>exact l _ a
theorem NS.wf{b c:Type}{a:b->b->Prop}{y:c->c->Prop}(f:WellFounded a)(g:WellFounded y):WellFounded (NS a y):=⟨λ⟨d,e⟩=>NS.acc (f.apply d) (g.apply e)⟩
inductive dU{g:Type}(o:g->g->Prop):VD g->VD g->Prop
 |head {i p:g} {n:VD g} (s:o p i):dU o (p::n) (i::n)
 |tail {i:g} {n r:VD g} (s:dU o r n):dU o (i::r) (i::n)
theorem dU.acc{c:Type}{f:c->c->Prop}(e:WellFounded f):∀b:VD c,Acc (dU f) b
 |[]=>⟨_,λm a=>by cases a⟩
 |d::b=>by
  have g:=e.apply d;have h:=dU.acc e b
  induction g generalizing b with
  |intro d _ k=>
   induction h with
   |intro b i l=>
    refine⟨_,λm a=>?_⟩;cases a with
    |head a=>exact k _ a b ⟨_,i⟩
    |tail a=>exact l _ a
theorem dU.wf{b:Type}{a:b->b->Prop}(c:WellFounded a):WellFounded (dU a):=⟨dU.acc c⟩
theorem dU.set{f:Type}{h:f->f->Prop}:∀{e:VD f}{d:E}{b c:f},e[d]?=C b->h c b->dU h (e.set d c) e
 |[],d,b,c,a,_=>by simp at a
 |i::e,0,b,c,a,g=>by simp at a;subst a;exact .head g
 |i::e,d+1,b,c,a,g=>by simp at a;exact .tail (dU.set a g)
def Kr(b:VS)(f:Set)(main:VI)(m:E->Prop)(Stop:Ren->K->VO->Prop):Tr->Ren->K->VO->Prop
 |.leaf,h,e,c=>Stop h e c
 |.node o,h,e,c=>Stop h e c\/(c.status=.running/\∀q,aU f h e q->∃g n i U new k,stepG b main c q=.go g U (kept k).toArray/\bD f h n e i q U new k/\(∀a,m a->i.heap[a]?=e.heap[a]?)/\
   (∀d∈new,d.write=J->∀a,m a->d.loc≠.obj a/\∀l,d.loc=.cell l->l.block≠a)/\g.status=.running/\Kr b f main m Stop (o q) n i g)
theorem wu.tree{main:VI}{Stop:Ren->K->VO->Prop}(d:wu b f main m Stop h e c):∃k,Kr b f main m Stop k h e c:=by
 induction d with
 |stop d=>exact⟨.leaf,d⟩
 |@step h e c D L d _ H=>
  have r:∀q,∃k,aU f h e q->∃g l i U new o,stepG b main c q=.go g U (kept o).toArray/\bD f h l e i q U new o/\(∀a,m a->i.heap[a]?=e.heap[a]?)/\
   (∀p∈new,p.write=J->∀a,m a->p.loc≠.obj a/\∀s,p.loc=.cell s->s.block≠a)/\g.status=.running/\Kr b f main m Stop k l i g:=by
   intro q;by_cases n:aU f h e q
   .obtain⟨g,l,i,U,new,o,t,u,v,w,x,y⟩:=d q n;obtain⟨k,z⟩:=H q l i g y;exact⟨k,λ_=>⟨g,l,i,U,new,o,t,u,v,w,x,z⟩⟩
   exact⟨.leaf,λd=>absurd d n⟩
  exact⟨.node λq=>Classical.choose (r q),VC ⟨D,λq n=>Classical.choose_spec (r q) n⟩⟩
structure ui(b:VS)(l:Type) where
 lt:l->l->Prop
 wf:WellFounded lt
 Ok:l->VE VO->K->VY->(Loc->dw)->bT->Prop
 awake:∀{g T q a R y},Ok g T q a R y->∀d c,0<d->T[d]?=C c->awake c
 at_:∀{g T q a R y}(z:E),Ok g T q a R y->Ok g T (q.at z) a R y
 step:∀{g T q a R y i d c}(v:VL (E×E)),Ok g T q a R y->cR a q R->aH b a q R 0 y->T[0]?=C i->i.status=.running->0<d->T[d]?=C c->c.status=.running->
  ∃t r U o p,runT b (crowd T q v) d=(.next (crowd r U v),o)/\lt t g/\r[0]?=C i/\Ok t r U (a++o) p y/\cR (a++o) U p/\aH b (a++o) U p 0 y/\Deaf (a++o) 0=Deaf a 0
 main:∀{g T q a R y i g₁ x s U new u},Ok g T q a R y->cR a q R->aH b a q R 0 y->T[0]?=C i->Deaf a 0=0->i.status=.running->g₁.status=.running->bD y.S y.β x y.w s q U new u->(∀n,y.ro n->s.heap[n]?=y.w.heap[n]?)->
  (∀g∈new,g.write=J->∀n,y.ro n->g.loc≠.obj n/\∀w,g.loc=.cell w->w.block≠n)->
  Ok g ((T.map (woken b i g₁ U)).setIfInBounds 0 g₁) U (a++VZ 0 i.frame.fn i.frame.place (kept u).toArray) (dw.more R 0 q.heap.size U.heap.size) {y with β:=x,w:=s}
structure dJ{b:VS}{l:Type}(k:ui b l)(g:E)(i:l)(T:VE VO)(q:K)(a:VY)(R:Loc->dw)(y:bT)(c:VO):Prop where
 ok:k.Ok i T q a R y
 bF:cR a q R
 bg:aH b a q R 0 y
 me:T[0]?=C c
 hears:Deaf a 0=g
section
variable{l:Type}{k:ui b l}
theorem aH.at(c:aH b a q R d y)(e:E):aH b a (q.at e) R d y:=
 ⟨c.base,⟨c.rel.inj,c.rel.obj,c.rel.os⟩,c.cY,c.dv,c.dY,c.low⟩
theorem cR.at(b:cR a q R)(c:E):cR a (q.at c) R:=⟨b.clean,b.mine,b.low,b.NJ,b.norel,b.OH,b.iU,b.row,⟨b.jH.ro,b.jH.heap,b.jH.size,b.jH.os,b.jH.out⟩⟩
def cd(b:VS)(T:VE VO)(q:K)(i:VL (E×E))(a:VY)(g:VE VO->K->VL (E×E)->VY->Prop):Prop:=
 ∃h d c e f,runNT b h (crowd T q i) a=(.next (crowd d c e),f)/\g d c e f
theorem cd.now{c:VL (E×E)}{d:VE VO->K->VL (E×E)->VY->Prop}(e:d T q c a):cd b T q c a d:=⟨0,T,q,c,a,A,e⟩
theorem cd.head{d:VE VO}{e f:VL (E×E)}{g:VY}{c:VE VO->K->VL (E×E)->VY->Prop}(l:stepT b (crowd T q e)=(.next (crowd d U f),g))(m:cd b d U f (a++g) c):cd b T q e a c:=by obtain⟨h,k,i,p,r,n,o⟩:=m;exact⟨h+1,k,i,p,r,by simp only[runNT,l];exact n,o⟩
theorem cd.bind{c:VL (E×E)}{d e:VE VO->K->VL (E×E)->VY->Prop}(k:cd b T q c a d)(p:∀T q c a,d T q c a->cd b T q c a e):cd b T q c a e:=by obtain⟨g,u,t,v,w,l,m⟩:=k;obtain⟨f,i,h,r,s,n,o⟩:=p _ _ _ _ m;refine⟨g+f,i,h,r,s,?_,o⟩;rw[runNT_add,l];exact n
theorem HY{new c:VD Wa}(d:aZ (lP f h) new c):∀a∈(kept c).toArray,a.loc≠.mark .disable/\a.loc≠.mark .enable:=by
 intro a g;have i:a∈c:=by
  have:a∈kept c:=by simpa using g
  exact(YB.1 this).1
 obtain⟨e,n,l⟩:=iv d i;have b:=l.1;constructor<;>(intro m;rw[m]at b;cases d:e.loc<;>rw[d]at b<;>simp only[ed]at b;obtain⟨rfl,k⟩:=b;cases k)
theorem jc{new e:VD Wa}(g:aZ (lP f h) new e)(a:VY)(d j:E)(fn:Wc)(k:String):Deaf (a++VZ d fn k (kept e).toArray) j=Deaf a j:=by
 by_cases c:j=d
 .subst c;rw[Yt];exact w_ (HY g) _
 exact Yy a (g':=d) (λb=>c b.symm) _ (λm i=>by obtain⟨b,_,rfl⟩:=Go.Conc.mem_ofEvents i;rfl)
theorem xS{Stop:Ren->K->VO->Prop}:∀(L:Tr)(x:l)(T:VE VO)(q:K)(o:VL (E×E))(a:VY)(R:Loc->dw)(y:bT)(c:VO),
 dJ k 0 x T q a R y c->Kr b y.S J y.ro Stop L y.β y.w c->c.status=.running->
 cd b T q o a λp t _ w=>∃n m f g,dJ k 0 n p t w m f g/\Stop f.β f.w g/\f.S=y.S/\f.ro=y.ro/\f.tag=y.tag:=by
 have wf:=NS.wf Tr.wf k.wf
 have b8:∀(r:Tr×l)(T:VE VO)(q:K)(o:VL (E×E))(a:VY)(R:Loc->dw)(y:bT)(c:VO),
  dJ k 0 r.2 T q a R y c->Kr b y.S J y.ro Stop r.1 y.β y.w c->c.status=.running->
  cd b T q o a λp t _ w=>∃n m f g,dJ k 0 n p t w m f g/\Stop f.β f.w g/\f.S=y.S/\f.ro=y.ro/\f.tag=y.tag:=by
  intro r
  induction wf.apply r with
  |intro r _ a9=>
   obtain⟨L,x⟩:=r;intro T q o a R y c i v D
   have b0:Stop y.β y.w c->cd b T q o a λp t _ w=>∃n m f g,dJ k 0 n p t w m f g/\Stop f.β f.w g/\f.S=y.S/\f.ro=y.ro/\f.tag=y.tag:=
    λb1=>.now ⟨x,R,y,c,i,b1,A,A,A⟩
   cases L with
   |leaf=>exact b0 v
   |node S=>
    rcases v with v|⟨_,v⟩
    .exact b0 v
    have b3:∀r∈T,Go.Conc.awake r:=by
     intro r b7;obtain⟨d,s,rfl⟩:=Xt.1 b7;rcases WA d with rfl|a0
     .have:T[0]=c:=by have:=i.me;simpa[Wj s]using this
      rw[this];exactλa a8=>by rw[D]at a8;cases a8
     exact k.awake i.ok d _ a0 (Wj s)
    obtain⟨d,g,u,H,s,b4,a7⟩:=YO (P:=b) (w:=q) (sl:=o) b3 ⟨0,c,i.me,D⟩;have a5:=k.at_ u i.ok;have Aj:=i.bF.at u;have O:=i.bg.at u;rcases WA d with rfl|a0
    .obtain rfl:g=c:=by have:=i.me;rw[s]at this;exact Xa this
     obtain⟨X,c6,c0,U,new,c7,Y,z,N,P,Q,Z⟩:=v (q.at u) O.rel;have b6:=Zj (P:=b) (sl:=H) (i:=0) s (show stepG b (0==0) g (q.at u)=_ from Y);have a6:=fu O z N P i.hears g.frame.fn g.frame.place;have b5:0<T.size:=(Wh.1 s).1;refine cd.head (a7.trans b6) ?_
     have:=a9 (S (q.at u),x) (.left (.mk S (q.at u))) ((T.map (woken b g X U)).setIfInBounds 0 X) U H _ _ {y with β:=c6,w:=c0} X
      ⟨k.main a5 Aj O s i.hears D Q z N P,Aj.step a6,O.own z N a6,by simp[b5],by rw[jc z.la];exact i.hears⟩ Z Q
     exact this.bind λp t H w⟨n,m,f,W,q1,a1,a2,a3,a4⟩=>.now ⟨n,m,f,W,q1,a1,a2,a3,a4⟩
    obtain⟨n,p,U,b9,m,Y,z,N,P,Q,Z,b2⟩:=k.step H a5 Aj O i.me D a0 s b4;refine cd.head (a7.trans Y) ?_;have:=a9 (.node S,n) (.right z) p U H (a++b9) m y c ⟨P,Q,Z,N,b2.trans i.hears⟩ (VC ⟨D,v⟩) D;exact this.bind λp t H w⟨n,m,f,W,q1,a1,a2,a3,a4⟩=>.now ⟨n,m,f,W,q1,a1,a2,a3,a4⟩
 intro L x T q o a R y c;exact b8 (L,x) T q o a R y c
end
end
end Go.Sim
namespace Go.Sim
open Go.Conc Go.Proofs Go.RowKit
open Go.ConcN (PermW PermW.app PermW.of fork_knows WgLive RelBy sumTo)
open Go.ConcR (KK wgBlock WgAt stA smA rd wr mk DC0)
open Go.SimW (RL PO TG)
variable{c:VS}{f:Set}{m:E->Prop}{h:Ren}{w:K}{g:VO}{j:E}{q:K}{U:K}{d:E}{e:VY}{R:Loc->dw}{u:E}
section
variable[Inhabited aV]
inductive jl(c:VS)(f:Set)(m:E->Prop)(n:K->Prop)(Stop:Ren->K->VO->Prop):Ren->K->VO->Prop
 |stop {h:Ren} {w:K} {g:VO} (y:Stop h w g):jl c f m n Stop h w g
 |step {h:Ren} {w:K} {g:VO} (z:g.status=.running) (v:K->Ren->K->VO->Prop)
   (y:∀q,aU f h w q->n q->∃i l k U new t,stepG c Vz g q=.go i U (kept t).toArray/\bD f h l w k q U new t/\(∀a,m a->k.heap[a]?=w.heap[a]?)/\(∀o∈new,o.write=J->∀a,m a->o.loc≠.obj a/\∀x,o.loc=.cell x->x.block≠a)/\i.status=.running/\v q l k i)
   (D:∀q l k i,v q l k i->jl c f m n Stop l k i):jl c f m n Stop h w g
def xi(c:VS)(f:Set)(m:E->Prop)(n:K->Prop)(Stop:Ren->K->VO->Prop):Tr->Ren->K->VO->Prop
 |.leaf,h,w,g=>Stop h w g
 |.node o,h,w,g=>Stop h w g\/(g.status=.running/\∀q,aU f h w q->n q->∃d l e U new i,stepG c Vz g q=.go d U (kept i).toArray/\bD f h l w e q U new i/\(∀a,m a->e.heap[a]?=w.heap[a]?)/\
   (∀b∈new,b.write=J->∀a,m a->b.loc≠.obj a/\∀k,b.loc=.cell k->k.block≠a)/\d.status=.running/\xi c f m n Stop (o q) l e d)
section
variable{n:K->Prop}{Stop s:Ren->K->VO->Prop}
theorem jl.tree(a:jl c f m n Stop h w g):∃i,xi c f m n Stop i h w g:=by
 induction a with
 |stop a=>exact⟨.leaf,a⟩
 |@step h w g H N a _ L=>
  have r:∀q,∃i,aU f h w q->n q->∃d k e U new o,stepG c Vz g q=.go d U (kept o).toArray/\bD f h k w e q U new o/\(∀b,m b->e.heap[b]?=w.heap[b]?)/\
   (∀p∈new,p.write=J->∀b,m b->p.loc≠.obj b/\∀s,p.loc=.cell s->s.block≠b)/\d.status=.running/\xi c f m n Stop i k e d:=by
   intro q;by_cases l:aU f h w q
   .by_cases hF:n q
    .obtain⟨d,k,e,U,new,o,t,u,v,x,y,z⟩:=a q l hF;obtain⟨i,D⟩:=L q k e d z;exact⟨i,λ_ _=>⟨d,k,e,U,new,o,t,u,v,x,y,D⟩⟩
    exact⟨.leaf,λ_ a=>absurd a hF⟩
   exact⟨.leaf,λa=>absurd a l⟩
  exact⟨.node λq=>Classical.choose (r q),VC ⟨H,λq l hF=>Classical.choose_spec (r q) l hF⟩⟩
theorem jl.Rk(a:wu c f Vz m Stop h w g):jl c f m n Stop h w g:=by
 induction a with
 |stop a=>exact .stop a
 |step d i a k e=>exact .step d i (λq b _=>a q b) e
theorem jl.bind(a:jl c f m n Stop h w g)(k:∀e d b,Stop e d b->jl c f m n s e d b):jl c f m n s h w g:=by
 induction a with
 |stop a=>exact k _ _ _ a
 |step i o a _ l=>exact .step i o a λq e d b p=>l q e d b p
end
def tz(b:WD)(q:K):Prop:=∃c a,q.heap[b.gv]?=C (VH #[b.gs] c a)
def tv(b:WD)(q:K):Prop:=∃c a,q.heap[b.gb]?=C (VH c b.xH a)/\a.1=a.2/\c.size=b.gn
structure Sw(b:WD)(y:E)(z:VE Vx)(q U:K):Prop where
 os:U.os=q.os
 out:U.output=q.output
 size:U.heap.size=q.heap.size
 block:∀t,t≠b.gb->U.heap[t]?=q.heap[t]?
 put:∀x H D,q.heap[b.gb]?=C (VH x H D)->∃i,U.heap[b.gb]?=C (VH i H D)/\i.size=x.size/\(∀k,k<y\/y+z.size<=k->i[k]?=x[k]?)/\∀k,k<z.size->i[y+k]?=z[k]?
abbrev bE:=VD (E×VE Vx)
def di(b:WD)(f:Set)(h:Ren)(cl:bE)(q:K):Prop:=
 ∀d∈cl,∀(c:E) e,d.2[c]?=C e->∃a l k i,q.heap[b.gb]?=C (VH a l k)/\a[d.1+c]?=C i/\an f h e i
def kM(c:VS)(b:WD)(fin:bE->K->Prop)(d:E)(f:Set)(m:E->Prop):E->bE->Ren->K->VO->Prop
 |0,cl,h,w,g=>g.status=.running/\(∃u,∀q,WgLive b.ty b.Wg q->Go.Conc.Goes c Vz (RL b.ty b.Wg) DC0 (TG c b.ty b.Wg) u g q)/\fin cl w
 |u+1,cl,h,w,g=>g.status=.running/\∃a o i k,ax f h o i/\(∀e,e<i.size->b.own d (a+e))/\(∀l∈cl,l.1+l.2.size<=a\/a+i.size<=l.1)/\k.status=.running/\
   (∀q,tv b q->∃U n,stepG c Vz g q=.go k U n/\Sw b a i q U/\∀p∈n,∃e,e<i.size/\p=⟨.cell ⟨b.gb,a+e,I⟩,J,Vz⟩)/\
   jl c f m (tz b) (kM c b fin d f m u (cl++[(a,o)])) h w k
inductive nj where
 |work (u:E) (cl:bE) (k:Tr) (a:bT)
 |done (l u i:E) (cl:bE) (a:bT)
 |quit (o i:E) (cl:bE) (a:bT)
abbrev Fin:=E->bE->K->Prop
def CQ(c:VS)(b:WD)(fin:Fin)(d:E)(g:VO)(q:K)(e:VY)(R:Loc->dw):nj->Prop
 |.work u cl i a=>g.status=.running/\Deaf e d=0/\aH c e q R d a/\di b a.S a.β cl q/\xi c a.S a.ro (tz b) (kM c b (fin d) d a.S a.ro u cl) i a.β a.w g
 |.done f u h cl a=>f<=5/\Deaf e d=(if f<=1 then 0 else 1)/\(1<=f->RelBy (stA b.Wg) e d h)/\aH c e q R d a/\di b a.S a.β cl q/\fin d cl a.w/\Go.Conc.Goes c Vz (RL b.ty b.Wg) DC0 (PO c b.ty b.Wg f) u g q
 |.quit k h cl a=>RelBy (stA b.Wg) e d h/\aH c e q R d a/\di b a.S a.β cl q/\fin d cl a.w/\QuitsD c k (Deaf e d) g
def nj.cnt:nj->E
 |.work .. =>1
 |.done a .. =>if a<=2 then 1 else 0
 |.quit .. =>0
def nj.lE:nj->E
 |.done a .. =>if 3<=a then 1 else 0
 |_=>0
def nj.vS:nj->E
 |.done a .. =>if 3<=a then a else 0
 |_=>0
structure ft(b:WD)(j:E)(q U:K):Prop where
 live:WgLive b.ty b.Wg q->WgLive b.ty b.Wg U
 gb:∀a o l,q.heap[b.gb]?=C (VH a o l)->∃i,U.heap[b.gb]?=C (VH i o l)/\i.size=a.size/\∀d k,d≠j->b.own d k->i[k]?=a[k]?
theorem ft.same{b:WD}(f:U.heap[b.Wg]?=q.heap[b.Wg]?)(h:U.heap[b.gb]?=q.heap[b.gb]?):ft b j q U:=
 ⟨λ⟨c,d,a⟩=>⟨c,d,a.of_block f⟩,λe k i a=>⟨e,h.trans a,A,λ_ _ _ _=>rfl⟩⟩
def ug(b:WD)(d:E)(cl:bE):Prop:=∀c∈cl,∀a,a<c.2.size->b.own d (c.1+a)
theorem di.stay{b:WD}{cl:bE}(y:di b f h cl q)(O:ug b d cl)(L:d≠j)(P:ft b j q U):di b f h cl U:=by intro i l a S o;obtain⟨v,t,k,T,z,D,H⟩:=y i l a S o;obtain⟨x,q1,_,Q⟩:=P.gb v t k z;have N:a<i.2.size:=(Wh.1 o).1;exact⟨x,t,k,T,q1,by rw[Q d _ L (O i l a N)];exact D,H⟩
theorem di.mono{b:WD}{β₁:Ren}{cl:bE}(k:di b f h cl q)(v:h.le β₁):di b f β₁ cl q:=λD x z L y=>by obtain⟨a,H,i,N,l,o,t⟩:=k D x z L y;exact⟨a,H,i,N,l,o,t.mono v⟩
theorem di.same{b:WD}{cl:bE}(d:di b f h cl q)(n:U.heap[b.gb]?=q.heap[b.gb]?):di b f h cl U:=λp l o s m=>by obtain⟨a,r,c,t,e,i,k⟩:=d p l o s m;exact⟨a,r,c,t,n.trans e,i,k⟩
theorem di.Uk{b:WD}{cl:bE}{e:E}{t o:VE Vx}(k:di b f h cl q)(y:tv b q)(D:Sw b e o q U)(s:ax f h t o)(hd:∀a∈cl,a.1+a.2.size<=e\/e+o.size<=a.1):di b f h (cl++[(e,t)]) U:=by
 obtain⟨u,x,r,R,S⟩:=y;obtain⟨p,q1,T,L,N⟩:=D.put u _ x r;intro a H m O l;have z:m<a.2.size:=(Wh.1 l).1;rcases WL.1 H with c|c
 .obtain⟨P,W,Q,n,d,i,v⟩:=k a c m O l;rw[r]at d;cases d;refine⟨p,_,_,n,q1,?_,v⟩;rw[L _ (by rcases hd a c with k|k<;>omega)];exact i
 simp only[Xi]at c;subst c;obtain⟨n,d,i⟩:=s.get l;exact⟨p,_,_,n,q1,by rw[N m (by rw[<-s.1];exact z)];exact d,i⟩
section
variable{p:VY}{r:Loc->dw}{b:WD}{fin:Fin}
theorem xG{a:E}(h:Go.Conc.Goes c Vz (RL b.ty b.Wg) DC0 (PO c b.ty b.Wg a) u g q)(i:WgLive b.ty b.Wg q->WgLive b.ty b.Wg U):Go.Conc.Goes c Vz (RL b.ty b.Wg) DC0 (PO c b.ty b.Wg a) u g U:=
 h.rely (λd e f=>Go.SimW.RL.trans d e f) i
def nj.cl:nj->bE
 |.work _ cl _ _|.done _ _ _ cl _|.quit _ _ cl _=>cl
theorem CQ.frame(f:j≠d)(y:jM e q U R r j p)(O:∀z∈p,z.g≠d)(hd:Deaf (e++p) d=Deaf e d)(o:ft b j q U){s:nj}(n:ug b d s.cl)(t:CQ c b fin d g q e R s):CQ c b fin d g U (e++p) r s:=by
 have H:∀a,RelBy (stA b.Wg) e d a->RelBy (stA b.Wg) (e++p) d a:=λa T=>T.app λW D P=>by
  obtain⟨z,n,Q⟩:=Xf.1 P;rcases Wp n with⟨Y,_⟩|⟨_,S⟩
  .omega
  exact absurd Q (O z S)
 cases s with
 |work u cl X L=>obtain⟨v,i,k,l,m⟩:=t;exact⟨v,by rw[hd];exact i,k.other f y,l.stay n (λh=>f h.symm) o,m⟩
 |done W u a cl L=>obtain⟨N,v,i,k,l,m,x⟩:=t;exact⟨N,by rw[hd];exact v,λD=>H a (i D),k.other f y,l.stay n (λh=>f h.symm) o,m,xG x o.live⟩
 |quit Z a cl L=>obtain⟨i,k,l,m,x⟩:=t;exact⟨H a i,k.other f y,l.stay n (λh=>f h.symm) o,m,by rw[hd];exact x⟩
theorem CQ.at{o:nj}(a:CQ c b fin d g q e R o)(l:E):CQ c b fin d g (q.at l) e R o:=by
 cases o with
 |work u cl t p=>obtain⟨m,f,h,i,k⟩:=a;exact⟨m,f,h.at l,i,k⟩
 |done v u s cl p=>obtain⟨r,m,f,h,i,k,n⟩:=a;exact⟨r,m,f,h.at l,i,k,xG n λa=>a⟩
 |quit x s cl p=>obtain⟨f,h,i,k,n⟩:=a;exact⟨f,h.at l,i,k,n⟩
theorem CQ.status{h:nj}(a:CQ c b fin d g q e R h):g.status=.running\/g.status=.finished:=by
 cases h with
 |work u cl k f=>exact VA a.1
 |done l u i cl f=>exact VA (Go.SimW.qd a.2.2.2.2.2.2)
 |quit m i cl f=>exact a.2.2.2.2.status
theorem CQ.woken{i:nj}(h:CQ c b fin d g q e R i)(a f:VO):Go.Conc.woken c a f U g=g:=by
 unfold Go.Conc.woken;split
 .exact again_running _ h.status
 rfl
end
end
end Go.Sim
namespace Go.Proofs.YtfgpkeppjomkmaaGreatDoor
open Go
theorem de{a b:VI}(c:a=J)(d:b=J):(a&&b)=J:=by rw[c,d];rfl
theorem Jk:(Rows.risingRow.wf (OpenSpec.ofChange Rows.risingSpec))=J:=by kernel_rfl
theorem Jl:(laidOutB Tryz.pinned.checked.prog)=J:=by kernel_rfl
theorem Jm:(mapsRowed Tryz.pinned.checked.prog)=J:=by kernel_rfl
theorem Jn:(Tryz.f3.params.all (Tryz.pinned.checked.prog.readableRec ·))=J:=by kernel_rfl
theorem Jo:(namedTie Tryz.pinned.checked.prog Rows.risingRow.named Rows.risingSpec.vars)=J:=by kernel_rfl
theorem Jp:((Rows.risingRow.stops==[]))=J:=by kernel_rfl
theorem Jq:((Tryz.pinned.checked.prog.stops==[]))=J:=by kernel_rfl
theorem Jr:((Rows.risingRow.knobs==[]))=J:=by kernel_rfl
theorem Js:((Tryz.pinned.checked.prog.stopKnobs==[]))=J:=by kernel_rfl
theorem Jt:((Rows.risingRow.inPlace==Tryz.pinned.checked.prog.inPlace 3))=J:=by kernel_rfl
theorem Ex:((Rows.risingRow.unfollowed==Tryz.pinned.checked.prog.unfollowed 3))=J:=by kernel_rfl
theorem Ey:((Rows.risingRow.recurses==Tryz.pinned.checked.prog.recurses 3))=J:=by kernel_rfl
theorem Ez:((Rows.risingRow.named==Tryz.pinned.checked.prog.varsNamed 3))=J:=by kernel_rfl
theorem EA:((Rows.risingRow.maps==(Tryz.f3.params.toList++Rows.risingSpec.plain.varTypes Tryz.pinned.checked.prog).any (Tryz.pinned.checked.prog.mapsRec ·)))=J:=by kernel_rfl
theorem EB:((Rows.risingRow.ifaces==(Tryz.f3.params.toList++Rows.risingSpec.plain.varTypes Tryz.pinned.checked.prog).any (Tryz.pinned.checked.prog.ifacesRec ·)))=J:=by kernel_rfl
theorem EC:((Rows.risingRow.mapsOut==Tryz.pinned.checked.prog.mapsAmong Tryz.f3.resultTypes.toList))=J:=by kernel_rfl
theorem ED:((Rows.risingRow.loops==(Tryz.f3.params.toList++Rows.risingSpec.plain.varTypes Tryz.pinned.checked.prog).any (Tryz.pinned.checked.prog.loopsFrom ·)))=J:=by kernel_rfl
theorem EE:((Rows.risingRow.wideKeys==(Tryz.f3.params.toList++Rows.risingSpec.plain.varTypes Tryz.pinned.checked.prog++Tryz.f3.resultTypes.toList).any (Tryz.pinned.checked.prog.wideKeysFrom ·)))=J:=by kernel_rfl
theorem EF:(Rows.risingSpec.vars.all (Tryz.pinned.checked.prog.varReadable ·))=J:=by kernel_rfl
theorem EG:(Tryz.f3.resultTypes.all (λa=>Tryz.pinned.checked.prog.readableRec a&&decide (a<Tryz.pinned.checked.prog.types.size)))=J:=by kernel_rfl
theorem EH:((Rows.risingRow.ifacesOut==Tryz.f3.resultTypes.toList.any (Tryz.pinned.checked.prog.ifacesRec ·)))=J:=by kernel_rfl
theorem EI:((Rows.risingRow.loopsOut==Tryz.f3.resultTypes.toList.any (Tryz.pinned.checked.prog.loopsFrom ·)))=J:=by kernel_rfl
theorem EJ:((Rows.risingRow.plainKeys==Tryz.pinned.checked.prog.plainKeys))=J:=by kernel_rfl
theorem EK:(Rows.risingRow.shortTexts.isNone)=J:=by kernel_rfl
theorem EL:(Tryz.pinned.checked.prog.stopsHeard)=J:=by kernel_rfl
theorem EM:(Tryz.pinned.checked.prog.mayEnter)=J:=by kernel_rfl
theorem EN:((Rows.risingRow.lifted==Tryz.pinned.checked.prog.liftsFinal))=J:=by kernel_rfl
theorem EO:((Tryz.pinned.checked.prog.make==C Rows.risingRow.make))=J:=by kernel_rfl
theorem EP:((Rows.risingRow.kinds==(if Rows.risingRow.domain.isEmpty then[]else Tryz.f3.params.toList.map λb=>match Tryz.pinned.checked.prog.underlying b with|some (.int a)=>C a|_=>I)))=J:=by kernel_rfl
theorem ER:((Rows.risingRow.pinned==Rows.risingRow.pinnedBy))=J:=by kernel_rfl
theorem ES:((Rows.risingRow.veiled==(Tryz.f3.params.toList++Rows.risingSpec.plain.varTypes Tryz.pinned.checked.prog++Tryz.f3.resultTypes.toList).any (Tryz.pinned.checked.prog.veiledRec ·)))=J:=by kernel_rfl
theorem ET:(Rows.risingRow.veiledFits Tryz.pinned.checked.prog Tryz.f3.params.toList (Tryz.f3.params.toList++Rows.risingSpec.plain.varTypes Tryz.pinned.checked.prog++Tryz.f3.resultTypes.toList))=J:=by kernel_rfl
theorem wV:joinedFacts Tryz.pinned.checked.prog 3 Tryz.f3 Rows.risingSpec Rows.risingRow=J:=(de (de (de (de (de (de (de (de (de (de (de (de (de (de (de (de (de (de (de (de (de (de (de (de (de (de (de (de (de (de (de Jk Jl) Jm) Jn) Jo) Jp) Jq) Jr) Js) Jt) Ex) Ey) Ez) EA) EB) EC) ED) EE) EF) EG) EH) EI) EJ) EK) EL) EM) EN) EO) EP) ER) ES) ET)
theorem qI:Tryz.pinned.checked.prog.funcNamed Rows.risingRow.func=C 3:=by kernel_rfl
theorem BZ:Tryz.f3.isWrapper Tryz.pinned.checked.prog Rows.risingRow.wrapper Rows.risingRow.mainSum:=by unfold Func.isWrapper;first|(rw[VV (by decide+kernel)];kernel_rfl)|(rw[VK (by decide+kernel)];exact⟨rfl,rfl⟩)
theorem BX:Tryz.f3.isInstance Tryz.pinned.checked.prog Rows.risingRow.origin Rows.risingRow.targs:=m_ (by kernel_rfl)
end Go.Proofs.YtfgpkeppjomkmaaGreatDoor
