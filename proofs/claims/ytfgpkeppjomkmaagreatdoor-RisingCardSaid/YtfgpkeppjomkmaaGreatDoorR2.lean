/- Proved here: parts of the proof of the claimed theorem, no conditions; the last text states it -/
import Derived.Test.YtfgpkeppjomkmaaGreatDoorProg
import Derived.Test.YtfgpkeppjomkmaaGreatDoorR1
set_option linter.all false
set_option maxRecDepth 100000
set_option maxHeartbeats 16000000
open _root_ renaming rfl->A,Nat->E,Int->VB,List->VD,Array->VE,Bool->VI,if_neg->VK,Option->VL,congrArg->VU,if_pos->VV,ByteArray->VX
open Option renaming some->C,none->I
open Go renaming undef->F,World->K,Value->Vx,TypeId->VJ,Frame->VM,Goroutine->VO,Act->VQ,Sem->VR,Program->VS,Addr->VT,Trace->VY,Event->Wa,MapEntry->Wb,FuncId->Wc,Operand->Wd
open Bool renaming true->J,false->Vz
open Go.Lib renaming hid->VF
open Go.MemOp renaming ofEvents->VZ
open Go.Op renaming operands->We
open Go.MemAct renaming ofEvent->Wf
open Go.IntKind renaming i64->M
open Go.Value renaming int->Vy,slice->VG,pointer->VW
open Or renaming inl->VA,inr->VC
open Go.Obj renaming cells->VH
open Go.Ending renaming returned->VN
open Go.Item renaming inRegion->VP
namespace Go.Sv
open Go.MapKept Go.Proofs Go.RowKit Go.Lib Go.WideShapes Go.Sort Go.Sim Wt
variable{b:VS}{O:VE Wb}{w:K}{u:E}{h:E}
structure CX(b:VS)(d:VJ)(S:Vx->Prop):Prop where
 SH:∀a(w:K) em,S a->(Instr.checkKey em 10000 d a).run b w=.ok () w
 Ue:∀a(w:K) g,S a->(∀k∈g,S k.key)->((Instr.findKey d a g).run b w=.ok I w/\∀k∈g,k.key≠a)\/∃j i,(Instr.findKey d a g).run b w=.ok (C (j,i.val)) w/\g[j]?=C i/\i.key=a
 same:∀a,S a->Instr.sameBits 10000 a a=J
structure Mp(S:Vx->Prop)(O:VE Wb)(c:E)(e:Vx->VL Vx):Prop where
 st:Stamped O c
 key:∀a∈O.toList,S a.key/\e a.key=C a.val
 all:∀g i,e g=C i->∃a∈O.toList,a.key=g
abbrev rX(w:K)(a:E)(b:Obj):K:={w with heap:=w.heap.setIfInBounds a b}
theorem LS{d:VJ}(h:b.underlying d=C (.int M)):CX b d λa=>∃c,a=Vy M c where
 SH:=λa w em⟨c,e⟩=>Zn h (by subst e;exact A) em 9999
 Ue:=λa w o⟨c,e⟩ m=>by
  rcases findNow_spec (d:=.int M) (k:=a) (by subst e;exact A) o 0 (λp n=>by obtain⟨u,k⟩:=m p n;rw[k];exact A)with⟨f,g⟩|⟨j,i,f,g,l⟩
  .exact VA ⟨ZI h f,g⟩
  rw[Xr]at f;exact VC ⟨j,i,ZI h f,g,l⟩
 same:=λa⟨c,e⟩=>by subst e;show((IntKind.i64==IntKind.i64)&&(c==c))=J;simp
section
variable{mt d f:VJ}{S:Vx->Prop}{c:E}{e:Vx->VL Vx}{m:Vx}
theorem Mp.find(h:Mp S O c e)(m:CX b d S){a:Vx}(p:S a)(w:K):
 (e a=I/\(Instr.findKey d a O.toList).run b w=.ok I w/\∀k∈O.toList,k.key≠a)\/∃j f,e a=C f.val/\(Instr.findKey d a O.toList).run b w=.ok (C (j,f.val)) w/\O.toList[j]?=C f/\f.key=a:=by
 rcases m.Ue a w O.toList p (λk r=>(h.key k r).1)with⟨i,g⟩|⟨j,f,i,g,l⟩
 .left;refine⟨?_,i,g⟩;cases o:e a with
  |none=>rfl
  |some s=>obtain⟨f,n,q⟩:=h.all a s o;exact absurd q (g f n)
 right;have:=(h.key f (WG g)).2;rw[l]at this;exact⟨j,f,this,i,g,l⟩
theorem Mp.get(r:Mp S O c e)(l:CX b d S)(q:b.underlying mt=C (.map d f))(s:(zeroValue f).run b w=.ok m w)(p:w.heap[u]?=C (.map O c)){k:Vx}(o:S k)(ok:VI):
 (Instr.lookup mt (.map (C u)) k ok).run b w=.ok (if ok then .tuple #[(e k).getD m,.bool (e k).isSome]else(e k).getD m) w:=by
 have n:=l.SH k w O.isEmpty o;rcases r.find l o w with⟨a,g,_⟩|⟨j,t,a,g,_⟩
 .simp[Instr.lookup,Xd q,Xh p,n,g,Result.andThen,s,a]
 simp[Instr.lookup,Xd q,Xh p,n,g,Result.andThen,a]
theorem Bi(f:Stamped O c){a:E}{b d:Wb}(g:O.toList[h]?=C b)(k:O.toList[a]?=C d)(e:b.key=d.key):h=a:=by obtain⟨i,rfl⟩:=Xk.1 g;obtain⟨l,rfl⟩:=Xk.1 k;exact(VD.getElem_inj (i:=h) (j:=a) (h₀:=by simpa using i) (h₁:=by simpa using l) f.2.2).1 (by simpa using e)
theorem Mp.put(n:Mp S O c e)(L:CX b d S)(a0:b.underlying mt=C (.map d f))(H:w.heap[u]?=C (.map O c)){k:Vx}(t:S k)(v:Vx){g:Vx->VL Vx}(Z:g k=C v)(D:∀a,a≠k->g a=e a):
 ∃X W,(Instr.mapUpdate mt (.map (C u)) k v).run b w=.ok () (rX w u (.map X W))/\Mp S X W g:=by
 have Y:=L.SH k w Vz t;rcases n.find L t w with⟨a2,P,q⟩|⟨j,l,a2,P,q,r⟩
 .refine⟨O.push ⟨k,v,c⟩,c+1,?_,stamped_push n.st q,λa i=>?_,λa N i=>?_⟩
  .simp[Instr.mapUpdate,Xd a0,Xh H,Y,P,Result.andThen,XU _ H]
  .simp only[Zo,WL,Xi]at i;rcases i with i|rfl
   .obtain⟨T,U⟩:=n.key a i;refine⟨T,?_⟩;rw[D _ (q a i)];exact U
   exact⟨t,Z⟩
  by_cases l:a=k
  .exact⟨⟨k,v,c⟩,by simp,l.symm⟩
  rw[D _ l]at i;obtain⟨x,R,a5⟩:=n.all a N i;exact⟨x,by simp[R],a5⟩
 have z:O[j]?=C l:=by rw[<-XR];exact q
 have a6:(Instr.keyThatStays (((O[j]?).map (·.key)).getD k) k).run b w=.ok k w:=by rw[z];show(Instr.keyThatStays l.key k).run b w=.ok k w;rw[r];unfold Instr.keyThatStays;rw[VV (L.same k t)];rfl
 refine⟨O.modify j λl=>{l with key:=k,val:=v},c,?_,stamped_modify n.st j _ (λ_ _=>rfl) (λy _ s=>by rw[z]at s;cases s;exact r.symm),λa i=>?_,λa N i=>?_⟩
 .simp[Instr.mapUpdate,Xd a0,Xh H,Y,P,a6,Result.andThen,XU _ H]
 .obtain⟨b2,p⟩:=YR.1 i;rw[XR,XH]at p;split at p
  .rename_i Q;subst Q;rw[z]at p;simp only[Xp,Wz]at p;subst p;exact⟨t,Z⟩
  rename_i Q;rw[<-XR]at p;obtain⟨T,U⟩:=n.key a (WG p);refine⟨T,?_⟩;rw[D _ (λa1=>Q (Bi n.st q p (by rw[r,a1])))];exact U
 have:∃x∈O.toList,x.key=a:=by
  by_cases y:a=k
  .exact⟨l,WG q,by rw[r,y]⟩
  rw[D _ y]at i;exact n.all a N i
 obtain⟨x,R,a8⟩:=this;have a7:=modify_keys (es:=O) j (λl=>{l with key:=k,val:=v}) (λy s=>by rw[z]at s;cases s;exact r.symm);have:a∈O.toList.map (·.key):=WY.2 ⟨x,R,a8⟩;rw[<-a7]at this;obtain⟨b1,a3,a4⟩:=WY.1 this;exact⟨b1,a3,a4⟩
theorem Mp.del(k:Mp S O c e)(v:CX b d S)(N:b.underlying mt=C (.map d f))(s:w.heap[u]?=C (.map O c)){l:Vx}(L:S l)(a1:VJ){g:Vx->VL Vx}(D:g l=I)(q:∀a,a≠l->g a=e a):
 ∃x,(Builtin.delete_ #[mt,d] a1 #[.map (C u),l]).run b w=.ok (.tuple #[]) (rX w u (.map x c))/\Mp S x c g:=by
 have z:=v.SH l w O.isEmpty L;rcases k.find v L w with⟨U,t,o⟩|⟨j,a3,U,t,o,y⟩
 .refine⟨O,?_,k.st,λa i=>?_,λa Q i=>?_⟩
  .simp[Builtin.delete_,Xd N,Xh s,z,t,Result.andThen,XU _ s]
  .rw[q _ (o a i)];exact k.key a i
  by_cases n:a=l
  .rw[n,D]at i;cases i
  rw[q _ n]at i;exact k.all a Q i
 have H:j<O.size:=by have:=(Xk.1 o).1;simpa using this
 have X:∀a∈(O.eraseIdxIfInBounds j).toList,a∈O.toList/\a.key≠l:=λa i=>by rw[VE.eraseIdxIfInBounds,X' H,YS]at i;refine⟨n_ i,λr=>?_⟩;obtain⟨P,W,p⟩:=ZB.1 i;exact W (Bi k.st p o (by rw[r,y]))
 refine⟨O.eraseIdxIfInBounds j,?_,stamped_erase k.st j,λa i=>?_,λa R i=>?_⟩
 .simp[Builtin.delete_,Xd N,Xh s,z,t,Result.andThen,XU _ s]
 .obtain⟨Z,a0⟩:=X a i;rw[q _ a0];exact k.key a Z
 by_cases n:a=l
 .rw[n,D]at i;cases i
 rw[q _ n]at i;obtain⟨a2,Y,r⟩:=k.all a R i;refine⟨a2,?_,r⟩;obtain⟨P,p⟩:=YR.1 Y;rw[VE.eraseIdxIfInBounds,X' H,YS];refine ZB.2 ⟨P,λT=>?_,p⟩;subst T;rw[o]at p;cases p;exact n (r.symm.trans y)
theorem MT(e:b.underlying mt=C (.map d f))(a:w.heap[u]?=C (.map O c))(g:VJ):(Builtin.len_ #[mt] g #[.map (C u)]).run b w=.ok (Vy M O.size) w:=by simp[Builtin.len_,Xd e,Xh a,Result.andThen];rfl
theorem Mp.size(g:Mp S O c e){l:VD Vx}(p:l.Nodup)(k:∀a,a∈l↔(e a).isSome=J):O.size=l.length:=by
 have n:(O.toList.map (·.key)).Perm l:=by
  refine(ZX g.st.2.2 p).2 λa=>?_;rw[k,WY];constructor
  .rintro⟨i,o,rfl⟩;rw[(g.key i o).2];rfl
  intro q;obtain⟨s,r⟩:=Wn.1 q;exact g.all a s r
 have:=n.length_eq;rw[Ya]at this;simpa using this
end
end Go.Sv
namespace Go.Proofs
open Go.Shelf Go.RowKit Go.Maps Go.Sort
def Tryz.sP:Go.Shelf.Ren:=⟨λ|156=>218|165=>238|166=>239|169=>240|240=>253|241=>254|276=>262|277=>263|a=>a,λ|31=>35|9=>9|3=>3|4=>4|0=>0|20=>20|72=>366|76=>367|70=>364|37=>249|75=>65|127=>372|164=>202|5=>5|80=>276|a=>a,λ|a=>a⟩
theorem Tryz.Gi:Go.Proofs.Lays.n156 Tryz.prog Tryz.sP:={
 mixed:=by kernel_rfl
 f156:=Tryz.func218.trans (VU C (by kernel_rfl))
 f165:=Tryz.func238.trans (VU C (by kernel_rfl))
 f166:=Tryz.func239.trans (VU C (by kernel_rfl))
 f169:=Tryz.func240.trans (VU C (by kernel_rfl))
 f240:=Tryz.func253.trans (VU C (by kernel_rfl))
 f241:=Tryz.func254.trans (VU C (by kernel_rfl))
 f276:=Tryz.func262.trans (VU C (by kernel_rfl))
 f277:=Tryz.func263.trans (VU C (by kernel_rfl))
 t0:=Tryz.underlying0
 a0:=Tryz.isAgg0
 z0:=Tryz.sizeOf0
 v0:=Tryz.zeroValue0
 t3:=Tryz.underlying3
 a3:=Tryz.isAgg3
 z3:=Tryz.sizeOf3
 v3:=Tryz.zeroValue3
 t4:=Tryz.underlying4
 a4:=Tryz.isAgg4
 z4:=Tryz.sizeOf4
 v4:=Tryz.zeroValue4
 t9:=Tryz.underlying9
 a9:=Tryz.isAgg9
 z9:=Tryz.sizeOf9
 v9:=Tryz.zeroValue9
 t20:=Tryz.underlying20
 a20:=Tryz.isAgg20
 z20:=Tryz.sizeOf20
 v20:=Tryz.zeroValue20
 t31:=Tryz.underlying35
 a31:=Tryz.isAgg35
 z31:=Tryz.sizeOf35
 v31:=Tryz.zeroValue35
 t37:=Tryz.underlying249
 a37:=Tryz.isAgg249
 z37:=Tryz.sizeOf249
 v37:=Tryz.zeroValue249
 t70:=Tryz.underlying364
 a70:=Tryz.isAgg364
 z70:=Tryz.sizeOf364
 v70:=Tryz.zeroValue364
 t72:=Tryz.underlying366
 a72:=Tryz.isAgg366
 z72:=Tryz.sizeOf366
 v72:=Tryz.zeroValue366
 t75:=Tryz.underlying65
 a75:=Tryz.isAgg65
 z75:=Tryz.sizeOf65
 v75:=Tryz.zeroValue65
 t76:=Tryz.underlying367
 a76:=Tryz.isAgg367
 z76:=Tryz.sizeOf367
 v76:=Tryz.zeroValue367
 t127:=Tryz.underlying372
 a127:=Tryz.isAgg372
 z127:=Tryz.sizeOf372
 v127:=Tryz.zeroValue372
 t164:=Tryz.underlying202
 a164:=Tryz.isAgg202
 z164:=Tryz.sizeOf202
 v164:=Tryz.zeroValue202}
theorem Tryz.jL:Builder.Extra Tryz.prog Tryz.sP:={
 sizeBuilder:=by kernel_rfl
 liesBuilder:=by kernel_rfl
 t5:=Tryz.underlying5
 a5:=Tryz.isAgg5
 z5:=Tryz.sizeOf5
 v5:=Tryz.zeroValue5
 infoByte:=by kernel_rfl
 cellsByte:=by kernel_rfl
 sizeByte:=by kernel_rfl
 neB5:=by decide}
theorem Tryz.strings_Join_none(b:VL VT)(c:E)(d:VX)(a:K):
 Calls Tryz.prog 218 #[.slice b 0 c,.string d] a λe f=>e=VN (.string ⟨#[]⟩)/\f=a:=Any.strings_Join_none Tryz.Gi Tryz.jL b c d a
theorem Tryz.strings_Join(c f e:E)(a:VD VX)(d:VX)(b:K)(m:∀(j:E) g,a[j]?=C g->b.cell? ⟨c,f+j,I⟩=C (.string g))(k:c<b.heap.size)(i:a.length<=140737488355328)(l:a.length<=e)(n:(Lib.join (a.map (·.data.toList)) d.data.toList).length<=140737488355328):
 Calls Tryz.prog 218 #[VG (C ⟨c,f,I⟩) a.length e,.string d] b λh o=>h=VN (.string ⟨(Lib.join (a.map (·.data.toList)) d.data.toList).toArray⟩)/\Below b.heap.size b o:=Any.strings_Join Tryz.Gi Tryz.jL c f e a d b m k i l n
def Tryz.Bo:Go.Shelf.Ren:=⟨λ|103=>128|210=>166|206=>200|a=>a,λ|9=>9|4=>4|24=>246|3=>3|a=>a,λ|a=>a⟩
theorem Tryz.OI:Go.Proofs.Lays.n103 Tryz.prog Tryz.Bo:={
 mixed:=by kernel_rfl
 f103:=Tryz.func128.trans (VU C (by kernel_rfl))
 f206:=Tryz.func200.trans (VU C (by kernel_rfl))
 f210:=Tryz.func166.trans (VU C (by kernel_rfl))
 t3:=Tryz.underlying3
 a3:=Tryz.isAgg3
 z3:=Tryz.sizeOf3
 v3:=Tryz.zeroValue3
 t4:=Tryz.underlying4
 a4:=Tryz.isAgg4
 z4:=Tryz.sizeOf4
 v4:=Tryz.zeroValue4
 t9:=Tryz.underlying9
 a9:=Tryz.isAgg9
 z9:=Tryz.sizeOf9
 v9:=Tryz.zeroValue9
 t24:=Tryz.underlying246
 a24:=Tryz.isAgg246
 z24:=Tryz.sizeOf246
 v24:=Tryz.zeroValue246}
theorem Tryz.strings_CutPrefix(b a:VX)(c:K):
 Calls Tryz.prog 128 #[.string b,.string a] c λd e=>d=VN (.tuple #[.string ⟨(Lib.trimPrefix b.data.toList a.data.toList).toArray⟩,.bool (Lib.hasPrefix b.data.toList a.data.toList)])/\e=c:=Any.strings_CutPrefix Tryz.OI b a c
def Tryz.zp:Go.Shelf.Ren:=⟨λ|171=>216|243=>237|246=>252|283=>258|284=>259|285=>260|286=>261|129=>146|317=>264|318=>265|319=>266|320=>267|337=>268|338=>269|a=>a,λ|3=>3|9=>9|2=>2|4=>4|171=>379|0=>0|53=>146|37=>249|5=>5|173=>381|212=>386|51=>149|20=>20|213=>387|46=>207|232=>388|233=>389|a=>a,λ|17=>4|18=>5|19=>6|a=>a⟩
theorem Tryz.LY:Go.Proofs.LaysM.n171 Tryz.prog Tryz.zp:={
 mixed:=by kernel_rfl
 f129:=Tryz.func146.trans (VU C (by kernel_rfl))
 f171:=Tryz.func216.trans (VU C (by kernel_rfl))
 f243:=Tryz.func237.trans (VU C (by kernel_rfl))
 f246:=Tryz.func252.trans (VU C (by kernel_rfl))
 f283:=Tryz.func258.trans (VU C (by kernel_rfl))
 f284:=Tryz.func259.trans (VU C (by kernel_rfl))
 f285:=Tryz.func260.trans (VU C (by kernel_rfl))
 f286:=Tryz.func261.trans (VU C (by kernel_rfl))
 f317:=Tryz.func264.trans (VU C (by kernel_rfl))
 f318:=Tryz.func265.trans (VU C (by kernel_rfl))
 f319:=Tryz.func266.trans (VU C (by kernel_rfl))
 f320:=Tryz.func267.trans (VU C (by kernel_rfl))
 f337:=Tryz.func268.trans (VU C (by kernel_rfl))
 f338:=Tryz.func269.trans (VU C (by kernel_rfl))
 t0:=Tryz.underlying0
 a0:=Tryz.isAgg0
 z0:=Tryz.sizeOf0
 v0:=Tryz.zeroValue0
 t2:=Tryz.underlying2
 a2:=Tryz.isAgg2
 z2:=Tryz.sizeOf2
 v2:=Tryz.zeroValue2
 t3:=Tryz.underlying3
 a3:=Tryz.isAgg3
 z3:=Tryz.sizeOf3
 v3:=Tryz.zeroValue3
 t4:=Tryz.underlying4
 a4:=Tryz.isAgg4
 z4:=Tryz.sizeOf4
 v4:=Tryz.zeroValue4
 t5:=Tryz.underlying5
 a5:=Tryz.isAgg5
 z5:=Tryz.sizeOf5
 v5:=Tryz.zeroValue5
 t9:=Tryz.underlying9
 a9:=Tryz.isAgg9
 z9:=Tryz.sizeOf9
 v9:=Tryz.zeroValue9
 t20:=Tryz.underlying20
 a20:=Tryz.isAgg20
 z20:=Tryz.sizeOf20
 v20:=Tryz.zeroValue20
 t37:=Tryz.underlying249
 a37:=Tryz.isAgg249
 z37:=Tryz.sizeOf249
 v37:=Tryz.zeroValue249
 t46:=Tryz.underlying207
 a46:=Tryz.isAgg207
 z46:=Tryz.sizeOf207
 v46:=Tryz.zeroValue207
 t51:=Tryz.underlying149
 a51:=Tryz.isAgg149
 z51:=Tryz.sizeOf149
 v51:=Tryz.zeroValue149
 t53:=Tryz.underlying146
 a53:=Tryz.isAgg146
 z53:=Tryz.sizeOf146
 v53:=Tryz.zeroValue146
 t171:=Tryz.underlying379
 a171:=Tryz.isAgg379
 z171:=Tryz.sizeOf379
 v171:=Tryz.zeroValue379
 t173:=Tryz.underlying381
 a173:=Tryz.isAgg381
 z173:=Tryz.sizeOf381
 v173:=Tryz.zeroValue381
 t212:=Tryz.underlying386
 a212:=Tryz.isAgg386
 z212:=Tryz.sizeOf386
 v212:=Tryz.zeroValue386
 t213:=Tryz.underlying387
 a213:=Tryz.isAgg387
 z213:=Tryz.sizeOf387
 t232:=Tryz.underlying388
 a232:=Tryz.isAgg388
 z232:=Tryz.sizeOf388
 v232:=Tryz.zeroValue388
 t233:=Tryz.underlying389
 a233:=Tryz.isAgg389
 z233:=Tryz.sizeOf389
 v233:=Tryz.zeroValue389
 g17:=by kernel_rfl
 g18:=by kernel_rfl
 g19:=by kernel_rfl
 i0:=by kernel_rfl
 i2:=by kernel_rfl
 i3:=by kernel_rfl
 i4:=by kernel_rfl
 i5:=by kernel_rfl
 i9:=by kernel_rfl
 i20:=by kernel_rfl
 i37:=by kernel_rfl
 i46:=by kernel_rfl
 i51:=by kernel_rfl
 i53:=by kernel_rfl
 i171:=by kernel_rfl
 i173:=by kernel_rfl
 i212:=by kernel_rfl
 i232:=by kernel_rfl
 i233:=by kernel_rfl
 m17:=by kernel_rfl
 m18:=by kernel_rfl
 m19:=by kernel_rfl}
theorem Tryz.strconv_Itoa(a:VB)(d:-9223372036854775808<=a)(e:a<=9223372036854775807)(b:K)(f:Lib.TabIs Tryz.prog b "internal/strconv.uint64pow10" .u64 Lib.pow10Tab):
 Calls Tryz.prog 216 #[Vy M a] b λc i=>c=VN (.string ⟨(Lib.itoa a).toArray⟩)/\∃g h,i=grow (b.drewN g) h:=Any.strconv_Itoa Tryz.LY a d e b f
def Tryz.Bq:Go.Shelf.Ren:=⟨λ|189=>62|125=>107|257=>106|128=>145|129=>146|294=>136|295=>137|296=>138|297=>139|298=>140|299=>141|216=>142|300=>143|301=>144|328=>173|329=>174|330=>175|331=>176|332=>177|215=>178|343=>214|a=>a,λ|28=>61|3=>3|46=>207|0=>0|51=>149|53=>146|4=>4|183=>258|182=>257|131=>229|5=>5|9=>9|218=>299|222=>302|228=>342|229=>343|a=>a,λ|a=>a⟩
theorem Tryz.Gj:Go.Proofs.Lays.n189 Tryz.prog Tryz.Bq:={
 mixed:=by kernel_rfl
 f125:=Tryz.func107.trans (VU C (by kernel_rfl))
 f128:=Tryz.func145.trans (VU C (by kernel_rfl))
 f129:=Tryz.func146.trans (VU C (by kernel_rfl))
 f189:=Tryz.func62.trans (VU C (by kernel_rfl))
 f215:=Tryz.func178.trans (VU C (by kernel_rfl))
 f216:=Tryz.func142.trans (VU C (by kernel_rfl))
 f257:=Tryz.func106.trans (VU C (by kernel_rfl))
 f294:=Tryz.func136.trans (VU C (by kernel_rfl))
 f295:=Tryz.func137.trans (VU C (by kernel_rfl))
 f296:=Tryz.func138.trans (VU C (by kernel_rfl))
 f297:=Tryz.func139.trans (VU C (by kernel_rfl))
 f298:=Tryz.func140.trans (VU C (by kernel_rfl))
 f299:=Tryz.func141.trans (VU C (by kernel_rfl))
 f300:=Tryz.func143.trans (VU C (by kernel_rfl))
 f301:=Tryz.func144.trans (VU C (by kernel_rfl))
 f328:=Tryz.func173.trans (VU C (by kernel_rfl))
 f329:=Tryz.func174.trans (VU C (by kernel_rfl))
 f330:=Tryz.func175.trans (VU C (by kernel_rfl))
 f331:=Tryz.func176.trans (VU C (by kernel_rfl))
 f332:=Tryz.func177.trans (VU C (by kernel_rfl))
 f343:=Tryz.func214.trans (VU C (by kernel_rfl))
 t0:=Tryz.underlying0
 a0:=Tryz.isAgg0
 z0:=Tryz.sizeOf0
 v0:=Tryz.zeroValue0
 t3:=Tryz.underlying3
 a3:=Tryz.isAgg3
 z3:=Tryz.sizeOf3
 v3:=Tryz.zeroValue3
 t4:=Tryz.underlying4
 a4:=Tryz.isAgg4
 z4:=Tryz.sizeOf4
 v4:=Tryz.zeroValue4
 t5:=Tryz.underlying5
 a5:=Tryz.isAgg5
 z5:=Tryz.sizeOf5
 v5:=Tryz.zeroValue5
 t9:=Tryz.underlying9
 a9:=Tryz.isAgg9
 z9:=Tryz.sizeOf9
 v9:=Tryz.zeroValue9
 t28:=Tryz.underlying61
 a28:=Tryz.isAgg61
 z28:=Tryz.sizeOf61
 v28:=Tryz.zeroValue61
 t46:=Tryz.underlying207
 a46:=Tryz.isAgg207
 z46:=Tryz.sizeOf207
 v46:=Tryz.zeroValue207
 t51:=Tryz.underlying149
 a51:=Tryz.isAgg149
 z51:=Tryz.sizeOf149
 v51:=Tryz.zeroValue149
 t53:=Tryz.underlying146
 a53:=Tryz.isAgg146
 z53:=Tryz.sizeOf146
 v53:=Tryz.zeroValue146
 t131:=Tryz.underlying229
 a131:=Tryz.isAgg229
 z131:=Tryz.sizeOf229
 v131:=Tryz.zeroValue229
 t182:=Tryz.underlying257
 a182:=Tryz.isAgg257
 z182:=Tryz.sizeOf257
 v182:=Tryz.zeroValue257
 t183:=Tryz.underlying258
 a183:=Tryz.isAgg258
 z183:=Tryz.sizeOf258
 v183:=Tryz.zeroValue258
 t218:=Tryz.underlying299
 a218:=Tryz.isAgg299
 z218:=Tryz.sizeOf299
 v218:=Tryz.zeroValue299
 t222:=Tryz.underlying302
 a222:=Tryz.isAgg302
 z222:=Tryz.sizeOf302
 v222:=Tryz.zeroValue302
 t228:=Tryz.underlying342
 a228:=Tryz.isAgg342
 z228:=Tryz.sizeOf342
 v228:=Tryz.zeroValue342
 t229:=Tryz.underlying343
 a229:=Tryz.isAgg343
 z229:=Tryz.sizeOf343
 v229:=Tryz.zeroValue343}
theorem Tryz.slices_Sort_int(blk c d:E)(b:VD VB)(a:K)(f:Holds (Vx.int M) a blk c b.toArray)(g:blk<a.heap.size)(h:b.length<4611686018427387904):
 Calls Tryz.prog 62 #[VG (C ⟨blk,c,I⟩) b.length d] a λe l=>e=VN (.tuple #[])/\∃i k,l=grow (putRow (Vx.int M) (Sort.ahead a i) blk c (b.mergeSort λm n=>decide (m<=n)).toArray) k:=Any.slices_Sort_int Tryz.Gj blk c d b a f g h
def Tryz.Bp:Go.Shelf.Ren:=⟨λ|146=>129|221=>167|268=>201|138=>202|143=>203|195=>228|197=>229|218=>230|219=>231|260=>246|217=>247|225=>248|224=>249|267=>250|266=>256|314=>257|a=>a,λ|9=>9|31=>35|3=>3|4=>4|0=>0|105=>359|21=>21|5=>5|46=>207|119=>373|139=>376|138=>375|146=>377|51=>149|a=>a,λ|1=>1|3=>2|4=>3|a=>a⟩
theorem Tryz.OJ:Go.Proofs.Lays.n146 Tryz.prog Tryz.Bp:={
 mixed:=by kernel_rfl
 f138:=Tryz.func202.trans (VU C (by kernel_rfl))
 f143:=Tryz.func203.trans (VU C (by kernel_rfl))
 f146:=Tryz.func129.trans (VU C (by kernel_rfl))
 f195:=Tryz.func228.trans (VU C (by kernel_rfl))
 f197:=Tryz.func229.trans (VU C (by kernel_rfl))
 f217:=Tryz.func247.trans (VU C (by kernel_rfl))
 f218:=Tryz.func230.trans (VU C (by kernel_rfl))
 f219:=Tryz.func231.trans (VU C (by kernel_rfl))
 f221:=Tryz.func167.trans (VU C (by kernel_rfl))
 f224:=Tryz.func249.trans (VU C (by kernel_rfl))
 f225:=Tryz.func248.trans (VU C (by kernel_rfl))
 f260:=Tryz.func246.trans (VU C (by kernel_rfl))
 f266:=Tryz.func256.trans (VU C (by kernel_rfl))
 f267:=Tryz.func250.trans (VU C (by kernel_rfl))
 f268:=Tryz.func201.trans (VU C (by kernel_rfl))
 f314:=Tryz.func257.trans (VU C (by kernel_rfl))
 t0:=Tryz.underlying0
 a0:=Tryz.isAgg0
 z0:=Tryz.sizeOf0
 v0:=Tryz.zeroValue0
 t3:=Tryz.underlying3
 a3:=Tryz.isAgg3
 z3:=Tryz.sizeOf3
 v3:=Tryz.zeroValue3
 t4:=Tryz.underlying4
 a4:=Tryz.isAgg4
 z4:=Tryz.sizeOf4
 v4:=Tryz.zeroValue4
 t5:=Tryz.underlying5
 a5:=Tryz.isAgg5
 z5:=Tryz.sizeOf5
 v5:=Tryz.zeroValue5
 t9:=Tryz.underlying9
 a9:=Tryz.isAgg9
 z9:=Tryz.sizeOf9
 v9:=Tryz.zeroValue9
 t21:=Tryz.underlying21
 a21:=Tryz.isAgg21
 z21:=Tryz.sizeOf21
 v21:=Tryz.zeroValue21
 t31:=Tryz.underlying35
 a31:=Tryz.isAgg35
 z31:=Tryz.sizeOf35
 v31:=Tryz.zeroValue35
 t46:=Tryz.underlying207
 a46:=Tryz.isAgg207
 z46:=Tryz.sizeOf207
 v46:=Tryz.zeroValue207
 t51:=Tryz.underlying149
 a51:=Tryz.isAgg149
 z51:=Tryz.sizeOf149
 v51:=Tryz.zeroValue149
 t105:=Tryz.underlying359
 a105:=Tryz.isAgg359
 z105:=Tryz.sizeOf359
 v105:=Tryz.zeroValue359
 t119:=Tryz.underlying373
 a119:=Tryz.isAgg373
 z119:=Tryz.sizeOf373
 t138:=Tryz.underlying375
 a138:=Tryz.isAgg375
 z138:=Tryz.sizeOf375
 v138:=Tryz.zeroValue375
 t139:=Tryz.underlying376
 a139:=Tryz.isAgg376
 z139:=Tryz.sizeOf376
 v139:=Tryz.zeroValue376
 t146:=Tryz.underlying377
 a146:=Tryz.isAgg377
 z146:=Tryz.sizeOf377
 v146:=Tryz.zeroValue377
 g1:=by kernel_rfl
 g3:=by kernel_rfl
 g4:=by kernel_rfl}
theorem Tryz.strings_Split(a b:VX)(d:VB)(c:K)(h:a.size<4294967281)(g:c.cell? ⟨1,0,I⟩=C (Vy M d))(f:1<=b.size):
 Calls Tryz.prog 129 #[.string a,.string b] c λe i=>e=VN (VG (C ⟨c.heap.size,0,I⟩) (Lib.countB a b+1) (Lib.countB a b+1))/\i=c.alloc (.cells ((Lib.splitB b 0 (Lib.countB a b) a).map Value.string).toArray 9):=Any.strings_Split Tryz.OJ (by kernel_rfl) a b d c h g f
def Tryz.wI:Go.Shelf.Ren:=⟨λ|17=>188|a=>a,λ|24=>35|9=>9|3=>3|4=>4|0=>0|a=>a,λ|a=>a⟩
theorem Tryz.xN:Go.Proofs.Lays2.n17 Tryz.prog Tryz.wI:={
 mixed:=by kernel_rfl
 f17:=Tryz.func188.trans (VU C (by kernel_rfl))
 t0:=Tryz.underlying0
 a0:=Tryz.isAgg0
 z0:=Tryz.sizeOf0
 v0:=Tryz.zeroValue0
 t3:=Tryz.underlying3
 a3:=Tryz.isAgg3
 z3:=Tryz.sizeOf3
 v3:=Tryz.zeroValue3
 t4:=Tryz.underlying4
 a4:=Tryz.isAgg4
 z4:=Tryz.sizeOf4
 v4:=Tryz.zeroValue4
 t9:=Tryz.underlying9
 a9:=Tryz.isAgg9
 z9:=Tryz.sizeOf9
 v9:=Tryz.zeroValue9
 t24:=Tryz.underlying35
 a24:=Tryz.isAgg35
 z24:=Tryz.sizeOf35
 v24:=Tryz.zeroValue35}
theorem Tryz.slices_Reverse_string(blk b d:E)(a:VD (VD UInt8))(c:K)(f:Holds encStr c blk b a.toArray)(g:a.length<=9223372036854775807):
 Calls Tryz.prog 188 #[VG (C ⟨blk,b,I⟩) a.length d] c λe i=>e=VN (.tuple #[])/\∃h,i=putRow encStr (Sort.ahead c h) blk b a.reverse.toArray:=Any.slices_Reverse_string Tryz.xN blk b d a c f g
theorem Tryz.slices_Reverse_string_empty(b:VL VT)(c:E)(a:K):
 Calls Tryz.prog 188 #[.slice b 0 c] a λd e=>d=VN (.tuple #[])/\e=a:=Any.slices_Reverse_string_empty Tryz.xN b c a
def Tryz.wJ:Go.Shelf.Ren:=⟨λ|20=>181|a=>a,λ|22=>61|3=>3|4=>4|0=>0|a=>a,λ|a=>a⟩
theorem Tryz.xO:Go.Proofs.Lays2.n20 Tryz.prog Tryz.wJ:={
 mixed:=by kernel_rfl
 f20:=Tryz.func181.trans (VU C (by kernel_rfl))
 t0:=Tryz.underlying0
 a0:=Tryz.isAgg0
 z0:=Tryz.sizeOf0
 v0:=Tryz.zeroValue0
 t3:=Tryz.underlying3
 a3:=Tryz.isAgg3
 z3:=Tryz.sizeOf3
 v3:=Tryz.zeroValue3
 t4:=Tryz.underlying4
 a4:=Tryz.isAgg4
 z4:=Tryz.sizeOf4
 v4:=Tryz.zeroValue4
 t22:=Tryz.underlying61
 a22:=Tryz.isAgg61
 z22:=Tryz.sizeOf61
 v22:=Tryz.zeroValue61
 i3:=by kernel_rfl}
theorem Tryz.slices_Compact_int(blk b c:E)(a:VD VB)(d:K)(f:Holds (Vx.int M) d blk b a.toArray)(h:a.length<=9223372036854775807)(g:a.length<=c):
 Calls Tryz.prog 181 #[VG (C ⟨blk,b,I⟩) a.length c] d λe k=>e=VN (VG (C ⟨blk,b,I⟩) (Lib.compact a).length c)/\∃i,k=putRow (Vx.int M) (Sort.ahead d i) blk b (Lib.compact a++List.replicate (a.length-(Lib.compact a).length) 0).toArray:=Any.slices_Compact_int Tryz.xO blk b c a d f h g
theorem Tryz.slices_Compact_int_empty(a:VL VT)(b:E)(c:K):
 Calls Tryz.prog 181 #[.slice a 0 b] c λd e=>d=VN (.slice a 0 b)/\e=c:=Any.slices_Compact_int_empty Tryz.xO a b c
def Tryz.wL:Go.Shelf.Ren:=⟨λ|25=>134|31=>142|32=>170|37=>178|a=>a,λ|22=>61|3=>3|4=>4|40=>207|0=>0|a=>a,λ|a=>a⟩
theorem Tryz.xP:Go.Proofs.Lays2.n25 Tryz.prog Tryz.wL:={
 mixed:=by kernel_rfl
 f25:=Tryz.func134.trans (VU C (by kernel_rfl))
 f31:=Tryz.func142.trans (VU C (by kernel_rfl))
 f32:=Tryz.func170.trans (VU C (by kernel_rfl))
 f37:=Tryz.func178.trans (VU C (by kernel_rfl))
 t0:=Tryz.underlying0
 a0:=Tryz.isAgg0
 z0:=Tryz.sizeOf0
 v0:=Tryz.zeroValue0
 t3:=Tryz.underlying3
 a3:=Tryz.isAgg3
 z3:=Tryz.sizeOf3
 v3:=Tryz.zeroValue3
 t4:=Tryz.underlying4
 a4:=Tryz.isAgg4
 z4:=Tryz.sizeOf4
 v4:=Tryz.zeroValue4
 t22:=Tryz.underlying61
 a22:=Tryz.isAgg61
 z22:=Tryz.sizeOf61
 v22:=Tryz.zeroValue61
 t40:=Tryz.underlying207
 a40:=Tryz.isAgg207
 z40:=Tryz.sizeOf207
 v40:=Tryz.zeroValue207}
theorem Tryz.slices_BinarySearch_int(e f a g:E)(b:VD VB)(d:VB)(c:K)(m:a<=b.length)(i:a<4611686018427387904)(k:∀j,j<b.length->c.cell? ⟨e,f+j,I⟩=C (Vy M (b.getD j 0)))(l:(b.take a).Pairwise (·<=·)):
 Calls Tryz.prog 134 #[VG (C ⟨e,f,I⟩) a g,Vy M d] c λh o=>h=VN (.tuple #[Vy M ((b.take a).countP (·<d):E),.bool ((b.take a).contains d)])/\∃n,o=c.drewN n:=Any.slices_BinarySearch_int Tryz.xP e f a g b d c m i k l
theorem Tryz.slices_Sort_int_none(c:VL VT)(b:E)(a:K):
 Calls Tryz.prog 62 #[.slice c 0 b] a λd e=>d=VN (.tuple #[])/\e=a:=Any.slices_Sort_int_none Tryz.Gj c b a
theorem Tryz.slices_BinarySearch_int_empty(b:VL VT)(c:E)(d:VB)(a:K):
 Calls Tryz.prog 134 #[.slice b 0 c,Vy M d] a λe f=>e=VN (.tuple #[Vy M 0,.bool Vz])/\f=a:=Any.slices_BinarySearch_int_empty Tryz.xP b c d a
def Tryz.sQ:Go.Shelf.Ren:=⟨λ|21=>135|27=>171|28=>172|35=>213|39=>236|a=>a,λ|22=>61|3=>3|4=>4|0=>0|a=>a,λ|a=>a⟩
theorem Tryz.tV:Go.Proofs.Lays2.n21 Tryz.prog Tryz.sQ:={
 mixed:=by kernel_rfl
 f21:=Tryz.func135.trans (VU C (by kernel_rfl))
 f27:=Tryz.func171.trans (VU C (by kernel_rfl))
 f28:=Tryz.func172.trans (VU C (by kernel_rfl))
 f35:=Tryz.func213.trans (VU C (by kernel_rfl))
 f39:=Tryz.func236.trans (VU C (by kernel_rfl))
 t0:=Tryz.underlying0
 a0:=Tryz.isAgg0
 z0:=Tryz.sizeOf0
 v0:=Tryz.zeroValue0
 t3:=Tryz.underlying3
 a3:=Tryz.isAgg3
 z3:=Tryz.sizeOf3
 v3:=Tryz.zeroValue3
 t4:=Tryz.underlying4
 a4:=Tryz.isAgg4
 z4:=Tryz.sizeOf4
 v4:=Tryz.zeroValue4
 t22:=Tryz.underlying61
 a22:=Tryz.isAgg61
 z22:=Tryz.sizeOf61
 v22:=Tryz.zeroValue61
 i3:=by kernel_rfl}
def Tryz.vf:Go.Shelf.Ren:=⟨λ|7=>98|10=>132|a=>a,λ|23=>188|26=>9|3=>187|28=>218|0=>0|27=>217|33=>250|4=>4|a=>a,λ|a=>a⟩
theorem Tryz.LU:Go.Proofs.SlLaysZ.n7 Tryz.prog Tryz.vf:={
 mixed:=by kernel_rfl
 f7:=⟨Tryz.f98.name,by decide,Tryz.func98.trans (VU C (by kernel_rfl))⟩
 f10:=⟨Tryz.f132.name,by decide,Tryz.func132.trans (VU C (by kernel_rfl))⟩
 t0:=Tryz.underlying0
 a0:=Tryz.isAgg0
 z0:=Tryz.sizeOf0
 v0:=Tryz.zeroValue0
 t4:=Tryz.underlying4
 a4:=Tryz.isAgg4
 z4:=Tryz.sizeOf4
 v4:=Tryz.zeroValue4
 t23:=Tryz.underlying188
 a23:=Tryz.isAgg188
 z23:=Tryz.sizeOf188
 v23:=Tryz.zeroValue188
 t26:=Tryz.underlying9
 a26:=Tryz.isAgg9
 z26:=Tryz.sizeOf9
 v26:=Tryz.zeroValue9
 t27:=Tryz.underlying217
 a27:=Tryz.isAgg217
 z27:=Tryz.sizeOf217
 v27:=Tryz.zeroValue217
 t28:=Tryz.underlying218
 a28:=Tryz.isAgg218
 z28:=Tryz.sizeOf218
 v28:=Tryz.zeroValue218
 t33:=Tryz.underlying250
 a33:=Tryz.isAgg250
 z33:=Tryz.sizeOf250
 v33:=Tryz.zeroValue250}
def Tryz.qM:Go.Shelf.Ren:=⟨λ|6=>97|8=>130|9=>131|11=>168|13=>107|12=>169|23=>145|24=>146|14=>204|15=>205|16=>206|17=>207|18=>208|19=>209|20=>210|21=>211|22=>212|25=>232|26=>174|27=>175|28=>233|29=>234|30=>235|31=>251|a=>a,λ|26=>9|28=>218|24=>35|0=>0|3=>3|37=>207|48=>149|50=>146|4=>4|40=>258|39=>257|45=>229|5=>5|9=>9|51=>299|55=>302|57=>342|58=>343|33=>250|a=>a,λ|a=>a⟩
theorem Tryz.Nc:Go.Proofs.SlLaysZ.n6 Tryz.prog Tryz.qM:={
 mixed:=by kernel_rfl
 f6:=⟨Tryz.f97.name,by decide,Tryz.func97.trans (VU C (by kernel_rfl))⟩
 f8:=⟨Tryz.f130.name,by decide,Tryz.func130.trans (VU C (by kernel_rfl))⟩
 f11:=⟨Tryz.f168.name,by decide,Tryz.func168.trans (VU C (by kernel_rfl))⟩
 t0:=Tryz.underlying0
 a0:=Tryz.isAgg0
 z0:=Tryz.sizeOf0
 v0:=Tryz.zeroValue0
 t24:=Tryz.underlying35
 a24:=Tryz.isAgg35
 z24:=Tryz.sizeOf35
 v24:=Tryz.zeroValue35
 t26:=Tryz.underlying9
 a26:=Tryz.isAgg9
 z26:=Tryz.sizeOf9
 v26:=Tryz.zeroValue9
 t28:=Tryz.underlying218
 a28:=Tryz.isAgg218
 z28:=Tryz.sizeOf218
 v28:=Tryz.zeroValue218
 i26:=by kernel_rfl}
def Tryz.Cl:Go.Shelf.Ren:=⟨λ|6=>131|8=>107|9=>169|19=>145|20=>146|21=>204|22=>205|23=>206|24=>207|25=>208|26=>209|27=>210|28=>211|29=>212|36=>232|31=>174|32=>175|37=>233|38=>234|39=>235|41=>251|a=>a,λ|27=>35|29=>9|3=>3|32=>207|26=>35|0=>0|44=>149|46=>146|4=>4|36=>258|35=>257|41=>229|5=>5|9=>9|53=>299|57=>302|63=>342|64=>343|a=>a,λ|a=>a⟩
theorem Tryz.GM:Go.Proofs.SlLaysM.n6 Tryz.prog Tryz.Cl:={
 mixed:=by kernel_rfl
 f6:=⟨Tryz.f131.name,by decide,Tryz.func131.trans (VU C (by kernel_rfl))⟩
 f8:=Tryz.func107.trans (VU C (by kernel_rfl))
 f9:=⟨Tryz.f169.name,by decide,Tryz.func169.trans (VU C (by kernel_rfl))⟩
 f19:=Tryz.func145.trans (VU C (by kernel_rfl))
 f20:=Tryz.func146.trans (VU C (by kernel_rfl))
 f21:=⟨Tryz.f204.name,by decide,Tryz.func204.trans (VU C (by kernel_rfl))⟩
 f22:=⟨Tryz.f205.name,by decide,Tryz.func205.trans (VU C (by kernel_rfl))⟩
 f23:=⟨Tryz.f206.name,by decide,Tryz.func206.trans (VU C (by kernel_rfl))⟩
 f24:=⟨Tryz.f207.name,by decide,Tryz.func207.trans (VU C (by kernel_rfl))⟩
 f25:=⟨Tryz.f208.name,by decide,Tryz.func208.trans (VU C (by kernel_rfl))⟩
 f26:=⟨Tryz.f209.name,by decide,Tryz.func209.trans (VU C (by kernel_rfl))⟩
 f27:=⟨Tryz.f210.name,by decide,Tryz.func210.trans (VU C (by kernel_rfl))⟩
 f28:=⟨Tryz.f211.name,by decide,Tryz.func211.trans (VU C (by kernel_rfl))⟩
 f29:=⟨Tryz.f212.name,by decide,Tryz.func212.trans (VU C (by kernel_rfl))⟩
 f31:=Tryz.func174.trans (VU C (by kernel_rfl))
 f32:=Tryz.func175.trans (VU C (by kernel_rfl))
 f36:=⟨Tryz.f232.name,by decide,Tryz.func232.trans (VU C (by kernel_rfl))⟩
 f37:=⟨Tryz.f233.name,by decide,Tryz.func233.trans (VU C (by kernel_rfl))⟩
 f38:=⟨Tryz.f234.name,by decide,Tryz.func234.trans (VU C (by kernel_rfl))⟩
 f39:=⟨Tryz.f235.name,by decide,Tryz.func235.trans (VU C (by kernel_rfl))⟩
 f41:=⟨Tryz.f251.name,by decide,Tryz.func251.trans (VU C (by kernel_rfl))⟩
 t0:=Tryz.underlying0
 a0:=Tryz.isAgg0
 z0:=Tryz.sizeOf0
 v0:=Tryz.zeroValue0
 t3:=Tryz.underlying3
 a3:=Tryz.isAgg3
 z3:=Tryz.sizeOf3
 v3:=Tryz.zeroValue3
 t4:=Tryz.underlying4
 a4:=Tryz.isAgg4
 z4:=Tryz.sizeOf4
 v4:=Tryz.zeroValue4
 t5:=Tryz.underlying5
 a5:=Tryz.isAgg5
 z5:=Tryz.sizeOf5
 v5:=Tryz.zeroValue5
 t9:=Tryz.underlying9
 a9:=Tryz.isAgg9
 z9:=Tryz.sizeOf9
 v9:=Tryz.zeroValue9
 t26:=Tryz.underlying35
 a26:=Tryz.isAgg35
 z26:=Tryz.sizeOf35
 v26:=Tryz.zeroValue35
 t27:=Tryz.underlying35
 a27:=Tryz.isAgg35
 z27:=Tryz.sizeOf35
 v27:=Tryz.zeroValue35
 t29:=Tryz.underlying9
 a29:=Tryz.isAgg9
 z29:=Tryz.sizeOf9
 v29:=Tryz.zeroValue9
 t32:=Tryz.underlying207
 a32:=Tryz.isAgg207
 z32:=Tryz.sizeOf207
 v32:=Tryz.zeroValue207
 t35:=Tryz.underlying257
 a35:=Tryz.isAgg257
 z35:=Tryz.sizeOf257
 v35:=Tryz.zeroValue257
 t36:=Tryz.underlying258
 a36:=Tryz.isAgg258
 z36:=Tryz.sizeOf258
 v36:=Tryz.zeroValue258
 t41:=Tryz.underlying229
 a41:=Tryz.isAgg229
 z41:=Tryz.sizeOf229
 v41:=Tryz.zeroValue229
 t44:=Tryz.underlying149
 a44:=Tryz.isAgg149
 z44:=Tryz.sizeOf149
 v44:=Tryz.zeroValue149
 t46:=Tryz.underlying146
 a46:=Tryz.isAgg146
 z46:=Tryz.sizeOf146
 v46:=Tryz.zeroValue146
 t53:=Tryz.underlying299
 a53:=Tryz.isAgg299
 z53:=Tryz.sizeOf299
 v53:=Tryz.zeroValue299
 t57:=Tryz.underlying302
 a57:=Tryz.isAgg302
 z57:=Tryz.sizeOf302
 v57:=Tryz.zeroValue302
 t63:=Tryz.underlying342
 a63:=Tryz.isAgg342
 z63:=Tryz.sizeOf342
 v63:=Tryz.zeroValue342
 t64:=Tryz.underlying343
 a64:=Tryz.isAgg343
 z64:=Tryz.sizeOf343
 v64:=Tryz.zeroValue343}
theorem Tryz.Pt(f:E):AnyZ.SortsIn Tryz.prog Tryz.qM Fence.wide f:=
 ⟨λblk g b i a c d e=>A_.2 (AnyM.slices_Sort_string Tryz.GM blk g b i a c d e),
  λh b a=>A_.2 (AnyM.slices_Sort_string_none Tryz.GM h b a)⟩
theorem Tryz.zw(b:VL E)(a:K):CallsIn Fence.wide 5 Tryz.prog 98 #[.map b] a λc d=>c=VN (.func (.func 132) #[] #[VW (C ⟨a.heap.size,0,I⟩)])/\d=a.alloc (.cells #[.map b] 188):=
 AnyZ.keys_in Tryz.LU Fence.wide 5 trivial rfl b a
theorem Tryz.kE{e:Type}(b g:E)(D0:DataW e)(k:Vx->VL (DataW e×VD MemPlace))(a:K)(f:a.ownsMap Tryz.prog 9 k b g D0)(s:Maps.size D0<=maxLen)(r:Maps.size D0*16<=140737488355328):
 CallsIn Fence.wide 5 Tryz.prog 97 #[.func (.func 132) #[] #[VW (C ⟨a.heap.size,0,I⟩)]] (a.alloc (.cells #[.map (C b)] 188)) λm h=>∃(d:Vx)(c:VD (VD UInt8)),m=VN d/\c.Perm (strKeys D0)/\
  h.ownsRow (a.alloc (.cells #[.map (C b)] 188)).heap.size 9 1 d c.length ((c.mergeSort (λv w=>decide (v<=w))).map encStr)/\(d=VG I 0 0↔c=[])/\Below (a.alloc (.cells #[.map (C b)] 188)).heap.size (a.alloc (.cells #[.map (C b)] 188)) h:=by
 have q:=f.lt
 have u:SeqGives Fence.wide 2 Tryz.prog 132 #[VW (C ⟨a.heap.size,0,I⟩)] encStr (λc=>c.Perm (strKeys D0)) (Maps.size D0) (a.alloc (.cells #[.map (C b)] 188)):=
  AnyZ.keys_gives (ρ:=Tryz.vf) {Tryz.LU with} Fence.wide _ trivial rfl (by omega) a.heap.size b g D0 _ (by simp) (by simp) (by
   obtain⟨n,l,p,i,t,o⟩:=f
   exact⟨n,l,(Wk _ _ b q).trans p,i,t,o⟩)
 exact AnyZ.sorted_in Tryz.Nc Fence.wide 5 trivial trivial trivial trivial rfl (by omega) (Tryz.Pt _) (enters_of Tryz.func131 (by kernel_rfl) A) 132 #[VW (C ⟨a.heap.size,0,I⟩)] trivial (enters_of Tryz.func132 (by kernel_rfl) A) _ _ s r _ u
end Go.Proofs
namespace Wt
abbrev B:=VD UInt8
abbrev Path:=VD B
structure Stat where
 made:VB:=0
 set:VB:=0
 aF:VB:=0
 fj:VB:=0
 own:VB:=0
 size:VB:=0
 kids:VB:=0
 deriving DecidableEq
structure Nd where
 data:B:=[]
 stat:Stat:={}
 next:VB:=0
 deriving DecidableEq
abbrev Tree:=VD (Path×Nd)
def tB(a:UInt8):VI:=(97<=a&&a<=122)||(65<=a&&a<=90)||(48<=a&&a<=57)||a==95
def cK(a:B):VI:=decide (1<=a.length)&&decide (a.length<=12)&&a.all tB
def pieces:B->VD B
 |[]=>[[]]
 |a::b=>if a=47 then[]::pieces b else
  match pieces b with
  |[]=>[[a]]
  |d::c=>(a::d)::c
def split:B->VL Path
 |47::[]=>C []
 |47::a=>if(pieces a).length<=4/\(pieces a).all cK=J then C (pieces a)else I
 |_=>I
def join(a:Path):B:=47::[47].intercalate a
def three(a:VB):B:=[48+UInt8.ofNat (a.toNat/100),48+UInt8.ofNat (a.toNat/10%10),48+UInt8.ofNat (a.toNat%10)]
def find:Tree->Path->VL Nd
 |[],_=>I
 |(c,b)::d,a=>if c=a then C b else find d a
def put:Tree->Path->Nd->Tree
 |[],a,b=>[(a,b)]
 |(c,e)::d,a,b=>if c=a then(a,b)::d else if a<c then(a,b)::(c,e)::d else(c,e)::put d a b
def del(c:Tree)(b:Path):Tree:=c.filter λa=>decide (a.1≠b)
def bW(c:Tree)(b:Path):VD B:=c.filterMap λa=>if a.1≠[]/\a.1.dropLast=b then a.1.getLast? else I
structure Op where
 kind:VB:=0
 path:B:=[]
 data:B:=[]
 aF:VB:=0
 flags:VB:=0
 deriving DecidableEq
abbrev Ev:=VB×B
inductive TF where
 |no (a:VB)
 |yes (d:Tree) (c:B) (b:VD Ev)
def nameOf(b:VB)(a:B)(c:VB):B:=if 2<=b then a++three c else a
def iN(a:Nd)(b:VB):Nd:={a with stat:={a.stat with fj:=a.stat.fj+1,kids:=a.stat.kids+1},next:=if 2<=b then a.next+1 else a.next}
def rF(a:Nd):Nd:={a with stat:={a.stat with fj:=a.stat.fj+1,kids:=a.stat.kids-1}}
def cP(a:Op)(al aE:VB):Nd:={data:=a.data,stat:={made:=aE,set:=aE,size:=a.data.length,own:=if a.flags%2=1 then al else 0}}
def gA(a:Nd)(b:Op)(aE:VB):Nd:={a with data:=b.data,stat:={a.stat with set:=aE,aF:=a.stat.aF+1,size:=b.data.length}}
def create(e:Tree)(a:Op)(al aE:VB):TF:=
 match split a.path with
 |none=>.no 4
 |some []=>.no 4
 |some (f::g)=>
  let c:=(f::g).dropLast
  let d:=(f::g).getLast (by simp)
  if 8<d.length then .no 4
  else if 16<a.data.length then .no 5
  else if a.flags<0\/3<a.flags then .no 6
  else match find e c with
  |none=>.no 7
  |some b=>
   if b.stat.own≠0 then .no 11
   else if 2<=a.flags/\b.next=1000 then .no 12
   else if(find e (c++[nameOf a.flags d b.next])).isSome then .no 8
   else if e.length=60 then .no 13
   else .yes (put (put e c (iN b a.flags)) (c++[nameOf a.flags d b.next]) (cP a al aE)) (join (c++[nameOf a.flags d b.next])) [(1,join (c++[nameOf a.flags d b.next])),(4,join c)]
def drop(b:Tree)(a:Path):Tree:=
 match find b a.dropLast with
 |none=>del b a
 |some c=>del (put b a.dropLast (rF c)) a
def jX(a:Path):VD Ev:=[(2,join a),(4,join a.dropLast)]
def change(c:Tree)(a:Op)(al aE:VB):TF:=
 if a.kind=3 then create c a al aE else
 match split a.path with
 |none=>.no 4
 |some b=>
  if a.kind=4/\b=[]then .no 4
  else if a.kind=5/\16<a.data.length then .no 5
  else match find c b with
  |none=>.no 7
  |some d=>
   if a.aF≠-1/\a.aF≠d.stat.aF then .no 9
   else if a.kind=4/\0<d.stat.kids then .no 10
   else if a.kind=4 then .yes (drop c b) a.path (jX b)
   else if a.kind=5 then .yes (put c b (gA d a aE)) a.path [(3,a.path)]
   else .yes c a.path []
structure eK where
 al:VB:=0
 op:Op:={}
 watch:VI:=Vz
 ops:VD Op:=[]
structure Out where
 al:VB:=0
 ev:VB:=0
 idx:VB:=0
 err:VB:=0
 path:B:=[]
 data:B:=[]
 found:VI:=Vz
 stat:Stat:={}
 names:VD B:=[]
 results:VD (VB×B):=[]
 deriving DecidableEq
structure dH where
 timeout:VB
 now:VB:=0
 aE:VB:=0
 next:VB:=1
 dp:VD (VB×VB):=[]
 bR:VI->B->VD VB:=λ_ _=>[]
 tree:Tree:=[([],{})]
def known(b:dH)(id:VB):VI:=b.dp.any λa=>decide (a.1=id)
def heard(b:dH)(id:VB):dH:={b with dp:=b.dp.map λa=>if a.1=id then(a.1,b.now)else a}
def dI(a:VB):VD VB->VD VB
 |[]=>[a]
 |b::c=>if a<b then a::b::c else if a=b then b::c else b::dI a c
def ir(a:VB)(b:VI):VI:=if b then decide (a=4\/a=2)else decide (a≠4)
def toldOf(b:dH)(a:Ev):VD VB:=
 (if ir a.1 J then b.bR J a.2 else[]).foldr dI (if ir a.1 Vz then b.bR Vz a.2 else[])
def iS(e:VB)(b:dH)(a:Ev):dH×VD Out:=
 ({b with bR:=λc d=>if ir a.1 c/\d=a.2 then[]else b.bR c d},(toldOf b a).map λf=>{al:=f,ev:=a.1,idx:=e,path:=a.2})
def tell(b:VB):dH->VD Ev->dH×VD Out
 |a,[]=>(a,[])
 |a,c::d=>
  let (g,e):=iS b a c
  let (h,f):=tell b g d
  (h,e++f)
def PW:Tree->VD Path->Tree×VD Ev
 |a,[]=>(a,[])
 |a,b::d=>
  let (e,c):=PW (drop a b) d
  (e,jX b++c)
def mine(b:Tree)(id:VB):VD Path:=(b.filter λa=>decide (a.2.stat.own=id)).map (·.1)
def SL(d:VB)(a:dH)(id:VB):dH×VD Out:=
 let b:=PW a.tree (mine a.tree id)
 tell d {a with aE:=a.aE+1,dp:=a.dp.filter λc=>decide (c.1≠id),bR:=λe f=>(a.bR e f).filter λg=>decide (g≠id),tree:=b.1} b.2
def ends(b:VB):dH->VD VB->dH×VD Out
 |a,[]=>(a,[])
 |a,id::c=>
  let (f,d):=SL b a id
  let (g,e):=ends b f c
  (g,d++e)
def late(a:dH):VD VB:=(a.dp.filter λb=>decide (a.timeout<a.now-b.2)).map (·.1)
def Gq(al aE:VB):Tree->VD Op->Except (E×VB) (Tree×VD B×VD Ev)
 |b,[]=>.ok (b,[],[])
 |b,g::f=>
  match change b g al aE with
  |.no a=>.error (0,a)
  |.yes k h c=>
   match Gq al aE k f with
   |.error (e,a)=>.error (e+1,a)
   |.ok (l,i,d)=>.ok (l,h::i,c++d)
def RH(c a:E)(b:VB):VD (VB×B):=(VD.range c).map λj=>(if j<a then 14 else if j=a then b else 15,[])
structure Seen where
 data:B
 stat:Stat
 names:VD B
inductive CZ where
 |no (a:VB)
 |yes (b:Seen)
def look(c:Tree)(d:B):CZ:=
 match split d with
 |none=>.no 4
 |some b=>
  match find c b with
  |none=>.no 7
  |some a=>.yes ⟨a.data,a.stat,bW c b⟩
def dB(c:dH)(id:VB)(d:VI)(e:B):dH:={c with bR:=λa b=>if a=d/\b=e then dI id (c.bR a b)else c.bR a b}
def eU(e:dH)(c:VB)(a:eK)(i:CZ):dH×Out:=
 if known e a.al=Vz then(e,{al:=a.al,idx:=c,err:=3})else
 let b:=heard e a.al
 match i with
 |.no g=>
  if g=7/\a.op.kind=9 then(if a.watch then dB b a.al Vz a.op.path else b,{al:=a.al,idx:=c,path:=a.op.path})
  else(b,{al:=a.al,idx:=c,err:=g})
 |.yes f=>
  (if a.watch then dB b a.al (decide (a.op.kind=10)) a.op.path else b,
    {al:=a.al,idx:=c,path:=a.op.path,found:=J,stat:=f.stat,data:=if a.op.kind=8 then f.data else[],names:=if a.op.kind=10 then f.names else[]})
def write(f:dH)(a:VB)(r:eK):dH×VD Out:=
 if r.op.kind=2 then
  let (b,c):=SL a f r.al
  (b,c++[{al:=r.al,idx:=a}])
 else
  let b:={f with aE:=f.aE+1}
  if r.op.kind=7 then
   match Gq r.al b.aE f.tree r.ops with
   |.error (m,g)=>(b,[{al:=r.al,idx:=a,err:=g,results:=RH r.ops.length m g}])
   |.ok (i,o,k)=>
    let (h,c):=tell a {b with tree:=i} k
    (h,c++[{al:=r.al,idx:=a,results:=o.map λe=>(0,e)}])
  else
   match change f.tree r.op r.al b.aE with
   |.no g=>(b,[{al:=r.al,idx:=a,err:=g}])
   |.yes i e k=>
    let (h,c):=tell a {b with tree:=i} k
    match look i e with
    |.no _=>(h,c++[{al:=r.al,idx:=a,path:=e}])
    |.yes p=>(h,c++[{al:=r.al,idx:=a,path:=e,found:=J,stat:=p.stat}])
inductive Task where
 |read
 |write
 |enter
 |clock
 |Ha (a:VB)
 deriving DecidableEq
def task(c:VB)(a:eK):Task:=
 if 64<=c then .Ha 16
 else if a.op.kind=1 then .enter
 else if a.op.kind=11 then .clock
 else if a.op.kind=8\/a.op.kind=9\/a.op.kind=10 then .read
 else if a.op.kind=7 then(if 8<a.ops.length\/(a.ops.any λb=>decide (b.kind<3\/6<b.kind))=J then .Ha 2 else .write)
 else if 2<=a.op.kind/\a.op.kind<=6 then .write
 else .Ha 2
def step(a:dH)(b:VB)(c:eK):dH×VD Out:=
 match task b c with
 |.Ha g=>(a,[{al:=c.al,idx:=b,err:=g}])
 |.enter=>
  if a.dp.length<8 then({a with aE:=a.aE+1,dp:=a.dp++[(a.next,a.now)],next:=a.next+1},[{al:=a.next,idx:=b}])
  else(a,[{idx:=b,err:=13}])
 |.clock=>
  let e:={a with now:=a.now+1}
  let (k,h):=ends b e (late e)
  (k,h++[{idx:=b}])
 |.write=>
  if known a c.al=Vz then(a,[{al:=c.al,idx:=b,err:=3}])
  else write (heard a c.al) b c
 |.read=>
  let (e,i):=eU a b c (look a.tree c.op.path)
  (e,[i])
def handle:dH->VB->VD eK->dH×VD Out
 |a,_,[]=>(a,[])
 |a,b,f::c=>
  let (g,d):=step a b f
  let (h,e):=handle g (b+1) c
  (h,d++e)
variable{a:Tree}{b:Path}{c:Nd}
theorem nF{a b c:Path}(d:a<b)(e:b<c):a<c:=VD.lt_trans d e
theorem jx(a:Path):¬a<a:=VD.lt_irrefl a
theorem Eo{b a:Path}(d:b<a):b≠a:=λc=>jx a (c▸d)
def Ord(a:Tree):Prop:=a.Pairwise λb c=>b.1<c.1
theorem Gv:Ord []:=VD.Pairwise.nil
theorem jw{b:Path×Nd}:Ord (b::a)↔(∀c∈a,b.1<c.1)/\Ord a:=Xq
theorem Ord.tail{b:Path×Nd}(c:Ord (b::a)):Ord a:=(jw.1 c).2
theorem Ord.head{b:Path×Nd}(c:Ord (b::a)):∀d∈a,b.1<d.1:=(jw.1 c).1
theorem jo:∀{a:Tree}{b:Path}{c:Nd},find a b=C c->(b,c)∈a
 |(g,f)::a,b,c,d=>by
  unfold find at d;split at d
  .rename_i e;cases d;subst e;exact Yx ..
  exact WU _ (jo d)
theorem fw:∀{a:Tree}{b:Path},find a b=I↔∀e∈a,e.1≠b
 |[],b=>by simp[find]
 |(d,f)::a,b=>by
  unfold find;by_cases c:d=b
  .simp[c]
  simp_all [fw]
theorem ql:∀{a:Tree}{b:Path}{c:Nd},Ord a->(b,c)∈a->find a b=C c
 |(h,g)::a,b,c,e,d=>by
  unfold find;rcases Wo.1 d with f|d
  .simp_all
  rw[VK (Eo (e.head _ d))];exact ql e.tail d
theorem qm:∀{a:Tree}{b:Path}{c:Nd},Ord a->∀e,e∈put a b c↔e=(b,c)\/(e∈a/\e.1≠b)
 |[],b,c,_,e=>by simp[put]
 |(i,l)::a,b,c,g,e=>by
  unfold put;by_cases f:i=b
  .subst f;rw[VV A];simp only[Wo];constructor
   .rintro(rfl|d)
    .exact VA A
    exact VC ⟨VC d,λf=>jx _ (f▸g.head _ d)⟩
   grind
  rw[VK f];by_cases d:b<i
  .rw[VV d];simp only[Wo];constructor
   .rintro(rfl|rfl|h)
    .exact VA A
    .exact VC ⟨VA A,f⟩
    exact VC ⟨VC h,λk=>jx _ (k▸nF d (g.head _ h))⟩
   grind
  rw[VK d];rw[Wo,qm g.tail,Wo]
  grind
theorem dK:∀{a:Tree}{b:Path}{c:Nd},Ord a->Ord (put a b c)
 |[],b,c,_=>jw.2 ⟨by simp,Gv⟩
 |(i,k)::a,b,c,e=>by
  unfold put;by_cases h:i=b
  .subst h;rw[VV A];grind [jw]
  rw[VK h];by_cases f:b<i
  .rw[VV f];refine jw.2 ⟨λg d=>?_,e⟩;rcases Wo.1 d with rfl|d
   .exact f
   exact nF f (e.head g d)
  rw[VK f];refine jw.2 ⟨λg d=>?_,dK e.tail⟩;rcases(qm e.tail g).1 d with rfl|⟨d,_⟩
  .grind
  exact e.head g d
theorem zy{c:Path×Nd}:c∈del a b↔c∈a/\c.1≠b:=by simp[del]
theorem Gu(c:Ord a):Ord (del a b):=VD.Pairwise.filter _ c
theorem fx(d:Ord a):find (put a b c) b=C c:=
 ql (dK d) ((qm d _).2 (VA A))
theorem uU{d:Path}(i:Ord a)(g:d≠b):find (put a b c) d=find a d:=by
 cases h:find a d with
 |none=>
  rw[fw]at h⊢
  intro k e;rcases(qm i k).1 e with rfl|⟨e,_⟩
  .exactλf=>g f.symm
  grind
 |some l=>grind [ql,dK,qm,jo]
theorem bu{d:Path}(e:Ord a):find (put a b c) d=if d=b then C c else find a d:=by grind [fx,uU]
theorem wF:find (del a b) b=I:=fw.2 λd c=>(zy.1 c).2
theorem uS{c:Path}(f:Ord a)(d:c≠b):find (del a b) c=find a c:=by
 cases e:find a c with
 |none=>grind [fw,zy]
 |some g=>grind [ql,Gu,zy,jo]
theorem mE{c:Path}(d:Ord a):find (del a b) c=if c=b then I else find a c:=by grind [wF,uS]
theorem bY:∀{a:Tree}{b:Path}{c:Nd},Ord a->(find a b).isSome=J->(put a b c).length=a.length
 |[],_,_,_,d=>by grind [find]
 |(h,k)::a,b,c,g,d=>by
  unfold put;by_cases f:h=b
  .simp_all
  rw[VK f];unfold find at d;rw[VK f]at d;have e:¬b<h:=by
   intro e;cases i:find a b with
   |none=>simp_all
   |some l=>exact jx _ (nF e (g.head _ (jo i)))
  rw[VK e];simp[bY g.tail d]
theorem gx:∀{a:Tree}{b:Path}{c:Nd},find a b=I->(put a b c).length=a.length+1
 |[],_,_,_=>rfl
 |(g,f)::a,b,c,d=>by
  unfold find at d;split at d
  .cases d
  rename_i e;unfold put;rw[VK e];split
  .rfl
  simp[gx d]
theorem oP:∀{a:Tree}{b:Path},Ord a->(find a b).isSome=J->(del a b).length+1=a.length
 |[],_,_,e=>by grind [find]
 |(f,h)::a,b,g,e=>by
  unfold find at e;by_cases d:f=b
  .subst d;have:del a f=a:=by
    unfold del;rw[VD.filter_eq_self];intro l k;have:=Eo (g.head l k);simpa usingλd=>this d.symm
   grind [del]
  rw[VK d]at e;have i:del ((f,h)::a) b=(f,h)::del a b:=by simp_all [del]
  rw[i,WO,oP g.tail e];rfl
variable{a:Path}{b:Tree}
theorem qC:∀{b:Tree}{a:Path}{c:Nd},find b a=I->(put b a c).Perm ((a,c)::b)
 |[],_,_,_=>.refl _
 |(g,f)::b,a,c,d=>by
  unfold find at d;split at d
  .cases d
  rename_i e;unfold put;rw[VK e];split
  .exact .refl _
  exact((qC d).cons _).trans (.swap ..)
theorem qD:∀{b:Tree}{a:Path}{c:Nd},Ord b->(find b a).isSome=J->(put b a c).map (·.1)=b.map (·.1)
 |[],_,_,_,d=>by grind [find]
 |(h,k)::b,a,c,g,d=>by
  unfold put;by_cases f:h=a
  .simp_all
  rw[VK f];unfold find at d;rw[VK f]at d;have e:¬a<h:=by
   intro e;cases i:find b a with
   |none=>simp_all
   |some l=>exact jx _ (nF e (g.head _ (jo i)))
  rw[VK e];simp[qD g.tail d]
theorem AB:∀{b:Tree}{a:Path}{c:Nd},Ord b->find b a=C c->b.Perm ((a,c)::del b a)
 |(f,g)::b,a,c,h,d=>by
  unfold find at d;by_cases e:f=a
  .subst e;rw[VV A]at d;obtain rfl:g=c:=Xa d;have:del b f=b:=by
    unfold del;rw[VD.filter_eq_self];intro l k;have:=Eo (h.head l k);simpa usingλe=>this e.symm
   grind [del]
  rw[VK e]at d;have i:del ((f,g)::b) a=(f,g)::del b a:=by simp_all [del]
  rw[i];exact((AB h.tail d).cons _).trans (.swap ..)
theorem AD{c:Type}(a:VD c)(b:a≠[]):a.dropLast++[a.getLast b]=a:=ZQ b
def qf(a:Path)(b:Path):VI:=decide (b≠[]/\b.dropLast=a)
theorem nz{b:Path}:qf a b=J↔∃d,b=a++[d]:=by
 unfold qf;rw[Xs];constructor
 .rintro⟨c,rfl⟩;exact⟨b.getLast c,(AD b c).symm⟩
 simp_all
theorem eJ(b:Tree)(a:Path):(bW b a).length=b.countP λd=>qf a d.1:=by
 unfold bW
 induction b with
 |nil=>rfl
 |cons d b h=>
  obtain⟨f,c⟩:=d;rw[VD.filterMap_cons,ZC,<-h];by_cases e:f≠[]/\f.dropLast=a
  .have g:qf a f=J:=decide_eq_true e;simp only[e,g,and_self,Wv,Zp,ne_eq];rw[YM e.1];rfl
  simp_all [qf,VK]
theorem gU{e:B}:e∈bW b a↔(find b (a++[e])).isSome=J:=by
 have h:(find b (a++[e])).isSome=J↔∃c,(a++[e],c)∈b:=by
  rw[VL.isSome_iff_ne_none,ne_eq,fw];constructor
  .intro d;apply Classical.byContradiction;intro i;exact d λn m g=>i ⟨n.2,by rw[<-g];exact m⟩
  rintro⟨c,l⟩ d;exact d _ l A
 rw[h];unfold bW;rw[VD.mem_filterMap];constructor
 .rintro⟨⟨p,c⟩,k,d⟩;split at d
  .rename_i f;rw[YM f.1]at d;cases d;obtain⟨o,rfl⟩:=f;refine⟨c,?_⟩;rw[AD];exact k
  cases d
 grind
theorem Qy{b c:B}:a++[b]<a++[c]↔b<c:=by
 induction a with
 |nil=>simp[VD.cons_lt_cons_iff]
 |cons e a d=>simp_all
theorem nX(f:Ord b):(bW b a).Pairwise (·<·):=by
 induction b with
 |nil=>exact VD.Pairwise.nil
 |cons h b k=>
  obtain⟨g,c⟩:=h;unfold bW;rw[VD.filterMap_cons];split
  .exact k f.tail
  rename_i q e;refine Xq.2 ⟨λo n=>?_,k f.tail⟩;split at e
  .rename_i d;have i:o∈bW b a:=n;rw[gU]at i;obtain⟨p,m⟩:=Wn.1 i;have:=f.head _ (jo m);simp only at this d;rw[YM d.1]at e;cases e;have h:g=a++[g.getLast d.1]:=by obtain⟨l,rfl⟩:=d;exact(AD g l).symm
   grind [Qy]
  cases e
theorem lD{d:Path}(h:Ord b)(g:(find b a).isSome=J):(bW (put b a c) d).length=(bW b d).length:=by
 rw[eJ,eJ];have f:∀e:Tree,e.countP (λf=>qf d f.1)=(e.map (·.1)).countP (qf d):=λe=>by rw[VD.countP_map];rfl
 grind [qD]
theorem zn{d:Path}(e:find b a=I):(bW (put b a c) d).length=(bW b d).length+if qf d a then 1 else 0:=by rw[eJ,eJ,(qC e).countP_eq,ZC]
theorem LV{d:Path}(f:Ord b)(e:find b a=C c):(bW b d).length=(bW (del b a) d).length+if qf d a then 1 else 0:=by rw[eJ,eJ,(AB f e).countP_eq,ZC]
structure WF(b:Tree):Prop where
 ord:Ord b
 root:∃c,find b []=C c/\c.stat.own=0
 up:∀a,a≠[]->(find b a).isSome=J->(find b a.dropLast).isSome=J
 kids:∀a c,find b a=C c->c.stat.kids=(bW b a).length
 leaf:∀a c,find b a=C c->c.stat.own≠0->c.stat.kids=0
 names:∀a c,find b a=C c->a.length<=4/\∀d∈a,cK d=J
 size:∀a c,find b a=C c->c.stat.size=c.data.length
 len:b.length<=60
 next:∀a c,find b a=C c->0<=c.next/\c.next<=1000
theorem Af:WF [([],{})] where
 ord:=jw.2 ⟨by simp,Gv⟩
 root:=⟨{},by simp[find],A⟩
 up:=λa e b=>by simp_all [find]
 kids:=λa c b=>by grind [find,bW]
 leaf:=λa c b d=>by
  unfold find at b;split at b
  .cases b;exact absurd A d
  simp_all [find]
 names:=λa c b=>by simp_all [find]
 size:=λa c b=>by grind [find]
 len:=by simp
 next:=λa c b=>by grind [find]
theorem WF.Ti(h:WF b)(e:find b a=C c)(g:c.stat.kids=0)(d:B):find b (a++[d])=I:=by
 have:=h.kids a c e;rw[g]at this;have i:bW b a=[]:=XK.1 (by omega);cases f:find b (a++[d])with
 |none=>rfl
 |some k=>
  have:d∈bW b a:=gU.2 (by rw[f];rfl)
  grind
theorem AG(c:a≠[]):a.dropLast≠a:=λb=>by
 have:=VU List.length b
 grind [List.length_eq_zero_iff]
theorem WF.jK(e:WF b){g:Nd}(h:find b a=C c)(s:g.stat.own=c.stat.own)(l:g.stat.kids=c.stat.kids)(t:g.stat.size=g.data.length)(u:0<=g.next/\g.next<=1000):WF (put b a g):=by
 have o:(find b a).isSome=J:=by rw[h];rfl
 have q:∀f,(find (put b a g) f).isSome=(find b f).isSome:=λf=>by rw[bu e.ord];grind
 refine⟨dK e.ord,?_,?_,?_,?_,?_,?_,?_,?_⟩
 .obtain⟨r,v,n⟩:=e.root;rw[bu e.ord]
  grind
 .intro f p m;rw[q]at m⊢;exact e.up f p m
 .intro f i d;rw[lD e.ord o];rw[bu e.ord]at d;split at d
  .rename_i k;subst k;cases d;rw[l];exact e.kids _ _ h
  exact e.kids _ _ d
 .intro f i d n;rw[bu e.ord]at d;split at d
  .cases d;rw[l];exact e.leaf _ _ h (by omega)
  exact e.leaf _ _ d n
 .intro f i d;rw[bu e.ord]at d;split at d
  .rename_i k;subst k;exact e.names _ _ h
  exact e.names _ _ d
 .intro f i d;rw[bu e.ord]at d;split at d
  .simp_all
  exact e.size _ _ d
 .rw[bY e.ord o];exact e.len
 intro f i d;rw[bu e.ord]at d;split at d
 .simp_all
 exact e.next _ _ d
theorem WF.add(f:WF b){d:Path}{i:B}{p h:Nd}(l:find b d=C p)(S:p.stat.own=0)(z:find b (d++[i])=I)(Q:b.length<60)(hd:d.length<4)(W:cK i=J)
 (N:h.stat.own=0)(w:h.stat.kids=p.stat.kids+1)(O:h.stat.size=h.data.length)(P:0<=h.next/\h.next<=1000)(X:c.stat.kids=0)(Y:c.stat.size=c.data.length)(Z:c.next=0):WF (put (put b d h) (d++[i]) c):=by
 have D:d++[i]≠d:=λg=>by simp at g
 have o:(find b d).isSome=J:=by rw[l];rfl
 have t:Ord (put b d h):=dK f.ord;have r:find (put b d h) (d++[i])=I:=by rw[bu f.ord,VK D];exact z
 have k:∀e,find (put (put b d h) (d++[i]) c) e=if e=d++[i]then C c else if e=d then C h else find b e:=λe=>by rw[bu t,bu f.ord]
 have x:∀e,(bW (put (put b d h) (d++[i]) c) e).length=(bW b e).length+if e=d then 1 else 0:=λe=>by
  rw[zn r,lD f.ord o];by_cases g:e=d
  .simp_all [nz]
  rw[VK g,VK];rw[nz];rintro⟨a2,q⟩;simp_all
 have R:bW b (d++[i])=[]:=by apply Classical.byContradiction;intro H;obtain⟨a3,L⟩:=VD.exists_mem_of_ne_nil _ H;have:=f.up _ (by simp) (gU.1 L);simp_all
 refine⟨dK t,?_,?_,?_,?_,?_,?_,?_,?_⟩
 .obtain⟨a1,T,U⟩:=f.root
  grind
 .intro e s m;rw[k]at m;rw[k];by_cases g:e=d++[i]
  .simp_all
  rw[VK g]at m;by_cases q:e.dropLast=d++[i]
  .simp_all
  rw[VK q];by_cases u:e.dropLast=d
  .simp_all
  rw[VK u];split at m
  .rename_i v;subst v;exact f.up _ s o
  exact f.up _ s m
 .intro e n a;rw[x];rw[k]at a;split at a
  .simp_all
  split at a
  .rename_i g;subst g;cases a;rw[VV A,w,f.kids _ _ l];rfl
  rename_i g;rw[VK g];exact f.kids _ _ a
 .intro e n a y;rw[k]at a;split at a
  .simp_all
  split at a
  .simp_all
  exact f.leaf _ _ a y
 .intro e n a;rw[k]at a;split at a
  .rename_i g;subst g;obtain⟨q1,a0⟩:=f.names _ _ l
   grind
  split at a
  .rename_i g;subst g;exact f.names _ _ l
  exact f.names _ _ a
 .intro e n a;rw[k]at a;split at a
  .simp_all
  split at a
  .simp_all
  exact f.size _ _ a
 .rw[gx r,bY f.ord o];omega
 intro e n a;rw[k]at a;split at a
 .simp_all
 split at a
 .simp_all
 exact f.next _ _ a
theorem WF.gone(f:WF b)(m:a≠[])(p:find b a=C c)(N:c.stat.kids=0):WF (Wt.drop b a):=by
 obtain⟨o,k⟩:=Wn.1 (f.up a m (by rw[p];rfl));have Q:a≠a.dropLast:=λh=>AG m h.symm;have x:(find b a.dropLast).isSome=J:=by rw[k];rfl
 have y:a.dropLast++[a.getLast m]=a:=AD a m;have a3:1<=o.stat.kids:=by
  rw[f.kids _ _ k];have:a.getLast m∈bW b a.dropLast:=gU.2 (by rw[y,p];rfl)
  grind
 have T:o.stat.own=0:=by apply Classical.byContradiction;intro S;have:=f.leaf _ _ k S;omega
 have w:drop b a=del (put b a.dropLast (rF o)) a:=by simp_all [Wt.drop]
 obtain⟨g,w,W,D,X,U⟩:∃g:Nd,Wt.drop b a=del (put b a.dropLast g) a/\g.stat.own=0/\g.stat.kids=o.stat.kids-1/\g.stat.size=g.data.length/\0<=g.next/\g.next<=1000:=
  ⟨_,w,T,A,f.size a.dropLast o k,f.next a.dropLast o k⟩
 rw[w];have s:Ord (put b a.dropLast g):=dK f.ord;have z:find (put b a.dropLast g) a=C c:=by rw[bu f.ord,VK Q];exact p
 have i:∀e,find (del (put b a.dropLast g) a) e=if e=a then I else if e=a.dropLast then C g else find b e:=λe=>by rw[mE s,bu f.ord]
 have O:∀e,(bW b e).length=(bW (del (put b a.dropLast g) a) e).length+if e=a.dropLast then 1 else 0:=λe=>by
  rw[<-lD (c:=g) f.ord x,LV s z]
  congr 1
  by_cases h:e=a.dropLast
  .subst h;rw[VV A,VV (nz.2 ⟨_,y.symm⟩)]
  rw[VK h,VK];rw[nz];grind
 refine⟨Gu s,?_,?_,?_,?_,?_,?_,?_,?_⟩
 .obtain⟨a4,a1,a2⟩:=f.root
  grind
 .intro e n l;rw[i]at l;split at l
  .cases l
  rename_i h;rw[i];by_cases t:e.dropLast=a
  .have:e=a++[e.getLast n]:=by subst t;exact(AD e n).symm
   have R:=f.Ti p N (e.getLast n);rw[<-this]at R;split at l
   .rename_i u;have H:=VU List.length t;have L:=VU List.length u;rw[YX]at H L;have:e.length≠0:=λv=>n (XK.1 v);have:a.length≠0:=λv=>m (XK.1 v);omega
   grind
  rw[VK t];split
  .rfl
  split at l
  .rename_i u;subst u;exact f.up _ n x
  exact f.up _ n l
 .intro e r d;have q:=O e;rw[i]at d;split at d
  .cases d
  split at d
  .rename_i h;subst h;cases d;rw[VV A]at q;rw[D,f.kids _ _ k,q];omega
  rename_i h;rw[VK h]at q;rw[f.kids _ _ d,q];simp
 .intro e r d P;rw[i]at d;split at d
  .cases d
  split at d
  .simp_all
  exact f.leaf _ _ d P
 .intro e r d;rw[i]at d;split at d
  .cases d
  split at d
  .rename_i h;subst h;exact f.names _ _ k
  exact f.names _ _ d
 .intro e r d;rw[i]at d;split at d
  .cases d
  split at d
  .simp_all
  exact f.size _ _ d
 .have Y:=oP s (b:=a) (by rw[z];rfl);have Z:=bY (c:=g) f.ord x;have a0:=f.len;omega
 intro e r d;rw[i]at d;split at d
 .cases d
 split at d
 .simp_all
 exact f.next _ _ d
variable{al:VB}{O:VD Ev}
theorem jD{a:B}(c:a≠[]):split (47::a)=if(pieces a).length<=4/\(pieces a).all cK=J then C (pieces a)else I:=by
 cases a with
 |nil=>simp_all
 |cons b a=>rfl
theorem Cm{d:B}(b:split d=C a):(d=[47]/\a=[])\/∃c,c≠[]/\d=47::c/\a=pieces c/\a.length<=4/\a.all cK=J:=by
 match d,b with
 |[],b=>cases b
 |[e],b=>
  by_cases f:e=47
  .subst f;cases b;exact VA ⟨A,A⟩
  simp_all [split]
 |e::h::c,b=>
  by_cases f:e=47
  .subst f;rw[jD (by simp)]at b;split at b
   .rename_i g;cases b;exact VC ⟨_,by simp,A,A,g.1,g.2⟩
   cases b
  simp_all [split]
theorem qN{c:B}(b:split c=C a):a.length<=4/\∀d∈a,cK d=J:=by
 rcases Cm b with⟨_,rfl⟩|⟨g,_,_,_,e,f⟩
 .simp
 simp_all
theorem IT:∀a:B,pieces a≠[]
 |[]=>by simp[pieces]
 |b::a=>by grind [pieces]
theorem og(a:B)(c:B)(d:∀b∈a,b≠47):pieces (a++47::c)=a::pieces c:=by
 induction a with
 |nil=>simp[pieces]
 |cons b a e=>simp_all [pieces]
theorem vA(a:B)(c:∀b∈a,b≠47):pieces a=[a]:=by
 induction a with
 |nil=>rfl
 |cons b a d=>simp_all [pieces]
theorem Oz{a:UInt8}(b:tB a=J):a≠47:=by rintro rfl;exact absurd b (by decide)
theorem xW{a:B}(c:cK a=J):∀b∈a,b≠47:=by simp_all [cK,Oz]
theorem Ef{a:B}(b:cK a=J):a≠[]:=by rintro rfl;exact absurd b (by decide)
theorem td:∀(a:Path),a≠[]->(∀d∈a,cK d=J)->pieces ([47].intercalate a)=a
 |[b],_,c=>by
  rw[VD.intercalate_singleton];exact vA b (xW (c b (by simp)))
 |b::e::f,_,c=>by rw[ZY];have h:=td (e::f) (by simp) λd g=>c d (WU _ g);have:=og b ([47].intercalate (e::f)) (xW (c b (by simp)));rw[h]at this;simpa using this
theorem Fb(g:a.length<=4)(d:∀e∈a,cK e=J):split (join a)=C a:=by
 cases a with
 |nil=>rfl
 |cons c b=>
  have h:[47].intercalate (c::b)≠[]:=by
   have:=Ef (d c (by simp));cases b with
   |nil=>simpa using this
   |cons f b=>rw[ZY];simp
  simp_all [td,join,jD]
theorem Du:∀a:E,a<10->tB (48+UInt8.ofNat a)=J:=by decide
theorem Fq{a:VB}(b:0<=a)(c:a<=999):(three a).length=3/\(three a).all tB=J:=by
 refine⟨A,?_⟩;unfold three;simp only[Y',VD.all_nil,VI.and_true,WH]
 grind [Du]
theorem IL{b:B}(c:cK b=J)(f:b.length<=8){a:VB}(d:0<=a)(e:a<=999):cK (b++three a)=J:=by
 obtain⟨g,h⟩:=Fq d e;unfold cK at c⊢
 simp only[WH,Xs,VD.all_append,WI]at c⊢
 grind
theorem fH{e:Op}{aE:VB}{i:Tree}{h:B}(a:create b e al aE=.yes i h O):
 ∃c d f g,split e.path=C (c::d)/\((c::d).getLast (by simp)).length<=8/\e.data.length<=16/\0<=e.flags/\e.flags<=3/\find b (c::d).dropLast=C f/\f.stat.own=0/\(2<=e.flags->f.next≠1000)/\
  g=nameOf e.flags ((c::d).getLast (by simp)) f.next/\find b ((c::d).dropLast++[g])=I/\b.length≠60/\
  i=put (put b (c::d).dropLast (iN f e.flags)) ((c::d).dropLast++[g]) (cP e al aE)/\
  h=join ((c::d).dropLast++[g])/\O=[(1,join ((c::d).dropLast++[g])),(4,join (c::d).dropLast)]:=by
 unfold create at a;split at a
 .cases a
 .cases a
 rename_i c d p;simp only at a;split at a
 .cases a
 rename_i s;split at a
 .cases a
 rename_i r;split at a
 .cases a
 rename_i t;split at a
 .cases a
 rename_i f q;split at a
 .cases a
 rename_i o;split at a
 .cases a
 rename_i n;split at a
 .cases a
 rename_i u;split at a
 .cases a
 rename_i m;cases a;refine⟨c,d,f,_,p,by omega,by omega,by omega,by omega,q,by simpa using o,λl k=>n ⟨l,k⟩,A,?_,m,A,A,A⟩;simp_all
theorem gN(d:WF b){f:Op}{aE:VB}{k:Tree}{o:B}(l:create b f al aE=.yes k o O):WF k:=by
 obtain⟨g,i,c,D,n,r,q,s,t,e,h,x,w,m,v,rfl,_,_⟩:=fH l;obtain⟨H,p⟩:=qN n;obtain⟨y,z⟩:=d.next _ _ e;have u:cK ((g::i).getLast (by simp))=J:=p _ (VD.getLast_mem _);refine d.add e h m (by have:=d.len;omega) (by grind) ?_ h A (d.size (g::i).dropLast c e) ?_ A rfl rfl
 .grind [nameOf,IL]
 show 0<=(if 2<=f.flags then c.next+1 else c.next)/\(if 2<=f.flags then c.next+1 else c.next)<=1000;omega
theorem rB(d:WF b){k:Op}{aE:VB}{f:Tree}{l:B}(c:change b k al aE=.yes f l O):WF f:=by
 unfold change at c;split at c
 .exact gN d c
 split at c
 .cases c
 rename_i a o;split at c
 .cases c
 rename_i h;split at c
 .cases c
 split at c
 .cases c
 rename_i i e;split at c
 .cases c
 split at c
 .cases c
 rename_i m;split at c
 .rename_i hd;cases c;have n:=d.kids _ _ e
  exact d.gone (λg=>h ⟨hd,g⟩) e (by omega)
 split at c
 .cases c;exact d.jK e A rfl rfl (d.next a i e)
 simp_all
end Wt
namespace Go.Sv
open Go.MapKept Go.Proofs Go.RowKit Go.Lib Go.WideShapes Go.Sort Go.Sim Wt
variable{b:E}{a:E}{j:E}
noncomputable abbrev TP:VS:=Tryz.prog
def bs(a:B):VX:=⟨a.toArray⟩
theorem yI(a:B):(bs a).data.toList=a:=A
theorem SF(a:VX):bs a.data.toList=a:=A
theorem cS(a:B):(bs a).size=a.length:=by rfl
theorem yJ{a b:B}(c:bs a=bs b):a=b:=by have:=VU (λd=>d.data.toList) c;exact this
theorem Be{c:B}(e:index c [47]=b):c=c.take b++47::c.drop (b+1)/\∀d∈c.take b,d≠47:=by
 rw[index_one]at e;obtain⟨h,i⟩:=indexByte_some e;refine⟨?_,λd f g=>?_⟩
 .grind [List.take_append_drop,List.drop_eq_getElem_cons]
 obtain⟨a,k,rfl⟩:=XM.1 f
 grind
theorem LM{d:B}(c:index d [47]=-1):∀b∈d,b≠47:=λb e f=>by rw[index_one]at c;obtain⟨a,g,rfl⟩:=XM.1 e;exact indexByte_none c a (by simp_all)
theorem om:∀(c:E)(a:B),a.length<=c->splitK [47] 0 (count a [47]) a=Wt.pieces a
 |c,a,k=>by
  by_cases e:index a [47]=-1
  .rw[count_miss e,vA a (LM e)];rfl
  obtain⟨b,d⟩:∃b:E,index a [47]=b:=⟨(index a [47]).toNat,by have:=index_ge a [47];omega⟩;obtain⟨g,h⟩:=Be d;rw[count_hit (by simp) d,Z_,splitK,VK (by grind),d];have i:a.length≠0:=λf=>by grind
  cases c with
  |zero=>omega
  |succ c=>
   have l:=om c (a.drop (b+1)) (by rw[p_];omega)
   grind [og]
theorem oj(a:VX):splitB ⟨#[47]⟩ 0 (countB a ⟨#[47]⟩) a=(Wt.pieces a.data.toList).map bs:=by have c:=splitB_data ⟨#[47]⟩ 0 (countB a ⟨#[47]⟩) a;have b:splitK [47] 0 (count a.data.toList [47]) a.data.toList=Wt.pieces a.data.toList:=om _ _ (Wl _);have d:=c.trans b;rw[<-d,Zq];exact(VD.map_id _).symm
theorem wz(a:VX):countB a ⟨#[47]⟩+1=(Wt.pieces a.data.toList).length:=by have:=splitB_all ⟨#[47]⟩ (by decide) 0 (countB a ⟨#[47]⟩) a A;simp_all [oj]
def Ss(c:Vx)(a:Path)(d:E)(e:K):Prop:=
 (a=[]/\c=VG I 0 0)\/∃b,c=VG (C ⟨b,0,I⟩) a.length a.length/\d<=b/\0<a.length/\e.heap[b]?=C (VH ((a.map bs).map Value.string).toArray 9 (0,0))
def cF(f:VX)(a:K)(b:Ending)(d:K):Prop:=
 Below a.heap.size a d/\match Wt.split f.data.toList with
  |none=>b=VN (.tuple #[VG I 0 0,.bool Vz])
  |some e=>∃c,b=VN (.tuple #[c,.bool J])/\Ss c e a.heap.size d
theorem LG(a:UInt8):tB a=J↔(97<=a.toNat/\a.toNat<=122)\/(65<=a.toNat/\a.toNat<=90)\/(48<=a.toNat/\a.toNat<=57)\/a.toNat=95:=by have c:a=95↔a.toNat=95:=⟨λb=>by rw[b];rfl,λb=>UInt8.toNat_inj.1 b⟩;simp[tB,UInt8.le_iff_toNat_le,c,or_assoc]
theorem lF(a:B):cK a=J↔1<=a.length/\a.length<=12/\∀j,j<a.length->tB (a.getD j 0)=J:=by
 simp only[cK,WH,Xs,Xn,and_assoc];refine and_congr Iff.rfl (and_congr Iff.rfl ⟨λb j d=>b _ ?_,λb e c=>?_⟩)
 .simp_all
 obtain⟨j,d,rfl⟩:=XM.1 c;simp_all
theorem Fe{c:B}{b:VD B}(e:b=Wt.pieces c)(g:a<b.length)(f:¬cK (b.getD a [])=J)(d:c≠[]):Wt.split (47::c)=I:=by
 rw[jD d,VK]
 grind
theorem Ff(a:K):Calls TP 95 #[.string ⟨#[47]⟩] a (cF ⟨#[47]⟩ a):=by
 go_enter Tryz.func95,Tryz.ntmps95
 go_wp2
 go_ret2;exact⟨YY _ _,_,A,VA ⟨A,A⟩⟩
theorem Cn(a:VX)(b:K)(f:(a.toList==[47])=Vz)(g:hasPrefix a.data.toList [47]=Vz)(d:Wt.split a.data.toList=I):Calls TP 95 #[.string a] b (cF a b):=by
 have c:=VF d;go_enter Tryz.func95,Tryz.ntmps95
 go_wp2_with (go_at_call 128;refine(Tryz.strings_CutPrefix _ _ _).mono ?_;rintro e h⟨rfl,rfl⟩)
 go_ret2;unfold cF;rw[c.out];simp[YY]
theorem FV(a:B)(b:K):Calls TP 128 #[.string (bs (47::a)),.string ⟨#[47]⟩] b λc d=>c=VN (.tuple #[.string (bs a),.bool J])/\b=d:=
 (Tryz.strings_CutPrefix (bs (47::a)) ⟨#[47]⟩ b).mono λc d⟨e,f⟩=>by simp_all [hasPrefix,bs,trimPrefix]
theorem yj(a:B)(f:VB)(b:K)(i:a.length<2^31)(h:b.cell? ⟨1,0,I⟩=C (Vy M f)):
 Calls TP 129 #[.string (bs a),.string ⟨#[47]⟩] b λc g=>c=VN (VG (C ⟨b.heap.size,0,I⟩) (Wt.pieces a).length (Wt.pieces a).length)/\g=b.alloc (.cells (((Wt.pieces a).map bs).map Value.string).toArray 9):=
 (Tryz.strings_Split (bs a) ⟨#[47]⟩ f b (by grind [cS]) h (by decide)).mono λc g⟨d,e⟩=>by rw[wz]at d;rw[oj]at e;exact⟨d,e⟩
theorem MS(c:K)(b:VD B)(d:a<b.length):(c.alloc (.cells ((b.map bs).map Value.string).toArray 9)).cell? ⟨c.heap.size,a,I⟩=C (.string (bs (b.getD a []))):=by simp_all
theorem Dj(b:K)(a:VX)(c:E)(d:VJ)(e:E×E)(g:j<a.size):(b.alloc (.cells (bytesRow a c) d e)).cell? ⟨b.heap.size,j,I⟩=C (.int .u8 ((a.data.toList.getD j 0).toNat:VB)):=by
 have f:(b.alloc (.cells (bytesRow a c) d e)).heap[b.heap.size]?=C (VH (bytesRow a c) d e):=by show(b.heap.push _)[_]?=_;simp
 simp_all [K.cell?,bytesRow,XV]
theorem Fc(a:B)(i:VB)(b:K)(p:((bs (47::a)).toList==[47])=Vz)(g:a.length<2^31)(e:b.cell? ⟨1,0,I⟩=C (Vy M i))(c:VD B)(d:c=Wt.pieces a)(q:4<(c.length:VB))(h:a≠[]):
 Calls TP 95 #[.string (bs (47::a))] b (cF (bs (47::a)) b):=by
 have c1:=FV a b;have c2:=yj a i b g e;rw[<-d]at c2
 have f:cF (bs (47::a)) b (VN (.tuple #[VG I 0 0,.bool Vz])) (b.alloc (.cells ((c.map bs).map Value.string).toArray 9)):=by refine⟨(YY _ b).alloc (Wl _) _,?_⟩;rw[yI,jD h,<-d,VK (by omega)]
 have m:=VF f;have k:=VF c1;have l:=VF c2;clear d c1 c2 e g f h;generalize ((c.map bs).map Value.string).toArray=row at*
 go_enter Tryz.func95,Tryz.ntmps95
 go_wp2_with (first|(go_at_call 128;refine k.out.mono ?_;rintro n o⟨rfl,rfl⟩)|(go_at_call 129;refine l.out.mono ?_;rintro n o⟨rfl,rfl⟩))
 go_ret2;exact m.out
theorem Fg(f:B)(a1:VB)(c:K)(h:((bs (47::f)).toList==[47])=Vz)(X:f.length<2^31)(T:c.cell? ⟨1,0,I⟩=C (Vy M a1))(e:VD B)(t:e=Wt.pieces f)(c9:¬4<(e.length:VB))(Y:f≠[]):
 Calls TP 95 #[.string (bs (47::f))] c (cF (bs (47::f)) c):=by
 have c1:=FV f c;have c2:=yj f a1 c X T;rw[<-t]at c2
 have U:∀wr,Below (c.heap.size+1) (c.alloc (.cells ((e.map bs).map Value.string).toArray 9)) wr->∀a,a<e.length->¬cK (e.getD a [])=J->cF (bs (47::f)) c (VN (.tuple #[VG I 0 0,.bool Vz])) wr:=λwr i a x y=>by
  refine⟨((YY _ c).alloc (Wl _) _).trans (i.mono (YC _)),?_⟩
  grind [yI,Fe]
 have a0:∀wr,Below (c.heap.size+1) (c.alloc (.cells ((e.map bs).map Value.string).toArray 9)) wr->(∀j,j<e.length->cK (e.getD j [])=J)->cF (bs (47::f)) c (VN (.tuple #[VG (C ⟨c.heap.size,0,I⟩) e.length e.length,.bool J])) wr:=λwr i y=>by
  refine⟨((YY _ c).alloc (Wl _) _).trans (i.mono (YC _)),?_⟩
  rw[yI,jD Y,<-t,VV ⟨by omega,Xn.2 λg p=>by
   obtain⟨j,l,rfl⟩:=XM.1 p
   simp_all⟩]
  refine⟨_,A,VC ⟨c.heap.size,A,Wl _,?_,?_⟩⟩
  .simp_all [Zh,IT]
  rw[i.block _ (Yd _)];show(c.heap.push _)[_]?=_;simp
 have P:=λa(x:a<e.length)=>MS c e x;have s:=VF U;have a6:=VF a0;have a2:=VF c1;have a3:=VF c2;clear t c1 c2 T X U a0 Y;generalize bs (47::f)=d4 at*
 generalize bs f=d3 at*
 generalize ((e.map bs).map Value.string).toArray=row at*
 go_enter Tryz.func95,Tryz.ntmps95
 go_wp2_with (first|(go_at_call 128;refine a2.out.mono ?_;rintro o b6⟨rfl,rfl⟩)|(go_at_call 129;refine a3.out.mono ?_;rintro o b6⟨rfl,rfl⟩))
 go_loopw [27] (λb wr=>∃a:E,a<=e.length/\b=Vy M a/\(∀j,j<a->cK (e.getD j [])=J)/\Below (c.heap.size+1) (c.alloc (.cells row 9)) wr) (λb _=>e.length-(Lib.intOf b).toNat)
 case atStart=>exact⟨0,Xg _,A,λj l=>absurd l (J' _),YY _ _⟩
 case round=>
  obtain⟨a,x,rfl,W,i⟩:=hrel;have L:=VF W;clear W;have b3:=i.size;have b3:c.heap.size+1<=wr.heap.size:=by simp_all
  by_cases r:a<e.length
  .have v:=P a r;rw[<-i.cell (p:=⟨c.heap.size,a,I⟩) (by simp)]at v;obtain⟨g,p⟩:∃g,e.getD a []=g:=⟨_,A⟩;rw[p]at v;obtain⟨d,z⟩:∃d,bs g=d:=⟨_,A⟩;rw[z]at v;have Z:d.size=g.length:=by grind [cS]
   have Q:d.data.toList=g:=by rw[<-z];rfl
   have q:=VF p;have m:=VF Z;have a5:=VF Q;clear z p P Z Q;by_cases c0:d.size<1
   .go_wp2
    go_ret2;exact s.out _ i a r (λh=>by rw[q.out]at h;have:=((lF g).1 h).1;have:=m.out;omega)
   by_cases c7:12<d.size
   .go_wp2
    go_ret2;exact s.out _ i a r (λh=>by rw[q.out]at h;have:=((lF g).1 h).2.1;have:=m.out;omega)
   have c6:¬(d.size:VB)<1:=by omega
   have c8:¬(12:VB)<d.size:=by omega
   have b2:=run_bytes_of_string (P:=TP) wr 9 249 5 d A rfl rfl;generalize grownCap wr d.size 0 5=k at b2;have u:=λj(l:j<d.size)=>Dj wr d k 5 ((bytesRow d k).size,(bytesRow d k).size+1) l;have N:Below (c.heap.size+1) (c.alloc (.cells row 9)) (wr.drew.alloc (.cells (bytesRow d k) 5 ((bytesRow d k).size,(bytesRow d k).size+1))):=i.drew.alloc (by simp_all) _;generalize bytesRow d k=b8 at*
   rw[a5.out]at u
   go_wp2
   go_loop [42] (λb=>∃j:E,j<=d.size/\b=Vy M j/\∀b,b<j->tB (g.getD b 0)=J) (λb=>d.size-(Lib.intOf b).toNat)
   case atStart=>exact⟨0,Xg _,A,λj l=>absurd l (J' _)⟩
   case round=>
    obtain⟨j,l,rfl,S⟩:=hrel;have H:=VF S;clear S;by_cases b0:j<d.size
    .have a8:=u j b0;obtain⟨n,w⟩:∃n,g.getD j 0=n:=⟨_,A⟩;rw[w]at a8;have HC:=VF w;have R:=LG n;have D:=VF R;clear w u R;have d0:=n.toNat_lt;generalize n.toNat=b9 at*
     have O:¬tB n=J->¬cK (e.getD a [])=J:=λy h=>by rw[q.out]at h;have:=((lF g).1 h).2.2 j (by have:=m.out;omega);rw[HC.out]at this;exact y this
     have a4:=VF O;clear O
     go_wp2
     all_goals try simp only[WH,VI.not_eq_true',VI.not_eq_false',decide_eq_false_iff_not,Xs,beq_eq_false_iff_ne,ne_eq,B_]at*
     all_goals first
      |(go_ret2;refine s.out _ N a r (a4.out λh=>?_);have:=D.out.1 h;omega)
      |(go_round
        case rel=>exact⟨j+1,by omega,by go_num,λb a9=>by
         by_cases o:b=j
         .subst o;rw[HC.out];exact D.out.2 (by omega)
         exact H.out b (by omega)⟩
        case measure=>simp[Lib.intOf];omega)
    go_wp2
    go_roundw
    case rel=>exact⟨a+1,by omega,by go_num,λb a9=>by
     by_cases o:b=a
     .subst o;rw[q.out];exact(lF g).2 ⟨by have:=m.out;omega,by have:=m.out;omega,λb4 d1=>H.out b4 (by have:=m.out;omega)⟩
     exact L.out b (by omega),N⟩
    case measure=>simp[Lib.intOf];omega
  have b1:a=e.length:=by omega
  subst b1
  go_wp2
  go_ret2;exact a6.out _ i L.out
theorem nH(a:VX)(g:VB)(c:K)(q:a.size<2^31)(k:c.cell? ⟨1,0,I⟩=C (Vy M g)):Calls TP 95 #[.string a] c (cF a c):=by
 by_cases e:a=⟨#[47]⟩
 .subst e;exact Ff c
 have f:(a.toList==[47])=Vz:=by rw[Lib.toList_data,beq_eq_false_iff_ne];intro d;exact e (by rw[<-SF a,d];rfl)
 by_cases l:hasPrefix a.data.toList [47]=J
 .obtain⟨b,o⟩:∃b,a.data.toList=47::b:=by
   cases hd:a.data.toList with
   |nil=>simp_all [hasPrefix]
   |cons h b=>simp_all [hasPrefix]
  have m:a=bs (47::b):=by rw[<-o];rfl
  have n:b≠[]:=λd=>e (by rw[m,d];rfl);subst m;have i:b.length<2^31:=by grind [cS]
  by_cases p:4<(Wt.pieces b).length
  .exact Fc b g c f i k _ A (by omega) n
  exact Fg b g c f i k _ A (by omega) n
 refine Cn a c f (by simp_all) ?_;cases hd:a.data.toList with
 |nil=>rfl
 |cons h b=>rw[hd]at l;have:h≠47:=λd=>l (by simp[hasPrefix,d]);simp_all [Wt.split]
variable{O:VE Wb}{c:K}{u:E}
abbrev pt(a b:E):Vx:=VW (C ⟨a,b,I⟩)
structure Kids(O:VE Wb)(e:E)(d:B->VL E):Prop where
 st:Stamped O e
 key:∀f∈O.toList,∃b a,f.key=.string (bs b)/\f.val=pt a 0/\d b=C a
 all:∀b a,d b=C a->∃f∈O.toList,f.key=.string (bs b)
def tH(c:K)(a:E)(b:Obj):K:={c with heap:=c.heap.setIfInBounds a b}
def gP(b:VL E):Vx:=.pointer (b.map λa=>⟨a,0,I⟩)
section
variable{e:E}{d:B->VL E}
theorem Kids.isKey(c:Kids O e d):∀b∈O.toList,IsKey .string b.key:=λb g=>by obtain⟨h,a,f,_⟩:=c.key b g;rw[f];trivial
theorem Kids.find(g:Kids O e d)(b:B):(d b=I/\Instr.findNow .string (.string (bs b)) O.toList 0=C I/\∀r∈O.toList,r.key≠.string (bs b))\/
 ∃a j c,d b=C a/\Instr.findNow .string (.string (bs b)) O.toList 0=C (C (j,pt a 0))/\O.toList[j]?=C c/\c.key=.string (bs b):=by
 rcases findNow_spec (d:=.string) (k:=.string (bs b)) trivial O.toList 0 g.isKey with⟨h,f⟩|⟨j,c,h,f,i⟩
 .left;refine⟨?_,h,f⟩;cases m:d b with
  |none=>rfl
  |some a=>obtain⟨c,l,n⟩:=g.all b a m;exact absurd n (f c l)
 right;obtain⟨q,a,k,o,p⟩:=g.key c (WG f);rw[i]at k;have:b=q:=yJ (q_ k);subst this;exact⟨a,j,c,p,by rw[h,o,Xr],f,i⟩
theorem vY:TP.underlying 188=C (.map 9 187):=A
theorem vZ:TP.underlying 9=C .string:=A
theorem vH(i:c.heap[u]?=C (.map O e))(k:Kids O e d)(b:B):(Instr.lookup 188 (.map (C u)) (.string (bs b)) Vz).run TP c=.ok (gP (d b)) c:=by
 have l:(zeroValue 187).run TP c=.ok (VW I) c:=A;have h:=Zn (P:=TP) (w:=c) vZ (k:=.string (bs b)) trivial O.isEmpty 9999;rcases k.find b with⟨f,g,_⟩|⟨a,j,n,f,g,_⟩
 .simp[Instr.lookup,Xd vY,Xh i,h,ZI vZ g,Result.andThen,l,f,gP]
 simp[Instr.lookup,Xd vY,Xh i,h,ZI vZ g,Result.andThen,f,gP]
theorem Pm(o:c.heap[u]?=C (.map O e))(i:Kids O e d){b:B}(p:d b=I)(a:E):
 (Instr.mapUpdate 188 (.map (C u)) (.string (bs b)) (pt a 0)).run TP c=.ok () (tH c u (.map (O.push ⟨.string (bs b),pt a 0,e⟩) (e+1)))/\Kids (O.push ⟨.string (bs b),pt a 0,e⟩) (e+1) λg=>if g=b then C a else d g:=by
 have r:=Zn (P:=TP) (w:=c) vZ (k:=.string (bs b)) trivial Vz 9999;rcases i.find b with⟨l,m,n⟩|⟨k,j,h,l,m,_⟩
 .refine⟨?_,stamped_push i.st n,λg f=>?_,λg k f=>?_⟩
  .simp[Instr.mapUpdate,Xd vY,Xh o,r,ZI vZ m,Result.andThen,XU _ o,tH]
  .simp only[Zo,WL,Xi]at f;rcases f with f|rfl
   .obtain⟨x,k,q,v,w⟩:=i.key g f;refine⟨x,k,q,v,?_⟩;rw[VK (λh=>n g f (by rw[q,h]))];exact w
   exact⟨b,a,A,A,VV A⟩
  by_cases h:g=b
  .exact⟨⟨.string (bs b),pt a 0,e⟩,by simp,by rw[h]⟩
  rw[VK h]at f;obtain⟨y,t,s⟩:=i.all g k f;exact⟨y,by simp[t],s⟩
 rw[l]at p;cases p
theorem Pk(P:c.heap[u]?=C (.map O e))(k:Kids O e d){h:B}(Q:d h=C a)(a2:VJ):
 ∃x,(Builtin.delete_ #[188,9] a2 #[.map (C u),.string (bs h)]).run TP c=.ok (.tuple #[]) (tH c u (.map x e))/\Kids x e λb=>if b=h then I else d b:=by
 have p:=Zn (P:=TP) (w:=c) vZ (k:=.string (bs h)) trivial O.isEmpty 9999;rcases k.find h with⟨y,z,n⟩|⟨a5,j,w,y,z,n,o⟩
 .rw[y]at Q;cases Q
 have N:j<O.size:=by have:=(Xk.1 n).1;simpa using this
 have U:∀b∈(O.eraseIdxIfInBounds j).toList,b∈O.toList/\b.key≠.string (bs h):=λb f=>by
  rw[VE.eraseIdxIfInBounds,X' N,YS]at f;refine⟨n_ f,λg=>?_⟩;have T:=k.st.2.2;obtain⟨i,q,rfl⟩:=XM.1 f;rw[VD.getElem_eraseIdx]at g;obtain⟨v,H⟩:=Xk.1 n
  have L:∀(l m:E)(D:l<O.toList.length)(p:m<O.toList.length),O.toList[l].key=O.toList[m].key->l=m:=λl m D p t=>by have:=(VD.getElem_inj (i:=l) (j:=m) (h₀:=by simpa using D) (h₁:=by simpa using p) T).1 (by simpa using t);exact this
  rw[VD.length_eraseIdx_of_lt v]at q;split at g
  .have:=L i j (by omega) v (by rw[g,H,o]);omega
  have:=L (i+1) j (by omega) v (by rw[g,H,o]);omega
 refine⟨O.eraseIdxIfInBounds j,?_,stamped_erase k.st j,λb f=>?_,λb r f=>?_⟩
 .simp[Builtin.delete_,Xd vY,Xh P,p,ZI vZ z,Result.andThen,XU _ P,tH]
 .obtain⟨Z,a0⟩:=U b f;obtain⟨a1,r,R,X,Y⟩:=k.key b Z;refine⟨a1,r,R,X,?_⟩;rw[VK (λw=>a0 (by rw[R,w]))];exact Y
 by_cases s:b=h
 .rw[VV s]at f;cases f
 rw[VK s]at f;obtain⟨a3,W,g⟩:=k.all b r f;refine⟨a3,?_,g⟩;obtain⟨i,q,rfl⟩:=XM.1 W
 have S:i≠j:=λt=>by subst t;rw[Xb q]at n;cases n;rw[g]at o;exact s (yJ (q_ o))
 rw[VE.eraseIdxIfInBounds,X' N,YS];exact VD.mem_eraseIdx_iff_getElem.2 ⟨i,q,S,A⟩
theorem EW(a:c.heap[u]?=C (.map O e))(b:VJ):(Builtin.len_ #[188] b #[.map (C u)]).run TP c=.ok (Vy M O.size) c:=by simp[Builtin.len_,Xd vY,Xh a,Result.andThen];rfl
abbrev nT:Vx->VL (DataW Unit×VD MemPlace):=λ_=>C (.nil,[])
theorem Kids.fit(c:Kids O e d)(k:O.size<=maxLen)(i:∀b a,d b=C a->b.length<=maxLen):WideElems.Fit TP 9 nT O e where
 size:=k
 stamped:=c.st
 reads:=λf l=>by
  obtain⟨b,a,g,m,h⟩:=c.key f l
  have:keyOf TP 9 f.key=C (.string b):=by rw[g];exact o_ vZ (by rw[cS];exact i b a h)
  exact⟨_,by unfold WideElems.rd;rw[this];rfl⟩
def Ki(h:Vx)(b:VD B)(i:E)(c:K):Prop:=
 (h=VG I 0 0/\b=[])\/∃a e d,h=VG (C ⟨a,0,I⟩) b.length e/\i<=a/\b≠[]/\c.heap[a]?=C (VH d 9 (0,0))/\b.length<=e/\d.size=e/\∀(f:E) g,b[f]?=C g->d[f]?=C (.string (bs g))
theorem Re(c:K):Calls TP 98 #[.map (C u)] c λa b=>a=VN (.func (.func 132) #[] #[pt c.heap.size 0])/\b=c.alloc (.cells #[.map (C u)] 188):=
 A_.1 (Tryz.zw (C u) c)
theorem Kids.strKeys(n:Kids O e d)(v:∀f a,d f=C a->f.length<=maxLen){names:VD B}(w:∀f,f∈names↔(d f).isSome=J)(y:names.Pairwise (·<·)):
 names.Perm (Go.strKeys (.map ((O.toList.map (WideElems.rg TP 9 nT)).foldr DataW.insert []))):=by
 have s:(Go.strKeys (H:=Unit) (.map ((O.toList.map (WideElems.rg TP 9 nT)).foldr DataW.insert []))).Perm (O.toList.map λb=>strOf (WideElems.rg TP 9 nT b).1):=by show(VD.map _ _).Perm _;have:=(sorted_perm (O.toList.map (WideElems.rg TP 9 nT))).map λL=>strOf L.1;rwa [Zq]at this
 have m:∀b∈O.toList,∃f a,b.key=.string (bs f)/\strOf (WideElems.rg TP 9 nT b).1=f/\d f=C a:=λb g=>by
  obtain⟨f,a,h,i,k⟩:=n.key b g;refine⟨f,a,h,?_,k⟩
  have:keyOf TP 9 b.key=C (.string f):=by rw[h];exact o_ vZ (by rw[cS];exact v f a k)
  unfold WideElems.rg WideElems.rd;rw[this];rfl
 refine VD.Perm.trans ?_ s.symm;refine(ZX (y.imp λ{o a} l(b:o=a)=>VD.lt_irrefl a (b▸l)) ?_).2 λf=>?_
 .refine Zr.2 ((Zr.1 n.st.2.2).imp_of_mem λ{o a} t p x b=>x ?_);obtain⟨r,_,h,i,_⟩:=m o t;obtain⟨N,_,k,D,_⟩:=m a p;rw[i,D]at b;rw[h,k,b]
 rw[w f];constructor
 .intro l;obtain⟨a,p⟩:=Wn.1 l;obtain⟨b,g,q⟩:=n.all f a p;obtain⟨r,_,h,i,_⟩:=m b g;rw[h]at q;exact WY.2 ⟨b,g,by rw[i];exact yJ (q_ q)⟩
 intro l;obtain⟨b,g,z⟩:=WY.1 l;obtain⟨r,a,_,i,k⟩:=m b g;rw[<-z,i,k];rfl
theorem Nf(R:c.heap[u]?=C (.map O e))(o:Kids O e d)(a3:O.size<=2^20)(t:∀g a,d g=C a->g.length<=maxLen){b:VD B}(S:∀g,g∈b↔(d g).isSome=J)(w:b.Pairwise (·<·)):
 Calls TP 97 #[.func (.func 132) #[] #[pt c.heap.size 0]] (c.alloc (.cells #[.map (C u)] 188)) λf n=>∃h,f=VN h/\Ki h b (c.heap.size+1) n/\Below (c.heap.size+1) (c.alloc (.cells #[.map (C u)] 188)) n:=by
 have v:O.size<=maxLen:=by unfold maxLen;omega
 have q:Maps.size (DataW.map ((O.toList.map (WideElems.rg TP 9 nT)).foldr DataW.insert []))=O.size:=by rw[Maps.size_eq,length_sorted];simp
 have U:c.ownsMap TP 9 nT u O.size (.map ((O.toList.map (WideElems.rg TP 9 nT)).foldr DataW.insert [])):=⟨O,e,R,o.fit v t,Wl _,A⟩;refine(A_.1 (Tryz.kE u O.size _ nT c U (by rw[q];exact v) (by rw[q];omega))).mono ?_;rintro f n⟨h,m,rfl,W,k,T,r⟩;have Y:(c.alloc (.cells #[.map (C u)] 188)).heap.size=c.heap.size+1:=by show(c.heap.push _).size=_;simp
 rw[Y]at k r;have i:m.Perm b:=W.trans (o.strKeys t S w).symm
 have X:m.mergeSort (λZ a0=>decide (Z<=a0))=b:=by rw[mergeSort_of_perm i];exact VD.mergeSort_of_pairwise (w.imp λz=>by simpa[leB]using VD.le_of_lt z)
 rw[X,i.length_eq]at k;refine⟨h,A,?_,r⟩;rcases k.2 with⟨rfl,D⟩|⟨y,x,p,rfl,H,L,N,a1,P,Q⟩
 .exact VA ⟨A,XF D⟩
 refine VC ⟨y,x,p,A,H,λf=>?_,L,N,by simpa using P,λl g s=>?_⟩
 .subst f;have:m=[]:=VD.Perm.eq_nil i;have:=T.2 this;cases this
 have a2:l<b.length:=(Xk.1 s).1;have f:(p.toList.take (b.length*1))[l]?=(b.map encStr)[l]?:=by rw[Q]
 rw[XA,VV (by omega),XI,s]at f;simpa[encStr,bs]using f
end
variable{f:K}{h:E}{l:VE Vx}{i:Vx}{d:Tree}{N:E}{a:Path}{k:K}
def tF(a:Path):B:=a.getLastD []
def cV(a:Path)(b:Nd)(c g:E):VE Vx:=
 #[.string (bs (tF a)),.string (bs b.data),Vy M b.stat.made,Vy M b.stat.set,Vy M b.stat.aF,Vy M b.stat.fj,Vy M b.stat.own,Vy M b.stat.size,Vy M b.stat.kids,Vy M b.next,
   .pointer (if a=[]then I else C ⟨c,0,I⟩),.map (C g)]
def cz(d:Tree)(e:Path->E)(a:Path)(b:B):VL E:=if(Wt.find d (a++[b])).isSome then C (e (a++[b]))else I
structure bS(d:Tree)(e g:Path->E)(f:K):Prop where
 nd:∀a c,Wt.find d a=C c->f.heap[e a]?=C (VH (cV a c (e a.dropLast) (g a)) 192 (0,0))
 kd:∀a c,Wt.find d a=C c->∃n m,f.heap[g a]?=C (.map n m)/\Kids n m (cz d e a)
 inj:∀a b,(Wt.find d a).isSome=J->(Wt.find d b).isSome=J->e a=e b->a=b
 Bz:∀a b,(Wt.find d a).isSome=J->(Wt.find d b).isSome=J->g a=g b->a=b
def Row(i:Vx)(a:Path)(f:K):Prop:=
 (i=VG I 0 0/\a=[])\/∃h b,i=VG (C ⟨h,0,I⟩) a.length b/\a.length<=b/\h<f.heap.size/\∀(c:E) d,a[c]?=C d->f.cell? ⟨h,c,I⟩=C (.string (bs d))
theorem aa{d:VJ}{b:E×E}(c:f.heap[h]?=C (VH l d b))(j:E)(m:l[j]?=C i):f.cell? ⟨h,j,I⟩=C i:=by simp only[K.cell?,c];simpa using m
theorem zO{a h:Vx}(b:a=h):Ending.returned a=VN h:=by rw[b]
section
variable{e g:Path->E}
theorem sq(g:∀a,a≠[]->(Wt.find d a).isSome=J->(Wt.find d a.dropLast).isSome=J):∀(b:E)(a:Path),a.length=b->(Wt.find d a).isSome=J->∀c,(Wt.find d (a.take c)).isSome=J
 |b,a,k,e,c=>by
  by_cases i:a.length<=c
  .rw[C_ i];exact e
  cases b with
  |zero=>omega
  |succ b=>
   have l:a≠[]:=λh=>by subst h;simp at k
   have f:=sq g b a.dropLast (by simp;omega) (g a l e) c;rw[Zy,YZ,Zk (by omega)]at f;exact f
structure lS(d:Tree)(e g:Path->E)(f:K):Prop where
 nd:∀a b,Wt.find d a=C b->∃n,f.heap[e a]?=C (VH (cV a b (e a.dropLast) (g a)) 192 n)
 kd:∀a b,Wt.find d a=C b->∃m c,f.heap[g a]?=C (.map m c)/\Kids m c (cz d e a)
theorem bS.Ux(b:bS d e g f):lS d e g f:=⟨λa h c=>⟨_,b.nd a h c⟩,b.kd⟩
theorem lS.lt(b:lS d e g f)(i:(Wt.find d a).isSome=J):e a<f.heap.size/\g a<f.heap.size:=by obtain⟨h,c⟩:=Wn.1 i;obtain⟨n,m,k,_⟩:=b.kd a h c;obtain⟨o,l⟩:=b.nd a h c;exact⟨(Wh.1 l).1,(Wh.1 k).1⟩
theorem lS.old(c:lS d e g f)(o:∀m,m<f.heap.size->k.heap[m]?=f.heap[m]?):lS d e g k where
 nd:=λa n b=>by rw[o _ (c.lt (by rw[b];rfl)).1];exact c.nd a n b
 kd:=λa n b=>by rw[o _ (c.lt (by rw[b];rfl)).2];exact c.kd a n b
theorem yY(t:lS d e g f)(b1:f.cell? ⟨N,0,I⟩=C (pt (e []) 0))(q:(Wt.find d []).isSome=J)(x:∀a,a≠[]->(Wt.find d a).isSome=J->(Wt.find d a.dropLast).isSome=J)
 (a3:Row i a f)(a1:a.length<2^31):Calls TP 96 #[pt N 0,i] f λX k=>X=VN (gP (if(Wt.find d a).isSome then C (e a)else I))/\f=k:=by
 rcases a3 with⟨rfl,rfl⟩|⟨h,a8,rfl,b3,b2,O⟩
 .rw[VV q];clear x t q a1;generalize e []=a4 at*
  go_enter Tryz.func96,Tryz.ntmps96
  go_wp2
  go_loop [5,14] (λm p=>m=pt a4 0/\p=Vy M 0) (λ_ _=>0)
  case atStart=>exact⟨A,A⟩
  case round=>
   obtain⟨rfl,rfl⟩:=hrel
   go_wp2
   go_ret;exact⟨A,A⟩
 obtain⟨Q,w⟩:∃Q,gP (if(Wt.find d a).isSome then C (e a)else I)=Q:=⟨_,A⟩;rw[w];have z:=VF w;clear w;go_enter Tryz.func96,Tryz.ntmps96;have D:=VF t;have T:=VF x;have R:=VF q;have S:=VF O;clear t x q O
 go_wp2
 go_loop [5,14] (λm p=>∃b:E,b<=a.length/\p=Vy M b/\m=pt (e (a.take b)) 0/\(Wt.find d (a.take b)).isSome=J) (λ_ p=>a.length-(Lib.intOf p).toNat)
 case atStart=>exact⟨0,Xg _,A,by simp,by simpa using R.out⟩
 case round=>
  obtain⟨b,b4,rfl,rfl,o⟩:=hrel;have y:=VF o;clear o;by_cases a0:b<a.length
  .obtain⟨n,r⟩:∃n,a[b]?=C n:=⟨_,Xb a0⟩;have c1:=S.out b n r;obtain⟨m,u⟩:=Wn.1 y.out;have c2:f.cell? ⟨e (a.take b),11,I⟩=C (.map (C (g (a.take b)))):=aa (D.out.nd _ m u).choose_spec 11 A;obtain⟨b0,a9,L,H⟩:=D.out.kd _ m u;have c:=vH L H n;have v:a.take b++[n]=a.take (b+1):=by rw[i_,r];rfl
   have a6:=VF v;have a7:=VF r;rw[cz,v]at c;clear L H u v r;generalize a2:bs n=b7 at*
   clear a2;generalize g (a.take b)=b5 at*
   by_cases l:(Wt.find d (a.take (b+1))).isSome=J
   .rw[VV l]at c;have s:=VF l;clear l;generalize P:e (a.take (b+1))=b8 at*
    have U:=VF P;clear P;generalize e (a.take b)=a5 at*
    unfold gP at c;simp only[Xp]at c
    go_wp2
    go_round
    case rel=>exact⟨b+1,by omega,by go_num,by rw[U.out],s.out⟩
    case measure=>simp[Lib.intOf];omega
   rw[VK l]at c;have s:=VF l;clear l;generalize e (a.take b)=a5 at*
   unfold gP at c;simp only[VL.map_none]at c
   go_wp2
   go_ret;exact⟨zO (by rw[<-z.out,VK (λY=>s.out (sq T.out _ a A Y (b+1)))];rfl),A⟩
  have Z:b=a.length:=by omega
  subst Z
  go_wp2
  go_ret
  exact⟨zO (by
   have o:=y.out;rw[ZD]at o
   rw[<-z.out,VV o];rfl),A⟩
end
variable{d:Vx}{e:E}{f:E}{i:Tree}
theorem KQ(a b:B):bs a++bs b=bs (a++b):=by apply VX.ext;simp[bs,VX.data_append]
def strs(b:VD B):VD Vx:=b.map λa=>.string (bs a)
theorem Ct(b:VD B)(a:E):(strs b)[a]?=(b[a]?).map λc=>.string (bs c):=by simp[strs]
section
variable{b:VD B}{h:E}
theorem BM{i:E}(k:c.ownsRow h 9 1 (VG (C ⟨e,0,I⟩) b.length i) b.length (strs b)):∀(d:E) g,b[d]?=C g->c.cell? ⟨e,d,I⟩=C (.string (bs g)):=λd g n=>by
 rcases k.2 with⟨f,_⟩|⟨q,o,p,f,_,l,_,_,_,m⟩
 .cases f
 cases f;simp only[K.cell?,l];have a:=VU (λb=>b[d]?) m;simp only[Ct,n,Xp]at a;rw[XA]at a;split at a
 .simpa using a
 cases a
theorem Jh(l:c.ownsRow h 9 1 d b.length (strs b))(O:b.length<2^31):Calls TP 188 #[d] c λk g=>k=VN (.tuple #[])/\g.ownsRow h 9 1 d b.length (strs b.reverse)/\Below h c g:=by
 rcases l.2 with⟨rfl,s⟩|⟨e,n,o,rfl,z,p,N,x,y,P⟩
 .have L:b=[]:=XF s;subst L;exact(Tryz.slices_Reverse_string_empty I 0 c).mono λk g⟨t,u⟩=>by subst u;exact⟨t,l,YY _ _⟩
 have w:=BM l;refine(Tryz.slices_Reverse_string e 0 n b c (λj D=>⟨?_,?_⟩) (by omega)).mono ?_
 .have q:j<b.length:=by simpa using D
  rw[Xr,w j b[j] (Xb q)];simp[encStr,bs,q]
 .simp[K.frozen?,p]
 rintro k g⟨rfl,f,rfl⟩
 have v:(putRow encStr (Sort.ahead c f) e 0 b.reverse.toArray).heap[e]?=C (VH (putCells encStr 0 b.reverse.toArray o) 9 (0,0)):=by simp[putRow,mapBlock,XH,Sort.ahead,p,onCells]
 refine⟨A,⟨by simp[strs],VC ⟨e,n,_,A,z,v,N,x,by simpa[putCells]using y,?_⟩⟩,A,A,A,by simp[putRow,mapBlock,Sort.ahead],λm r=>?_⟩
 .apply VD.ext_getElem?;intro m;rw[XA,Ct];by_cases r:m<b.length
  .have H:m<o.size:=by omega
   rw[VV (by omega)];simp[putCells,H,r,encStr,bs]
  rw[VK (by omega),VD.getElem?_eq_none (by simp;omega)];rfl
 simp only[putRow,mapBlock,XH,Sort.ahead];rw[VK (by omega)]
theorem Rb(k:c.ownsRow h 9 1 d b.length (strs b))(v:h<=c.heap.size)(i:([47].intercalate b).length<2^31)(z:b.length<2^31):Calls TP 189 #[d] c λa g=>a=VN (.string (bs (Wt.join b)))/\Below c.heap.size c g:=by
 have l:Calls TP 218 #[d,.string ⟨#[47]⟩] c λa g=>a=VN (.string (bs ([47].intercalate b)))/\Below c.heap.size c g:=by
  rcases k.2 with⟨rfl,s⟩|⟨e,q,N,rfl,R,y,D,P,Q,S⟩
  .have i:b=[]:=XF s;subst i;have r:([47]:B).intercalate []=[]:=by simp[VD.intercalate]
   rw[r];exact(Tryz.strings_Join_none I 0 ⟨#[47]⟩ c).mono λa g⟨t,u⟩=>⟨t,by rw[u];exact YY _ _⟩
  have x:=BM k
  have m:(b.map bs).map (λo:VX=>o.data.toList)=b:=by rw[Zq];exact VD.map_id _
  have f:=Tryz.strings_Join e 0 q (b.map bs) ⟨#[47]⟩ c (λj o n=>by
   rw[XI]at n;obtain⟨L,H,rfl⟩:=Xf.1 n;rw[Xr]
   exact x j L H) (Wh.1 y).1 (by simp;omega) (by simpa using D) (by
   rw[m];have:(Lib.join b [47]).length<2^31:=i;show(Lib.join b [47]).length<=_
   omega)
  rw[m,Ya]at f;exact f
 have O:¬9223372036854775807<1+(bs ([47].intercalate b)).size:=by rw[cS];omega
 have f:⟨#[47]⟩++bs ([47].intercalate b)=bs (Wt.join b):=KQ [47] _;have HC:=VF l;have p:=VF f;clear l k i z v f;generalize bs ([47].intercalate b)=T at*
 generalize bs (Wt.join b)=U at*
 go_enter Tryz.func189,Tryz.ntmps189
 go_wp2_with (go_at_call 218;refine HC.out.mono ?_;rintro a g⟨rfl,w⟩)
 go_ret;exact⟨zO (VU Value.string p.out),w⟩
end
def Ma:Vx->E
 |.slice _ f _=>f
 |_=>0
theorem tc{h:E}{a:VJ}{g:VD Vx}(b:c.ownsRow h a 1 d f g):Ma d=f:=by
 rcases b.2 with⟨rfl,e⟩|⟨_,_,_,rfl,_⟩
 .exact e.symm
 rfl
theorem Ta:∃a b,TP.info? 9=C a/\a.zero=C b/\a.size=1/\a.bytes=16/\b.cells.size=1:=⟨_,_,A,A,A,A,A⟩
theorem Tz:TP.underlying 35=C (.slice 9):=A
def Km(a:Path)(c:K)(b:Ending)(d:K):Prop:=b=VN (.string (bs (Wt.join a)))/\Below c.heap.size c d
theorem vz{l d4:Path->E}(N:bS i l d4 c)(a0:∀a,a≠[]->(Wt.find i a).isSome=J->(Wt.find i a.dropLast).isSome=J)(U:(Wt.find i a).isSome=J)
 (e3:a.length<2^30)(b9:([47].intercalate a).length<2^31):Calls TP 156 #[pt (l a) 0] c (Km a c):=by
 obtain⟨d3,d8,b6,c9,d0,d1,d2⟩:=Ta;obtain⟨e8,L⟩:∃m,l a=m:=⟨_,A⟩;rw[L];have b0:=VF L;have a7:=VF N;have a8:=VF a0;have a4:=VF U;clear N a0 U L;go_enter Tryz.func156,Tryz.ntmps156
 go_wp2
 go_loopw [0,3] (λf d wr=>∃g:E,g<=a.length/\f=pt (l (a.take (a.length-g))) 0/\wr.ownsRow c.heap.size 9 1 d g (strs (a.drop (a.length-g)).reverse)/\Below c.heap.size c wr) (λ_ d _=>a.length-Ma d)
 case atStart=>exact⟨0,Xg _,by rw[E.sub_zero,ZD,b0.out],by rw[E.sub_zero,VD.drop_length];exact K.ownsRow_nil c _ _ _,YY _ _⟩
 case round=>
  obtain⟨g,e1,rfl,n,o⟩:=hrel;obtain⟨k,v⟩:∃k,a.take (a.length-g)=k:=⟨_,A⟩;rw[v];have X:(Wt.find i k).isSome=J:=by rw[<-v];exact sq a8.out _ a A a4.out _
  obtain⟨f,T⟩:=Wn.1 X;have u:=a7.out.nd k f T;have t:l k<c.heap.size:=(Wh.1 u).1;have b1:wr.cell? ⟨l k,0,I⟩=C (.string (bs (tF k))):=by rw[o.cell (p:=⟨l k,0,I⟩) t];exact aa u 0 A
  have r:wr.cell? ⟨l k,10,I⟩=C (.pointer (if k=[]then I else C ⟨l k.dropLast,0,I⟩)):=by rw[o.cell (p:=⟨l k,10,I⟩) t];exact aa u 10 A
  have D:=o.size;have q:=VF v;have S:=tc n;have a3:=VF S;clear v X T u S;by_cases p:k=[]
  .have b8:g=a.length:=by have:=VU List.length q.out;rw[p]at this;simp at this;omega
   rw[VV p]at r;subst b8;rw[E.sub_self,VD.drop_zero]at n;have z:=Jh (b:=a.reverse) (h:=c.heap.size) (c:=wr) (by rw[ZS];exact n) (by rw[ZS];omega);rw[ZS,ZJ]at z;have a5:=VF z;clear z p b1 n q;generalize l k=m at*
   go_wp2_with (go_at_call 188;refine a5.out.mono ?_;rintro w e6⟨rfl,c7,x⟩)
   have b7:=Rb c7 (Wu D x.size) b9 (by omega);refine b7.mono ?_;rintro w e7⟨rfl,b3⟩
   go_wp2
   go_ret;exact⟨A,(o.trans x).trans (b3.mono (Wu D x.size))⟩
  rw[VK p]at r;have e2:g<a.length:=by
   rcases D_ g a.length with O|O
   .exact O
   exact absurd (by rw[<-q.out,show a.length-g=0 by omega,O_]) p
  have W:k.dropLast=a.take (a.length-(g+1)):=by
   rw[<-q.out,Zy,YZ,Ye]
   congr 1;omega
  have R:(a.drop (a.length-(g+1))).reverse=(a.drop (a.length-g)).reverse++[tF k]:=by
   have P:a.length-(g+1)<a.length:=by omega
   rw[e_ P,VD.reverse_cons,show a.length-(g+1)+1=a.length-g by omega]
   congr 2
   unfold tF;rw[<-q.out,VD.getLastD_eq_getLast?,VD.getLast?_eq_getElem?,XA,Ye];have w:min (a.length-g) a.length-1=a.length-(g+1):=by omega
   rw[w,VV (by omega),Xb P];rfl
  rw[W]at r;have a2:=VF R;clear W R p;obtain⟨d7,H⟩:∃m,l (a.take (a.length-(g+1)))=m:=⟨_,A⟩;rw[H]at r;have a9:=VF H;clear H;generalize l k=m at*
  generalize Y:bs (tF k)=d5 at*
  have a6:=VF Y;clear Y;have b2:∀s,Below c.heap.size c (wr.alloc s):=λs=>o.alloc D s;have c8:=λs=>n.alloc (w:=wr) s;have c0:=n.lt;clear n
  go_wp2_with (at_builtin;refine wpList_append_own _ A _ _ 35 A c.heap.size 9 d3 d8 1 16 Tz b6 c9 d0 d1 d2 (by decide) _ _ _ A (c8 _) ⟨wr.heap.size,0,I⟩ 1 1 [.string d5] A rfl (cell_one_new _ _ _) (by intro e5 Z;simp at Z;subst Z;rfl) (by unfold maxLen;omega) (by omega) (by simp;omega) ?_;intro d6 a1 y b5 c6;clear c6;have Q:Below c.heap.size c a1:=(b2 _).grown b5 (by show _<=(wr.heap.push _).size;simp;omega) (λe b4=>(c0 e b4).1);have e0:a1.cell? ⟨m,10,I⟩=C (VW (C ⟨d7,0,I⟩)):=by(rw[Q.cell (p:=⟨m,10,I⟩) t,<-o.cell (p:=⟨m,10,I⟩) t];exact r))
  go_roundw
  case rel=>
   refine⟨g+1,by omega,by rw[a9.out],?_,Q⟩;rw[a2.out];unfold strs at y⊢
   rw[YQ,XE,XO,a6.out];exact y
  case measure=>show a.length-Ma d6<a.length-Ma _;rw[tc y,a3.out];omega
variable{a:K}{c:E}{w':K}{g:E}{z:VE Oper}{S:Exit->VQ->K->Prop}
def bV(e:Vx->Prop)(a:K)(b:VJ)(size:E)(d:Vx)(c:E)(f:VD Vx):Prop:=
 f.length=c*size/\((d=VG I 0 0/\c=0)\/∃g h i,d=VG (C ⟨g,0,I⟩) c h/\a.heap[g]?=C (VH i b (0,0))/\c<=h/\h<=maxLen/\i.size=h*size/\i.toList.take (c*size)=f/\∀k∈i.toList,e k)
section
variable{e:Vx->Prop}{b:VJ}{size:E}{f:VD Vx}
theorem bV.nil(e:Vx->Prop)(a:K)(b:VJ)(size:E):bV e a b size (VG I 0 0) 0 []:=⟨by simp,VA ⟨A,A⟩⟩
theorem bV.lt(k:bV e a b size d c f):∀h,d.ownBlock=C h->h<a.heap.size:=λh i=>by
 rcases k.2 with⟨rfl,_⟩|⟨g,m,n,rfl,l,_⟩
 .cases i
 cases i;exact(Wh.1 l).1
theorem bV.blk(l:bV e a b size d c f):∀i,d.ownBlock=C i->∃h,a.heap[i]?=C (VH h b (0,0))/\∀o∈h.toList,e o:=λi k=>by
 rcases l.2 with⟨rfl,_⟩|⟨g,p,h,rfl,n,_,_,_,_,m⟩
 .cases k
 cases k;exact⟨h,n,m⟩
theorem bV.stay(i:bV e a b size d c f)(n:∀h,d.ownBlock=C h->w'.heap[h]?=a.heap[h]?):bV e w' b size d c f:=by
 refine⟨i.1,?_⟩;rcases i.2 with o|⟨g,k,l,rfl,m,p⟩
 .exact VA o
 exact VC ⟨g,k,l,A,by rw[n g A];exact m,p⟩
theorem bV.slice(k:bV e a b size d c f):∃h u i,d=.slice h u i:=by
 rcases k.2 with⟨rfl,l⟩|⟨_,_,_,rfl,_⟩
 .exact⟨_,_,_,A⟩
 exact⟨_,_,_,A⟩
theorem bV.len(h:bV e a b size d c f):Ma d=c:=by
 rcases h.2 with⟨rfl,i⟩|⟨_,_,_,rfl,_⟩
 .exact i.symm
 rfl
theorem bV.cell(l:bV e a b size d c f)(k:d.ownBlock=C g):∀(j:E) i,f[j]?=C i->a.cell? ⟨g,j,I⟩=C i:=λj i h=>by
 rcases l.2 with⟨rfl,_⟩|⟨r,o,q,rfl,m,_,_,_,n,_⟩
 .cases k
 cases k;simp only[K.cell?,m];rw[<-n,XA]at h;split at h
 .simpa using h
 cases h
theorem pK(g j:E):(⟨g,0,I⟩:VT).add j=⟨g,j,I⟩:=by unfold Addr.add;split<;>simp_all
def kL(a:K)(d b:Vx):Prop:=∀g,b.ownBlock=C g->d.ownBlock=C g\/a.heap.size<=g
theorem lL(w:bV e a b size d c f){s H:VJ}{k:TypeInfo}{n:Vx}(T:TP.underlying s=C (.slice b))(O:TP.info? b=C k)(a0:k.zero=C n)(b4:k.size=size)(a7:k.bytes<=1000)(a4:n.cells.size=size)(b5:0<size)(c0:∀h∈n.cells.toList,e h)
 (t:VT)(u x:E)(p:VD Vx)(r:p.length=u*size)(R:∀j m,p[j]?=C m->a.cell? (t.add j)=C m)(N:∀m∈p,m.oneCell'=J/\e m)(d0:c+u<2^30):
 ∃L w',(Builtin.append_ #[s,s] H #[d,VG (C t) u x]).run TP a=.ok L w'/\bV e w' b size L (c+u) (f++p)/\a.grownBy w' d.ownBlock/\kL a d L:=by
 subst b4;have Q:(f++p).length=(c+u)*k.size:=by rw[WI,w.1,r,P_]
 have b9:∀o,∀h∈(Builtin.zeroCells n.cells o).toList,e h:=λo h i=>by unfold Builtin.zeroCells at i;simp only[YJ,WY]at i;obtain⟨j,_,rfl⟩:=i;have:j%n.cells.size<n.cells.size:=ZZ _ (by omega);rw[ZW n.cells _ this];exact c0 _ (by simp)
 have a1:∀(old:E),(∀h∈f,e h)->∀row:VL E,
  bV e (a.drew.alloc (.cells (f.toArray++p.toArray++Builtin.zeroCells n.cells (grownCap a (c+u) old b-(c+u))) b)) b k.size (VG (C ⟨a.heap.size,0,I⟩) (c+u) (grownCap a (c+u) old b)) (c+u) (f++p)/\
  a.grownBy (a.drew.alloc (.cells (f.toArray++p.toArray++Builtin.zeroCells n.cells (grownCap a (c+u) old b-(c+u))) b)) row:=by
  intro old i row;have b0:=j_ a (c+u) old b;have a8:grownCap a (c+u) old b<=maxLen:=Zl a (c+u) old b (by unfold maxLen;omega);refine⟨⟨Q,VC ⟨a.heap.size,_,_,A,WS a.drew _,b0,a8,?_,?_,?_⟩⟩,⟨A,A,A,by simp,λo P _=>a_ a.drew _ P⟩⟩
  .rw[YD,YD,Q',a4,Xc,Xc,w.1,r,<-P_,<-P_]
   congr 1;omega
  .rw[Xj,Xj,Yz (by simpa using Q)]
  intro h q;simp only[Xj,WL]at q;rcases q with(q|q)|q
  .exact i h q
  .exact(N h q).2
  exact b9 _ h q
 have X:∀o,o<2^30->o*k.bytes<=140737488355328:=λo P=>by have:o*k.bytes<=1073741824*1000:=Q_ (by omega) a7;omega
 rcases w.2 with⟨rfl,rfl⟩|⟨g,v,W,rfl,a2,c9,a5,a6,a3,Y⟩
 .have b7:f=[]:=XF (by rw[w.1];simp);subst b7;by_cases b1:u=0
  .subst b1;have b2:p=[]:=XF (by rw[r];simp);subst b2;obtain⟨L,w',c6,d1,c7,c8⟩:=run_append_own (P:=TP) a a.heap.size s H b k n k.size k.bytes T O a0 A rfl a4 b5 (VG I 0 0) 0 [] (K.ownsRow_nil a _ _ _) t 0 x [] (by simp) R (λm D=>(N m D).1) (by unfold maxLen;omega) (X _ (by omega)) (Wl _);have b6:L=VG I 0 0:=c8.2 ⟨A,A⟩;subst b6;exact⟨_,_,c6,⟨by simp,VA ⟨A,A⟩⟩,c7,λg l=>by cases l⟩
  have y:=run_append_nil (P:=TP) a s H b k n T O a0 t u x _ r R (by omega) (by omega) (by have:=X u (by omega);omega);have l:=a1 0 (by simp) (Vx.ownBlock (VG I 0 0));simp only[Xr,Yf,XN]at l;rw[show(0:E)+u=u by omega];exact⟨_,_,y,by simpa using l.1,by simpa using l.2,λg l=>by cases l;exact VC (Wl _)⟩
 have b8:∀h∈f,e h:=λh i=>Y h (by rw[<-a3]at i;exact Za i);by_cases Z:c+u<=v
 .have a9:c*k.size+p.length<=W.size:=by
   rw[a6,r,<-P_];exact Q_ Z (Wl _)
  have y:=run_append_room (P:=TP) a s H b k T O g c v W a2 t u x _ r R (λm D=>(N m D).1) Z a9;refine⟨_,_,y,⟨Q,VC ⟨g,v,_,A,YE a g W _ b _ a2,Z,a5,?_,?_,?_⟩⟩,⟨A,A,A,by simp,λo _ P=>XX a g o _ (λb=>P (by simp[Vx.ownBlock,b]))⟩,λg l=>VA l⟩
  .simp only[Xc,WI,Ye,p_,Yq];omega
  .rw[a3];exact Yz Q
  intro h i;simp only[WL]at i;rcases i with(i|i)|i
  .exact Y h (Za i)
  .exact(N h i).2
  exact Y h (Yi i)
 have b3:∀j m,f[j]?=C m->a.cell? ((⟨g,0,I⟩:VT).add j)=C m:=λj m D=>by rw[pK];exact w.cell A j m D
 have y:=run_append_grow (P:=TP) a s H b k n T O a0 ⟨g,0,I⟩ c v f w.1 b3 t u x _ r R (by omega) (by omega) (growslice_fits (by omega) (X _ (by omega)));have l:=a1 v b8 (Vx.ownBlock (VG (C ⟨g,0,I⟩) c v));exact⟨_,_,y,l.1,l.2,λg l=>by cases l;exact VC (Wl _)⟩
theorem lY{v:VD Oper}{k:Oper}{n:VQ}(O:k.guard=I)(w p:Wd)(r:VJ)
 (T:k.op=.call {callee:=.builtin .append,args:=#[w,p],argTypes:=#[r,r]})(W:n.eval w=d)(x:bV e a b size d c f){o:TypeInfo}{s:Vx}(X:TP.underlying r=C (.slice b))(h:TP.info? b=C o/\o.zero=C s/\o.size=size/\o.bytes<=1000/\s.cells.size=size/\0<size)(Z:∀p∈s.cells.toList,e p)
 {q:VT}{t:E}(Y:n.eval p=VG (C q) u t)(i:VD Vx)(P:i.length=u*size)(R:∀j l,i[j]?=C l->a.cell? (q.add j)=C l)(y:∀l∈i,l.oneCell'=J/\e l)(Q:c+u<2^30)
 (next:∀m w',bV e w' b size m (c+u) (f++i)->a.grownBy w' d.ownBlock->kL a d m->wpList TP z S v (n.put k.dst m) w'):wpList TP z S (k::v) n a:=by
 refine wpList_plain O λa0 N=>?_;obtain⟨m,w',U,D,H,L⟩:=lL (H:=k.type) x X h.1 h.2.1 h.2.2.1 h.2.2.2.1 h.2.2.2.2.1 h.2.2.2.2.2 Z q u t i P R y Q;unfold Oper.wp execOp;simp only[T,resolve,invoke,builtin,Xx,E',XJ,XB,XE,XO,W,Y,U];exact N _ _ (next m w' D H L)
end
end Go.Sv
namespace Wt
variable{a:Tree}{al:VB}{O:VD Ev}{y:dH}
theorem rC{c:Op}{aE b:VB}(d:create a c al aE=.no b):b≠0:=by grind [create]
theorem rA{d:Op}{aE c:VB}(b:change a d al aE=.no c):c≠0:=by
 unfold change at b;split at b
 .exact rC b
 repeat' split at b
 all_goals first|(cases b;decide)|cases b
theorem lr{b:Op}{aE:VB}{e:Tree}{g:B}(h:b.kind≠3)(d:change a b al aE=.yes e g O):
 ∃c f,split b.path=C c/\find a c=C f/\g=b.path/\((b.kind=4/\c≠[]/\¬0<f.stat.kids/\e=drop a c/\O=jX c)\/(b.kind=5/\e=put a c (gA f b aE)/\O=[(3,b.path)])\/(b.kind≠4/\b.kind≠5/\e=a/\O=[])):=by
 unfold change at d;rw[VK h]at d;split at d
 .cases d
 grind
theorem told_none(d:∀b c,y.bR b c=[])(a:Ev):toldOf y a=[]:=by simp_all [toldOf]
theorem su(e:VB):∀(O:VD Ev)(y:dH),(∀a b,y.bR a b=[])->tell e y O=(y,[])
 |[],y,_=>rfl
 |c::O,y,d=>by
  have f:(iS e y c)=(y,[]):=by
   unfold iS;rw[told_none d]
   have:(λa b=>if ir c.1 a=J/\b=c.2 then[]else y.bR a b)=y.bR:=by
    funext a b
    split
    .exact(d a b).symm
    rfl
   rw[this];rfl
  unfold tell;rw[f];simp only;rw[su e O y d];rfl
theorem DR(y:dH)(id:VB):(heard y id).dp.map (·.1)=y.dp.map (·.1):=by
 unfold heard;simp only[Zq];refine VD.map_congr_left λa _=>?_
 grind
theorem gQ{id:VB}:known y id=J↔id∈y.dp.map (·.1):=by simp[known]
def seven:VD B:=[[47,97],[47,98],[47,97,47,120],[47,97,47,121],[47,98,47,120],[47,97,47,120,47,122],[47,99]]
def last:B:=[108,97,115,116]
theorem Cg:∀c∈seven,∃a d,split c=C (a::d)/\a.head?≠C 108/\a≠[]:=by
 intro c b;simp only[seven,Wo,Wx,Xo]at b;rcases b with rfl|rfl|rfl|rfl|rfl|rfl|rfl
 .exact⟨[97],[],by decide,by decide,by decide⟩
 .exact⟨[98],[],by decide,by decide,by decide⟩
 .exact⟨[97],[[120]],by decide,by decide,by decide⟩
 .exact⟨[97],[[121]],by decide,by decide,by decide⟩
 .exact⟨[98],[[120]],by decide,by decide,by decide⟩
 .exact⟨[97],[[120],[122]],by decide,by decide,by decide⟩
 exact⟨[99],[],by decide,by decide,by decide⟩
structure nK(y:dH)(b:VB)(e:E):Prop where
 wf:WF y.tree
 aE:y.aE=b
 al:y.dp.map (·.1)=[1,2,3]
 made:∀f c,find y.tree f=C c->c.stat.made<=b
 lG:find y.tree [last]=I
 len:y.tree.length<=e
 bR:∀d g,y.bR d g=[]
structure FI(b:eK):Prop where
 al:b.al=1\/b.al=2\/b.al=3
 kind:b.op.kind=3\/b.op.kind=4\/b.op.kind=5\/b.op.kind=6\/b.op.kind=8\/b.op.kind=9\/b.op.kind=10
 path:b.op.path∈seven
 watch:b.watch=Vz
theorem nK.heard{c:VB}{b:E}(a:nK y c b)(id:VB):nK (Wt.heard y id) c b:=⟨a.wf,a.aE,(DR y id).trans a.al,a.made,a.lG,a.len,a.bR⟩
theorem BF{b c:VB}{y:B}{a:UInt8}(e:y≠[])(f:y.head?≠C a):(nameOf b y c).head?≠C a:=by
 cases y with
 |nil=>simp_all
 |cons d g=>grind [nameOf]
theorem IS{b:B}{a:VD B}{c:B}(h:c.head?≠C 108\/a≠[])(f:b.head?≠C 108):(b::a).dropLast++[c]≠[last]:=by
 intro e;have g:(last:B).head?=C 108:=A;cases a with
 |nil=>simp_all
 |cons d a=>simp_all
theorem BV{f:VB}{q:E}(b:nK y f q){a:eK}(c7:a.op.kind=3\/a.op.kind=4\/a.op.kind=5\/a.op.kind=6)(b1:a.op.path∈seven):
 ∃U o,write y 0 a=(U,[o])/\nK U (f+1) (q+1)/\(o.err=0->a.op.kind=3->o.found=J/\o.stat.made=f+1/\o.stat.set=f+1)/\(o.err=0->a.op.kind=5->o.stat.set=f+1/\o.stat.made<f+1):=by
 have h:=b.wf;have a3:a.op.kind≠2:=by omega
 have a4:a.op.kind≠7:=by omega
 obtain⟨c,d,H,c6,d0⟩:=Cg _ b1;have mk:∀l,WF l->(∀n k,find l n=C k->k.stat.made<=f+1)->find l [last]=I->l.length<=q+1->nK {y with aE:=y.aE+1,tree:=l} (f+1) (q+1):=λl X Y Z a0=>⟨X,by simp[b.aE],b.al,Y,Z,a0,b.bR⟩;unfold write;rw[VK a3];simp only;rw[VK a4];have b7:=b.aE;cases u:change y.tree a.op a.al (y.aE+1)with
 |no g=>refine⟨_,_,A,mk y.tree h (λn k i=>by have:=b.made n k i;omega) b.lG (by have:=b.len;omega),λz=>absurd z (rA u),λz=>absurd z (rA u)⟩
 |yes l n O=>
  simp only;rw[su 0 O {y with aE:=y.aE+1,tree:=l} b.bR];simp only;have s:=rB h u;by_cases N:a.op.kind=3
  .have a5:create y.tree a.op a.al (y.aE+1)=.yes l n O:=by
    simp_all [change]
   obtain⟨W,b4,r,x,D,b6,b5,b9,c0,T,d2,d1,c9,b0,Q,L,b2,b8⟩:=fH a5;rw[H]at D;obtain⟨rfl,rfl⟩:c=W/\d=b4:=by simp_all
   have S:=dK (b:=(c::d).dropLast) (c:=iN r a.op.flags) h.ord;have R:find l ((c::d).dropLast++[x])=C (cP a.op a.al (y.aE+1)):=by grind [fx]
   have v:look l n=.yes ⟨(cP a.op a.al (y.aE+1)).data,(cP a.op a.al (y.aE+1)).stat,bW l ((c::d).dropLast++[x])⟩:=by unfold look;rw[b2,Fb (s.names _ _ R).1 (s.names _ _ R).2];simp_all
   rw[v];simp only;refine⟨_,_,A,mk l s (λm k i=>?_) ?_ ?_,λ_ _=>⟨A,?_,?_⟩,λ_ g=>absurd g (by omega)⟩
   .rw[L,bu S,bu h.ord]at i;split at i
    .cases i;show y.aE+1<=f+1;omega
    split at i
    .cases i;have:=b.made _ _ T;show r.stat.made<=f+1;omega
    have:=b.made _ _ i;omega
   .have a9:(c::d).dropLast++[x]≠[last]:=by
     grind [IS,BF]
    rw[L,bu S,VK λg=>a9 g.symm,bu h.ord,VK (λg=>?_)]
    .exact b.lG
    have:=b.lG;simp_all
   .have a1:find (put y.tree (c::d).dropLast (iN r a.op.flags)) ((c::d).dropLast++[x])=I:=by
     rw[bu h.ord,VK (λg=>by simp_all)];exact b0
    rw[L,gx a1,bY h.ord (by rw[T];rfl)];have:=b.len;omega
   .show y.aE+1=f+1;omega
   show y.aE+1=f+1;omega
  obtain⟨m,k,D,i,rfl,a6⟩:=lr N u;rw[H]at D;obtain rfl:c::d=m:=by simp_all
  have b3:c::d≠[last]:=by intro g;simp_all [last]
  rcases a6 with⟨d3,_,c8,rfl,_⟩|⟨d4,rfl,_⟩|⟨_,_,rfl,_⟩
  ·
   have Q:(drop y.tree (c::d)).length<=q+1:=by
    have:=b.len;unfold drop;cases hd:find y.tree (c::d).dropLast with
    |none=>grind [del]
    |some r=>simp only;unfold del;have a2:=VD.length_filter_le (λg=>decide (g.1≠c::d)) (put y.tree (c::d).dropLast (rF r));rw[bY h.ord (by rw[hd];rfl)]at a2;omega
   have a8:nK {y with aE:=y.aE+1,tree:=drop y.tree (c::d)} (f+1) (q+1):=by
    have P:∀m p,find (drop y.tree (c::d)) m=C p->∃t,find y.tree m=C t/\p.stat.made=t.stat.made:=by
     intro m p e;unfold drop at e;cases hd:find y.tree (c::d).dropLast with
     |none=>rw[hd]at e;simp only at e;rw[mE h.ord]at e;simp_all
     |some r=>
      rw[hd]at e;simp only at e;rw[mE (dK h.ord),bu h.ord]at e;split at e
      .cases e
      split at e
      .rename_i g;subst g;cases e;exact⟨r,hd,A⟩
      simp_all
    refine mk _ s (λm p e=>?_) ?_ Q
    .obtain⟨t,w,g⟩:=P m p e;have:=b.made m t w;omega
    cases a7:find (drop y.tree (c::d)) [last]with
    |none=>rfl
    |some p=>obtain⟨t,w,_⟩:=P _ _ a7;rw[b.lG]at w;cases w
   cases v:look (drop y.tree (c::d)) a.op.path with
   |no g=>simp_all
   |yes p=>simp_all
  ·
   have v:look (put y.tree (c::d) (gA k a.op (y.aE+1))) a.op.path=.yes ⟨(gA k a.op (y.aE+1)).data,(gA k a.op (y.aE+1)).stat,bW (put y.tree (c::d) (gA k a.op (y.aE+1))) (c::d)⟩:=by unfold look;rw[H];simp only[fx h.ord]
   rw[v];simp only;refine⟨_,_,A,mk _ s (λm p e=>?_) ?_ ?_,λ_ g=>absurd g N,λ_ _=>⟨?_,?_⟩⟩
   .rw[bu h.ord]at e;split at e
    .cases e;have:=b.made _ _ i;show k.stat.made<=f+1;omega
    have:=b.made _ _ e;omega
   .rw[bu h.ord,VK λg=>b3 g.symm];exact b.lG
   .rw[bY h.ord (by rw[i];rfl)];have:=b.len;omega
   .show y.aE+1=f+1;omega
   have:=b.made _ _ i;show k.stat.made<f+1;omega
  ·
   have a8:nK {y with aE:=y.aE+1} (f+1) (q+1):=mk y.tree h (λn k i=>by have:=b.made n k i;omega) b.lG (by have:=b.len;omega);simp_all [look]
theorem nK.more{d:VB}{c:E}(b:nK y d c):nK y d (c+1):=⟨b.wf,b.aE,b.al,b.made,b.lG,by have:=b.len;omega,b.bR⟩
theorem Jj{d:VB}{k:E}(f:nK y d k){b:eK}(e:FI b):
 ∃l c,step y 0 b=(l,[c])/\nK l (if b.op.kind<=6 then d+1 else d) (k+1)/\(c.err=0->b.op.kind=3->c.found=J/\c.stat.made=d+1/\c.stat.set=d+1)/\(c.err=0->b.op.kind=5->c.stat.set=d+1/\c.stat.made<d+1):=by
 have n:known y b.al=J:=by rw[gQ,f.al];rcases e.al with a|a|a<;>rw[a]<;>decide
 by_cases h:b.op.kind<=6
 .have m:b.op.kind=3\/b.op.kind=4\/b.op.kind=5\/b.op.kind=6:=by
   rcases e.kind with a|a|a|a|a|a|a<;>omega
  have i:task 0 b=.write:=by
   unfold task
   grind
  have a:step y 0 b=write (heard y b.al) 0 b:=by simp_all [step]
  rw[a,VV h];exact BV (f.heard _) m e.path
 have i:task 0 b=.read:=by unfold task;rw[VK (by decide),VK (by omega),VK (by rcases e.kind with a|a|a|a|a|a|a<;>omega),VV (by rcases e.kind with a|a|a|a|a|a|a<;>omega)]
 rw[VK h];unfold step;rw[i];simp only;have g:=(f.heard b.al).more;unfold eU;rw[n];simp only[e.watch];cases o:look y.tree b.op.path with
 |no a=>
  simp only[VI.true_eq_false,Wy];split
  .simp_all
  exact⟨_,_,A,g,λ_ a=>by omega,λ_ a=>by omega⟩
 |yes p=>exact⟨_,_,A,g,λ_ a=>by omega,λ_ a=>by omega⟩
theorem Ji{f:VB}{h:E}(c:nK y f h)(u:h<60):∃s g,step y 0 {al:=1,op:={kind:=3,path:=47::last}}=(s,[g])/\g.err=0/\g.stat.made=f+1:=by
 have t:known y 1=J:=by rw[gQ,c.al];decide
 obtain⟨d,q,r⟩:=c.wf.root
 have n:create y.tree {kind:=3,path:=47::last} 1 (y.aE+1)=.yes (put (put y.tree [] (iN d 0)) [last] (cP {kind:=3,path:=47::last} 1 (y.aE+1))) (47::last) [(1,47::last),(4,[47])]:=by
  unfold create;have e:split (47::last)=C [last]:=by decide
  simp only[e];have l:([last]:VD B).dropLast=[]:=A;have m:([last]:VD B).getLast (by simp)=last:=A;simp only[l,m,q,nameOf];rw[VK (by decide),VK (by decide),VK (by decide),VK (by simp[r]),VK (by omega)];simp only[show¬(2:VB)<=0 by omega,Wy,XN,c.lG];rw[VK (by simp),VK (by have:=c.len;omega)];rfl
 have k:step y 0 {al:=1,op:={kind:=3,path:=47::last}}=write (heard y 1) 0 {al:=1,op:={kind:=3,path:=47::last}}:=by simp_all [step,task]
 rw[k];unfold write;simp only[show¬(3:VB)=2 by omega,show¬(3:VB)=7 by omega,Wy]
 have o:change (heard y 1).tree {kind:=3,path:=47::last} 1 ((heard y 1).aE+1)=.yes (put (put y.tree [] (iN d 0)) [last] (cP {kind:=3,path:=47::last} 1 (y.aE+1))) (47::last) [(1,47::last),(4,[47])]:=by unfold change;rw[VV A];exact n
 rw[o];simp only;rw[su 0 _ {heard y 1 with aE:=(heard y 1).aE+1,tree:=put (put y.tree [] (iN d 0)) [last] (cP {kind:=3,path:=47::last} 1 (y.aE+1))} (c.heard 1).bR];simp only
 have p:look (put (put y.tree [] (iN d 0)) [last] (cP {kind:=3,path:=47::last} 1 (y.aE+1))) (47::last)=.yes ⟨(cP {kind:=3,path:=47::last} 1 (y.aE+1)).data,(cP {kind:=3,path:=47::last} 1 (y.aE+1)).stat,bW (put (put y.tree [] (iN d 0)) [last] (cP {kind:=3,path:=47::last} 1 (y.aE+1))) [last]⟩:=by
  unfold look;have e:split (47::last)=C [last]:=by decide
  simp only[e,fx (dK c.wf.ord)]
 rw[p];exact⟨_,_,A,A,by show y.aE+1=f+1;rw[c.aE]⟩
def rq(al b:VB)(e d:B)(aF a:VB)(c:VI):eK:={al:=al,op:={kind:=b,path:=e,data:=d,aF:=aF,flags:=a},watch:=c}
def Tw:dH:={timeout:=50}
def first:B:=[102,105,114,115,116]
def yn:B:=[116,104,105,114,100]
def pA:B:=[47,97]
def pB:B:=[47,98]
def OV:B:=[47,97,47,120]
def MN:VD eK:=[rq 0 1 [] [] 0 0 Vz,rq 0 1 [] [] 0 0 Vz,rq 0 1 [] [] 0 0 Vz,rq 1 3 pA first 0 0 Vz,rq 2 3 pB [] 0 0 Vz,rq 3 3 OV yn 0 0 Vz,rq 1 8 OV [] 0 0 Vz]
def Tl:VD Out:=[{al:=1},{al:=2},{al:=3},
 {al:=1,path:=pA,found:=J,stat:={made:=4,set:=4,size:=5}},
 {al:=2,path:=pB,found:=J,stat:={made:=5,set:=5}},
 {al:=3,path:=OV,found:=J,stat:={made:=6,set:=6,size:=5}},
 {al:=1,path:=OV,data:=yn,found:=J,stat:={made:=6,set:=6,size:=5}}]
def alone:dH->VD eK->dH
 |y,[]=>y
 |y,b::a=>alone (step y 0 b).1 a
def oq(a:E):dH:=alone Tw (MN.take a)
def sB:dH:=oq 7
theorem De:∀a,(b:a<7)->(step (oq a) 0 (MN[a]'b)).2=[Tl[a]'b]:=by
 intro a b
 match a,b with
 |0,_=>rfl
 |1,_=>rfl
 |2,_=>rfl
 |3,_=>rfl
 |4,_=>rfl
 |5,_=>rfl
 |6,_=>rfl
theorem vQ:∀a,(b:a<7)->oq (a+1)=(step (oq a) 0 (MN[a]'b)).1:=by
 intro a b
 match a,b with
 |0,_=>rfl
 |1,_=>rfl
 |2,_=>rfl
 |3,_=>rfl
 |4,_=>rfl
 |5,_=>rfl
 |6,_=>rfl
def Qh:Tree:=[([],{stat:={fj:=2,kids:=2}}),([[97]],{data:=first,stat:={made:=4,set:=4,fj:=1,size:=5,kids:=1}}),([[97],[120]],{data:=yn,stat:={made:=6,set:=6,size:=5}}),([[98]],{stat:={made:=5,set:=5}})]
theorem Pn:sB.tree=Qh:=A
theorem Tu:WF sB.tree:=by have e:=gN Af (f:={kind:=3,path:=pA,data:=first}) (al:=1) (aE:=4) A;have f:=gN e (f:={kind:=3,path:=pB}) (al:=2) (aE:=5) A;exact gN f (f:={kind:=3,path:=OV,data:=yn}) (al:=3) (aE:=6) A
theorem qR(e:VB)(c:VI)(d:B):∀(a:VD Ev)(y:dH),y.bR c d=[]->(tell e y a).1.bR c d=[]
 |[],y,b=>b
 |f::a,y,b=>by
  unfold tell;simp only;refine qR e c d a _ ?_;unfold iS;simp only;split
  .rfl
  exact b
theorem Nj{h:VB}{c:eK}{e:VI}{f:B}(a:y.bR e f=[])(k:c.watch=Vz)(g:c.op.kind≠2)(i:c.op.kind≠11):(step y h c).1.bR e f=[]:=by
 have b:(heard y c.al).bR e f=[]:=a;unfold step;split
 .exact a
 .split
  .exact a
  exact a
 .rename_i d;exfalso;unfold task at d
  repeat' split at d
  all_goals first|cases d|contradiction
 .split
  .exact a
  unfold write;rw[VK g];simp only;split
  .split
   .exact b
   exact qR _ _ _ _ _ b
  split
  .exact b
  split
  .exact qR _ _ _ _ _ b
  exact qR _ _ _ _ _ b
 grind [eU]
theorem yk(c:VI)(d:B):∀a,a<=7->(oq a).bR c d=[]
 |0,_=>rfl
 |a+1,e=>by
  rw[vQ a (by omega)];refine Nj (yk c d a (by omega)) ?_ ?_ ?_
  all_goals
   have:∀b∈MN,b.watch=Vz/\b.op.kind≠2/\b.op.kind≠11:=by decide
  .exact(this _ (YK _)).1
  .exact(this _ (YK _)).2.1
  exact(this _ (YK _)).2.2
theorem RI(a:VI)(b:B):sB.bR a b=[]:=yk a b 7 (Wl _)
theorem Ew:nK sB 6 4:=⟨Tu,A,A,λb c a=>by
 have:=jo a;rw[Pn]at this;simp only[Qh,Wo,Wx,Xo,Prod.mk.injEq]at this
 grind,by decide,by decide,RI⟩
abbrev qV(a:VD VB):Prop:=a.Pairwise (·<·)
theorem GC:∀{d e:VD VB},qV d->qV e->(∀b,b∈d↔b∈e)->d=e
 |[],[],_,_,_=>rfl
 |[],h::e,_,_,a=>absurd ((a h).2 (by simp)) (by simp)
 |b::d,[],_,_,a=>absurd ((a b).1 (by simp)) (by simp)
 |b::d,h::e,n,p,a=>by
  obtain⟨l,o⟩:=Xq.1 n;obtain⟨m,q⟩:=Xq.1 p;have r:b=h:=by
   have c:=(a b).1 (by simp);have k:=(a h).2 (by simp);rcases Wo.1 c with f|c
   .exact f
   rcases Wo.1 k with f|k
   .exact f.symm
   have:=m b c;have:=l h k;omega
  subst r;rw[GC o q λi=>?_];constructor
  .intro g;rcases Wo.1 ((a i).1 (WU _ g))with f|c
   .have:=l i g;omega
   exact c
  intro g;rcases Wo.1 ((a i).2 (WU _ g))with f|c
  .have:=m i g;omega
  exact c
theorem mM(d b:VB):∀{c:VD VB},b∈dI d c↔b=d\/b∈c
 |[]=>by simp[dI]
 |e::c=>by
  unfold dI;split
  .simp
  split
  .rename_i a;subst a;simp
  rw[Wo,mM d b,Wo];constructor
  .rintro(a|a|a)
   .exact VC (VA a)
   .exact VA a
   exact VC (VC a)
  rintro(a|a|a)
  .exact VC (VA a)
  .exact VA a
  exact VC (VC a)
theorem qG(e:VB):∀{d:VD VB},qV d->qV (dI e d)
 |[],_=>by simp[dI,qV]
 |k::d,c=>by
  obtain⟨f,h⟩:=Xq.1 c;unfold dI;split
  .rename_i i
   exact Xq.2 ⟨λb a=>by
    rcases Wo.1 a with g|a
    .omega
    have:=f b a;omega,c⟩
  split
  .exact c
  exact Xq.2 ⟨λb a=>by
   rcases(mM e b).1 a with g|a
   .omega
   exact f b a,qG e h⟩
theorem mL(c:VB)(d:VD VB):∀b:VD VB,c∈b.foldr dI d↔c∈b\/c∈d
 |[]=>by simp
 |e::b=>by
  rw[J_,mM,mL c d b,Wo];constructor
  .rintro(a|a|a)
   .exact VA (VA a)
   .exact VA (VC a)
   exact VC a
  rintro((a|a)|a)
  .exact VA a
  .exact VC (VA a)
  exact VC (VC a)
theorem mS{b:VD VB}(c:qV b):∀a:VD VB,qV (a.foldr dI b)
 |[]=>c
 |d::a=>qG d (mS c a)
theorem Gg{d:VB}:∀{a:VD VB}{b:E},qV a->b<=a.length->(∀c∈a.take b,c<d)->(∀c∈a.drop b,d<c)->dI d a=a.take b++d::a.drop b
 |[],b,_,_,_,_=>by simp[dI]
 |g::a,0,_,_,_,l=>by
  simp_all [dI]
 |g::a,b+1,k,i,e,h=>by have m:=e g (by simp);unfold dI;rw[VK (by omega),VK (by omega),Gg (Xq.1 k).2 (by simpa using i) (λc f=>e c (by simp[f])) (λc f=>h c (by simp_all))];rfl
theorem Bg{c:VB}:∀{a:VD VB},qV a->c∈a->dI c a=a
 |h::a,f,b=>by
  obtain⟨d,e⟩:=Xq.1 f;unfold dI;rcases Wo.1 b with g|b
  .simp_all
  have:=d c b;rw[VK (by omega),VK (by omega),Bg e b]
def Ap(y:dH):Prop:=∀a b,qV (y.bR a b)
theorem Cx(b:Ap y)(c:VB)(a:Ev):Ap (iS c y a).1:=λd e=>by
 unfold iS;simp only;split
 .simp
 exact b d e
theorem vT(c:VB):∀(a:VD Ev)(y:dH),Ap y->Ap (tell c y a).1
 |[],y,b=>b
 |d::a,y,b=>by unfold tell;exact vT c a _ (Cx b c d)
theorem sw(b:VB):∀(a:VD Ev)(y:dH),(tell b y a).1.tree=y.tree
 |[],y=>rfl
 |c::a,y=>by unfold tell;exact sw b a _
end Wt
namespace Go.SimW
open Go.Conc
open Go.ConcR (KK wgBlock WgAt stA smA rd wr mk DC0)
open Go.ConcN (WgLive)
variable{d:VO}
def RL(b:VJ)(a:E)(c d:K):Prop:=WgLive b a c->WgLive b a d
theorem RL.refl{b:VJ}{a:E}(c:K):RL b a c c:=id
theorem RL.trans{b:VJ}{a:E}(e f g:K)(h:RL b a e f)(i:RL b a f g):RL b a e g:=λk=>i (h k)
section
variable(c:VS)(b:VJ)(a:E)
def UE(d:VO)(e:K):Prop:=
 d.status=.running/\mayWake c d=J/\(WgAt b a e 0 0->∃f,stepG c Vz d e=.go f (e.setCell (smA a) (.int .u32 1)) (semEvents (smA a))/\∃g,QuitsD c g 1 f)
def UD(d:VO)(e:K):Prop:=
 d.status=.running/\(WgAt b a e 1 0->∃f,stepG c Vz d e=.go f (e.setCell (stA a) (.int .u64 0)) #[wr (stA a)]/\∃g,Goes c Vz (RL b a) DC0 (UE c b a) g f (e.setCell (stA a) (.int .u64 0)))
def UC(d:VO)(e:K):Prop:=
 d.status=.running/\(WgAt b a e 1 0->∃f,stepG c Vz d e=.go f e #[rd (stA a)]/\∃g,Goes c Vz (RL b a) DC0 (UD c b a) g f e)
def UB(d:VO)(g:K):Prop:=
 d.status=.running/\∀e f:E,f<=1->e<2147483647->WgAt b a g ((e+1)*KK+f) 0->
  ∃h,stepG c Vz d g=.go h (g.setCell (stA a) (.int .u64 (e*KK+f))) #[rd (stA a),wr (stA a)]/\
   ((e=0/\f=1)->∃i,Goes c Vz (RL b a) DC0 (UC c b a) i h (g.setCell (stA a) (.int .u64 (e*KK+f))))/\(¬(e=0/\f=1)->∃k,QuitsD c k 1 h)
def UF(d:VO)(e:K):Prop:=
 d.status=.running/\∃f,stepG c Vz d e=.go f e #[mk .disable]/\∃g,Goes c Vz (RL b a) DC0 (UB c b a) g f e
def TG(d:VO)(e:K):Prop:=
 d.status=.running/\∃f,stepG c Vz d e=.go f e #[mk (.releaseMerge (stA a))]/\∃g,Goes c Vz (RL b a) DC0 (UF c b a) g f e
def PO:E->VO->K->Prop
 |0=>TG c b a
 |1=>UF c b a
 |2=>UB c b a
 |3=>UC c b a
 |4=>UD c b a
 |_=>UE c b a
end
theorem PO.running{c:VS}{b:VJ}{a:E}:∀{f:E}{d:VO}{g:K},PO c b a f d g->d.status=.running
 |0,_,_,e=>e.1
 |1,_,_,e=>e.1
 |2,_,_,e=>e.1
 |3,_,_,e=>e.1
 |4,_,_,e=>e.1
 |_+5,_,_,e=>e.1
theorem qd{c:VS}{b:VJ}{a h g:E}{f:K}(e:Goes c Vz (RL b a) DC0 (PO c b a h) g d f):d.status=.running:=by
 cases g with
 |zero=>exact(e f (RL.refl f)).running
 |succ g=>
  rcases e with e|⟨e,_⟩
  .exact(e f (RL.refl f)).running
  exact e
end Go.SimW
namespace Go.SimW
open Go.Conc Go.RowKit Go.Conc.Lib Go.ConcR.Gen Go.ConcN.Gen
open Go.ConcR (KK wgBlock WgAt stA smA rd wr mk DC0)
open Go.ConcN (WgLive)
open Go.ConcN
variable{a:VS}{e:VD VM}{m:Wd}{r:Code}{Q:Code}{id:E}{t:VO}{q:Oper}
section
theorem WgLive.TQ{k:VJ}{h:E}{a:K}(b:WgLive k h a):∃c,a.cell? ⟨h,0,I⟩=C c:=let ⟨_,_,r⟩:=b;⟨_,r.cellSt⟩
theorem WgLive.TM{k:VJ}{h:E}{a:K}(b:WgLive k h a):∃c,a.cell? ⟨h,1,I⟩=C c:=let ⟨_,_,r⟩:=b;⟨_,r.cellSm⟩
variable{L:WgLink}
def jJ(d:VM)(b:VQ)(s:VD Item):VM:={d.at b s with mode:=.returning}
section
variable{d:VM}{b:VQ}{i s:VD Item}{f l:E}{z:VE Oper}{n:E}{p:VD E}
theorem Tm(c:QuitsD a f l (G (d.at b (VP z (n::p)::i)) e)):QuitsD a f l (G (d.at b (VP z (n::p)::i)) e):=c
theorem Rx(c:QuitsD a f l (G (d.at b (.code (.cond m r Q)::i)) e)):QuitsD a f l (G (d.at b (.code (.cond m r Q)::i)) e):=c
theorem Pc(c:QuitsD a f l (G (d.at b (.code (.exit id)::i)) e)):QuitsD a f l (G (d.at b (.code (.exit id)::i)) e):=c
theorem RD(c:QuitsD a f l (G (jJ d b s) e)):QuitsD a f l (G (jJ d b s) e):=c
theorem MJ(c:QuitsD a f l (G (d.at b i) e)):QuitsD a (f+1) l (G (d.at b (VP z []::i)) e):=.ctl A (λ_=>r_) c
theorem RE(c:QuitsD a f l (G (d.at b (.code r::.code Q::i)) e)):QuitsD a (f+1) l (G (d.at b (.code (.seq r Q)::i)) e):=.ctl A (λ_=>stepG_seq) c
theorem Pe(c:QuitsD a f l (G (d.at b i) e)):QuitsD a (f+1) l (G (d.at b (.code .skip::i)) e):=.ctl A (λ_=>stepG_skip) c
theorem Pd(c:QuitsD a f l (G (jJ d b (.code .ret::i)) e)):QuitsD a (f+1) l (G (d.at b (.code .ret::i)) e):=.ctl A (λ_=>stepG_ret') c
theorem MK(c:QuitsD a f l (G (jJ d b []) e)):QuitsD a (f+1) l (G (d.at b []) e):=.ctl A (λ_=>stepG_end) c
theorem Rz{m:Code}(c:QuitsD a f l (G (d.at b (.code m::.inLoop m::i)) e)):QuitsD a (f+1) l (G (d.at b (.inLoop m::i)) e):=.ctl A (λ_=>stepG_inLoop) c
theorem Ry(c:QuitsD a f l (G (d.at b i) e)):QuitsD a (f+1) l (G (d.at b (.inBlock id::i)) e):=.ctl A (λ_=>stepG_inBlock) c
theorem ya{fn:Func}{g:VM}{c:VQ}{h:Tmp}(m:d.kind=.normal)(hd:b.defers=[])(k:a.funcs[d.fn]?=C fn)(q:fn.results=#[.tmp h])
 (o:QuitsD a f l (G (g.at (c.put ((z[n]?).bind (·.dst)) (b.tmps.getD h F)) (VP z p::i)) e)):QuitsD a (f+1) l (G (jJ d b s) (g.at c (VP z (n::p)::i)::e)):=QuitsD.leave1 m hd k q o
theorem rT{fn:Func}{g:VM}{c:VQ}(k:d.kind=.normal)(hd:b.defers=[])(h:a.funcs[d.fn]?=C fn)(o:fn.results=#[])
 (m:QuitsD a f l (G (g.at (c.put ((z[n]?).bind (·.dst)) (.tuple #[])) (VP z p::i)) e)):QuitsD a (f+1) l (G (jJ d b s) (g.at c (VP z (n::p)::i)::e)):=QuitsD.leave0 k hd h o m
theorem Ja{L:WgLink}{c:VD Deferred}(g:WgLib a L)(hd:b.defers=dcall L.enable #[]::c)(h:QuitsD a f 0 (G (jJ d ⟨b.tmps,c⟩ s) e)):QuitsD a (f+1) 1 (G (jJ d b s) e):=
 QuitsD.unwind_mark .enable A (by simp) hd g.f_enable (x_enable_n L) (x_enable_b L) (x_enable_x L) (x_enable_f L) h
theorem RB(c:QuitsD a f l (G (d.at b (VP z (VD.range z.size)::i)) e)):QuitsD a (f+1) l (G (d.at b (.code (.region id z Vz)::i)) e):=.ctl A (λ_=>stepG_region) c
def GL(a:VS)(main:VI)(k:VJ)(h:E)(Stop:VO->K->Prop)(c:E)(t:VO):Prop:=∀b,WgLive k h b->Goes a main (RL k h) DC0 Stop c t b
variable{main:VI}{k:VJ}{h:E}{Stop:VO->K->Prop}
theorem dP{g:VO}(y:t.status=.running)(w:∀c,WgLive k h c->stepG a main t c=.go g c)(x:GL a main k h Stop f g):GL a main k h Stop (f+1) t:=
 λc o=>Goes.step y λv u=>by rw[w v (u o)];exact⟨⟨A,A⟩,x v (u o)⟩
theorem lA(c:∀b,WgLive k h b->Stop t b):GL a main k h Stop f t:=λb d=>Goes.stop λg e=>c g (e d)
theorem Gf(c:GL a main k h Stop f (G (d.at b (VP z (n::p)::i)) e)):GL a main k h Stop f (G (d.at b (VP z (n::p)::i)) e):=c
theorem zb(c:GL a main k h Stop f (G (d.at b (.code (.cond m r Q)::i)) e)):GL a main k h Stop f (G (d.at b (.code (.cond m r Q)::i)) e):=c
theorem qc(g:b.eval m=.bool J)(c:GL a main k h Stop f (G (d.at b (.code r::i)) e)):GL a main k h Stop (f+1) (G (d.at b (.code (.cond m r Q)::i)) e):=dP A (λ_ _=>b_ g) c
theorem qb(g:b.eval m=.bool Vz)(c:GL a main k h Stop f (G (d.at b (.code Q::i)) e)):GL a main k h Stop (f+1) (G (d.at b (.code (.cond m r Q)::i)) e):=dP A (λ_ _=>b_ g) c
theorem MI(g:b.eval m=.bool J)(c:QuitsD a f l (G (d.at b (.code r::i)) e)):QuitsD a (f+1) l (G (d.at b (.code (.cond m r Q)::i)) e):=.ctl A (λ_=>b_ g) c
theorem MH(g:b.eval m=.bool Vz)(c:QuitsD a f l (G (d.at b (.code Q::i)) e)):QuitsD a (f+1) l (G (d.at b (.code (.cond m r Q)::i)) e):=.ctl A (λ_=>b_ g) c
theorem zc{c:VD Item}(l:exitTo id i=C c)(g:GL a main k h Stop f (G (d.at b c) e)):GL a main k h Stop (f+1) (G (d.at b (.code (.exit id)::i)) e):=dP A (λ_ _=>stepG_exit l) g
theorem uZ(c:GL a main k h Stop f (G (d.at b (.code (.exit id)::i)) e)):GL a main k h Stop f (G (d.at b (.code (.exit id)::i)) e):=c
theorem DM(c:GL a main k h Stop f (G (jJ d b s) e)):GL a main k h Stop f (G (jJ d b s) e):=c
theorem uY(c:GL a main k h Stop f (G (d.at b i) e)):GL a main k h Stop (f+1) (G (d.at b (VP z []::i)) e):=dP A (λ_ _=>r_) c
theorem zg(c:GL a main k h Stop f (G (d.at b (.code r::.code Q::i)) e)):GL a main k h Stop (f+1) (G (d.at b (.code (.seq r Q)::i)) e):=dP A (λ_ _=>stepG_seq) c
theorem tU(c:GL a main k h Stop f (G (d.at b i) e)):GL a main k h Stop (f+1) (G (d.at b (.code .skip::i)) e):=dP A (λ_ _=>stepG_skip) c
theorem zf(c:GL a main k h Stop f (G (jJ d b (.code .ret::i)) e)):GL a main k h Stop (f+1) (G (d.at b (.code .ret::i)) e):=dP A (λ_ _=>stepG_ret') c
theorem DK(c:GL a main k h Stop f (G (jJ d b []) e)):GL a main k h Stop (f+1) (G (d.at b []) e):=dP A (λ_ _=>stepG_end) c
theorem uX{m:Code}(c:GL a main k h Stop f (G (d.at b (.code m::.inBlock id::i)) e)):GL a main k h Stop (f+1) (G (d.at b (.code (.block id m)::i)) e):=dP A (λ_ _=>stepG_block) c
theorem ze{m:Code}(c:GL a main k h Stop f (G (d.at b (.code m::.inLoop m::i)) e)):GL a main k h Stop (f+1) (G (d.at b (.code (.loop m)::i)) e):=dP A (λ_ _=>stepG_loop) c
theorem DL{m:Code}(c:GL a main k h Stop f (G (d.at b (.code m::.inLoop m::i)) e)):GL a main k h Stop (f+1) (G (d.at b (.inLoop m::i)) e):=dP A (λ_ _=>stepG_inLoop) c
theorem zd(c:GL a main k h Stop f (G (d.at b i) e)):GL a main k h Stop (f+1) (G (d.at b (.inBlock id::i)) e):=dP A (λ_ _=>stepG_inBlock) c
theorem va(c:GL a main k h Stop f (G (d.at b (VP z (VD.range z.size)::i)) e)):GL a main k h Stop (f+1) (G (d.at b (.code (.region id z Vz)::i)) e):=dP A (λ_ _=>stepG_region) c
theorem lB(l:Vx)(s:z[n]?=C q)(u:Region.wanted q (yielded z b.tmps)=J)(r:d.kind≠.early)
 (t:∀c,WgLive k h c->(execOp b.eval q).run a c=.ok (.value l) c)(o:∀c,WgLive k h c->(execOp b.eval q).events a c #[]=#[])
 (m:GL a main k h Stop f (G (d.at (b.put q.dst l) (VP z p::i)) e)):GL a main k h Stop (f+1) (G (d.at b (VP z (n::p)::i)) e):=
 dP A (λc g=>by rw[stepG_value s u r (t c g)];unfold listed;rw[o c g,seen_none]) m
theorem zh(g:z[n]?=C q)(l:Region.wanted q (yielded z b.tmps)=Vz)(c:GL a main k h Stop f (G (d.at (b.put q.dst F) (VP z p::i)) e)):GL a main k h Stop (f+1) (G (d.at b (VP z (n::p)::i)) e):=
 dP A (λ_ _=>stepG_unwanted g l) c
theorem eG{fn:Func}{g:VM}{c:VQ}{m:Tmp}(q:d.kind=.normal)(hd:b.defers=[])(o:a.funcs[d.fn]?=C fn)(l:fn.results=#[.tmp m])
 (r:GL a main k h Stop f (G (g.at (c.put ((z[n]?).bind (·.dst)) (b.tmps.getD m F)) (VP z p::i)) e)):GL a main k h Stop (f+1) (G (jJ d b s) (g.at c (VP z (n::p)::i)::e)):=
 dP A (λt _=>by rw[jJ,stepG_leave q hd o (results_tmp l _ a t) (events_results_tmp l _ _),Xl]) r
theorem dQ{fn:Func}{g:VM}{c:VQ}(o:d.kind=.normal)(hd:b.defers=[])(m:a.funcs[d.fn]?=C fn)(l:fn.results=#[])
 (q:GL a main k h Stop f (G (g.at (c.put ((z[n]?).bind (·.dst)) (.tuple #[])) (VP z p::i)) e)):GL a main k h Stop (f+1) (G (jJ d b s) (g.at c (VP z (n::p)::i)::e)):=
 dP A (λr _=>by rw[jJ,stepG_leave o hd m (E_ l _ a r) (events_results_none l _ _),Xl]) q
theorem gu{fn:Func}{g:Wc}{c:VE Wd}{m:VE VJ}{l:Code}(v:z[n]?=C q)(x:Region.wanted q (yielded z b.tmps)=J)(t:d.kind≠.early)(w:q.op=.call {callee:=.value (.func g),args:=c,argTypes:=m})
 (s:a.funcs[g]?=C fn)(u:(fn.name== "runtime.NumGoroutine")=Vz)(r:fn.body=C l)
 (o:GL a main k h Stop f (G ((base g).at ⟨c.map b.eval++Array.replicate (fn.ntmps-(c.map b.eval).size) F,[]⟩ [.code l]) (d.at b (VP z (n::p)::i)::e))):GL a main k h Stop (f+1) (G (d.at b (VP z (n::p)::i)) e):=
 λQ y=>Goes.step A λH D=>goes_call v x t w s u r ⟨⟨A,A⟩,o H (D y)⟩
theorem AZ{g:Wc}{c:VE Wd}{l:VE VJ}(r:z[n]?=C q)(t:Region.wanted q (yielded z b.tmps)=J)(o:d.kind≠.early)(s:q.op=.defer {callee:=.value (.func g),args:=c,argTypes:=l})
 (m:GL a main k h Stop f (G (d.at ({b with defers:=dcall g (c.map b.eval)::b.defers}.put q.dst F) (VP z p::i)) e)):GL a main k h Stop (f+1) (G (d.at b (VP z (n::p)::i)) e):=
 dP A (λy _=>stepG_defer r t o s) m
theorem za(c:WgLib a L){g:VE Wd}{l:VE VJ}(r:z[n]?=C q)(t:Region.wanted q (yielded z b.tmps)=J)(o:d.kind≠.early)(s:q.op=.call {callee:=.value (.func L.inBubble),args:=g,argTypes:=l})
 (m:GL a main k h Stop f (G (d.at (b.put q.dst (.bool Vz)) (VP z p::i)) e)):GL a main k h Stop (f+1) (G (d.at b (VP z (n::p)::i)) e):=
 dP A (λx _=>stepG_entry_pure (.bool Vz) r t o s c.f_inBubble (x_inBubble_n L) (x_inBubble_b L) (x_inBubble_x L) (x_inBubble_f L)) m
end
theorem JL{a:VS}(H:WgLib a L){h:E}{r:VM}{q:VQ}{p:VE Oper}{s:E}{u:VD E}{t:VD Item}{e:VD VM}{l:E}
 (z:QuitsD a l 0 (G (r.at (q.put ((p[s]?).bind (·.dst)) (.tuple #[])) (VP p u::t)) e)):
 GL a Vz L.tWg h (TG a L.tWg h) 20 (G ((base L.add).at ⟨#[VW (C ⟨h,0,I⟩),Vy M (-1),F,F,F,F,F,F,F,F,F,F,F,F,F,F,F,F,F,F,F,F,F,F,F,F,F,F,F,F,F,F,F,F,F,F,F,F,F,F,F,F,F,F,F,F,F,F,F,F,F,F,F,F,F,F,F,F,F,F,F,F,F,F,F,F,F,F,F,F,F,F,F,F,F,F,F,F,F,F,F,F,F,F,F,F,F,F,F,F,F,F,F,F,F,F,F,F,F,F,F,F,F,F,F,F,F,F,F,F,F,F,F,F,F,F,F],[]⟩ [.code (body_add L)]) (r.at q (VP p (s::u)::t)::e)):=by
 lib_facts
 simp only[body_add,addFn,Xw]
 repeat' (first
  |with_reducible (first|refine uY ?_|refine zg ?_|refine tU ?_|refine zf ?_|refine DK ?_|refine DL ?_|refine zd ?_|refine uX ?_|refine ze ?_|refine MJ ?_|refine RE ?_|refine Pe ?_|refine Pd ?_|refine MK ?_|refine Rz ?_|refine Ry ?_)
  |((with_reducible refine Gf ?_);first|(refine zh rfl rfl ?_;walk_nrm)|(refine lB _ rfl rfl (by k_ne) (λ_ _=>by go_simp;(try w_num);rfl) (λ_ _=>by simp[go_sem, *]) ?_;walk_nrm)|((first|refine za H rfl rfl (by k_ne) rfl ?_|refine AZ rfl rfl (by k_ne) rfl ?_);walk_nrm)|(refine gu rfl rfl (by k_ne) rfl H.f_uAdd (nm_uAdd L) rfl ?_;walk_nrmf uAddFn)|(refine gu rfl rfl (by k_ne) rfl H.f_uLoad (nm_uLoad L) rfl ?_;walk_nrmf uLoadFn)|(refine gu rfl rfl (by k_ne) rfl H.f_uStore (nm_uStore L) rfl ?_;walk_nrmf uStoreFn)|(refine gu rfl rfl (by k_ne) rfl H.f_uCas (nm_uCas L) rfl ?_;walk_nrmf uCasFn)|(refine lB (VW (C ⟨h,0,I⟩)) rfl rfl (by k_ne) (λW b=>by have X:=YT (P:=a) H.underlying_tWgP H.underlying_tUP H.room_tWg (WgLive.TQ b).choose_spec;(first|(go_simp;done)|fail)) (λW b=>by have D:=λy=>YI (P:=a) H.underlying_tWgP H.underlying_tUP H.room_tWg (WgLive.TQ b).choose_spec y;(first|(simp[go_sem,D];done)|fail)) ?_;walk_nrm))
  |((with_reducible refine Tm ?_);(first|refine QuitsD.unwanted rfl rfl ?_|refine QuitsD.value _ rfl rfl (by k_ne) (λ_=>by go_simp;(first|(try w_num);rfl|(simp only[Ze,s_,t_,N,O,P,v,Q,R,S,T,U,VB.reduceMod,VB.reduceDiv,VB.reducePow,aaa,aab];rfl))) (λ_=>by simp[go_sem, *]) ?_);walk_nrm)
  |((with_reducible (first|refine va ?_|refine RB ?_));simp only[Xc,WO,XG,E.reduceAdd,Xr,VD.range,VD.range.loop])
  |((with_reducible (first|refine zb ?_|refine Rx ?_));first|refine qc rfl ?_|refine qb rfl ?_|refine MI rfl ?_|refine MH rfl ?_)
  |((with_reducible refine uZ ?_);refine zc rfl ?_)
  |((with_reducible refine Pc ?_);q_exit)
  |((with_reducible refine DM ?_);(first|refine eG rfl rfl H.f_uAdd rfl ?_|refine dQ rfl rfl H.f_uAdd rfl ?_|refine eG rfl rfl H.f_uLoad rfl ?_|refine dQ rfl rfl H.f_uLoad rfl ?_|refine eG rfl rfl H.f_uStore rfl ?_|refine dQ rfl rfl H.f_uStore rfl ?_|refine eG rfl rfl H.f_uCas rfl ?_|refine dQ rfl rfl H.f_uCas rfl ?_);walk_nrm)
  |((with_reducible refine RD ?_);first|(refine Ja H rfl ?_)|((first|refine ya rfl rfl H.f_uAdd rfl ?_|refine rT rfl rfl H.f_uAdd rfl ?_|refine ya rfl rfl H.f_uStore rfl ?_|refine rT rfl rfl H.f_uStore rfl ?_);walk_nrm)|(refine rT rfl rfl H.f_add rfl ?_;exact z))
  |(refine lA λm f=>?_
    first
    |(first|refine⟨rfl,_,F_ .releaseMerge (by simp) rfl rfl (by k_ne) rfl H.f_relMerge (x_relMerge_n L) (x_relMerge_b L) (x_relMerge_x L) (x_relMerge_f L) (by first|(simp[Act.eval,stA];done)|fail),10,?_⟩|refine⟨rfl,_,R_ .disable (by simp) rfl rfl (by k_ne) rfl H.f_disable (x_disable_n L) (x_disable_b L) (x_disable_x L) (x_disable_f L),90,?_⟩|refine⟨rfl,λb=>⟨_,Zs (v:=1) A rfl (by k_ne) A H.f_loadU64 (x_loadU64_n L) (x_loadU64_b L) (x_loadU64_x L) .u64 (x_loadU64_f L) A b.cellSt,120,?_⟩⟩
      walk_nrm
      refine(?_:GL _ _ _ _ _ _ _) _ f)
    |(refine⟨rfl,λb=>⟨_,stepG_store_atomic A rfl (by k_ne) A H.f_storeU64 (x_storeU64_n L) (x_storeU64_b L) (x_storeU64_x L) (x_storeU64_f L) A rfl b.cellSt (b.thaw 0),50,?_⟩⟩
      have f:WgLive L.tWg h (m.setCell (stA h) (.int .u64 0)):=⟨_,_,b.setSt 0⟩;clear b;walk_nrm
      refine(?_:GL _ _ _ _ _ _ _) _ f)
    |(refine⟨rfl,mayWake_entry rfl rfl H.f_semrelease (x_semrelease_b L),λb=>⟨_,(stepG_semrelease A rfl (by k_ne) A H.f_semrelease (x_semrelease_n L) (x_semrelease_b L) (x_semrelease_x L) (x_semrelease_f L) (by simp[Act.eval,smA]) b.cellSm (b.thaw 1)).trans (by rfl),l+19,?_⟩⟩
      clear b
      walk_nrm)
    |(clear f
      refine⟨rfl,λc d a0 Y b=>?_⟩;rcases WA c with rfl|Z
      rw[show((0:E):VB)*KK+(d:VB)=d by simp];have w:IntKind.u64.wrap (KK+18446744069414584320)=0:=by decide
      have x:IntKind.u64.wrap (KK+1+18446744069414584320)=1:=by decide
      obtain rfl|rfl:d=0\/d=1:=by omega
      replace b:WgAt L.tWg h m KK 0:=by simpa using b
      refine⟨_,(Zf A rfl (by k_ne) A H.f_addU64 (x_addU64_n L) (x_addU64_b L) (x_addU64_x L) .u64 (x_addU64_f L) A rfl b.cellSt (b.thaw 0)).trans (by rw[w];rfl),λk=>absurd k.2 (by decide),λ_=>⟨l+89,?_⟩⟩;clear b;walk_nrm
      rotate_left
      replace b:WgAt L.tWg h m (KK+1) 0:=by simpa using b
      refine⟨_,(Zf A rfl (by k_ne) A H.f_addU64 (x_addU64_n L) (x_addU64_b L) (x_addU64_x L) .u64 (x_addU64_f L) A rfl b.cellSt (b.thaw 0)).trans (by rw[x];rfl),λ_=>⟨120,?_⟩,λk=>absurd ⟨A,A⟩ k⟩;have f:WgLive L.tWg h (m.setCell (stA h) (.int .u64 1)):=⟨_,_,b.setSt 1⟩;clear b;walk_nrm;refine(?_:GL _ _ _ _ _ _ _) _ f
      rotate_left
      have n:IntKind.u64.wrap (((c:E)+1)*KK+d+18446744069414584320)=(c:VB)*KK+d:=by rw[Ze];simp only[KK];omega
      obtain⟨g,i⟩:∃g:VB,g=(c:VB)*KK+d:=⟨_,A⟩;rw[<-i]at n⊢
      have N:g/4294967296=(c:VB):=by rw[i];simp only[KK];omega
      have O:(c:VB)%4294967296=c:=by omega
      have P:bits .and .u64 g 2147483648=0:=by rw[i];have:=st_flag c d (by omega) (by omega);simpa[KK]using this
      have v:bits .and .u64 g 2147483647=d:=by rw[i];have:=st_waiters c d (by omega) (by omega);simpa[KK]using this
      have Q:decide ((c:VB)<0)=Vz:=by simp
      have R:decide (0<(c:VB))=J:=by simp;omega
      have S:(c:VB)-0=c:=by omega
      have T:(c:VB)≠0:=by omega
      have U:((c:VB)+2147483648)%4294967296-2147483648=c:=by omega
      clear i;refine⟨_,(Zf A rfl (by k_ne) A H.f_addU64 (x_addU64_n L) (x_addU64_b L) (x_addU64_x L) .u64 (x_addU64_f L) A rfl b.cellSt (b.thaw 0)).trans (by rw[n];rfl),λk=>absurd k.1 (by omega),λ_=>⟨l+89,?_⟩⟩;clear b n
      rcases(by omega:(d:VB)=0\/(d:VB)=1)with o|o<;>(rw[o]at v;clear o;walk_nrm))))
theorem Py(H:WgLib a L){h:E}{m:VM}{g:E}(u:m.mode=.returning)(o:QuitsD a g 0 (G m e)):
 GL a Vz L.tWg h (TG a L.tWg h) 23 (G ((baseD L.done).at ⟨#[VW (C ⟨h,0,I⟩),F,F,F],[]⟩ [.code (body_done L)]) (m::e)):=by
 lib_facts
 have c:=@JL L a H h;simp only[body_done,body_add,doneFn,addFn,Xw]at c⊢
 refine va ?_;simp only[Xc,WO,XG,E.reduceAdd,Xr,VD.range,VD.range.loop];refine lB _ A rfl (by k_ne) (λ_ _=>by go_simp;rfl) (λ_ _=>by simp[go_sem, *]) ?_;walk_nrm;refine gu A rfl (by k_ne) A H.f_add (nm_add L) A ?_
 walk_nrmf addFn
 refine c (?_:QuitsD a (g+3) 0 _);refine MJ ?_;refine MK ?_;exact QuitsD.leaveD A rfl H.f_done A u o
end
section
variable{L:WgLink}
def GT(b:VS)(main:VI)(Stop:VO->K->Prop)(c:E)(a:VO):Prop:=∀d,Goes b main (λ_ _=>True) DC0 Stop c a d
section
variable(b:VS)(c:VJ)(a:E)(d:VO)(f:VO->K->Prop)
def TS(a:VO)(b:K):Prop:=a=d
def TR(f:VO)(e:K):Prop:=f.status=.running/\∃g,stepG b J f e=.go g e #[mk .enable]/\∃h,Goes b J (RL c a) DC0 (TS d) h g e
def Vg(f:VO)(e:K):Prop:=f.status=.running/\∃g,stepG b J f e=.go g e #[mk (.read (smA a))]/\∃h,Goes b J (RL c a) DC0 (TR b c a d) h g e
def Vf(i:VO)(f:K):Prop:=
 i.status=.running/\∀e:E,e<2147483647->WgAt c a f (e*KK) 0->∃g,stepG b J i f=.go g (f.setCell (stA a) (.int .u64 ((e+1)*KK))) #[rd (stA a),wr (stA a)]/\
  (e=0->∃h,Goes b J (RL c a) DC0 (Vg b c a d) h g (f.setCell (stA a) (.int .u64 ((e+1)*KK))))/\(e≠0->∃h,Goes b J (RL c a) DC0 (TR b c a d) h g (f.setCell (stA a) (.int .u64 ((e+1)*KK))))
def UA(f:VO)(e:K):Prop:=f.status=.running/\∃g,stepG b J f e=.go g e #[mk .disable]/\∃h,Goes b J (RL c a) DC0 (Vf b c a d) h g e
def UN(c:VO)(f:K):Prop:=c.status=.running/\∃e,stepG b J c f=.go e f #[mk (.acquire (stA a))]/\∃g,GT b J (TS d) g e
def TW(f:VO)(e:K):Prop:=f.status=.running/\∃g,stepG b J f e=.go g e #[mk .enable]/\∃h,Goes b J (RL c a) DC0 (UN b a d) h g e
def UM(f:VO)(e:K):Prop:=f.status=.running/\(WgAt c a e 0 0->∃g,stepG b J f e=.go g e #[rd (stA a)]/\∃h,Goes b J (RL c a) DC0 (TW b c a d) h g e)
def TV(f:VO)(e:K):Prop:=
 f.status=.running/\f.offers=I/\((∃i,WgAt c a e i 0)->stepG b J f e=.go {f with status:=.blocked} e #[])/\
  (WgAt c a e 0 1->∃g,stepG b J f e=.go g (e.setCell (smA a) (.int .u32 0)) (semEvents (smA a))/\∃h,Goes b J (RL c a) DC0 (UM b c a d) h g (e.setCell (smA a) (.int .u32 0)))
def Vk(f:VO)(e:K):Prop:=f.status=.running/\∃g,stepG b J f e=.go g e #[mk (.write (smA a))]/\∃h,Goes b J (RL c a) DC0 (λf e=>∀e,WgLive c a e->TV b c a d f e) h g e
def Vj(l:E)(i:VO)(e:K):Prop:=
 i.status=.running/\∀g:E,g<2147483648->WgAt c a e (g*KK) 0->
  (g=l->∃h,stepG b J i e=.go h (e.setCell (stA a) (.int .u64 (g*KK+1))) #[rd (stA a),wr (stA a)]/\∃k,Goes b J (RL c a) DC0 (Vk b c a d) k h (e.setCell (stA a) (.int .u64 (g*KK+1))))/\
  (g≠l->∃h,stepG b J i e=.go h e #[rd (stA a)]/\∃k,Goes b J (RL c a) DC0 f k h e)
def UL(k:VO)(g:K):Prop:=
 k.status=.running/\∀e:E,e<2147483648->WgAt c a g (e*KK) 0->∃h,stepG b J k g=.go h g #[rd (stA a)]/\
  (e=0->∃i,Goes b J (RL c a) DC0 (TW b c a d) i h g)/\(e≠0->∃i,Goes b J (RL c a) DC0 (Vj b c a d f e) i h g)
def UK(e:VO)(d:K):Prop:=e.status=.running/\∃g,stepG b J e d=.go g d #[mk .disable]/\∃h,Goes b J (RL c a) DC0 f h g d
end
variable{b:VS}{a:E}{i:VM}{h:VQ}{g:VE Oper}{k:E}{m:VD E}{l:VD Item}{d:VO}
theorem JI{main:VI}(i:WgLib b L){c:VM}{a:VQ}{g:VD Item}{d:VD Deferred}(hd:a.defers=dcall L.enable #[]::d)(h:K):
 stepG b main (G (jJ c a g) e) h=.go (G (jJ c ⟨a.tmps,d⟩ g) e) h #[mk .enable]:=
 stepG_unwind_entry (v:=.tuple #[]) hd i.f_enable (x_enable_n L) (x_enable_b L) (x_enable_x L) (x_enable_f L) (by simp[Extern.Race.none_]) (by simp[mk]) (by
  intro n f;simp[mk]at f;subst f
  exact⟨A,λl k=>by cases k⟩)
theorem Sf(H:WgLib b L)(z:G (i.at (h.put ((g[k]?).bind (·.dst)) (.tuple #[])) (VP g m::l)) e=d):
 GL b J L.tWg a (UA b L.tWg a d) 20 (G ((base L.add).at ⟨#[VW (C ⟨a,0,I⟩),Vy M (1),F,F,F,F,F,F,F,F,F,F,F,F,F,F,F,F,F,F,F,F,F,F,F,F,F,F,F,F,F,F,F,F,F,F,F,F,F,F,F,F,F,F,F,F,F,F,F,F,F,F,F,F,F,F,F,F,F,F,F,F,F,F,F,F,F,F,F,F,F,F,F,F,F,F,F,F,F,F,F,F,F,F,F,F,F,F,F,F,F,F,F,F,F,F,F,F,F,F,F,F,F,F,F,F,F,F,F,F,F,F,F,F,F,F,F],[]⟩ [.code (body_add L)]) (i.at h (VP g (k::m)::l)::e)):=by
 lib_facts
 simp only[body_add,addFn,Xw]
 repeat' (first
  |with_reducible (first|refine uY ?_|refine zg ?_|refine tU ?_|refine zf ?_|refine DK ?_|refine DL ?_|refine zd ?_|refine uX ?_|refine ze ?_)
  |((with_reducible refine Gf ?_);first|(refine gu rfl rfl (by k_ne) rfl H.f_uAdd (nm_uAdd L) rfl ?_;walk_nrmf uAddFn)|(refine gu rfl rfl (by k_ne) rfl H.f_uLoad (nm_uLoad L) rfl ?_;walk_nrmf uLoadFn)|(refine gu rfl rfl (by k_ne) rfl H.f_uStore (nm_uStore L) rfl ?_;walk_nrmf uStoreFn)|(refine gu rfl rfl (by k_ne) rfl H.f_uCas (nm_uCas L) rfl ?_;walk_nrmf uCasFn)|((first|refine zh rfl rfl ?_|refine za H rfl rfl (by k_ne) rfl ?_|refine AZ rfl rfl (by k_ne) rfl ?_|refine lB _ rfl rfl (by k_ne) (λ_ _=>by go_simp;(first|(try w_num);rfl|(simp only[Ze,s_,t_,D,N,O,P,Q,R,S,T,U,VB.reduceMod,VB.reduceDiv,VB.reducePow,aaa,aab];rfl))) (λ_ _=>by simp[go_sem, *]) ?_|refine lB (VW (C ⟨a,1,I⟩)) rfl rfl (by k_ne) (λv o=>by have X:=YT (P:=b) H.underlying_tPU32 H.underlying_tUP H.room_tU32 (WgLive.TM o).choose_spec;(first|(go_simp;done)|fail)) (λv o=>by have y:=λx=>YI (P:=b) H.underlying_tPU32 H.underlying_tUP H.room_tU32 (WgLive.TM o).choose_spec x;(first|(simp[go_sem,y];done)|fail)) ?_);walk_nrm))
  |((with_reducible refine va ?_);simp only[Xc,WO,XG,E.reduceAdd,Xr,VD.range,VD.range.loop])
  |((with_reducible refine zb ?_);first|refine qc rfl ?_|refine qb rfl ?_)
  |((with_reducible refine uZ ?_);refine zc rfl ?_)
  |((with_reducible refine DM ?_);(first|refine eG rfl rfl H.f_uAdd rfl ?_|refine dQ rfl rfl H.f_uAdd rfl ?_|refine eG rfl rfl H.f_uLoad rfl ?_|refine dQ rfl rfl H.f_uLoad rfl ?_|refine eG rfl rfl H.f_uStore rfl ?_|refine dQ rfl rfl H.f_uStore rfl ?_|refine eG rfl rfl H.f_uCas rfl ?_|refine dQ rfl rfl H.f_uCas rfl ?_);walk_nrm)
  |(refine lA λu p=>?_
    first
    |((first|refine⟨rfl,_,R_ .disable (by simp) rfl rfl (by k_ne) rfl H.f_disable (x_disable_n L) (x_disable_b L) (x_disable_x L) (x_disable_f L),90,?_⟩|refine⟨rfl,_,F_ .read (by simp) rfl rfl (by k_ne) rfl H.f_raceRead (x_raceRead_n L) (x_raceRead_b L) (x_raceRead_x L) (x_raceRead_f L) (by first|(simp[Act.eval,smA];done)|fail),100,?_⟩)
      walk_nrm
      refine(?_:GL _ _ _ _ _ _ _) _ p)
    |(refine⟨rfl,_,JI H rfl _,5,?_⟩
      refine(?_:GL _ _ _ _ _ _ _) _ p;refine dQ rfl rfl H.f_add rfl ?_
      exact lA λv p=>z)
    |(refine⟨rfl,λn Y o=>?_⟩
      rcases WA n with rfl|Z
      replace o:WgAt L.tWg a u 0 0:=by simpa using o
      have W:(((0:E):VB)+1)*KK=KK:=by simp
      rw[W];have w:IntKind.u64.wrap (0+4294967296)=KK:=by decide
      refine⟨_,(Zf A rfl (by k_ne) A H.f_addU64 (x_addU64_n L) (x_addU64_b L) (x_addU64_x L) .u64 (x_addU64_f L) A rfl o.cellSt (o.thaw 0)).trans (by rw[w];rfl),λ_=>⟨110,?_⟩,λt=>absurd A t⟩;have p:WgLive L.tWg a (u.setCell (stA a) (.int .u64 KK)):=⟨_,_,o.setSt _⟩;clear o;refine(?_:GL _ _ _ _ _ _ _) _ p;simp only[KK];walk_nrm
      rotate_left
      have s:IntKind.u64.wrap ((n:VB)*KK+4294967296)=((n:VB)+1)*KK:=by rw[Ze];simp only[KK];omega
      obtain⟨q,r⟩:∃q:VB,((n:VB)+1)*KK=q:=⟨_,A⟩;rw[r]at s⊢
      have D:q/4294967296=(n:VB)+1:=by rw[<-r];simp only[KK];omega
      have N:((n:VB)+1)%4294967296=n+1:=by omega
      have O:bits .and .u64 q 2147483648=0:=by rw[<-r];have:=st_flag (n+1) 0 (by omega) (by omega);simpa[KK]using this
      have P:bits .and .u64 q 2147483647=0:=by rw[<-r];have:=st_waiters (n+1) 0 (by omega) (by omega);simpa[KK]using this
      have Q:decide ((n:VB)+1<0)=Vz:=by first|(simp;done)|(simp;omega)
      have R:decide (0<(n:VB)+1)=J:=by first|(simp;done)|(simp;omega)
      have S:decide ((n:VB)+1=1)=Vz:=by first|(simp;done)|(simp;omega)
      have T:(((n:VB)+1)==1)=Vz:=by first|(simp;done)|(simp;omega)
      have U:((n:VB)+1+2147483648)%4294967296-2147483648=n+1:=by omega
      refine⟨_,(Zf A rfl (by k_ne) A H.f_addU64 (x_addU64_n L) (x_addU64_b L) (x_addU64_x L) .u64 (x_addU64_f L) A rfl o.cellSt (o.thaw 0)).trans (by rw[s];rfl),λt=>absurd t (by omega),λ_=>⟨110,?_⟩⟩;have p:WgLive L.tWg a (u.setCell (stA a) (.int .u64 q)):=⟨_,_,o.setSt _⟩;clear o s r;refine(?_:GL _ _ _ _ _ _ _) _ p
      walk_nrm)))
end
variable{b:VD VM}{l:VO}{s:Code}{k:Wd}
section
variable{L:WgLink}
def FD(L:WgLink)(i:E)(k:VM)(b:VD VM)(l:VO)(c:K):Prop:=
 ∃a:VE Vx,l=G ((base L.wait).at ⟨a,[]⟩ [.code (L7 L),.inLoop (L7 L),.inBlock 0]) (k::b)/\a.size=84/\a[0]?=C (VW (C ⟨i,0,I⟩))
section
variable{f:VM}{d:VQ}{h D:VD Item}{e:E}{z:VE Oper}{p:E}{r:VD E}{main:VI}{Stop:VO->K->Prop}
theorem gw{c:VO}(h:l.status=.running)(f:∀b,stepG a main l b=.go c b)(g:GT a main Stop e c):GT a main Stop (e+1) l:=
 λb=>Goes.step h λd _=>by rw[f d];exact⟨⟨A,A⟩,g d⟩
theorem OE(c:∀b,Stop l b):GT a main Stop e l:=λb=>Goes.stop λd _=>c d
theorem QQ(c:GT a main Stop e (G (f.at d h) b)):GT a main Stop (e+1) (G (f.at d (VP z []::h)) b):=gw A (λ_=>r_) c
theorem QU(c:GT a main Stop e (G (f.at d (.code s::.code Q::h)) b)):GT a main Stop (e+1) (G (f.at d (.code (.seq s Q)::h)) b):=gw A (λ_=>stepG_seq) c
theorem OD(c:GT a main Stop e (G (f.at d h) b)):GT a main Stop (e+1) (G (f.at d (.code .skip::h)) b):=gw A (λ_=>stepG_skip) c
theorem OC(c:GT a main Stop e (G (jJ f d (.code .ret::h)) b)):GT a main Stop (e+1) (G (f.at d (.code .ret::h)) b):=gw A (λ_=>stepG_ret') c
theorem SW(c:GT a main Stop e (G (f.at d (VP z (p::r)::h)) b)):GT a main Stop e (G (f.at d (VP z (p::r)::h)) b):=c
theorem QP(c:GT a main Stop e (G (f.at d (.code (.cond k s Q)::h)) b)):GT a main Stop e (G (f.at d (.code (.cond k s Q)::h)) b):=c
theorem LI(g:d.eval k=.bool J)(c:GT a main Stop e (G (f.at d (.code s::h)) b)):GT a main Stop (e+1) (G (f.at d (.code (.cond k s Q)::h)) b):=gw A (λ_=>b_ g) c
theorem LH(g:d.eval k=.bool Vz)(c:GT a main Stop e (G (f.at d (.code Q::h)) b)):GT a main Stop (e+1) (G (f.at d (.code (.cond k s Q)::h)) b):=gw A (λ_=>b_ g) c
theorem LJ(c:GT a main Stop e (G (f.at d (.code (.exit id)::h)) b)):GT a main Stop e (G (f.at d (.code (.exit id)::h)) b):=c
theorem OB{c:VD Item}(i:exitTo id h=C c)(g:GT a main Stop e (G (f.at d c) b)):GT a main Stop (e+1) (G (f.at d (.code (.exit id)::h)) b):=gw A (λ_=>stepG_exit i) g
theorem QR(c:GT a main Stop e (G (jJ f d []) b)):GT a main Stop (e+1) (G (f.at d []) b):=gw A (λ_=>stepG_end) c
theorem QO{k:Code}(c:GT a main Stop e (G (f.at d (.code k::.inBlock id::h)) b)):GT a main Stop (e+1) (G (f.at d (.code (.block id k)::h)) b):=gw A (λ_=>stepG_block) c
theorem QS(c:GT a main Stop e (G (f.at d h) b)):GT a main Stop (e+1) (G (f.at d (.inBlock id::h)) b):=gw A (λ_=>stepG_inBlock) c
theorem QT(c:GT a main Stop e (G (f.at d (VP z (VD.range z.size)::h)) b)):GT a main Stop (e+1) (G (f.at d (.code (.region id z Vz)::h)) b):=gw A (λ_=>stepG_region) c
theorem QW(g:Vx)(m:z[p]?=C q)(o:Region.wanted q (yielded z d.tmps)=J)(l:f.kind≠.early)
 (n:∀c,(execOp d.eval q).run a c=.ok (.value g) c)(k:∀c,(execOp d.eval q).events a c #[]=#[])
 (i:GT a main Stop e (G (f.at (d.put q.dst g) (VP z r::h)) b)):GT a main Stop (e+1) (G (f.at d (VP z (p::r)::h)) b):=
 gw A (λc=>by rw[stepG_value m o l (n c)];unfold listed;rw[k c,seen_none]) i
theorem QV(g:z[p]?=C q)(i:Region.wanted q (yielded z d.tmps)=Vz)(c:GT a main Stop e (G (f.at (d.put q.dst F) (VP z r::h)) b)):GT a main Stop (e+1) (G (f.at d (VP z (p::r)::h)) b):=
 gw A (λ_=>stepG_unwanted g i) c
theorem Ir{fn:Func}{n:VM}{m:VQ}(i:f.kind=.normal)(hd:d.defers=[])(g:a.funcs[f.fn]?=C fn)(c:fn.results=#[])
 (k:GT a main Stop e (G (n.at (m.put ((z[p]?).bind (·.dst)) (.tuple #[])) (VP z r::h)) b)):GT a main Stop (e+1) (G (jJ f d D) (n.at m (VP z (p::r)::h)::b)):=
 gw A (λl=>by rw[jJ,stepG_leave i hd g (E_ c _ a l) (events_results_none c _ _),Xl]) k
end
variable{i:E}{n:VM}{m:VQ}{t:VE Oper}{u:E}{w:VD E}{v:VD Item}{y:VO}
theorem Pz(H:WgLib a L):GL a J L.tWg i (UK a L.tWg i (FD L i (n.at m (VP t (u::w)::v)) b)) 6 (G ((base L.wait).at ⟨#[VW (C ⟨i,0,I⟩),F,F,F,F,F,F,F,F,F,F,F,F,F,F,F,F,F,F,F,F,F,F,F,F,F,F,F,F,F,F,F,F,F,F,F,F,F,F,F,F,F,F,F,F,F,F,F,F,F,F,F,F,F,F,F,F,F,F,F,F,F,F,F,F,F,F,F,F,F,F,F,F,F,F,F,F,F,F,F,F,F,F,F],[]⟩ [.code (body_wait L)]) (n.at m (VP t (u::w)::v)::b)):=by
 lib_facts
 simp only[body_wait,waitFn,Xw]
 repeat (first|with_reducible (first|refine uY ?_|refine zg ?_|refine tU ?_|refine zd ?_|refine uX ?_)|((with_reducible refine Gf ?_);(first|refine zh rfl rfl ?_|refine lB _ rfl rfl (by k_ne) (λ_ _=>by go_simp;(try w_num);rfl) (λ_ _=>by simp[go_sem, *]) ?_|refine za H rfl rfl (by k_ne) rfl ?_);walk_nrm)|((with_reducible refine zb ?_);first|refine qc rfl ?_|refine qb rfl ?_)|((with_reducible refine va ?_);simp only[Xc,WO,XG,E.reduceAdd,Xr,VD.range,VD.range.loop]))
 refine lA λg c=>?_;refine⟨A,_,R_ .disable (by simp) A rfl (by k_ne) A H.f_disable (x_disable_n L) (x_disable_b L) (x_disable_x L) (x_disable_f L),9,?_⟩;walk_nrm;refine(?_:GL _ _ _ _ _ _ _) _ c;refine uY ?_;refine uX ?_;refine ze ?_;exact lA λg c=>⟨_,A,A,A⟩
theorem Nz(H:WgLib a L)(a2:G (n.at (m.put ((t[u]?).bind (·.dst)) (.tuple #[])) (VP t w::v)) b=y){N:K}(S:FD L i (n.at m (VP t (u::w)::v)) b l N):
 GL a J L.tWg i (UL a L.tWg i y (FD L i (n.at m (VP t (u::w)::v)) b)) 30 l:=by
 lib_facts
 obtain⟨Y,rfl,a0,W⟩:=S;obtain⟨b7,b8,d4,e5,f6,g7,h8,i9,k0,k5,b9,c0,c6,c7,c8,c9,d0,d1,d2,d3,d5,d6,d7,d8,d9,e0,e1,e2,e3,e4,e6,e7,e8,e9,f0,f1,f2,f3,f4,f5,f7,f8,f9,g0,g1,g2,g3,g4,g5,g6,g8,g9,h0,h1,h2,h3,h4,h5,h6,h7,h9,i0,i1,i2,i3,i4,i5,i6,i7,i8,j0,j1,j2,j3,j4,j5,j6,j7,j8,j9,k1,k2,k3,k4,rfl⟩:=array84 Y a0;simp only[WM,WT,Wz]at W;subst W;simp only[L7,body_wait,waitFn,Xw]
 repeat' (first
  |with_reducible (first|refine uY ?_|refine zg ?_|refine tU ?_|refine zf ?_|refine DK ?_|refine zd ?_|refine uX ?_|refine QQ ?_|refine QU ?_|refine OD ?_|refine OC ?_|refine QR ?_|refine QS ?_|refine QO ?_)
  |((with_reducible refine Gf ?_);first|((first|refine zh rfl rfl ?_|refine lB _ rfl rfl (by k_ne) (λ_ _=>by go_simp;(first|(try w_num);rfl|(simp only[Ze,s_,t_,a3,a4,a5,a6,a7,a8,a9,b0,b1,VB.reduceMod,VB.reduceDiv,VB.reducePow,aaa,aab];rfl))) (λ_ _=>by simp[go_sem, *]) ?_|refine za H rfl rfl (by k_ne) rfl ?_|refine lB (VW (C ⟨i,0,I⟩)) rfl rfl (by k_ne) (λN c=>by have a1:=YT (P:=a) H.underlying_tWgP H.underlying_tUP H.room_tWg (WgLive.TQ c).choose_spec;(first|(go_simp;done)|fail)) (λN c=>by have T:=λR=>YI (P:=a) H.underlying_tWgP H.underlying_tUP H.room_tWg (WgLive.TQ c).choose_spec R;(first|(simp[go_sem,T];done)|fail)) ?_|refine lB (VW (C ⟨i,1,I⟩)) rfl rfl (by k_ne) (λN c=>by have a1:=YT (P:=a) H.underlying_tPU32 H.underlying_tUP H.room_tU32 (WgLive.TM c).choose_spec;(first|(go_simp;done)|fail)) (λN c=>by have T:=λR=>YI (P:=a) H.underlying_tPU32 H.underlying_tUP H.room_tU32 (WgLive.TM c).choose_spec R;(first|(simp[go_sem,T];done)|fail)) ?_);walk_nrm)|(refine gu rfl rfl (by k_ne) rfl H.f_uLoad (nm_uLoad L) rfl ?_;walk_nrmf uLoadFn)|(refine gu rfl rfl (by k_ne) rfl H.f_uCas (nm_uCas L) rfl ?_;walk_nrmf uCasFn))
  |((with_reducible refine SW ?_);(first|refine QV rfl rfl ?_|refine QW _ rfl rfl (by k_ne) (λ_=>by go_simp;(try w_num);rfl) (λ_=>by simp[go_sem, *]) ?_);walk_nrm)
  |((with_reducible (first|refine va ?_|refine QT ?_));simp only[Xc,WO,XG,E.reduceAdd,Xr,VD.range,VD.range.loop])
  |((with_reducible (first|refine zb ?_|refine QP ?_));first|refine qc rfl ?_|refine qb rfl ?_|refine LI rfl ?_|refine LH rfl ?_)
  |((with_reducible refine uZ ?_);refine zc rfl ?_)
  |((with_reducible refine LJ ?_);refine OB rfl ?_)
  |((with_reducible refine DM ?_);(first|refine eG rfl rfl H.f_uLoad rfl ?_|refine dQ rfl rfl H.f_uLoad rfl ?_|refine eG rfl rfl H.f_uCas rfl ?_|refine dQ rfl rfl H.f_uCas rfl ?_);walk_nrm)
  |(refine Ir rfl rfl H.f_wait rfl ?_;exact OE λN=>a2)
  |((with_reducible refine DL ?_);exact lA λN x=>⟨_,A,A,A⟩)
  |(refine lA λX x=>?_
    first
    |((first|refine⟨rfl,_,R_ .enable (by simp) rfl rfl (by k_ne) rfl H.f_enable (x_enable_n L) (x_enable_b L) (x_enable_x L) (x_enable_f L),20,?_⟩|refine⟨rfl,_,F_ .write (by simp) rfl rfl (by k_ne) rfl H.f_raceWrite (x_raceWrite_n L) (x_raceWrite_b L) (x_raceWrite_x L) (x_raceWrite_f L) (by first|(simp[Act.eval,smA];done)|fail),100,?_⟩|refine⟨rfl,λc=>⟨_,Zs (v:=0) A rfl (by k_ne) A H.f_loadU64 (x_loadU64_n L) (x_loadU64_b L) (x_loadU64_x L) .u64 (x_loadU64_f L) A c.cellSt,120,?_⟩⟩)
      walk_nrm
      refine(?_:GL _ _ _ _ _ _ _) _ x)
    |(refine⟨rfl,_,F_ .acquire (by simp) rfl rfl (by k_ne) rfl H.f_acquire (x_acquire_n L) (x_acquire_b L) (x_acquire_x L) (x_acquire_f L) (by first|(simp[Act.eval,stA];done)|fail),20,?_⟩
      walk_nrm)
    |(intro N x
      refine⟨A,A,λ⟨b6,c⟩=>stepG_semacquire_wait A rfl rfl H.f_semacquire (x_semacquire_n L) (x_semacquire_b L) (x_semacquire_x L) (x_semacquire_f L) (by simp[Act.eval,smA]) c.cellSm,λP=>?_⟩;refine⟨_,(stepG_semacquire (n:=1) A rfl (by k_ne) A H.f_semacquire (x_semacquire_n L) (x_semacquire_b L) (x_semacquire_x L) (x_semacquire_f L) (by simp[Act.eval,smA]) P.cellSm (by k_ne) (P.thaw 1)).trans (by rfl),120,?_⟩;have x:WgLive L.tWg i (N.setCell (smA i) (.int .u32 0)):=⟨_,_,P.setSm 0⟩;clear P;walk_nrm
      refine(?_:GL _ _ _ _ _ _ _) _ x)
    |(refine⟨rfl,λb2 b4 c=>⟨λU=>?_,λU=>?_⟩⟩
      subst U;rw[O]at c⊢
      refine⟨_,(stepG_cas_hit (v:=o) (n:=o+1) rfl rfl (by k_ne) rfl H.f_casU64 (x_casU64_n L) (x_casU64_b L) (x_casU64_x L) .u64 (x_casU64_f L) rfl rfl rfl c.cellSt (c.thaw 0)).trans (by rfl),120,?_⟩;have x:WgLive L.tWg i (X.setCell (stA i) (.int .u64 (o+1))):=⟨_,_,c.setSt _⟩;clear c O;walk_nrm;refine(?_:GL _ _ _ _ _ _ _) _ x
      rotate_left
      refine⟨_,stepG_cas_miss (v:=(b2:VB)*KK) (old:=o) (n:=o+1) rfl rfl (by k_ne) rfl H.f_casU64 (x_casU64_n L) (x_casU64_b L) (x_casU64_x L) .u64 (x_casU64_f L) rfl rfl rfl c.cellSt (c.thaw 0) (by rw[<-O];simp only[KK];omega),120,?_⟩;clear c;walk_nrm
      refine(?_:GL _ _ _ _ _ _ _) _ x)
    |(refine⟨rfl,λg b3 c=>?_⟩
      rcases WA g with rfl|b5
      replace c:WgAt L.tWg i X 0 0:=by simpa using c
      refine⟨_,Zs (v:=0) A rfl (by k_ne) A H.f_loadU64 (x_loadU64_n L) (x_loadU64_b L) (x_loadU64_x L) .u64 (x_loadU64_f L) A c.cellSt,λ_=>⟨120,?_⟩,λS=>absurd A S⟩;clear c;walk_nrm;refine(?_:GL _ _ _ _ _ _ _) _ x
      rotate_left
      obtain⟨o,O⟩:∃o:VB,(g:VB)*KK=o:=⟨_,A⟩;have a3:o/4294967296=(g:VB):=by rw[<-O];simp only[KK];omega
      have a4:(g:VB)%4294967296=g:=by omega
      have a5:bits .and .u64 o 2147483648=0:=by rw[<-O];have:=st_flag g 0 (by omega) (by omega);simpa[KK]using this
      have a6:bits .and .u64 o 2147483647=0:=by rw[<-O];have:=st_waiters g 0 (by omega) (by omega);simpa[KK]using this
      have a7:decide ((g:VB)=0)=Vz:=by first|(simp;done)|(simp;omega)
      have a8:((g:VB)==0)=Vz:=by first|(simp;done)|(simp;omega)
      have a9:(o+1)%18446744073709551616=o+1:=by rw[<-O];simp only[KK];omega
      have b0:(g:VB)≠0:=by omega
      have b1:((g:VB)+2147483648)%4294967296-2147483648=g:=by omega
      rw[O]at c;refine⟨_,Zs (v:=o) A rfl (by k_ne) A H.f_loadU64 (x_loadU64_n L) (x_loadU64_b L) (x_loadU64_x L) .u64 (x_loadU64_f L) A c.cellSt,λZ=>absurd Z (by omega),λ_=>⟨120,?_⟩⟩;clear c;walk_nrm
      refine(?_:GL _ _ _ _ _ _ _) _ x)))
end
end Go.SimW
namespace Go.Sim
open Go.Conc Go.Proofs Go.RowKit
open Go.ConcN (PermW PermW.app PermW.of fork_knows WgLive RelBy sumTo)
open Go.ConcR (KK wgBlock WgAt stA smA rd wr mk DC0)
variable{v:Vx}{c:VE Vx}{i:E}
abbrev Ren:=E->E->Prop
def Ren.le(d e:Ren):Prop:=∀a b,d a b->e a b
theorem Ren.le_refl(a:Ren):a.le a:=λ_ _ b=>b
theorem Ren.le_trans{a b c:Ren}(f:a.le b)(g:b.le c):a.le c:=λd e h=>g d e (f d e h)
def bC(d:Ren)(a b:VT):Prop:=d a.block b.block/\a.off=b.off/\a.spot=b.spot
theorem bC.mono{e f:Ren}(g:e.le f){a b:VT}(d:bC e a b):bC f a b:=⟨g _ _ d.1,d.2⟩
theorem bC.add{g:Ren}{a b:VT}(k:bC g a b)(f:E):bC g (a.add f) (b.add f):=by
 obtain⟨d,e,h⟩:=k;unfold Addr.add;split
 .exact⟨d,e,h⟩
 exact⟨d,by simp[e],A⟩
def bN:Vx->Prop
 |VW (C _)|VG (C _) _ _|.map (C _)|.chan (C _)|.func (.func _) _ _|.func (.yield _) _ _|.int .u8 _=>True
 |_=>False
structure Set where
 fn:Wc->VI
 fr:Wc->VI
 code:Code->VI
 bi:Builtin->VE VJ->VI
 cj:VI
inductive ue(a:Set)(d:Ren):Fn->Fn->Prop
 |func (b:Wc) (g:a.fn b=J):ue a d (.func b) (.func b)
 |yield {e f:E} (g:d e f):ue a d (.yield e) (.yield f)
inductive an(b:Set)(a:Ren):Vx->Vx->Prop
 |bU {v:Vx} (g:bN v):an b a (.tuple #[]) v
 |bool (p:VI):an b a (.bool p) (.bool p)
 |int (s:IntKind) (f:VB):an b a (.int s f) (.int s f)
 |string (u:VX):an b a (.string u) (.string u)
 |cH:an b a (VW I) (VW I)
 |ptr {h k:VT} (g:bC a h k):an b a (VW (C h)) (VW (C k))
 |aP (f c:E):an b a (VG I f c) (VG I f c)
 |slice {h k:VT} (g:bC a h k) (f c:E):an b a (VG (C h) f c) (VG (C k) f c)
 |fq:an b a (.map I) (.map I)
 |map {l m:E} (g:a l m):an b a (.map (C l)) (.map (C m))
 |eh:an b a (.chan I) (.chan I)
 |chan {l m:E} (g:a l m):an b a (.chan (C l)) (.chan (C m))
 |func {fn q:Fn} {n o c c':VE Vx} (g:ue b a fn q) (y:n.size=o.size) (r:c.size=c'.size)
   (z:∀(i:E)(d e:Vx),n[i]?=C d->o[i]?=C e->an b a d e)
   (t:∀(i:E)(d e:Vx),c[i]?=C d->c'[i]?=C e->an b a d e):an b a (.func fn n c) (.func q o c')
 |nilFunc:an b a .nilFunc .nilFunc
 |iface (w:VJ) {v x:Vx} (g:an b a v x):an b a (.iface w v) (.iface w x)
 |nilIface:an b a .nilIface .nilIface
 |agg {c c':VE Vx} (r:c.size=c'.size) (t:∀(i:E)(d e:Vx),c[i]?=C d->c'[i]?=C e->an b a d e):an b a (.agg c) (.agg c')
 |tuple {c c':VE Vx} (r:c.size=c'.size) (t:∀(i:E)(d e:Vx),c[i]?=C d->c'[i]?=C e->an b a d e):an b a (.tuple c) (.tuple c')
def jO(a:VS):Prop:=∀d b,a.underlying d≠C (.float b)/\a.underlying d≠C (.complex b)
def ax(e:Set)(f:Ren)(c a:VE Vx):Prop:=c.size=a.size/\∀(i:E)(b d:Vx),c[i]?=C b->a[i]?=C d->an e f b d
theorem ue.mono{d:Set}{f g:Ren}(b:f.le g){a e:Fn}(k:ue d f a e):ue d g a e:=by
 cases k with
 |func a b=>exact .func a b
 |yield h=>exact .yield (b _ _ h)
theorem an.mono{g:Set}{k l:Ren}(b:k.le l){h:Vx}(a:an g k v h):an g l v h:=by
 induction a with
 |bU b=>exact .bU b
 |bool m=>exact .bool m
 |int r f=>exact .int r f
 |string s=>exact .string s
 |cH=>exact .cH
 |ptr a=>exact .ptr (a.mono b)
 |aP f c=>exact .aP f c
 |slice a f c=>exact .slice (a.mono b) f c
 |fq=>exact .fq
 |map a=>exact .map (b _ _ a)
 |eh=>exact .eh
 |chan a=>exact .chan (b _ _ a)
 |func n o d _ _ q p=>exact .func (n.mono b) o d q p
 |nilFunc=>exact .nilFunc
 |iface t _ e=>exact .iface t e
 |nilIface=>exact .nilIface
 |agg d _ e=>exact .agg d e
 |tuple d _ e=>exact .tuple d e
theorem ax.mono{a:Set}{e f:Ren}(g:e.le f){b:VE Vx}(d:ax a e c b):ax a f c b:=
 ⟨d.1,λi l m h k=>(d.2 i l m h k).mono g⟩
inductive kx(a:Set)(b:Ren):Target->Target->Prop
 |fn {g h:Fn} {c f:VE Vx} (k:ue a b g h) (p:ax a b c f):kx a b (.fn g c) (.fn h f)
 |nil:kx a b .nil .nil
 |builtin (d:Builtin) (e:VE VJ) (o:VJ) (l:VE VI) (k:a.bi d e=J):kx a b (.builtin d e o l) (.builtin d e o l)
 |collected {m n:E} (k:b m n):kx a b (.collected m) (.collected n)
def ra(a:Set)(e:Ren)(b d:Deferred):Prop:=kx a e b.target d.target/\ax a e b.args d.args
inductive aZ{d e:Type}(b:d->e->Prop):VD d->VD e->Prop
 |nil:aZ b [] []
 |cons {a:d} {a':e} {f:VD d} {g:VD e} (h:b a a') (k:aZ b f g):aZ b (a::f) (a'::g)
theorem aZ.mono{h k:Type}{b a:h->k->Prop}(l:∀d e,b d e->a d e){f:VD h}{g:VD k}(n:aZ b f g):aZ a f g:=by
 induction n with
 |nil=>exact .nil
 |cons o _ m=>exact .cons (l _ _ o) m
theorem aZ.append{g h:Type}{a:g->h->Prop}{b e:VD g}{d f:VD h}(l:aZ a b d)(m:aZ a e f):aZ a (b++e) (d++f):=by
 induction l with
 |nil=>exact m
 |cons n _ k=>exact .cons n k
theorem aZ.length{d e:Type}{f:d->e->Prop}{a:VD d}{b:VD e}(h:aZ f a b):a.length=b.length:=by
 induction h with
 |nil=>rfl
 |cons _ _ g=>simp[g]
theorem aZ.get{d l:Type}{e:d->l->Prop}{g:VD d}{h:VD l}(p:aZ e g h){f:d}(a:g[i]?=C f):∃b,h[i]?=C b/\e f b:=by
 induction p generalizing i with
 |nil=>simp at a
 |cons x _ o=>
  cases i with
  |zero=>simp at a;subst a;exact⟨_,by simp,x⟩
  |succ i=>simp at a;obtain⟨b,m,n⟩:=o a;exact⟨b,by simpa using m,n⟩
theorem kx.mono{e:Set}{g h:Ren}(a:g.le h){b f:Target}(d:kx e g b f):kx e h b f:=by
 cases d with
 |fn m l=>exact .fn (m.mono a) (l.mono a)
 |nil=>exact .nil
 |builtin k o b n a=>exact .builtin k o b n a
 |collected d=>exact .collected (a _ _ d)
theorem ra.mono{a:Set}{g h:Ren}(e:g.le h){b d:Deferred}(f:ra a g b d):ra a h b d:=⟨f.1.mono e,f.2.mono e⟩
def iT(d:Set)(e:Ren)(a b:Wb):Prop:=an d e a.key b.key/\an d e a.val b.val/\a.born=b.born
def cL:Code->VI
 |.seq a b=>cL a&&cL b
 |.cond _ a b=>cL a&&cL b
 |.block _ a|.loop a|.scope a=>cL a
 |.rangeFunc _ _ a b=>cL a&&cL b
 |.region _ e _=>e.toList.all λd=>match d.op with|.defer _=>Vz|_=>J
 |_=>J
def yw(d:Set)(e:Ren)(a b:Loop):Prop:=
 a.state=b.state/\a.pending=b.pending/\a.fn=b.fn/\ax d e a.tmps b.tmps/\a.params=b.params/\a.assign=b.assign/\a.body=b.body/\e a.defers b.defers/\
  d.code a.assign=J/\d.code a.body=J/\(∀c,a.pending=C c->d.code c=J/\cL c=J)/\d.fr a.fn=J/\cL a.assign=J/\cL a.body=J
def kJ(a b:E×E):Prop:=b.1=b.2\/(a.1≠a.2/\a.1<=b.1/\b.2<=a.2)
theorem kJ.refl(a:E×E):kJ a a:=by
 unfold kJ;by_cases b:a.1=a.2
 .exact VA b
 exact VC ⟨b,Wl _,Wl _⟩
def aT(c:VE Vx):Prop:=∃(a:E)(b:VB),c[a]?=C (.int .u8 b)
inductive gK(b:Set)(a:Ren):Obj->Obj->Prop
 |cells {c o:VE Vx} (D:VJ) {s t:E×E} (e:ax b a c o) (P:kJ s t):gK b a (.cells c D s) (.cells o D t)
 |map {q r:VE Wb} (u:E) (e:aZ (iT b a) q.toList r.toList):gK b a (.map q u) (.map r u)
 |view {f g:VT} (e:bC a f g) (L:VJ):gK b a (.view f L) (.view g L)
 |number {f g:VT} (e:bC a f g) (d:VI):gK b a (.number f d) (.number g d)
 |stringIter (z:VX) (y:E):gK b a (.stringIter z y) (.stringIter z y)
 |oU (k:E) (seen:VE E) (l:E):gK b a (.mapIter I k seen l) (.mapIter I k seen l)
 |mapIter {w x:E} (e:a w x) (k:E) (seen:VE E) (l:E):gK b a (.mapIter (C w) k seen l) (.mapIter (C x) k seen l)
 |loop {d h:Loop} (e:yw b a d h):gK b a (.loop d) (.loop h)
 |chan {m n:VE Vx} (p:E) (cl:VI) (N O:E) (H:VI) (e:ax b a m n):gK b a (.chan p m cl N O H) (.chan p n cl N O H)
 |lx:gK b a (.deferred I) (.deferred I)
 |deferred {d h:VD Deferred} (e:aZ (ra b a) d h):gK b a (.deferred (C d)) (.deferred (C h))
theorem iT.mono{b:Set}{g h:Ren}(f:g.le h){d e:Wb}(a:iT b g d e):iT b h d e:=⟨a.1.mono f,a.2.1.mono f,a.2.2⟩
theorem gK.mono{h:Set}{m n:Ren}(b:m.le n){k l:Obj}(a:gK h m k l):gK h n k l:=by
 cases a with
 |cells u a q=>exact .cells u (a.mono b) q
 |map r a=>exact .map r (a.mono λ_ _ g=>g.mono b)
 |view a f=>exact .view (a.mono b) f
 |number a f=>exact .number (a.mono b) f
 |stringIter t s=>exact .stringIter t s
 |oU d e c=>exact .oU d e c
 |mapIter a d e c=>exact .mapIter (b _ _ a) d e c
 |loop a=>exact .loop ⟨a.1,a.2.1,a.2.2.1,a.2.2.2.1.mono b,a.2.2.2.2.1,a.2.2.2.2.2.1,a.2.2.2.2.2.2.1,b _ _ a.2.2.2.2.2.2.2.1,a.2.2.2.2.2.2.2.2⟩
 |chan d e c o p a=>exact .chan d e c o p (a.mono b)
 |lx=>exact .lx
 |deferred a=>exact .deferred (a.mono λ_ _ g=>g.mono b)
structure aU(m:Set)(d:Ren)(l e:K):Prop where
 inj:∀a f b g,d a b->d f g->(a=f↔b=g)
 obj:∀a b,d a b->∃h k,l.heap[a]?=C h/\e.heap[b]?=C k/\gK m d h k
 os:l.os=e.os
variable{f:Set}{h:Ren}{b:VS}{w:K}{q:K}{U:K}{e:VE Vx}{d:Vx}{w':K}
def zx(f:Set):Mark->VI
 |.extern a=>f.fn a
 |.noRoom=>J
 |_=>Vz
def ed(f:Set)(h:Ren):Loc->Loc->Prop
 |.cell b,.cell c=>bC h b c
 |.obj e,.obj g=>h e g
 |.mark a,.mark d=>a=d/\zx f a=J
 |.output,.output=>True
 |_,_=>False
def lP(f:Set)(h:Ren)(a b:Wa):Prop:=ed f h a.loc b.loc/\a.write=b.write/\a.sync=b.sync
theorem ed.mono{l:Ren}(k:h.le l){c g:Loc}(a:ed f h c g):ed f l c g:=by
 cases c<;>cases g<;>simp only[ed]at a⊢
 .exact a.mono k
 .exact k _ _ a
 exact a
theorem lP.mono{k:Ren}(l:h.le k){a c:Wa}(g:lP f h a c):lP f k a c:=⟨g.1.mono l,g.2⟩
def lg(f:Set)(h:Ren):Halt->Halt->Prop
 |.panic v,.panic a=>an f h v a
 |.goexit,.goexit=>True
 |_,_=>False
def Halt.lost:Halt->VI
 |.stuck _=>J
 |.unsupported (.initOrder _)=>Vz
 |.unsupported _=>J
 |_=>Vz
inductive gd{i:Type}:VR i->Prop
 |lost {c:Halt} (p:Halt.lost c=J):gd (.halt c)
 |shape {o:E} {a:VL (VJ×E)->VR i} (c:∀g,gd (a g)):gd (.shape o a)
 |frozen {k:VT} {a:VI->VR i} (c:∀g,gd (a g)):gd (.frozen k a)
 |mark {l:Mark} {a:VR i} (c:gd a):gd (.mark l a)
 |program {a:VS->VR i} (c:∀b,gd (a b)):gd (.program a)
theorem gd.bind{i r:Type}{b:VR i}(d:gd b)(c:i->VR r):gd (b >>= c):=by
 induction d with
 |lost e=>exact .lost e
 |shape _ a=>exact .shape a
 |frozen _ a=>exact .frozen a
 |mark _ a=>exact .mark a
 |program _ a=>exact .program a
theorem gd.run{i:Type}{f:VR i}(l:gd f)(b:VS):∀(w:K)(a:VE Wa),∃d h,(∀g,f.runT b {w with tape:=g} a=(.halt d {w with tape:=g},h))/\Halt.lost d=J:=by
 induction l with
 |lost n=>simp_all
 |@shape m e _ c=>intro w a;exact c (w.shape? m) w a
 |@frozen k e _ c=>intro w a;exact c (w.frozen? k) w a
 |mark _ c=>intro w a;exact c w _
 |@program e _ c=>intro w a;exact c b w a
theorem lz{i:Type}(c:VE i)(b:E)(d:i->i)(e:i)(f:c[b]?=C e)(a:E):(c.modify b d)[a]?=if a=b then C (d e)else c[a]?:=by grind
theorem bind_assoc'{i r k:Type}(e:VR i)(f:i->VR r)(g:r->VR k):(e.bind f).bind g=e.bind λb=>(f b).bind g:=by
 induction e with
 |pure=>rfl
 |halt=>rfl
 |store h b v c a|freeze b l c a|setObj n m c a|mark h c a=>simp only[Sem.bind,a]
 |_=>simp only[Sem.bind];congr 1;funext d;apply_assumption
def kg{i:Type}(c:Obj)(b:E->VR i):VR i:=.new c λa=>(markStringish ⟨a,0,I⟩).bind λ_=>b a
theorem qj{i r:Type}(c:Obj)(b:E->VR i)(a:i->VR r):(kg c b).bind a=kg c λd=>(b d).bind a:=by simp[kg,Sem.bind,bind_assoc']
theorem sU{i:Type}(b:VS)(e:VE Vx)(a:VJ)(d:E->VR i)(w:K)(c:VE Wa):
 (kg (.cells e a) d).runT b w c=(VR.new (.cells e a (e.size,e.size+1)) d).runT b w c:=by
 have h:(w.heap.push (Obj.cells e a))[w.heap.size]?=C (Obj.cells e a):=by simp
 have f:K.shape? {w with heap:=w.heap.push (Obj.cells e a)} w.heap.size=C (a,e.size):=by simp[K.shape?]
 have g:K.freeze {w with heap:=w.heap.push (Obj.cells e a)} {block:=w.heap.size,off:=e.size} 1={w with heap:=w.heap.push (.cells e a (e.size,e.size+1))}:=by
  unfold K.freeze;rw[VK (by simp)]
  congr 1
  grind
 unfold kg markStringish;simp only[VR.runT,shape,Bind.bind,Sem.bind,f,freeze,g]
def iu{i:Type}(a:VT)(b:E)(c:VX->VR i):VR i:=(loadBytes a .empty b).bind λd=>.freeze a b (c d)
theorem nV{i r:Type}(a:VT)(d:E)(c:VX->VR i)(b:i->VR r):(iu a d c).bind b=iu a d λe=>(c e).bind b:=by simp[iu,bind_assoc',Sem.bind]
def kD:Obj->VI
 |.map .. =>Vz
 |_=>J
inductive ae(b:VS)(f:Set){i n:Type}(m:Ren->i->n->Prop):Ren->VR i->VR n->Prop
 |pure {h:Ren} {p:i} {t:n} (l:m h p t):ae b f m h (.pure p) (.pure t)
 |load {h:Ren} (y:Mode) {p t:VT} {c:Vx->VR i} {a:Vx->VR n} (l:bC h p t) (g:∀v P,an f h v P->ae b f m h (c v) (a P)):ae b f m h (.load y p c) (.load y t a)
 |store {h:Ren} (y:Mode) {p t:VT} {v P:Vx} {c:VR i} {a:VR n} (l:bC h p t) (a3:an f h v P) (g:ae b f m h c a):ae b f m h (.store y p v c) (.store y t P a)
 |new {h:Ren} {z D:Obj} {c:E->VR i} {a:E->VR n} (l:gK f h z D) (g:∀u O H,h.le H->H u O->ae b f m H (c u) (a O)):ae b f m h (.new z c) (.new D a)
 |shape {h:Ren} {x o:E} {c:VL (VJ×E)->VR i} {a:VL (VJ×E)->VR n} (l:h x o) (g:∀k,ae b f m h (c k) (a k)):ae b f m h (.shape x c) (.shape o a)
 |nE {h:Ren} {e W:VE Vx} (Q:VJ) {c:E->VR i} {a:E->VR n} (l:ax f h e W) (g:∀u O H,h.le H->H u O->ae b f m H (c u) (a O)):ae b f m h (kg (.cells e Q) c) (kg (.cells W Q) a)
 |jI {h:Ren} {p t:VT} (u:E) {c:VX->VR i} {a:VX->VR n} (l:bC h p t) (g:∀d,ae b f m h (c d) (a d)):ae b f m h (iu p u c) (iu t u a)
 |frozen {h:Ren} {p t:VT} {c:VI->VR i} {a:VI->VR n} (l:bC h p t) (g:∀R T,(T=J->R=J)->ae b f m h (c R) (a T)):ae b f m h (.frozen p c) (.frozen t a)
 |getObj {h:Ren} {x o:E} {c:Obj->VR i} {a:Obj->VR n} (l:h x o) (g:∀z D,gK f h z D->ae b f m h (c z) (a D)):ae b f m h (.getObj x c) (.getObj o a)
 |setObj {h:Ren} {x o:E} {z D:Obj} {c:VR i} {a:VR n} (l:h x o) (a2:gK f h z D) (Y:f.cj=J\/kD z=J) (g:ae b f m h c a):ae b f m h (.setObj x z c) (.setObj o D a)
 |choose {h:Ren} (L:Question) {c:E->VR i} {a:E->VR n} (g:∀u,ae b f m h (c u) (a u)):ae b f m h (.choose L c) (.choose L a)
 |jV {h:Ren} (L:Question) {c:E->VR i} {N:VR n} (Z:L.forced=Vz) (Q:E) (g:ae b f m h (c (L.cut Q)) N):ae b f m h (.choose L c) N
 |rZ {h:Ren} {o:E} {k:VR i} {a:VL (VJ×E)->VR n} (g:∀d,ae b f m h k (a d)):ae b f m h k (.shape o a)
 |vP {h:Ren} {o:E} {k:VR n} {a:VL (VJ×E)->VR i} (g:∀d,ae b f m h (a d) k):ae b f m h (.shape o a) k
 |nt {h:Ren} {o:VT} {k:VR i} {a:VI->VR n} (g:∀d,ae b f m h k (a d)):ae b f m h k (.frozen o a)
 |pY {h:Ren} {o:VT} {k:VR n} {a:VI->VR i} (g:∀d,ae b f m h (a d) k):ae b f m h (.frozen o a) k
 |env {h:Ren} {c:SysRet->VR i} {a:SysRet->VR n} (g:∀x,ae b f m h (c x) (a x)):ae b f m h (.sys .env c) (.sys .env a)
 |program {h:Ren} {c:VS->VR i} {a:VS->VR n} (g:ae b f m h (c b) (a b)):ae b f m h (.program c) (.program a)
 |mark {h:Ren} (y:Mark) (Y:zx f y=J) {c:VR i} {a:VR n} (g:ae b f m h c a):ae b f m h (.mark y c) (.mark y a)
 |halt {h:Ren} {l X:Halt} (a0:lg f h l X):ae b f m h (.halt l) (.halt X)
 |lost {h:Ren} {l:Halt} {N:VR n} (a1:Halt.lost l=J):ae b f m h (.halt l) N
 |dead {h:Ren} {k:VR i} {N:VR n} (l:gd k):ae b f m h k N
section
variable{i n r s:Type}{m:Ren->i->n->Prop}{S:Ren->r->s->Prop}
theorem ae.bind{u:VR i}{T:VR n}(c:ae b f m h u T){Q:i->VR r}{R:n->VR s}
 (e:∀o p q,h.le o->m o p q->ae b f S o (Q p) (R q)):ae b f S h (u.bind Q) (T.bind R):=by
 induction c with
 |pure c=>exact e _ _ _ (Ren.le_refl _) c
 |load t c g a=>exact .load t c λv a3 H=>a v a3 H e
 |store t c H g a=>exact .store t c H (a e)
 |new c g a=>exact .new c λl L o k z=>a l L o k z λP p q x=>e P p q (Ren.le_trans k x)
 |shape c g a=>exact .shape c λu=>a u e
 |nE O c g a=>rw[qj,qj];exact .nE O c λl L o k z=>a l L o k z λP p q x=>e P p q (Ren.le_trans k x)
 |jI l c g a=>rw[nV,nV];exact .jI l c λd=>a d e
 |frozen c g a=>exact .frozen c λU W k=>a U W k e
 |getObj c g a=>exact .getObj c λa0 a1 D=>a a0 a1 D e
 |setObj c D y g a=>exact .setObj c D y (a e)
 |choose N g a=>exact .choose N λl=>a l e
 |jV N Z O g a=>exact .jV N Z O (a e)
 |rZ g a=>exact .rZ λd=>a d e
 |vP g a=>exact .vP λd=>a d e
 |nt g a=>exact .nt λd=>a d e
 |pY g a=>exact .pY λd=>a d e
 |env g a=>exact .env λa2=>a a2 e
 |program g a=>exact .program (a e)
 |mark t y g a=>exact .mark t y (a e)
 |halt X=>exact .halt X
 |lost Y=>exact .lost Y
 |dead c=>exact .dead (c.bind _)
theorem ae.mono{y:VR i}{z:VR n}{t:Ren->i->n->Prop}(c:ae b f m h y z)(O:∀h u x,m h u x->t h u x):ae b f t h y z:=by
 induction c with
 |pure c=>exact .pure (O _ _ _ c)
 |load k c g a=>exact .load k c a
 |store k c P g a=>exact .store k c P a
 |new c g a=>exact .new c a
 |shape c g a=>exact .shape c a
 |nE p c g a=>exact .nE p c a
 |jI Q c g a=>exact .jI Q c a
 |frozen c g a=>exact .frozen c a
 |getObj c g a=>exact .getObj c a
 |setObj c L l g a=>exact .setObj c L l a
 |choose o g a=>exact .choose o a
 |jV o N p g a=>exact .jV o N p a
 |rZ g a=>exact .rZ a
 |vP g a=>exact .vP a
 |nt g a=>exact .nt a
 |pY g a=>exact .pY a
 |env g a=>exact .env a
 |program g a=>exact .program a
 |mark k l g a=>exact .mark k l a
 |halt D=>exact .halt D
 |lost H=>exact .lost H
 |dead c=>exact .dead c
end
theorem IF{i n:Type}{m:i->n->Prop}{a:VD i}{b:VD n}(c:aZ m a b){d:i}(e:d∈a):∃f∈b,m d f:=by
 induction c with
 |nil=>cases e
 |cons g _ h=>grind
def CS(w:K)(a:E):Prop:=a<w.heap.size->∃e c b,w.heap[a]?=C (Obj.cells e c b)/\aT e
structure bD(f:Set)(h x:Ren)(w o q U:K)(p z:VD Wa):Prop where
 le:h.le x
 rel:aU f x o U
 la:aZ (lP f x) p z
 size:w.heap.size<=o.heap.size
 um:q.heap.size<=U.heap.size
 os:U.os=q.os
 out:U.output=q.output
 tape:U.tape=q.tape
 same:∀c,c<q.heap.size->(∀g∈z,g.write=J->g.loc≠.obj c/\∀a,g.loc=.cell a->a.block≠c)->
  U.heap[c]?=q.heap[c]?\/((∃a,h a c/\CS w a)/\∃e t k u,aT e/\q.heap[c]?=C (VH e t k)/\U.heap[c]?=C (VH e t u))
 wr:∀g∈p,g.write=J->∀a,g.loc=.cell a->a.block<w.heap.size->w.frozen? a=Vz
 fresh:∀a c,x a c->h a c\/(w.heap.size<=a/\q.heap.size<=c)
 iB:∀c,c<w.heap.size->(∀g∈p,g.write=J->g.loc≠.obj c/\∀a,g.loc=.cell a->a.block≠c)->
  o.heap[c]?=w.heap[c]?\/∃e t k u,w.heap[c]?=C (VH e t k)/\o.heap[c]?=C (VH e t u)
 nO:f.cj=Vz->∀c,(∃g∈p,g.write=J/\g.loc=.obj c)->∃D,o.heap[c]?=C D/\kD D=J
 pT:∀(c:E) e t k,w.heap[c]?=C (Obj.cells e t k)->∃y u,o.heap[c]?=C (Obj.cells y t u)/\y.size=e.size
 il:∀g∈p,g.write=J->∀a,g.loc=.cell a->∃e t k,o.heap[a.block]?=C (Obj.cells e t k)/\a.off<e.size
 qw:∀g∈p,g.write=J->∀c,g.loc=.obj c->∀e t k,w.heap[c]?≠C (Obj.cells e t k)
 jI:∀a,w.frozen? a=J->o.frozen? a=J
theorem bD.refl(a:aU f h w q):bD f h h w w q q [] [] where
 le:=Ren.le_refl _
 rel:=a
 la:=.nil
 size:=Wl _
 um:=Wl _
 os:=A
 out:=A
 tape:=A
 same:=λ_ _ _=>VA A
 wr:=by simp
 fresh:=λ_ _ a=>VA a
 iB:=λ_ _ _=>VA A
 nO:=by simp
 pT:=λc e k b a=>⟨e,b,a,A⟩
 il:=by simp
 qw:=by simp
 jI:=λ_ a=>a
theorem bD.trans{β₁ b5:Ren}{w₁ b4 a3:K}{Z a4 W a5:VD Wa}(l:bD f h β₁ w w₁ q U Z a4)(o:bD f β₁ b5 w₁ b4 U a3 W a5):
 bD f h b5 w b4 q a3 (Z++W) (a4++a5) where
 le:=Ren.le_trans l.le o.le
 rel:=o.rel
 la:=(l.la.mono λ_ _ d=>d.mono o.le).append o.la
 size:=Wu l.size o.size
 um:=Wu l.um o.um
 os:=o.os.trans l.os
 out:=o.out.trans l.out
 tape:=o.tape.trans l.tape
 same:=by
  intro g z R;have t:=l.same g z λk c=>R k (Yj _ c);have P:=o.same g (Ws z l.um) λk c=>R k (YU _ c)
  have T:(∃a,β₁ a g/\CS w₁ a)->∃a,h a g/\CS w a:=by
   rintro⟨a,p,c6⟩;rcases l.fresh a g p with T|⟨_,T⟩
   .refine⟨a,T,λO=>?_⟩;obtain⟨e,x,y,a9,a8⟩:=c6 (Ws O l.size)
    have c8:∀k∈Z,k.write=J->k.loc≠.obj a/\∀d,k.loc=.cell d->d.block≠a:=λk c u=>by
     obtain⟨L,Q,D,d1,_⟩:=IF l.la c;have b0:=R L (Yj _ Q) (by rw[<-d1];exact u);constructor
     .intro H;rw[H]at D;cases N:L.loc with
      |obj b2=>rw[N]at D;have:g=b2:=(l.rel.inj a a g b2 p D).1 A;exact b0.1 (by rw[N,this])
      |_=>rw[N]at D;exact D.elim
     intro d H c9;rw[H]at D;cases N:L.loc with
     |cell Y=>rw[N]at D;have b3:β₁ d.block Y.block:=D.1;rw[c9]at b3;have:g=Y.block:=(l.rel.inj a a g Y.block p b3).1 A;exact b0.2 Y N this.symm
     |_=>rw[N]at D;exact D.elim
    rcases l.iB a O c8 with d0|⟨d4,e0,b6,d5,q1,b1⟩
    .exact⟨e,x,y,by rw[<-d0];exact a9,a8⟩
    rw[a9]at b1;cases b1;exact⟨_,_,_,q1,a8⟩
   omega
  grind
 wr:=by
  intro k c u a p O;rcases WL.1 c with c|c
  .exact l.wr k c u a p O
  have:=o.wr k c u a p (Ws O l.size);cases c7:w.frozen? a with
  |false=>rfl
  |true=>rw[l.jI a c7]at this;cases this
 fresh:=by
  intro a g a1;rcases o.fresh a g a1 with t|⟨t,P⟩
  .exact l.fresh a g t
  exact VC ⟨Wu l.size t,Wu l.um P⟩
 jI:=λa p=>o.jI a (l.jI a p)
 iB:=by
  intro g z R;have t:=l.iB g z λk c=>R k (Yj _ c);have P:=o.iB g (Ws z l.size) λk c=>R k (YU _ c)
  grind
 pT:=by intro g e x y z;obtain⟨c1,a0,t,d2⟩:=l.pT g e x y z;obtain⟨c2,b7,P,d3⟩:=o.pT g c1 x a0 t;simp_all
 qw:=by
  intro k c u g H e x y z;rcases WL.1 c with c|c
  .exact l.qw k c u g H e x y z
  obtain⟨c1,a0,t,_⟩:=l.pT g e x y z;exact o.qw k c u g H c1 x a0 t
 il:=by
  intro k c u a p;rcases WL.1 c with c|c
  .obtain⟨e,x,y,t,d2⟩:=l.il k c u a p;obtain⟨c2,b7,P,d3⟩:=o.pT _ e x y t;simp_all
  exact o.il k c u a p
 nO:=by
  rintro a2 g⟨k,c,u,H⟩;rcases WL.1 c with c|c
  .obtain⟨d7,t,P⟩:=l.nO a2 g ⟨k,c,u,H⟩;by_cases a6:∃k∈W,k.write=J/\k.loc=.obj g
   .exact o.nO a2 g a6
   by_cases a7:∃k∈W,k.write=J/\∃a,k.loc=.cell a/\a.block=g
   .obtain⟨L,Q,X,a,p,rfl⟩:=a7;obtain⟨e,x,y,b8,_⟩:=o.il L Q X a p;exact⟨_,b8,A⟩
   have O:g<w₁.heap.size:=(Wh.1 t).1;rcases o.iB g O (λL Q X=>⟨λT=>a6 ⟨L,Q,X,T⟩,λa p a1=>a7 ⟨L,Q,X,a,p,a1⟩⟩)with b9|⟨e,x,y,b6,b9,c0⟩
   .simp_all
   exact⟨_,c0,A⟩
  exact o.nO a2 g ⟨k,c,u,H⟩
section
theorem aU.cell(t:aU f h w q){k l:VT}(c:bC h k l)(a:w.cell? k=C v):∃o,q.cell? l=C o/\an f h v o:=by
 obtain⟨O,P,x,y,D⟩:=t.obj _ _ c.1;unfold K.cell? at a⊢
 rw[x]at a;rw[y];cases D with
 |cells Q u H=>
  simp only at a⊢
  rw[<-c.2.2,<-c.2.1];split at a
  .cases a
  rename_i z;rw[VK z];obtain⟨N,L⟩:=u
  grind
 |_=>cases a
theorem aU.left(c:aU f h w q){a b:E}(d:h a b):a<w.heap.size:=by
 obtain⟨g,_,e,_⟩:=c.obj _ _ d
 grind
theorem aU.right(c:aU f h w q){b a:E}(d:h b a):a<q.heap.size:=by
 obtain⟨_,g,_,e,_⟩:=c.obj _ _ d
 grind
theorem aU.put(c:aU f h w q){l t:E}(P:h l t){o o':Obj}(Q:gK f h o o'){u:K}
 (D:∀a,u.heap[a]?=if a=l then C o else w.heap[a]?)(H:∀a,U.heap[a]?=if a=t then C o' else q.heap[a]?)(N:u.os=w.os)(L:U.os=q.os):aU f h u U where
 os:=by rw[N,L];exact c.os
 inj:=c.inj
 obj:=by
  intro p x y;have O:=c.inj p l x t y P;rw[D,H];by_cases z:p=l
  .simp_all
  rw[VK z,VK (λd=>z (O.2 d))];exact c.obj p x y
theorem xu{a:Vx}(c:an f h v a){bs:VD UInt8}(b:v.bytes?=C bs):a=v:=by cases c<;>first|rfl|cases b
theorem getElem?_set{i:Type}(c:VE i)(b:E)(d:i)(e:b<c.size)(a:E):(c.setIfInBounds b d)[a]?=if a=b then C d else c[a]?:=by grind
theorem wE{i r:Type}{a:i->VL r}{e:VE i}{c:r}(b:e.findSome? a=C c):∃d,a d=C c:=by
 rw[<-VE.findSome?_toList]at b;obtain⟨d,_,f⟩:=VD.exists_of_findSome?_eq_some b
 grind
theorem ib(f:jO b):∀(e:E)(d:VJ)(k:E){v:Vx},plainCell b e d k=C v->(∃l,v=.bool l)\/∃c i,v=.int c i
 |0,_,_,_,a=>by grind [plainCell]
 |e+1,d,k,v,a=>by
  unfold plainCell at a;cases h:b.underlying d with
  |none=>simp_all
  |some m=>
   rw[h]at a;cases m with
   |struct p=>
    obtain⟨o,g⟩:=wE a;split at g
    .exact ib f e _ _ g
    cases g
   |array i n=>
    dsimp only at a;split at a
    .cases a
    exact ib f e _ _ a
   |bool=>simp_all
   |int c=>grind
   |float c=>exact absurd h (f d c).1
   |complex c=>exact absurd h (f d c).2
   |_=>cases a
theorem mQ{b:Vx}{bs:VD UInt8}(g:(∃c,b=.bool c)\/∃d e,b=.int d e)(a:b.ofBytes bs=C v):an f h v v:=by
 rcases g with⟨c,rfl⟩|⟨d,e,rfl⟩
 .simp only[Vx.ofBytes]at a;split at a<;>first|(cases a;exact .bool _)|cases a
 simp only[Vx.ofBytes]at a;split at a<;>first|(cases a;exact .int _ _)|cases a
theorem sX{old b:Vx}{bs:VD UInt8}(c:an f h old b)(a:old.ofBytes bs=C v):an f h v v:=by cases c<;>first|exact mQ (VA ⟨_,rfl⟩) a|exact mQ (VC ⟨_,_,rfl⟩) a|cases a
theorem oh(b:VS){i:VE Vx}(l:ax f h e i)(a:VJ):∀(g d stop:E){o:VD (E×E×VD UInt8)},seenCells b e a g d stop=.ok o->seenCells b i a g d stop=.ok o
 |0,_,_,_,c=>by grind [seenCells]
 |g+1,d,stop,o,c=>by
  unfold seenCells at c⊢
  by_cases r:d>=stop
  .simp_all
  rw[VK r]at c⊢
  simp only at c⊢
  by_cases s:b.bytesOf a=0
  .simp_all
  simp only[s,Wy]at c⊢
  cases t:cellHolding b b.depth a (d%b.bytesOf a)with
  |none=>simp_all
  |some k=>
   simp only[t,Xp]at c⊢
   cases n:e[d/b.bytesOf a*b.cellsOf a+k.1]? with
   |none=>simp_all
   |some v=>
    simp only[n]at c;cases p:v.bytes? with
    |none=>simp_all
    |some bs=>
     cases bs with
     |nil=>simp_all
     |cons q bs=>
      simp only[p]at c;have u:=(Wh.1 n).1;have x:d/b.bytesOf a*b.cellsOf a+k.1<i.size:=by rw[<-l.1];exact u
      have z:=l.2 _ _ _ n (Wh.2 ⟨x,A⟩);have y:i[d/b.bytesOf a*b.cellsOf a+k.1]?=C v:=by grind [xu]
      simp only[y,p];cases m:seenCells b e a g (d/b.bytesOf a*b.bytesOf a+k.2+(q::bs).length) stop with
      |error H=>rw[m]at c;cases c
      |ok D=>rw[m]at c;rw[oh b l a g _ stop m];exact c
theorem ly{f i r:Type}{d:Except f i}{b:i->Except f r}{e:r}(c:(d >>= b)=.ok e):∃a,d=.ok a/\b a=.ok e:=by
 cases d with
 |error g=>cases c
 |ok a=>exact⟨a,A,c⟩
theorem Ce(W:aU f h w q)(O:jO b){d z:VT}(x:bC h d z)(m:VJ){c y:VT}(Z:c.off=y.off)(a0:c.spot=y.spot)(n:VI)
 {i:VJ}{p:E×E}{first:E}{l:Vx}{R:VD (E×E×VD UInt8)}(a:w.seen b d m c n=.ok (e,i,p,first,l,R)):
 ((∃S,l=.bool S)\/∃c a7,l=.int c a7)/\∃o r,q.seen b z m y n=.ok (o,i,r,first,l,R)/\ax f h e o/\kJ p r/\w.heap[d.block]?=C (VH e i p)/\q.heap[z.block]?=C (VH o i r):=by
 unfold K.seen at a⊢
 rw[<-Z,<-a0,<-x.2.2,<-x.2.1];by_cases Q:(c.spot.isSome||d.spot.isSome)=J
 .simp only[Q,Wv]at a;obtain⟨_,s,_⟩:=ly a;cases s
 simp only[Q]at a⊢
 cases k:plainCell b b.depth m c.off with
 |none=>simp only[k]at a;cases a
 |some a6=>
  simp only[k]at a⊢
  cases X:a6.bytes?.map (·.length)with
  |none=>simp_all
  |some size=>
   simp only[X]at a⊢
   cases L:byteOfCell b b.depth m c.off with
   |none=>simp only[L]at a;cases a
   |some U=>
    simp only[L]at a⊢
    obtain⟨b4,b5,a2,a3,a9⟩:=W.obj _ _ x.1;rw[a2]at a⊢
    rw[a3];cases a9 with
    |cells g t P=>
     rename_i b1 D b2 H;simp only at a⊢
     by_cases N:b.cellsOf g=0
     .simp only[N,Wv]at a;cases a
     simp only[N,Wy]at a⊢
     cases Y:byteOfCell b b.depth g (d.off%b.cellsOf g)with
     |none=>simp_all
     |some T=>
      simp only[Y]at a⊢
      obtain⟨a4,a1,a⟩:=ly a;rw[oh b t g _ _ _ a1];cases n with
      |false=>
       simp only[WC,Wy]at a⊢
       cases a;exact⟨ib O _ _ _ k,D,H,A,t,P,A,A⟩
      |true=>
       simp only[Wv]at a⊢
       cases a4 with
       |nil=>cases a
       |cons a8 a5=>
        obtain⟨b3,b0,bs⟩:=a8;cases a5 with
        |cons _ _=>cases a
        |nil=>
         simp only at a⊢
         by_cases u:(decide (b0≠d.off/b.cellsOf g*b.bytesOf g+T+U)||decide (bs.length≠size))=J
         .simp only[u,Wv]at a;obtain⟨_,s,_⟩:=ly a;cases s
         simp only[u]at a;cases a;refine⟨ib O _ _ _ k,D,H,?_,t,P,A,A⟩;simp only[WC,Wy,bind,Except.bind,u];rfl
    |_=>cases a
theorem aU.SN(u:aU f h w q)(Q:jO b){g i:VT}(p:bC h g i)(Z:w.cell? g=I)(a:VI):
 (∃x,(∀c,({w with tape:=c}:K).farLoad b g a=.error x)/\Halt.lost x=J)\/
 ∃v tl L,(∀c,({w with tape:=c}:K).farLoad b g a=.ok (v,tl))/\q.farLoad b i a=.ok (v,L)/\an f h v v/\aZ (bC h) tl L/\q.cell? i=I:=by
 obtain⟨a3,a4,S,a2,l⟩:=u.obj _ _ p.1;have N:∀c,({w with tape:=c}:K).farLoad b g a=w.farLoad b g a:=λc=>rfl;cases l with
 |view z o=>
  rename_i c H
  have O:w.farLoad b g a=(match w.viewLoad b c o g a with|.ok l=>.ok l|.error m=>.error (.unsupported (.unsafePointer m))):=by grind [World.farLoad]
  have P:q.farLoad b i a=(match q.viewLoad b H o i a with|.ok l=>.ok l|.error m=>.error (.unsupported (.unsafePointer m))):=by grind [World.farLoad]
  cases s:w.viewLoad b c o g a with
  |error m=>exact VA ⟨.unsupported (.unsafePointer m),λc=>by simp_all,A⟩
  |ok d=>
   obtain⟨v,tl⟩:=d;right;unfold K.viewLoad at s;obtain⟨⟨e,W,X,first,D,n⟩,r,t⟩:=ly s;obtain⟨R,U,Y,y,a0,a1,_,_⟩:=Ce u Q z o p.2.1 p.2.2 a r;simp only at t;cases k:D.ofBytes (n.flatMap λd=>(d.2.2.drop (first-d.2.1)).take (first+(D.bytes?.map (·.length)).getD 0-max first d.2.1))with
   |none=>simp_all
   |some a7=>
    simp only[k]at t;cases t;refine⟨v,_,n.map (λd=>{block:=H.block,off:=d.1}),λa6=>by rw[N,O];unfold K.viewLoad;rw[r];simp only[bind,Except.bind,k];rfl,?_,mQ R k,?_,?_⟩
    .rw[P];unfold K.viewLoad;rw[y];simp only[bind,Except.bind,k];rfl
    .clear k r y s
     induction n with
     |nil=>exact .nil
     |cons d n T=>exact .cons ⟨z.1,A,A⟩ T
    simp_all [K.cell?]
 |_=>left;unfold K.farLoad K.noCell;simp only[S];exact⟨_,λ_=>rfl,A⟩
def pC(b:E×E)(first:E)(bytes:VD UInt8)(e:VE Vx)(a:E×E×VD UInt8):Except String (VE Vx):=do
 if a.2.1<first||a.2.1+a.2.2.length>first+bytes.length then MonadExcept.throw "memory seen as another type: a part of a cell written"
 if b.1<=a.1&&a.1<b.2 then MonadExcept.throw "a write to bytes that a string shares"
 let C old:=e[a.1]?|MonadExcept.throw "memory seen as another type: no such cell"
 let C new:=old.ofBytes ((bytes.drop (a.2.1-first)).take a.2.2.length)|MonadExcept.throw "memory seen as another type: a bool from a byte other than 0 or 1"
 pure (e.setIfInBounds a.1 new)
theorem zB{old b:Vx}(c:an f h old b){bs:VD UInt8}(a:old.ofBytes bs=C d):b.ofBytes bs=C d:=by cases c<;>first|exact a|cases a
theorem Fz{i m:E×E}(y:kJ i m)(first:E)(bytes:VD UInt8){g c1:VE Vx}(l:ax f h e g){a:E×E×VD UInt8}(b:pC i first bytes e a=.ok c1):
 ∃t,pC m first bytes g a=.ok t/\ax f h c1 t/\¬(i.1<=a.1/\a.1<i.2)/\a.1<e.size/\c1.size=e.size:=by
 unfold pC at b⊢
 by_cases u:(decide (a.2.1<first)||decide (a.2.1+a.2.2.length>first+bytes.length))=J
 .simp only[u,Wv]at b;obtain⟨_,o,_⟩:=ly b;cases o
 simp only[u]at b⊢
 by_cases p:(decide (i.1<=a.1)&&decide (a.1<i.2))=J
 .simp only[p,Wv]at b;simp only[WC,Wy]at b;obtain⟨_,o,_⟩:=ly b;cases o
 have L:¬(decide (m.1<=a.1)&&decide (a.1<m.2))=J:=by
  simp only[WH,Xs]at p⊢
  rcases y with y|⟨_,d,D⟩<;>omega
 simp only[p]at b;cases q:e[a.1]? with
 |none=>simp_all
 |some old=>
  simp only[q]at b;have s:=(Wh.1 q).1;have O:a.1<g.size:=by rw[<-l.1];exact s
  have x:g[a.1]?=C g[a.1]:=by simp
  have z:=l.2 _ _ _ q x;cases r:old.ofBytes ((bytes.drop (a.2.1-first)).take a.2.2.length)with
  |none=>simp_all
  |some d=>
   simp only[r]at b;simp only[WC,Wy]at b;cases b;refine⟨g.setIfInBounds a.1 d,?_,?_,by simp_all,s,by simp⟩
   .simp only[L,x,zB z r,WC,Wy];rfl
   refine⟨by simp[l.1],λj D N k c=>?_⟩;rw[WK]at k c;rw[<-l.1]at c;split at k
   .rename_i n;rw[VV n]at c
    first
    |(split at k
      .rename_i H;rw[VV H]at c;cases k;cases c;exact sX z r
      cases k)
    |(simp only[s,Wv]at c;grind [sX])
   rename_i n;rw[VK n]at c;exact l.2 _ D N k c
theorem yp{g n:E×E}(o:kJ g n)(first:E)(bytes:VD UInt8):∀(b:VD (E×E×VD UInt8)){e a c1:VE Vx},ax f h e a->b.foldlM (pC g first bytes) e=.ok c1->
 ∃c,b.foldlM (pC n first bytes) a=.ok c/\ax f h c1 c/\(∀l∈b,¬(g.1<=l.1/\l.1<g.2)/\l.1<e.size)/\(b=[]->c=a/\c1=e)/\c1.size=e.size
 |[],e,a,c1,m,i=>by cases i;exact⟨a,A,m,by simp,λ_=>⟨A,A⟩,A⟩
 |l::b,e,a,c1,m,i=>by
  rw[ZE]at i;obtain⟨c2,t,u⟩:=ly i;obtain⟨L,r,z,x,y,q⟩:=Fz o first bytes m t
  obtain⟨c,s,D,p,_,H⟩:=yp o first bytes b z u
  refine⟨c,by rw[ZE,r];exact s,D,?_,by simp,H.trans q⟩;intro d k;rcases Wo.1 k with rfl|k
  .exact⟨x,y⟩
  exact⟨(p d k).1,q▸(p d k).2⟩
theorem Ae(b:VS)(w:K)(a:VT)(c:VJ)(f:VT)(v:Vx)(d:VI):w.viewStore b a c f v d=(do
 if !tight b b.depth c then MonadExcept.throw "memory seen as another type: a store through a type with padding"
 let (e,g,frozen,first,i,cells)<-w.seen b a c f d
 let C bytes:=v.bytes?|MonadExcept.throw "memory seen as another type: a value that is no plain data"
 if C bytes.length≠i.bytes?.map (·.length)then MonadExcept.throw "memory seen as another type: a value of another size"
 let e<-cells.foldlM (pC frozen first bytes) e
 pure ({w with heap:=w.heap.setIfInBounds a.block (.cells e g frozen)},cells.map λ(h,_,_)=>{block:=a.block,off:=h})):=A
theorem aU.Uc(l:aU f h w q)(a7:jO b){k s:VT}(N:bC h k s){H:Vx}(b5:an f h v H)(d0:w.cell? k=I)(g:VI):
 (∃Z,(∀i,({w with tape:=i}:K).farStore b k v g=.error Z)/\Halt.lost Z=J)\/
 ∃T U tl a5,(∀i,({w with tape:=i}:K).farStore b k v g=.ok ({w with tape:=i,heap:=T},tl))/\q.farStore b s H g=.ok (U,a5)/\q.cell? s=I/\
  ∀y,bD f h h w {w with heap:=T} q U (tl.map (⟨.cell ·,J,y⟩)) (a5.map (⟨.cell ·,J,y⟩)):=by
 obtain⟨d6,d7,b4,d2,x⟩:=l.obj _ _ N.1;have d3:=l;cases x with
 |view u p=>
  rename_i i S
  have c:∀a,({w with tape:=a}:K).farStore b k v g=(match({w with tape:=a}:K).viewStore b i p k v g with|.ok x=>.ok x|.error r=>.error (.unsupported (.unsafePointer r))):=by grind [World.farStore]
  have n:q.farStore b s H g=(match q.viewStore b S p s H g with|.ok x=>.ok x|.error r=>.error (.unsupported (.unsafePointer r))):=by grind [World.farStore]
  have c0:∀a,({w with tape:=a}:K).seen b i p k g=w.seen b i p k g:=λa=>rfl;simp only[Ae]at c n;simp only[c0]at c;by_cases a2:(!tight b b.depth p)=J
  .left;refine⟨.unsupported (.unsafePointer "memory seen as another type: a store through a type with padding"),λa=>?_,A⟩;rw[c];simp only[a2,Wv];rfl
  simp only[a2,WC,Wy]at c n;cases D:w.seen b i p k g with
  |error r=>left;refine⟨.unsupported (.unsafePointer r),λa=>?_,A⟩;rw[c,D];rfl
  |ok d=>
   obtain⟨e,t,a6,first,b8,m⟩:=d;obtain⟨d1,c6,c9,a1,b2,X,a9,b0⟩:=Ce l a7 u p N.2.1 N.2.2 g D;simp only[D,bind,Except.bind]at c;simp only[a1,bind,Except.bind]at n;cases R:v.bytes? with
   |none=>left;refine⟨.unsupported (.unsafePointer "memory seen as another type: a value that is no plain data"),λa=>by rw[c,R];rfl,A⟩
   |some bytes=>
    have b6:=xu b5 R;subst b6;simp only[R]at c n;by_cases a0:C bytes.length≠b8.bytes?.map (·.length)
    .left;refine⟨.unsupported (.unsafePointer "memory seen as another type: a value of another size"),λa=>by rw[c,VV a0];rfl,A⟩
    simp only[a0,Wy]at c n;cases O:m.foldlM (pC a6 first bytes) e with
    |error r=>left;refine⟨.unsupported (.unsafePointer r),λa=>?_,A⟩;simp_all
    |ok c1=>
     obtain⟨c7,Y,b1,b3,Q,d4⟩:=yp X first bytes m b2 O
     right;have a3:=l.left u.1;have a4:=l.right u.1;refine⟨_,_,_,_,λa=>by rw[c];simp only[O];rfl,by rw[n];simp only[Y];rfl,by simp_all [K.cell?],λy=>?_⟩;refine⟨Ren.le_refl _,l.put u.1 (.cells t b1 X) (getElem?_set _ _ _ a3) (getElem?_set _ _ _ a4) A rfl,?_,by simp,by simp,A,A,A,?_,?_,λ_ _ l=>VA l,?_,?_,?_,?_,?_,?_⟩
     .clear c n D a1 O Y b3 Q
      induction m with
      |nil=>exact .nil
      |cons d m b7=>exact .cons ⟨⟨u.1,A,A⟩,A,A⟩ b7
     .intro L a8 P;left;simp only;rw[getElem?_set _ _ _ a4];by_cases o:L=S.block
      .rw[VV o,o,b0];cases m with
       |nil=>rw[(Q A).1]
       |cons d m=>exact absurd o (λt=>(P ⟨.cell {block:=S.block,off:=d.1},J,y⟩ (by simp) A).2 _ A t.symm)
      simp_all
     .intro c8 W _ a z _;simp only[Zq,WY]at W;obtain⟨d,d5,rfl⟩:=W;simp only[Function.comp]at z;cases z;unfold K.frozen?
      grind
     .intro L a8 P;left;simp only;rw[getElem?_set _ _ _ a3];by_cases o:L=i.block
      .rw[VV o,o,a9];cases m with
       |nil=>rw[(Q A).2]
       |cons d m=>exact absurd o (λt=>(P ⟨.cell {block:=i.block,off:=d.1},J,y⟩ (by simp) A).2 _ A t.symm)
      simp_all
     .grind
     .grind
     .grind
     .grind
     intro a z;unfold K.frozen? at z⊢
     grind
 |_=>left;unfold K.farStore K.noCell;simp only[b4];exact⟨_,λ_=>rfl,A⟩
theorem aU.frozen(g:aU f h w q){b c:VT}(d:bC h b c)(a:q.frozen? c=J):w.frozen? b=J:=by
 obtain⟨p,r,i,k,l⟩:=g.obj _ _ d.1;unfold K.frozen? at a⊢
 rw[i];rw[k]at a;cases l with
 |cells s o e=>
  simp only[WH,Xs]at a⊢
  rw[<-d.2.1]at a;rcases e with e|⟨_,m,n⟩<;>omega
 |_=>cases a
theorem aU.shape(c:aU f h w q){a b:E}(k:h a b):w.shape? a=q.shape? b:=by
 obtain⟨m,n,g,i,d⟩:=c.obj _ _ k;unfold K.shape?;rw[g,i];cases d with
 |cells o e l=>simp[e.1]
 |_=>rfl
end
section
theorem CF(t:aU f h w q){a g:VT}(o:bC h a g){N:Vx}(a1:an f h v N)(k:w.cell? a=C d)(b4:w.frozen? a=Vz)(T:VI)(a6:E->Question->E):
 bD f h h w (({w with tape:=a6}:K).setCell a v) q (q.setCell g N) [⟨.cell a,J,T⟩] [⟨.cell g,J,T⟩]:=by
 obtain⟨a2,a3,z,b2,a5⟩:=t.obj _ _ o.1;have H:a.spot.isSome=Vz:=by grind [World.cell?]
 have b3:g.spot.isSome=Vz:=by rw[<-o.2.2];exact H
 cases a5 with
 |cells L P a0=>
  rename_i e W X Y;refine⟨Ren.le_refl _,?_,.cons ⟨o,A,A⟩ .nil,by simp[K.setCell],by simp[K.setCell],A,A,A,?_,?_,λ_ _ t=>VA t,?_,?_,?_,?_,?_,?_⟩
  .refine t.put o.1 (o:=.cells (e.setIfInBounds a.off v) L X) (o':=.cells (W.setIfInBounds g.off N) L Y) (.cells L ⟨by simp[P.1],?_⟩ a0) ?_ ?_ A rfl
   .intro R d a7 l c;rw[WK]at l c;rw[<-o.2.1]at c;split at l
    .rename_i x;subst x;simp only[Wv]at l c;split at l<;>simp at l;split at c<;>simp at c;subst l;subst c;exact a1
    rename_i x;rw[VK x]at c;exact P.2 R d a7 l c
   .intro R;simp only[K.setCell];rw[lz _ _ _ _ z];simp[H]
   simp_all [K.setCell,lz]
  .intro p O y;left;have Z:p≠g.block:=λu=>(y _ (Xi.2 A) A).2 g A u.symm;simp only[K.setCell]
   grind
  .simp_all
  .intro p O y;left;have Z:p≠a.block:=λu=>(y _ (Xi.2 A) A).2 a A u.symm;simp only[K.setCell]
   grind
  .simp
  .intro p a8 b5 b0 O;simp only[K.setCell]
   grind
  .intro a9 Q _ a4 D;simp only[Xi]at Q;subst Q;cases D;have b1:a.off<e.size:=by
    unfold K.cell? at k;rw[z]at k;simp only[H,WC,Wy]at k;exact(Wh.1 k).1
   simp_all [K.setCell,lz]
  .simp
  intro a4 D;unfold K.frozen? at D⊢
  simp only[K.setCell]
  grind
 |_=>unfold K.cell? at k;rw[z]at k;cases k
theorem CE(a:aU f h w q){k l:Obj}(o:gK f h k l)(r:E->Question->E):
 bD f h (λb c=>h b c\/(b=w.heap.size/\c=q.heap.size)) w {w with tape:=r,heap:=w.heap.push k} q {q with heap:=q.heap.push l} [] []:=by
 have i:h.le (λb c=>h b c\/(b=w.heap.size/\c=q.heap.size)):=λ_ _ a=>VA a;refine⟨i,⟨?_,?_,a.os⟩,.nil,by simp,by simp,A,A,A,?_,by simp,?_,?_,by simp,?_,by simp,by simp,?_⟩
 .rintro b t c u(e|⟨rfl,rfl⟩)(g|⟨rfl,rfl⟩)
  .exact a.inj _ _ _ _ e g
  .have:=a.left e;have:=a.right e;omega
  .have:=a.left g;have:=a.right g;omega
  simp
 .rintro b c(e|⟨rfl,rfl⟩)
  .obtain⟨d,s,m,x,p⟩:=a.obj b c e;have:=a.left e;have:=a.right e;refine⟨d,s,?_,?_,p.mono i⟩
   .simp only;rw[Xv,VK (by omega)];exact m
   grind
  exact⟨k,l,by simp,by simp,o.mono i⟩
 .grind
 .grind
 .grind
 .grind
 intro b n;unfold K.frozen? at n⊢
 grind
theorem CC(a:aU f h w q){g c:VT}(p:bC h g c)(d:E)(k:E->Question->E)
 (x:d≠0->(∀e k n,q.heap[c.block]?=C (VH e k n)->aT e)/\∀e k n,w.heap[g.block]?=C (VH e k n)->aT e):
 bD f h h w (({w with tape:=k}:K).freeze g d) q (q.freeze c d) [] []:=by
 by_cases b:d=0
 .subst b;have:=bD.refl a;refine⟨this.le,⟨a.inj,a.obj,a.os⟩,this.la,Wl _,Wl _,A,A,A,λ_ _ _=>VA A,by simp,this.fresh,λ_ _ _=>VA A,by simp,λt e k n a=>⟨e,n,a,A⟩,by simp,by simp,λ_ a=>a⟩
 obtain⟨o,S,D,H,s⟩:=a.obj _ _ p.1
 have N:∀i,(({w with tape:=k}:K).freeze g d).heap[i]?=if i=g.block then C ((λ
  |.cells e r (m,l)=>.cells e r (if m==l then(g.off,g.off+d)else(min m g.off,max l (g.off+d)))
  |o=>o:Obj->Obj) o)else w.heap[i]?:=by
  intro i;simp only[K.freeze,VK b];grind
 have u:∀i,(q.freeze c d).heap[i]?=if i=c.block then C ((λ
  |.cells e r (m,l)=>.cells e r (if m==l then(c.off,c.off+d)else(min m c.off,max l (c.off+d)))
  |o=>o:Obj->Obj) S)else q.heap[i]?:=by
  intro i;simp only[K.freeze,VK b];grind
 refine⟨Ren.le_refl _,a.put p.1 ?_ N u (by simp[K.freeze,VK b]) (by simp[K.freeze,VK b]),.nil,by simp[K.freeze,VK b],by simp[K.freeze,VK b],by simp[K.freeze,VK b],by simp[K.freeze,VK b],by simp[K.freeze,VK b],?_,by simp,λ_ _ a=>VA a,?_,by simp,?_,by simp,by simp,?_⟩
 .have T:=s;cases s with
  |cells L y z=>
   rename_i e U O P;obtain⟨m,l⟩:=O;obtain⟨Y,X⟩:=P;refine .cells L y ?_;unfold kJ at z⊢
   rw[p.2.1]
   grind
  |_=>exact T
 .intro t W _;rw[u];by_cases Q:t=c.block
  .subst Q;rw[VV A,H];cases s with
   |cells L y z=>exact VC ⟨⟨_,p.1,λ_=>⟨_,_,_,D,(x b).2 _ _ _ D⟩⟩,_,_,_,_,(x b).1 _ _ _ H,A,A⟩
   |_=>exact VA A
  simp_all
 .grind
 .grind
 intro Z R;unfold K.frozen? at R⊢
 grind
theorem Ns(a:aU f h w q){c g:E}(b:h c g){i l d t:Obj}(o:gK f h i l)(x:f.cj=J\/kD i=J)(y:w.heap[c]?=C d)(z:q.heap[g]?=C t)(u:∀e k n,d≠.cells e k n)(m:VI)(k:E->Question->E):
 bD f h h w {w with tape:=k,heap:=w.heap.setIfInBounds c i} q {q with heap:=q.heap.setIfInBounds g l} [⟨.obj c,J,m⟩] [⟨.obj g,J,m⟩]:=by
 have r:=a.left b;have s:=a.right b;refine⟨Ren.le_refl _,a.put b o (getElem?_set _ _ _ r) (getElem?_set _ _ _ s) A rfl,.cons ⟨b,A,A⟩ .nil,by simp,by simp,A,A,A,?_,?_,λ_ _ a=>VA a,?_,?_,?_,?_,?_,?_⟩
 .simp_all
 .simp
 .simp_all
 .grind
 .grind
 .simp
 .simp_all
 intro D p;unfold K.frozen? at p⊢
 grind
end
def Out{i n:Type}(f:Set)(m:Ren->i->n->Prop)(h:Ren)(w q:K)(k l:VE Wa)(d:Result i×VE Wa)(r:Result n×VE Wa):Prop:=
 match d with
 |(.ok s e,c)=>∃b g U new a,r=(.ok g U,l++VD.toArray a)/\c=k++VD.toArray new/\m b s g/\bD f h b w e q U new a
 |(.halt o e,c)=>Halt.lost o=J\/∃b p U new a,r=(.halt p U,l++VD.toArray a)/\c=k++VD.toArray new/\lg f b o p/\bD f h b w e q U new a
theorem Out.step{i n:Type}{f:Set}{m:Ren->i->n->Prop}{h O:Ren}{w L q U:K}{z D:VE Wa}{a c:VD Wa}{d:Result i×VE Wa}{N:Result n×VE Wa}
 (H:bD f h O w L q U a c)(g:Out f m O L U (z++a.toArray) (D++c.toArray) d N):Out f m h w q z D d N:=by
 obtain⟨P,Q⟩:=d;cases P with
 |ok R w₂=>obtain⟨y,l,k,new,u,o,p,t,x⟩:=g;exact⟨y,l,k,a++new,c++u,by rw[o];simp,by rw[p];simp,t,H.trans x⟩
 |halt T w₂=>
  rcases g with g|⟨y,l,k,new,u,o,p,t,x⟩
  .exact VA g
  exact VC ⟨y,l,k,a++new,c++u,by rw[o];simp,by rw[p];simp,t,H.trans x⟩
theorem aU.OK{a:K}(b:aU f h w q)(c:w'.heap=w.heap)(d:a.heap=q.heap)(e:w'.os=w.os)(g:a.os=q.os):aU f h w' a:=
 ⟨b.inj,by rw[c,d];exact b.obj,by rw[e,g];exact b.os⟩
theorem bD.of_heap{W':K}(a:aU f h w q)(g:w'.heap=w.heap)(k:W'.heap=q.heap)(c:W'.os=q.os)(p:W'.output=q.output)(t:W'.tape=q.tape)(o:w'.os=w.os:=by rfl):bD f h h w w' q W' [] [] where
 le:=Ren.le_refl _
 rel:=a.OK g k o c
 la:=.nil
 size:=by simp_all
 um:=by simp_all
 os:=c
 out:=p
 tape:=t
 same:=λ_ _ _=>by simp_all
 wr:=by simp
 fresh:=λ_ _ a=>VA a
 iB:=λ_ _ _=>by simp_all
 nO:=by simp
 pT:=λx e H l a=>⟨e,l,by simp_all,A⟩
 il:=by simp
 qw:=by simp
 jI:=λu a=>by simp_all [K.frozen?]
theorem fR{i:Type}(b:VE i)(a:i):b.push a=b++[a].toArray:=by simp
theorem FK{i:Type}(a:VE i):a++([]:VD i).toArray=a:=by simp
def dr{i:Type}:Result i×VE Wa->E
 |(.ok _ w,_)=>w.drawn
 |(.halt _ w,_)=>w.drawn
def iK{i:Type}(b:E->Question->E):Result i×VE Wa->Result i×VE Wa
 |(.ok c w,a)=>(.ok c {w with tape:=b},a)
 |(.halt d w,a)=>(.halt d {w with tape:=b},a)
def Goes{i:Type}(b:VS)(h:VR i)(w:K)(f:VE Wa)(g:E->Question->E)(d:Result i×VE Wa):Prop:=
 w.drawn<=dr d/\∀c:E->Question->E,(∀a e,w.drawn<=a->a<dr d->c a e=g a e)->h.runT b {w with tape:=c} f=iK c d
theorem nZ(O:jO b):∀(i:E){c l:VT}(x:bC h c l){w q:K}(p:aU f h w q)(acc:VX)(k n:VE Wa),
 (∃u N,Halt.lost u=J/\∀a,(loadBytes c acc i).runT b {w with tape:=a} k=(.halt u {w with tape:=a},N))\/
 ∃t new m,(∀a,(loadBytes c acc i).runT b {w with tape:=a} k=(.ok t {w with tape:=a},k++VD.toArray new))/\(loadBytes l acc i).runT b q n=(.ok t q,n++VD.toArray m)/\
  bD f h h w w q q new m/\(i≠0->(∀e a g,q.heap[l.block]?=C (VH e a g)->aT e)/\∀e a g,w.heap[c.block]?=C (VH e a g)->aT e)
 |0,c,l,x,w,q,p,acc,k,n=>VC ⟨acc,[],[],λa=>by rfl,by rfl,bD.refl p,λH=>absurd A H⟩
 |i+1,c,l,x,w,q,p,acc,k,n=>by
  have Q:∀(v y:Vx)(new m:VD Wa),an f h v y->bD f h h w w q q new m->
   (∀a,(loadBytes c acc (i+1)).runT b {w with tape:=a} k=(match v with|.int .u8 r=>loadBytes (c.add 1) (acc.push r.toNat.toUInt8) i|_=>stuck "a byte variable that holds no byte").runT b {w with tape:=a} (k++new.toArray))->
   ((loadBytes l acc (i+1)).runT b q n=(match y with|.int .u8 r=>loadBytes (l.add 1) (acc.push r.toNat.toUInt8) i|_=>stuck "a byte variable that holds no byte").runT b q (n++m.toArray))->
   ((∀e a g,q.heap[l.block]?=C (VH e a g)->e[l.off]?=C y)/\∀e a g,w.heap[c.block]?=C (VH e a g)->e[c.off]?=C v)->
   ((∃u N,Halt.lost u=J/\∀a,(loadBytes c acc (i+1)).runT b {w with tape:=a} k=(.halt u {w with tape:=a},N))\/
   ∃t new m,(∀a,(loadBytes c acc (i+1)).runT b {w with tape:=a} k=(.ok t {w with tape:=a},k++VD.toArray new))/\(loadBytes l acc (i+1)).runT b q n=(.ok t q,n++VD.toArray m)/\
    bD f h h w w q q new m/\(i+1≠0->(∀e a g,q.heap[l.block]?=C (VH e a g)->aT e)/\∀e a g,w.heap[c.block]?=C (VH e a g)->aT e)):=by
   intro v y new m L a4 s z o;by_cases S:∃r,v=.int .u8 r
   .obtain⟨r,rfl⟩:=S;cases L;rcases nZ O i (x.add 1) p (acc.push r.toNat.toUInt8) (k++new.toArray) (n++m.toArray)with⟨u,N,P,D⟩|⟨t,a0,a1,D,R,a2,_⟩
    .simp_all
    refine VC ⟨t,new++a0,m++a1,λa=>?_,?_,a4.trans a2,λ_=>⟨λe a g H=>⟨_,_,o.1 e a g H⟩,λe a g H=>⟨_,_,o.2 e a g H⟩⟩⟩
    .rw[s];refine(D a).trans ?_;simp
    simp_all
   refine VA ⟨.stuck "a byte variable that holds no byte",k++new.toArray,A,λa=>?_⟩;simp_all
  cases o:w.cell? c with
  |none=>
   rcases p.SN O x o Vz with⟨W,z,P⟩|⟨v,tl,a3,z,D,L,X,T⟩
   .refine VA ⟨W,k,P,λa=>?_⟩;have s:({w with tape:=a}:K).cell? c=I:=o;unfold loadBytes;show VR.runT b _ _ _=_;simp only[load,Bind.bind,Sem.bind,VR.runT,s]
    grind
   refine Q v v (tl.map (⟨.cell ·,Vz,Vz⟩)) (a3.map (⟨.cell ·,Vz,Vz⟩)) L ?_ ?_ ?_ ?_
   .have:=bD.refl p;refine{this with la:= ?_,wr:=by simp,same:=λ_ _ _=>VA A,iB:=λ_ _ _=>VA A,nO:=by simp,il:=by simp,qw:=by simp};clear z D
    induction X with
    |nil=>exact .nil
    |cons d _ Z=>exact .cons ⟨d,A,A⟩ Z
   .intro a;have s:({w with tape:=a}:K).cell? c=I:=o;rw[loadBytes];simp only[load,Bind.bind,Sem.bind,VR.runT,s];rw[show(Mode.plain==Mode.atomic)=Vz from A,z a,<-XB];rfl
   .rw[loadBytes];simp only[load,Bind.bind,Sem.bind,VR.runT,T];rw[show(Mode.plain==Mode.atomic)=Vz from A,D,<-XB];rfl
   refine⟨λe a g U=>?_,λe a g U=>?_⟩
   .grind [World.farLoad]
   exfalso;have R:=z w.tape
   grind [World.farLoad]
  |some v=>
   obtain⟨y,Y,L⟩:=p.cell x o;refine Q v y [⟨.cell c,Vz,Vz⟩] [⟨.cell l,Vz,Vz⟩] L ?_ ?_ ?_ ?_
   .have:=bD.refl p;exact{this with la:=.cons ⟨x,A,A⟩ .nil,wr:=by simp,same:=λ_ _ _=>VA A,iB:=λ_ _ _=>VA A,nO:=by simp,il:=by simp,qw:=by simp}
   .intro a;have s:({w with tape:=a}:K).cell? c=C v:=o;rw[loadBytes];simp only[load,Bind.bind,Sem.bind,VR.runT,s];rw[show(Mode.plain==Mode.atomic)=Vz from A,fR]
    first|rfl|(split<;>rfl)
   .rw[loadBytes];simp only[load,Bind.bind,Sem.bind,VR.runT,Y];rw[show(Mode.plain==Mode.atomic)=Vz from A,fR]
    first|rfl|(split<;>rfl)
   grind [World.cell?]
theorem sound(d0:jO b){i n:Type}{m:Ren->i->n->Prop}{a7:VR i}{d5:VR n}(a0:ae b f m h a7 d5):
 ∀(w q:K)(c l:VE Wa),aU f h w q->
  ∃o d,Goes b a7 w c o d/\Out f m h w q c l d (d5.runT b q l):=by
 induction a0 with
 |pure a2=>intro w q c l g;exact⟨λ_ _=>0,(.ok _ w,c),⟨Wl _,λa _=>rfl⟩,⟨_,_,q,[],[],by rfl,by simp,a2,bD.of_heap g A rfl rfl rfl rfl⟩⟩
 |load t T P r=>
  rename_i h s D H x;intro w q c l g;cases W:w.cell? s with
  |none=>
   rcases g.SN d0 T W (t==.atomic)with⟨b0,Q,X⟩|⟨v,tl,c0,Q,c8,b1,e4,d7⟩
   .refine⟨λ_ _=>0,(.halt b0 w,c),⟨Wl _,λa _=>?_⟩,VA X⟩;have z:({w with tape:=a}:K).cell? s=I:=W
    grind [Sem.runT,iK]
   obtain⟨o,d,k,u⟩:=r v v b1 w q (c++tl.toArray.map (⟨.cell ·,Vz,t==.atomic⟩)) (l++c0.toArray.map (⟨.cell ·,Vz,t==.atomic⟩)) g;refine⟨o,d,⟨k.1,λa p=>?_⟩,?_⟩
   .have z:({w with tape:=a}:K).cell? s=I:=W;simp only[VR.runT,z,Q a];exact k.2 a p
   simp only[VR.runT,d7,c8]
   have S:bD f h h w w q q (tl.map (⟨.cell ·,Vz,t==.atomic⟩)) (c0.map (⟨.cell ·,Vz,t==.atomic⟩)):=by
    have:=bD.refl g;refine{this with la:= ?_,wr:=by simp,same:=λ_ _ _=>VA A,iB:=λ_ _ _=>VA A,nO:=by simp,il:=by simp,qw:=by simp};clear Q c8 u k
    induction e4 with
    |nil=>exact .nil
    |cons d _ r=>exact .cons ⟨d,A,A⟩ r
   grind [Out.step]
  |some v=>
   obtain⟨a1,e5,b1⟩:=g.cell T W;obtain⟨o,d,k,u⟩:=r v a1 b1 w q (c.push ⟨.cell s,Vz,t==.atomic⟩) (l.push ⟨.cell D,Vz,t==.atomic⟩) g;refine⟨o,d,⟨k.1,λa p=>?_⟩,?_⟩
   .have z:({w with tape:=a}:K).cell? s=C v:=W;simp only[VR.runT,z];exact k.2 a p
   simp only[VR.runT,e5];have S:bD f h h w w q q [⟨.cell s,Vz,t==.atomic⟩] [⟨.cell D,Vz,t==.atomic⟩]:=by have:=bD.refl g;exact{this with la:=.cons ⟨T,A,A⟩ .nil,wr:=by simp,same:=λ_ _ _=>VA A,iB:=λ_ _ _=>VA A,nO:=by simp,il:=by simp,qw:=by simp}
   grind [Out.step,fR]
 |store t T b1 P r=>
  rename_i h s D v a1 H x;intro w q c l g
  have e8:(∀e,v≠.agg e)->(∀e,v≠.tuple e)->(∀e,a1≠.agg e)->(∀e,a1≠.tuple e)->
   ∃o d,Goes b (.store t s v H) w c o d/\Out f m h w q c l d ((VR.store t D a1 x).runT b q l):=by
   intro f4 f6 f5 f7
   have d8:∀(w:K)(c:VE Wa),(VR.store t s v H).runT b w c=match w.cell? s with
    |some _=>if w.frozen? s then(.halt (.unsupported (.unsafePointer "a write to bytes that a string shares")) w,c)else H.runT b (w.setCell s v) (c.push ⟨.cell s,J,t==.atomic⟩)
    |none=>match w.farStore b s v (t==.atomic)with
     |.ok (w,d6)=>H.runT b w (c++d6.toArray.map (⟨.cell ·,J,t==.atomic⟩))
     |.error a0=>(.halt a0 w,c):=by
    intro w c;cases v<;>first|rfl|simp_all|simp_all
   have f0:∀(w:K)(c:VE Wa),(VR.store t D a1 x).runT b w c=match w.cell? D with
    |some _=>if w.frozen? D then(.halt (.unsupported (.unsafePointer "a write to bytes that a string shares")) w,c)else x.runT b (w.setCell D a1) (c.push ⟨.cell D,J,t==.atomic⟩)
    |none=>match w.farStore b D a1 (t==.atomic)with
     |.ok (w,d6)=>x.runT b w (c++d6.toArray.map (⟨.cell ·,J,t==.atomic⟩))
     |.error a0=>(.halt a0 w,c):=by
    intro w c;cases a1<;>first|rfl|simp_all|simp_all
   cases W:w.cell? s with
   |none=>
    rcases g.Uc d0 T b1 W (t==.atomic)with⟨b0,Q,X⟩|⟨c7,U,tl,c0,Q,c8,d7,S⟩
    .refine⟨λ_ _=>0,(.halt b0 w,c),⟨Wl _,λa _=>?_⟩,VA X⟩;have z:({w with tape:=a}:K).cell? s=I:=W;simp_all [iK]
    have N:=S (t==.atomic);obtain⟨o,d,k,u⟩:=r {w with heap:=c7} U (c++tl.toArray.map (⟨.cell ·,J,t==.atomic⟩)) (l++c0.toArray.map (⟨.cell ·,J,t==.atomic⟩)) N.rel;refine⟨o,d,⟨k.1,λa p=>?_⟩,?_⟩
    .have z:({w with tape:=a}:K).cell? s=I:=W;rw[d8];simp only[z,Q a];exact k.2 a p
    grind [Out.step]
   |some d=>
    obtain⟨f2,b9,_⟩:=g.cell T W;cases b7:w.frozen? s with
    |true=>refine⟨λ_ _=>0,(.halt (.unsupported (.unsafePointer "a write to bytes that a string shares")) w,c),⟨Wl _,λa _=>?_⟩,VA A⟩;have z:({w with tape:=a}:K).cell? s=C d:=W;have Q:({w with tape:=a}:K).frozen? s=J:=b7;simp_all [iK]
    |false=>
     have e7:q.frozen? D=Vz:=by
      cases b6:q.frozen? D with
      |false=>rfl
      |true=>rw[g.frozen T b6]at b7;cases b7
     have N:=CF g T b1 W b7 (t==.atomic) w.tape;have N:bD f h h w (w.setCell s v) q (q.setCell D a1) [⟨.cell s,J,t==.atomic⟩] [⟨.cell D,J,t==.atomic⟩]:=N;obtain⟨o,b8,a6,u⟩:=r (w.setCell s v) (q.setCell D a1) (c.push ⟨.cell s,J,t==.atomic⟩) (l.push ⟨.cell D,J,t==.atomic⟩) N.rel;have hd:(w.setCell s v).drawn=w.drawn:=by unfold K.setCell;split<;>rfl
     have d2:∀a,({w with tape:=a}:K).setCell s v={w.setCell s v with tape:=a}:=by intro a;unfold K.setCell;split<;>rfl
     refine⟨o,b8,⟨by rw[<-hd];exact a6.1,λa p=>?_⟩,?_⟩
     .have z:({w with tape:=a}:K).cell? s=C d:=W;have Q:({w with tape:=a}:K).frozen? s=Vz:=b7;rw[d8];simp only[z,Q,WC,Wy];rw[d2];exact a6.2 a (λR Z a4=>p R Z (by rw[<-hd];exact a4))
     rw[f0];simp only[b9,e7,WC,Wy]
     grind [Out.step,fR]
  cases b1 with
  |bU a0=>exact⟨λ_ _=>0,(.halt (.stuck "store: not the value of one cell") w,c),⟨Wl _,λa _=>rfl⟩,VA A⟩
  |agg a0 e0=>exact⟨λ_ _=>0,(.halt (.stuck "store: not the value of one cell") w,c),⟨Wl _,λa _=>rfl⟩,VA A⟩
  |tuple a0 e0=>exact⟨λ_ _=>0,(.halt (.stuck "store: not the value of one cell") w,c),⟨Wl _,λa _=>rfl⟩,VA A⟩
  |_=>exact e8 (by simp) (by simp) (by simp) (by simp)
 |new a5 P r=>
  rename_i h L Y H x;intro w q c l g;have N:=CE g a5 w.tape;obtain⟨o,d,k,u⟩:=r w.heap.size q.heap.size _ N.le (VC ⟨A,A⟩) {w with heap:=w.heap.push L} {q with heap:=q.heap.push Y} c l N.rel;refine⟨o,d,⟨k.1,λa p=>k.2 a p⟩,?_⟩
  grind [Sem.runT,Out.step]
 |shape a2 P r=>rename_i h y O H x;intro w q c l g;obtain⟨o,d,k,u⟩:=r (w.shape? y) w q c l g;refine⟨o,d,⟨k.1,λa p=>k.2 a p⟩,?_⟩;simp only[VR.runT];rw[<-g.shape a2];exact u
 |nE S b4 P r=>
  rename_i h e b3 H x;intro w q c l g
  have a5:gK f h (.cells e S (e.size,e.size+1)) (.cells b3 S (b3.size,b3.size+1)):=.cells S b4 (by
   have:=b4.1
   unfold kJ;simp only;omega)
  have N:=CE g a5 w.tape;obtain⟨o,d,k,u⟩:=r w.heap.size q.heap.size _ N.le (VC ⟨A,A⟩) {w with heap:=w.heap.push (.cells e S (e.size,e.size+1))} {q with heap:=q.heap.push (.cells b3 S (b3.size,b3.size+1))} c l N.rel;refine⟨o,d,⟨k.1,λa p=>by rw[sU];exact k.2 a p⟩,?_⟩
  grind [sU,Sem.runT,Out.step]
 |jI b2 T P r=>
  rename_i h s D H x;intro w q c l g;rcases nZ d0 b2 T g .empty c l with⟨c7,c6,X,z⟩|⟨a7,new,e9,z,Q,f1,e1⟩
  .refine⟨λ_ _=>0,(.halt c7 w,c6),⟨Wl _,λa _=>?_⟩,VA X⟩;unfold iu;rw[Go.Sem.runT_bind',z];rfl
  have N:=CC g T b2 w.tape e1;obtain⟨o,d,k,u⟩:=r a7 (w.freeze s b2) (q.freeze D b2) (c++new.toArray) (l++e9.toArray) N.rel;have hd:(w.freeze s b2).drawn=w.drawn:=by grind [World.freeze]
  have d2:∀a,({w with tape:=a}:K).freeze s b2={w.freeze s b2 with tape:=a}:=by grind [World.freeze]
  refine⟨o,d,⟨by rw[<-hd];exact k.1,λa p=>?_⟩,?_⟩
  .unfold iu;rw[Go.Sem.runT_bind',z];simp only[VR.runT];rw[d2];exact k.2 a (λR Z a4=>p R Z (by omega))
  unfold iu;rw[Go.Sem.runT_bind',Q];simp only[VR.runT];refine Out.step f1 (Out.step N ?_);rw[FK,FK];exact u
 |frozen T P r=>rename_i h s D H x;intro w q c l g;obtain⟨o,d,k,u⟩:=r (w.frozen? s) (q.frozen? D) (λa0=>g.frozen T a0) w q c l g;refine⟨o,d,⟨k.1,λa p=>k.2 a p⟩,?_⟩;simp_all [VR.runT]
 |getObj a2 P r=>
  rename_i h y O H x;intro w q c l g;obtain⟨L,Y,a5,e2,d⟩:=g.obj _ _ a2;by_cases a3:∃e a a9,L=.cells e a a9
  .obtain⟨e,a,a9,rfl⟩:=a3;refine⟨λ_ _=>0,(.halt (.stuck "getObj: a row of cells") w,c),⟨Wl _,λa _=>?_⟩,VA A⟩
   grind [Sem.runT,iK]
  obtain⟨o,b8,a6,u⟩:=r L Y d w q (c.push ⟨.obj y,Vz,L.isChan⟩) (l.push ⟨.obj O,Vz,Y.isChan⟩) g;have d1:L.isChan=Y.isChan:=by cases d<;>rfl
  have z:∀a,(VR.getObj y H).runT b {w with tape:=a} c=(H L).runT b {w with tape:=a} (c.push ⟨.obj y,Vz,L.isChan⟩):=by intro a;have z:({w with tape:=a}:K).heap[y]?=_:=a5;simp only[VR.runT,z];cases L<;>first|rfl|exact absurd ⟨_,_,_,rfl⟩ a3
  have Q:(VR.getObj O x).runT b q l=(x Y).runT b q (l.push ⟨.obj O,Vz,Y.isChan⟩):=by simp only[VR.runT,e2];cases d<;>first|rfl|exact absurd ⟨_,_,_,rfl⟩ a3
  refine⟨o,b8,⟨a6.1,λa p=>by rw[z];exact a6.2 a p⟩,?_⟩;rw[Q];have S:bD f h h w w q q [⟨.obj y,Vz,L.isChan⟩] [⟨.obj O,Vz,Y.isChan⟩]:=by have:=bD.refl g;exact{this with la:=.cons ⟨a2,A,d1⟩ .nil,wr:=by simp,same:=λ_ _ _=>VA A,iB:=λ_ _ _=>VA A,nO:=by simp,il:=by simp,qw:=by simp}
  grind [Out.step,fR]
 |setObj a2 a5 d3 P r=>
  rename_i h y O L Y H x;intro w q c l g;obtain⟨d,f2,k,b9,f3⟩:=g.obj _ _ a2;by_cases a3:∃e a a9,d=.cells e a a9
  .obtain⟨e,a,a9,rfl⟩:=a3;refine⟨λ_ _=>0,(.halt (.stuck "setObj: a row of cells") w,c),⟨Wl _,λa _=>?_⟩,VA A⟩;simp_all [VR.runT,iK]
  have d1:L.isChan=Y.isChan:=by cases a5<;>rfl
  have N:=Ns g a2 a5 d3 k b9 (λe a a9 a8=>a3 ⟨e,a,a9,a8⟩) L.isChan w.tape;obtain⟨o,b8,a6,u⟩:=r {w with heap:=w.heap.setIfInBounds y L} {q with heap:=q.heap.setIfInBounds O Y} (c.push ⟨.obj y,J,L.isChan⟩) (l.push ⟨.obj O,J,L.isChan⟩) N.rel
  have z:∀a,(VR.setObj y L H).runT b {w with tape:=a} c=H.runT b {w with tape:=a,heap:=w.heap.setIfInBounds y L} (c.push ⟨.obj y,J,L.isChan⟩):=by intro a;have z:({w with tape:=a}:K).heap[y]?=_:=k;simp only[VR.runT,z];cases d<;>first|rfl|exact absurd ⟨_,_,_,rfl⟩ a3
  have Q:(VR.setObj O Y x).runT b q l=x.runT b {q with heap:=q.heap.setIfInBounds O Y} (l.push ⟨.obj O,J,L.isChan⟩):=by simp only[VR.runT,b9,<-d1];cases f3<;>first|rfl|exact absurd ⟨_,_,_,rfl⟩ a3
  refine⟨o,b8,⟨a6.1,λa p=>by rw[z];exact a6.2 a p⟩,?_⟩
  grind [Out.step,fR]
 |choose Z P r=>
  rename_i h H x;intro w q c l g;cases b6:Z.forced with
  |true=>
   obtain⟨o,d,k,u⟩:=r 0 w q c l g;refine⟨o,d,⟨k.1,λa p=>?_⟩,?_⟩
   .simp only[VR.runT,b6,Wv];exact k.2 a p
   simp_all [VR.runT]
  |false=>
   have N:=bD.of_heap (w':={w with drawn:=w.drawn+1}) (W':={q with drawn:=q.drawn+1}) g A rfl rfl rfl rfl;obtain⟨o,d,k,u⟩:=r (Z.cut (q.tape q.drawn Z)) {w with drawn:=w.drawn+1} {q with drawn:=q.drawn+1} c l N.rel;have e6:w.drawn+1<=dr d:=k.1;refine⟨λR y=>if R=w.drawn then q.tape q.drawn y else o R y,d,⟨by omega,λa p=>?_⟩,?_⟩
   .have b4:a w.drawn Z=q.tape q.drawn Z:=by have:=p w.drawn Z (Wl _) (by omega);simpa using this
    have:=k.2 a (λR y a4 X=>by
     have c9:=p R y (Wu (YC _) a4) X;have d4:R≠w.drawn:=by intro a8;subst a8;exact absurd a4 (by simp)
     simpa only[VK d4]using c9)
    simp only[VR.runT,b6,WC,Wy,b4];exact this
   simp only[VR.runT,b6,WC,Wy]
   grind [Out.step]
 |jV Z e3 S P r=>
  rename_i h H d5;intro w q c l g;have N:=bD.of_heap (w':={w with drawn:=w.drawn+1}) (W':=q) g A rfl rfl rfl rfl;obtain⟨o,d,k,u⟩:=r {w with drawn:=w.drawn+1} q c l N.rel;have e6:w.drawn+1<=dr d:=k.1;refine⟨λR y=>if R=w.drawn then S else o R y,d,⟨by omega,λa p=>?_⟩,?_⟩
  .have b4:a w.drawn Z=S:=by have:=p w.drawn Z (Wl _) (by omega);simpa using this
   have:=k.2 a (λR y a4 X=>by
    have c9:=p R y (Wu (YC _) a4) X;have d4:R≠w.drawn:=by intro a8;subst a8;exact absurd a4 (by simp)
    simpa only[VK d4]using c9)
   simp only[VR.runT,e3,WC,Wy,b4];exact this
  grind [Out.step]
 |rZ P r=>rename_i h O a7 x;intro w q c l g;obtain⟨o,d,k,u⟩:=r (q.shape? O) w q c l g;exact⟨o,d,⟨k.1,λa p=>k.2 a p⟩,u⟩
 |vP P r=>rename_i h O a7 x;intro w q c l g;obtain⟨o,d,k,u⟩:=r (w.shape? O) w q c l g;exact⟨o,d,⟨k.1,λa p=>k.2 a p⟩,u⟩
 |nt P r=>rename_i h O a7 x;intro w q c l g;obtain⟨o,d,k,u⟩:=r (q.frozen? O) w q c l g;exact⟨o,d,⟨k.1,λa p=>k.2 a p⟩,u⟩
 |pY P r=>rename_i h O a7 x;intro w q c l g;obtain⟨o,d,k,u⟩:=r (w.frozen? O) w q c l g;exact⟨o,d,⟨k.1,λa p=>k.2 a p⟩,u⟩
 |env P r=>
  rename_i h H x;intro w q c l g;obtain⟨o,d,k,u⟩:=r (.strings w.os.env) w q (c.push ⟨.output,J,Vz⟩) (l.push ⟨.output,J,Vz⟩) g;refine⟨o,d,⟨k.1,λa p=>k.2 a p⟩,?_⟩;have Q:q.sys .env=(.strings w.os.env,q):=by rw[g.os];rfl
  have S:bD f h h w w q q [⟨.output,J,Vz⟩] [⟨.output,J,Vz⟩]:=by have:=bD.refl g;exact{this with la:=.cons ⟨trivial,A,A⟩ .nil,wr:=by simp,same:=λ_ _ _=>VA A,iB:=λ_ _ _=>VA A,nO:=by simp,il:=by simp,qw:=by simp}
  grind [Sem.runT,Out.step,fR]
 |program P r=>intro w q c l g;obtain⟨o,d,k,u⟩:=r w q c l g;exact⟨o,d,⟨k.1,λa p=>k.2 a p⟩,by simp_all [VR.runT]⟩
 |mark t d3 P r=>
  rename_i h H x;intro w q c l g;obtain⟨o,d,k,u⟩:=r w q (c.push ⟨.mark t,Vz,J⟩) (l.push ⟨.mark t,Vz,J⟩) g;refine⟨o,d,⟨k.1,λa p=>k.2 a p⟩,?_⟩;have S:bD f h h w w q q [⟨.mark t,Vz,J⟩] [⟨.mark t,Vz,J⟩]:=by have:=bD.refl g;exact{this with la:=.cons ⟨⟨A,d3⟩,A,A⟩ .nil,wr:=by simp,same:=λ_ _ _=>VA A,iB:=λ_ _ _=>VA A,nO:=by simp,il:=by simp,qw:=by simp}
  grind [Sem.runT,Out.step,fR]
 |halt b0=>intro w q c l g;exact⟨λ_ _=>0,(.halt _ w,c),⟨Wl _,λa _=>rfl⟩,VC ⟨_,_,q,[],[],by rfl,by simp,b0,bD.of_heap g A rfl rfl rfl rfl⟩⟩
 |lost X=>intro w q c l g;exact⟨λ_ _=>0,(.halt _ w,c),⟨Wl _,λa _=>rfl⟩,VA X⟩
 |dead a0=>intro w q c l g;obtain⟨b0,c6,a8,X⟩:=a0.run b w c;exact⟨λ_ _=>0,(.halt b0 w,c6),⟨Wl _,λa _=>a8 a⟩,VA X⟩
variable{a:VS}{b:VE Vx}{x:Vx}
def St(h:Ren){e g:Type}(S:e->g->Prop):Ren->e->g->Prop:=λc a b=>c=h/\S a b
def V(f:Set):Ren->Vx->Vx->Prop:=λh d a=>an f h d a
def iF(a:VS):Prop:=∀c i b,a.info? c=C i->i.zero=C b->∀f h,an f h b b
def Base(a:VS)(h:Ren):Prop:=(∀b,(0<b\/b=a.globals.size)->b<=a.globals.size->h b b)/\∀c d,h c d->(c<a.globals.size↔d<a.globals.size)
theorem Base.at(c:Base a h){b:E}(d:0<b)(e:b<=a.globals.size):h b b:=c.1 b (VA d) e
theorem Base.types(b:Base a h):h a.globals.size a.globals.size:=b.1 _ (VC A) (Wl _)
section
variable{e g m n:Type}{l:Ren->e->g->Prop}{S:Ren->m->n->Prop}
theorem bindM{p:VR e}{q:VR g}(r:ae a f l h p q){k:e->VR m}{o:g->VR n}
 (s:∀b c d,h.le b->l b c d->ae a f S b (k c) (o d)):ae a f S h (p >>= k) (q >>= o):=r.bind s
theorem ay{o:e->g->Prop}{r:VR e}{s:VR g}(t:ae a f (St h o) h r s){p:e->VR m}{q:g->VR n}
 (y:∀c k,o c k->ae a f S h (p c) (q k)):ae a f S h (r >>= p) (s >>= q):=
 t.bind λz c k _ u=>by obtain⟨v,w⟩:=u;simp_all
theorem au{g k:VR e}(l:ae a f (St h Eq) h g k){c:e->VR m}{d:e->VR n}
 (q:∀b,ae a f S h (c b) (d b)):ae a f S h (g >>= c) (k >>= d):=
 ay l λb o p=>by simp_all
theorem aC{b:e}{c:g}(d:l h b c):ae a f l h (pure b) (pure c):=.pure d
theorem aq{b:e->g->Prop}{c:e}{d:g}(k:b c d):ae a f (St h b) h (pure c) (pure d):=.pure ⟨A,k⟩
theorem ai{c:String}{b:VR g}:ae a f l h (stuck c:VR e) b:=.lost A
theorem fe{b:Unsupported}{d:VR g}(c:Halt.lost (.unsupported b)=J:=by rfl):ae a f l h (unsupported b:VR e) d:=.lost c
theorem bI{b:VS->VR m}{c:VS->VR n}(d:ae a f S h (b a) (c a)):ae a f S h (program >>= b) (program >>= c):=.program d
theorem dW{b:Vx}(c:an f h d b):ae a f l h (goPanic d:VR e) (goPanic b:VR g):=.halt c
theorem bL(b:VJ):ae a f (St h λi c=>i=c/\a.info? b=C i) h (typeInfo b) (typeInfo b):=by
 unfold typeInfo;refine bI ?_;cases d:a.info? b with
 |none=>exact ai
 |some i=>simp[aq]
theorem az(b:VJ):ae a f (St h Eq) h (underlying b) (underlying b):=by
 unfold underlying;refine bI ?_;cases c:a.underlying b with
 |none=>exact ai
 |some i=>exact aq A
theorem aS(b:VJ):ae a f (St h Eq) h (Go.sizeOf b) (Go.sizeOf b):=by unfold Go.sizeOf;exact ay (bL b) λd e⟨c,_⟩=>by subst c;exact aq A
theorem xL(b:VJ):ae a f (St h Eq) h (isAgg b) (isAgg b):=by unfold isAgg;refine au (az b) λc=>?_;cases c<;>exact aq A
theorem cJ(k:iF a)(b:VJ):ae a f (St h (an f h)) h (zeroValue b) (zeroValue b):=by
 unfold zeroValue;refine ay (bL b) λc l⟨d,g⟩=>?_;subst d;cases e:c.zero with
 |none=>exact fe
 |some m=>exact aq (k _ _ _ g e _ _)
theorem qh{c e:VT}(g:bC h c e)(b:Mode:=.plain):ae a f (St h (an f h)) h (load c b) (load e b):=
 .load b g λd l k=>.pure ⟨A,k⟩
theorem JF{c e:VT}(k:bC h c e){g:Vx}(l:an f h d g)(b:Mode:=.plain):ae a f (St h λ_ _=>True) h (store c d b) (store e g b):=
 .store b k l (.pure ⟨A,trivial⟩)
theorem ax.push{p:VE Vx}(k:ax f h b p){q:Vx}(t:an f h d q):ax f h (b.push d) (p.push q):=by
 refine⟨by simp[k.1],λi x s o c=>?_⟩;rw[Xv]at o c;rw[<-k.1]at c;split at o
 .simp_all
 rename_i r;rw[VK r]at c;exact k.2 i x s o c
theorem ax.nil:ax f h #[] #[]:=⟨A,λi x b a=>by simp at a⟩
theorem ax.append{g k l:VE Vx}(e:ax f h b g)(m:ax f h k l):ax f h (b++k) (g++l):=by
 refine⟨by simp[e.1,m.1],λi x n c a=>?_⟩;rw[N_]at c a;rw[<-e.1]at a;split at c
 .rename_i d;rw[VV d]at a;exact e.2 i x n c a
 rename_i d;rw[VK d]at a;exact m.2 _ x n c a
theorem ax.get{c:VE Vx}(o:ax f h b c)(q:b[i]?=C x):∃r,c[i]?=C r/\an f h x r:=by
 obtain⟨s,_⟩:=Wh.1 q;have p:i<c.size:=by rw[<-o.1];exact s
 exact⟨c[i],by simp[p],o.2 i _ _ q (by simp[p])⟩
theorem ax.none{a:VE Vx}(d:ax f h b a)(c:b[i]?=I):a[i]?=I:=by
 rw[VE.getElem?_eq_none_iff]at c⊢
 rw[<-d.1];exact c
theorem ax.getD{a:VE Vx}(e:ax f h b a)(i:E){c d:Vx}(hd:an f h c d):an f h (b.getD i c) (a.getD i d):=by
 rw[WB,WB];cases g:b[i]? with
 |none=>rw[e.none g];exact hd
 |some x=>obtain⟨m,k,l⟩:=e.get g;simp_all
theorem aY:an f h F F:=.tuple A λi x k c=>by simp at c
theorem ax.extract{k:VE Vx}(d:ax f h b k)(e g:E):ax f h (b.extract e g) (k.extract e g):=by
 refine⟨by simp[d.1],λi x m a c=>?_⟩;rw[G']at a c;rw[<-d.1]at c;split at a
 .rename_i l;rw[VV l]at c;exact d.2 _ x m a c
 cases a
theorem ax.set{g:VE Vx}(c:ax f h b g)(i:E){k:Vx}(n:an f h d k):ax f h (b.setIfInBounds i d) (g.setIfInBounds i k):=by
 refine⟨by simp[c.1],λj x m e a=>?_⟩;rw[WK]at e a;rw[<-c.1]at a;split at e
 .simp_all
 rename_i l;rw[VK l]at a;exact c.2 _ x m e a
theorem ax.list{a:VE Vx}(e:ax f h b a):aZ (an f h) b.toList a.toList:=by
 obtain⟨b⟩:=b;obtain⟨a⟩:=a;obtain⟨c,d⟩:=e;simp only[Xc,WM]at c d⊢
 induction b generalizing a with
 |nil=>cases a with
  |nil=>exact .nil
  |cons=>simp at c
 |cons x q g=>cases a with
  |nil=>simp at c
  |cons l k=>refine .cons (d 0 x l (by simp) (by simp)) (g k (by simp_all) λi m n o p=>d (i+1) m n (by simp_all) (by simp_all))
theorem aZ.arr{c d:VD Vx}(a:aZ (an f h) c d):ax f h c.toArray d.toArray:=by refine⟨by simp[a.length],λi x l b e=>?_⟩;simp only[WM]at b e;obtain⟨m,g,k⟩:=a.get b;simp_all
theorem dO{e:Vx}(a:an f h d e):ax f h d.cells e.cells:=by
 have one:∀{x n:Vx},an f h x n->ax f h #[x] #[n]:=λa=>ax.push ax.nil a;cases a with
 |bU m=>
  have:e.cells=#[e]:=by cases e<;>first|rfl|cases m
  rw[this];exact one (.bU m)
 |agg k l=>exact⟨k,l⟩
 |bool g=>exact one (.bool g)
 |int r c=>exact one (.int r c)
 |string s=>exact one (.string s)
 |cH=>exact one .cH
 |ptr a=>exact one (.ptr a)
 |aP c b=>exact one (.aP c b)
 |slice a c b=>exact one (.slice a c b)
 |fq=>exact one .fq
 |map a=>exact one (.map a)
 |eh=>exact one .eh
 |chan a=>exact one (.chan a)
 |func o g b p q=>exact one (.func o g b p q)
 |nilFunc=>exact one .nilFunc
 |iface t a=>exact one (.iface t a)
 |nilIface=>exact one .nilIface
 |tuple k l=>exact one (.tuple k l)
theorem jZ{g k:VT}(l:bC h g k):∀(b i:E)(acc c:VE Vx),ax f h acc c->
 ae a f (St h (ax f h)) h (loadCellsFrom g i b acc) (loadCellsFrom k i b c)
 |0,_,_,_,e=>aq e
 |b+1,i,acc,c,e=>by unfold loadCellsFrom;exact ay (qh (l.add i)) λd n m=>jZ l b (i+1) _ _ (e.push m)
theorem kB{c d:VT}(e:bC h c d)(b:E):ae a f (St h (ax f h)) h (loadCells c b) (loadCells d b):=jZ e b 0 _ _ ax.nil
theorem gB{b c:VT}(g:bC h b c){d e:VD Vx}(k:aZ (an f h) d e):∀i,ae a f (St h λ_ _=>True) h (storeCells b d i) (storeCells c e i):=by
 induction k with
 |nil=>simp[storeCells,aq]
 |cons l _ m=>intro i;unfold storeCells;exact ay (JF (g.add i) l) λ_ _ _=>m (i+1)
theorem sR{d e:VT}(g:bC h d e)(c:VJ):ae a f (St h (an f h)) h (loadVar c d) (loadVar c e):=by
 unfold loadVar;refine au (xL c) λl=>?_;cases l
 .exact qh g
 refine au (aS c) λm=>?_;exact ay (kB g m) λb n k=>aq (.agg k.1 k.2)
theorem Aa{g k:VT}(n:bC h g k){e:Vx}(p:an f h d e)(c:VJ):ae a f (St h λ_ _=>True) h (storeVar c g d) (storeVar c k e):=by
 have l:=dO p;unfold storeVar;refine au (aS c) λm=>?_;by_cases b:d.cells.size=m
 .have o:e.cells.size=m:=by rw[<-l.1];exact b
  simp only[b,o,ne_eq,not_true_eq_false,Wy];exact gB n l.list 0
 simp only[ne_eq,b,Zp,Wv];exact ai
theorem gW{e:VE Vx}(l:ax f h b e)(c:VJ):ae a f (λd g k=>h.le d/\bC d g k) h (newRow c b) (newRow c e):=by unfold newRow;exact .new (.cells c l (kJ.refl _)) λo p d m n=>.pure ⟨m,n,A,A⟩
theorem oY{c:Vx}(l:an f h d c)(b:VJ):ae a f (λe g k=>h.le e/\bC e g k) h (newVar b d) (newVar b c):=gW (dO l) b
theorem oI(b:VJ):ae a f (St h Eq) h (elemOf b) (elemOf b):=by unfold elemOf;refine au (az b) λc=>?_;cases c<;>first|exact aq rfl|exact ai
theorem iy{g:VE Vx}(d:ax f h b g)(c:VJ)(e:E):ae a f (St h (an f h)) h (part c b e) (part c g e):=by
 unfold part;refine au (xL c) λk=>?_;cases k
 .cases l:b[e]? with
  |none=>exact ai
  |some x=>obtain⟨p,m,o⟩:=d.get l;simp_all [aq]
 refine au (aS c) λn=>?_;exact aq (.agg (d.extract _ _).1 (d.extract _ _).2)
theorem ml{a:VE Vx}(c:ax f h b a):an f h (.agg b) (.agg a):=.agg c.1 c.2
theorem gE{a:VE Vx}(c:ax f h b a):an f h (.tuple b) (.tuple a):=.tuple c.1 c.2
theorem vX(c:Base a h)(b:VJ):an f h (typeHandle a b) (typeHandle a b):=.ptr ⟨c.types,A,A⟩
theorem bz(s:Base a h){c:RuntimeError}(v:∀k p b q,c≠.typeAssertion k p b q):ae a f l h (runtimePanic c:VR e) (runtimePanic c:VR g):=by
 unfold runtimePanic;refine bI ?_;cases c with
 |bounds x y w b=>exact dW (.iface _ (ml ((((ax.nil.push (.int _ _)).push (.int _ _)).push (.bool _)).push (.int _ _))))
 |error t=>exact dW (.iface _ (.string _))
 |plain t=>exact dW (.iface _ (.string _))
 |nilDeref=>exact dW (.iface _ (.string _))
 |typeAssertion k p b q=>grind
 |panicNil=>refine au (oI _) λo=>?_;exact bindM (oY (ml ax.nil) o) λz k u _⟨_,r⟩=>dW (.iface _ (.ptr r))
 |unhashable o=>exact dW (.iface _ (ml (ax.nil.push (vX s o))))
theorem cr(b:Question):ae a f (St h Eq) h (choose b) (choose b):=.choose b λc=>.pure ⟨A,A⟩
theorem eA(m:Base a h)(c:IntKind)(x k:VB)(b:BoundsCode):ae a f l h (boundsPanic c x k b:VR e) (boundsPanic c x k b:VR g):=by
 unfold boundsPanic;by_cases d:(c !=.u64&&decide (0<=x)&&decide (x<=31))=J
 .simp only[d,Wv];simp_all [au,cr,bz]
 simp only[d];simp_all [bz]
theorem jT{b:Vx}(c:an f h d b):ae a f (St h Eq) h (asIntOf d) (asIntOf b):=by cases c<;>first|exact aq rfl|exact ai|exact fe
theorem dN{b:Vx}(e:an f h d b):ae a f (St h Eq) h (asInt d) (asInt b):=by unfold asInt;exact ay (jT e) λg k c=>by subst c;exact aq A
theorem uw{b:Vx}(c:an f h d b):ae a f (St h Eq) h (asBool d) (asBool b):=by cases c<;>first|exact aq rfl|exact ai
theorem Hp{b:Vx}(c:an f h d b):ae a f (St h (ax f h)) h (asAgg d) (asAgg b):=by cases c<;>first|exact aq ⟨‹_›,‹_›⟩|exact ai
theorem uu(k:Base a h){e:Vx}(g:an f h d e):ae a f (St h (bC h)) h (asAddr d) (asAddr e):=by cases g<;>first|exact aq ‹_›|exact ai|exact bz (c:=.nilDeref) k (λl m b n c=>by cases c)
theorem cZ{b c:E}(d:h b c):ae a f (St h Eq) h (shape b) (shape c):=.shape d λe=>.pure ⟨A,A⟩
theorem bJ{b c:E}(d:h b c):ae a f (St h (gK f h)) h (getObj b) (getObj c):=.getObj d λg k e=>.pure ⟨A,e⟩
inductive Kx(h:Ren):VL (VT×VJ)->VL (VT×VJ)->Prop
 |none:Kx h I I
 |some {c k:VT} (p:bC h c k) (o:VJ):Kx h (C (c,o)) (C (k,o))
theorem jG{c d:E}(b:h c d):ae a f (St h (Kx h)) h (viewAt c) (viewAt d):=by
 unfold viewAt;refine au (cZ b) λg=>?_;cases g with
 |some x=>exact aq .none
 |none=>refine ay (bJ b) λk l e=>?_;cases e<;>first|exact aq .none|exact aq (.some ‹_› _)
inductive Kh(h:Ren):VL (VT×VI)->VL (VT×VI)->Prop
 |none:Kh h I I
 |some {c k:VT} (p:bC h c k) (o:VI):Kh h (C (c,o)) (C (k,o))
theorem qv{c d:E}(b:h c d):ae a f (St h (Kh h)) h (numberAt c) (numberAt d):=by
 unfold numberAt;refine au (cZ b) λg=>?_;cases g with
 |some x=>exact aq .none
 |none=>refine ay (bJ b) λk l e=>?_;cases e<;>first|exact aq .none|exact aq (.some ‹_› _)
theorem ju{c k:VT}(o:bC h c k):ae a f (St h λ_ _=>True) h (noView c) (noView k):=by
 unfold noView;refine ay (jG o.1) λx q p=>?_;cases p
 .exact aq trivial
 exact fe
theorem eQ{b c:VT}(g:bC h b c):ae a f (St h λd e=>e=J->d=J) h (frozen b) (frozen c):=.frozen g λd e k=>.pure ⟨A,k⟩
theorem ou{d e:VT}(g:bC h d e):ae a f (St h λb c=>c=J->b=J) h (stringish d) (stringish e):=by
 unfold stringish;refine ay (eQ g) λb c n=>?_
 have tail:ae a f (St h λb c=>c=J->b=J) h
  (do match<-shape d.block with|some (_,k)=>frozen {block:=d.block,off:=k}|none=>pure Vz:VR VI)
  (do match<-shape e.block with|some (_,k)=>frozen {block:=e.block,off:=k}|none=>pure Vz:VR VI):=by
  refine au (cZ g.1) λm=>?_;cases m with
  |some x=>exact eQ ⟨g.1,A,A⟩
  |none=>simp[aq]
 cases b
 .grind
 cases c
 .refine .rZ λx=>?_;cases x with
  |none=>exact aq (by simp)
  |some x=>exact .nt λo=>aq (by simp)
 simp[aq]
theorem qk{b c d e:VT}(k:bC h b c)(g:bC h d e):ae a f (St h λx l=>l=J->x=J) h (mayBeOne b d) (mayBeOne c e):=by
 unfold mayBeOne;refine ay (ou k) λx l n=>?_;refine ay (ou g) λr s o=>?_;refine au (au (cZ k.1) λm=>aq A) λp=>?_;refine au (au (cZ g.1) λm=>aq A) λq=>?_;refine aq ?_
 grind
def pE(h:Ren):Prop:=∀a b c d,h a c->h b d->(a=b↔c=d)
theorem qK(t:pE h){g k l m:VT}(e:bC h g k)(c:bC h l m):ae a f (St h Eq) h (sameAddr g l) (sameAddr k m):=by
 unfold sameAddr;have o:=t _ _ _ _ e.1 c.1;by_cases b:g.block=l.block
 .have n:=o.1 b;simp only[b,n,beq_self_eq_true,Wv];refine aq ?_;obtain⟨x,r,R⟩:=g;obtain⟨q,s,S⟩:=k;obtain⟨O,d,L⟩:=l;obtain⟨P,Q,N⟩:=m;simp only[bC]at e c b n
  grind
 have n:¬k.block=m.block:=λx=>b (o.2 x);simp only[B_,b,n,Wy];refine ay (eQ e) λx q z=>?_;refine ay (eQ c) λr s D=>?_;by_cases p:(x&&r)=J
 .simp only[p,Wv];exact fe
 have u:¬(q&&s)=J:=by grind
 simp only[p,u,Wy];refine ay (ju e) λ_ _ _=>?_;refine ay (ju c) λ_ _ _=>?_;refine ay (qk e c) λv w y=>?_;cases v
 .simp_all [aq]
 cases w
 .exact .jV _ (by decide) 0 (aq (by decide))
 exact au (cr _) λH=>aq A
end
section
variable{b c d e:Type}{g:Ren->b->c->Prop}{S:Ren->d->e->Prop}
theorem forIn_list{e m:Type}{i k:m->e->VR (ForInStep e)}(l:∀d b,ae a f (St h Eq) h (i d b) (k d b)):∀(c:VD m)(b:e),ae a f (St h Eq) h (forIn c b i) (forIn c b k)
 |[],b=>by simp[aq]
 |d::c,b=>by
  simp only[K_];refine au (l d b) λn=>?_;cases n with
  |done g=>exact aq A
  |yield g=>exact forIn_list l c g
theorem rH{c k:Type}{d e:k->c->VR (ForInStep c)}(l:∀i b,ae a f (St h Eq) h (d i b) (e i b))(g:VE k)(b:c):ae a f (St h Eq) h (forIn g b d) (forIn g b e):=by
 rw[<-YN,<-YN]
 grind [forIn_list]
theorem forIn_range{c:Type}{d e:E->c->VR (ForInStep c)}(k:∀i b,ae a f (St h Eq) h (d i b) (e i b))(g:Std.Legacy.Range)(b:c):ae a f (St h Eq) h (forIn g b d) (forIn g b e):=by simp_all [forIn_list]
theorem eg{c d:VT}(e:bC h c d):ae a f (St h λb g=>bC h b.1 g.1/\b.2=g.2) h (behindNumber c) (behindNumber d):=by
 unfold behindNumber;refine ay (qv e.1) λb m k=>?_;cases k with
 |none=>exact aq ⟨e,A⟩
 |some i l=>exact aq ⟨i,A⟩
theorem tr(b:VJ):ae a f (St h Eq) h (typeStr b) (typeStr b):=by
 unfold typeStr;refine ay (bL b) λe g⟨c,_⟩=>?_;subst c;dsimp only;by_cases d:e.str.isEmpty=J
 .simp only[d,Wv];exact fe
 simp_all [aq]
theorem fG{b c:VT}(m:bC h b c):ae a f (St h Eq) h (byteOf b) (byteOf c):=by
 unfold byteOf;obtain⟨o,i,q⟩:=b;obtain⟨p,t,u⟩:=c;obtain⟨g,k,l⟩:=m;simp only at g k l;subst k;subst l;cases q with
 |some d=>exact aq A
 |none=>
  refine bI ?_;refine ay (ju (c:=⟨o,i,Option.none⟩) (k:=⟨p,i,Option.none⟩) ⟨g,A,A⟩) λ_ _ _=>?_;refine au (cZ g) λd=>?_;cases d with
  |none=>exact ai
  |some d=>
   obtain⟨e,s⟩:=d;dsimp only;by_cases n:a.cellsOf e=0
   .simp_all [aq]
   simp only[n,Wy];cases byteOfCell a a.depth e (i%a.cellsOf e)with
   |none=>exact ai
   |some r=>exact aq A
theorem Em{a b c d:E}(g:pE h)(f:h a b)(e:h c d):(C a==C c)=(C b==C d):=by
 have:=g _ _ _ _ f e
 grind
theorem addr_eq(i:pE h){a b c d:VT}(f:bC h a b)(e:bC h c d):(a==c)=(b==d):=by
 have g:=i _ _ _ _ f.1 e.1;obtain⟨q,s,u⟩:=a;obtain⟨r,t,v⟩:=b;obtain⟨m,o,k⟩:=c;obtain⟨n,p,l⟩:=d;simp only[bC]at f e g
 grind
theorem mC(Y:Base a h)(x:pE h):∀(n:E)(q:VJ)(z S D T:Vx),an f h z S->an f h D T->ae a f (St h Eq) h (Op.equalIn n q z D) (Op.equalIn n q S T)
 |0,_,_,_,_,_,_,_=>fe
 |n+1,q,z,S,D,T,c,d=>by
  unfold Op.equalIn;refine au (az q) λa6=>?_
  have a1:∀(e:VJ){m r b s:VE Vx}(i:E),ax f h m r->ax f h b s->ae a f (St h Eq) h
   (do if(!(<-Op.equalIn n e (<-part e m i) (<-part e b i)))=J then pure (ForInStep.done (C Vz,()))else pure (ForInStep.yield ((I:VL VI),())):VR (ForInStep (VL VI×Unit)))
   (do if(!(<-Op.equalIn n e (<-part e r i) (<-part e s i)))=J then pure (ForInStep.done (C Vz,()))else pure (ForInStep.yield ((I:VL VI),()))):=by
   intro e m r b s i t u;refine ay (iy t e i) λb4 b5 b1=>?_;refine ay (iy u e i) λR b3 b0=>?_;simp_all [au,mC,aq]
  cases a6 with
  |struct a7=>
   cases c<;>try exact ai
   cases d<;>try exact ai
   rename_i m r t O b s u P;simp only;refine bI ?_;by_cases Z:a.stoodInHeld q=J
   .simp only[Z,Wv];exact .lost A
   simp only[Z];refine au (rH (λb6 a3=>?_) a7 _) λl=>?_
   .split
    .exact a1 _ _ ⟨t,O⟩ ⟨u,P⟩
    exact aq A
   obtain⟨l,R⟩:=l;cases l<;>exact aq A
  |array p e=>
   cases c<;>try exact ai
   cases d<;>try exact ai
   rename_i m r t O b s u P;simp only;refine au (aS e) λb8=>?_;refine au (forIn_range (λa0 a3=>a1 e _ ⟨t,O⟩ ⟨u,P⟩) _ _) λl=>?_;obtain⟨l,R⟩:=l;cases l<;>exact aq A
  |bool=>
   cases c<;>try exact ai
   cases d<;>first|exact ai|exact aq rfl
  |int a2=>
   cases c<;>cases d<;>try first|exact ai|exact fe
   .dsimp only;split<;>first|exact aq rfl|exact ai
   .rename_i p _ _ _;cases p with
    |ofNat v=>cases v<;>first|exact aq rfl|exact fe
    |negSucc v=>exact fe
   .rename_i p;cases p with
    |ofNat v=>cases v<;>first|exact aq rfl|exact fe
    |negSucc v=>exact fe
   rename_i U a4 H W a5 L;dsimp only;refine ay (eg H) λk w g=>?_;refine ay (eg L) λy N o=>?_;obtain⟨k,_⟩:=k;obtain⟨w,_⟩:=w;obtain⟨y,_⟩:=y;obtain⟨N,_⟩:=N;obtain⟨g,_⟩:=g;obtain⟨o,_⟩:=o;dsimp only at g o⊢
   refine bI ?_;have b7:=x _ _ _ _ g.1 o.1;have Aj:k.block<a.globals.size↔w.block<a.globals.size:=Y.2 _ _ g.1
   have a8:(k.block==y.block&&decide (k.block<a.globals.size))=(w.block==N.block&&decide (w.block<a.globals.size)):=by grind
   rw[<-a8];by_cases X:(k.block==y.block&&decide (k.block<a.globals.size))=J
   .simp only[X,Wv];exact au (fG g) λz=>au (fG o) λD=>aq A
   simp only[X];refine ay (bL q) λa0 b2⟨b,_⟩=>?_;subst b;have a9:=addr_eq x g o;rw[<-a9];split
   .split<;>first|exact aq rfl|exact fe
   exact fe
  |string=>
   cases c<;>try exact ai
   cases d<;>first|exact ai|exact aq rfl
  |unsafePointer=>
   cases c<;>try exact ai
   all_goals (cases d<;>try first|exact ai|exact aq rfl)
   all_goals exact qK x ‹_› ‹_›
  |pointer b=>
   cases c<;>try exact ai
   all_goals (cases d<;>try first|exact ai|exact aq rfl)
   rename_i U a4 H W a5 L;simp only;refine au (aS b) λp=>?_;split
   .simp_all [qK]
   rw[addr_eq x H L];split
   .exact aq A
   exact au (cr _) λp=>aq A
  |chan _ _=>
   cases c<;>try exact ai
   all_goals (cases d<;>try first|exact ai|exact aq rfl)
   grind [aq,Em]
  |interface ms=>
   cases c<;>try exact ai
   all_goals (cases d<;>try first|exact ai|exact aq rfl)
   rename_i Q b4 b5 b1 b9 R b3 b0;simp only;split
   .exact aq A
   refine ay (bL Q) λa0 b2⟨b,_⟩=>?_;subst b;split
   .refine bI (bI ?_);by_cases g:a.holdsPacked a.depth Q=J
    .simp only[g,Wv];exact .lost A
    simp only[g];exact au (tr Q) λa3=>bz Y (λU W m n b=>by cases b)
   simp_all [mC]
  |slice b=>
   cases c<;>try exact ai
   all_goals (cases d<;>first|exact ai|exact aq rfl)
  |map _ _=>
   cases c<;>try exact ai
   all_goals (cases d<;>first|exact ai|exact aq rfl)
  |func _ _ _=>
   cases c<;>try exact ai
   all_goals (cases d<;>first|exact ai|exact aq rfl)
  |float a2=>cases c<;>exact ai
  |complex a2=>cases c<;>exact ai
  |_=>exact ai
end
variable{b:Vx}{W:Vx}{Q:Vx}
section
variable{c d e g:Type}{i:Ren->c->d->Prop}{S:Ren->e->g->Prop}
theorem rG(e:Base a h)(g:pE h)(c:VJ){d:Vx}(i:an f h b W)(k:an f h Q d):ae a f (St h Eq) h (Op.equal c b Q) (Op.equal c W d):=
 mC e g _ c b W Q d i k
theorem qe(c:BinOp)(d:IntKind)(b Q:VB):ae a f (St h (an f h)) h (Op.intArith c d b Q) (Op.intArith c d b Q):=by unfold Op.intArith;cases c<;>first|exact aq (.int _ _)|exact ai
theorem DU(e:Base a h)(c:BinOp)(d:IntKind)(b Q:VB):ae a f (St h (an f h)) h (Op.intDiv c d b Q) (Op.intDiv c d b Q):=by
 unfold Op.intDiv;split
 .simp_all [bz]
 cases c<;>first|exact aq (.int _ _)|exact ai
theorem sN(c:BinOp)(d:IntKind)(b Q:VB):ae a f (St h (an f h)) h (Op.intBits c d b Q) (Op.intBits c d b Q):=by unfold Op.intBits;cases c<;>first|exact aq (.int _ _)|exact ai
theorem DT(c:BinOp)(b Q:VB):ae a f (St h (an f h)) h (Op.intCmp c b Q) (Op.intCmp c b Q):=by unfold Op.intCmp;cases c<;>first|exact aq (.bool _)|exact ai
theorem yi(g:Base a h)(c:BinOp)(d e:IntKind)(b Q:VB):ae a f (St h (an f h)) h (Op.shift c d b e Q) (Op.shift c d b e Q):=by
 unfold Op.shift;split
 .simp_all [bz]
 cases c<;>first|exact aq (.int _ _)|exact ai
theorem qP(c:BinOp)(b Q:VX):ae a f (St h (an f h)) h (Op.stringOp c b Q) (Op.stringOp c b Q):=by
 unfold Op.stringOp;cases c<;>try first|exact aq (.bool _)|exact ai
 dsimp only;split
 .exact fe
 exact aq (.string _)
theorem kA:∀(m:E)(r:VJ)(b W Q i:Vx),an f h b W->an f h Q i->ae a f (St h Eq) h (Op.eqGuardIn m r b Q) (Op.eqGuardIn m r W i)
 |0,_,_,_,_,_,_,_=>fe
 |m+1,r,b,W,Q,i,s,t=>by
  unfold Op.eqGuardIn;refine au (az r) λy=>?_
  have w:∀(c:VJ){k l n o:VE Vx}(e:E),ax f h k l->ax f h n o->ae a f (St h Eq) h
   (do if(<-Op.eqGuardIn m c (<-part c k e) (<-part c n e))=J then pure (ForInStep.done (C J,()))else pure (ForInStep.yield ((I:VL VI),())):VR (ForInStep (VL VI×Unit)))
   (do if(<-Op.eqGuardIn m c (<-part c l e) (<-part c o e))=J then pure (ForInStep.done (C J,()))else pure (ForInStep.yield ((I:VL VI),()))):=by
   intro c k l n o e p q;refine ay (iy p c e) λT U N=>?_;refine ay (iy q c e) λx S L=>?_;simp_all [au,kA,aq]
  cases y with
  |struct z=>
   cases s<;>try exact aq A
   .rename_i d;cases W<;>first|exact aq rfl|exact d.elim
   cases t<;>try exact aq A
   .rename_i d;cases i<;>first|exact aq rfl|exact d.elim
   rename_i k l p u n o q v;simp only;refine au (rH (λH D=>?_) z _) λg=>?_
   .split
    .exact w _ _ ⟨p,u⟩ ⟨q,v⟩
    exact aq A
   obtain⟨g,x⟩:=g;cases g<;>exact aq A
  |array P c=>
   cases s<;>try exact aq A
   .rename_i d;cases W<;>first|exact aq rfl|exact d.elim
   cases t<;>try exact aq A
   .rename_i d;cases i<;>first|exact aq rfl|exact d.elim
   rename_i k l p u n o q v;simp only;refine au (aS c) λR=>?_;refine au (forIn_range (λO D=>w c _ ⟨p,u⟩ ⟨q,v⟩) _ _) λg=>?_;obtain⟨g,x⟩:=g;cases g<;>exact aq A
  |interface ms=>
   cases s<;>try exact aq A
   .rename_i d;cases W<;>first|exact aq rfl|exact d.elim
   cases t<;>try exact aq A
   rename_i d;cases i<;>first|exact aq rfl|exact d.elim
  |_=>exact aq A
theorem oy(t:VE VJ)(s:VJ){q r o p:Vx}(v:an f h q r)(m:an f h o p):ae a f (St h (an f h)) h (Builtin.unsafeAdd_ t s #[q,o]) (Builtin.unsafeAdd_ t s #[r,p]):=by
 unfold Builtin.unsafeAdd_;cases v<;>try exact ai
 .dsimp only;refine au (dN m) λn=>?_;split
  .exact .lost A
  split<;>exact .lost A
 rename_i u x k;dsimp only;refine au (dN m) λn=>?_;split
 .refine ay (jG k.1) λz D w=>?_;cases w
  .exact aq (.ptr k)
  exact .lost A
 split
 .exact .lost A
 refine au (cZ k.1) λl=>?_;cases l with
 |none=>exact .lost A
 |some l=>
  refine bI ?_;rw[<-k.2.1];cases cellAtBytes a a.depth l.1 (l.2/a.cellsOf l.1) u.off n with
  |none=>exact .lost A
  |some y=>exact aq (.ptr ⟨k.1,A,k.2.2⟩)
def Vr(f:Set):Ren->Vx->Vx->Prop:=λh a b=>an f h a b
theorem lN{c d:VR Vx}(g:ae a f (St h (an f h)) h c d):ae a f (Vr f) h c d:=g.mono λl i k⟨e,b⟩=>by subst e;exact b
theorem yG{c d:VT}(e:bC h c d)(b:VI):ae a f (Vr f) h (asNumber c b) (asNumber d b):=by unfold asNumber;exact .new (.number e b) λk l m i g=>.pure (.ptr ⟨g,A,A⟩)
theorem xd(n:VE VJ)(m:VJ){d e:VT}(b:bC h d e){k l:Vx}(q:an f h k l):
 ae a f (St h λo p=>∃g i,o=VW (C g)/\p=VW (C i)/\bC h g i) h (Builtin.unsafeAdd_ n m #[VW (C d),k]) (Builtin.unsafeAdd_ n m #[VW (C e),l]):=by
 unfold Builtin.unsafeAdd_;dsimp only;refine au (dN q) λs=>?_;split
 .refine ay (jG b.1) λo p r=>?_;cases r
  .simp_all [aq]
  exact .lost A
 split
 .exact .lost A
 refine au (cZ b.1) λc=>?_;cases c with
 |none=>exact .lost A
 |some c=>
  refine bI ?_;rw[<-b.2.1];cases cellAtBytes a a.depth c.1 (c.2/a.cellsOf c.1) d.off s with
  |none=>exact .lost A
  |some t=>exact aq ⟨_,_,A,A,b.1,A,b.2.2⟩
theorem eE(c:VJ){l:Vx}(n:an f h b W)(o:an f h Q l):ae a f (Vr f) h (movedNumber c b Q) (movedNumber c W l):=by
 unfold movedNumber;refine au (az c) λk=>?_;have t:=lN (oy (a:=a) #[] c n o);by_cases hd:k=.unsafePointer
 .subst hd;exact .lost A
 cases n with
 |ptr u=>
  rename_i r s
  have fin:ae a f (Vr f) h (do let (i,lost)<-behindNumber r;match<-Builtin.unsafeAdd_ #[] c #[VW (C i),Q]with|VW (C d)=>asNumber d lost|g=>pure g:VR Vx)
   (do let (i,lost)<-behindNumber s;match<-Builtin.unsafeAdd_ #[] c #[VW (C i),l]with|VW (C d)=>asNumber d lost|g=>pure g:VR Vx):=by
   refine ay (eg u) λp q e=>?_;obtain⟨p,x⟩:=p;obtain⟨q,D⟩:=q;obtain⟨e,m⟩:=e;dsimp only at m e⊢
   subst m;refine ay (xd #[] c e o) λg H w=>?_;obtain⟨d,y,rfl,rfl,v⟩:=w;exact yG v x
  grind
 |bU z=>cases k<;>first|exact absurd rfl hd|exact .lost rfl
 |_=>cases k<;>first|exact absurd rfl hd|exact t
theorem rP(c:VJ){g:Vx}(e:an f h b W)(l:an f h Q g):ae a f (Vr f) h (movedPointer c b Q) (movedPointer c W g):=by
 unfold movedPointer;have d:=lN (oy (a:=a) #[] c e l);cases e with
 |ptr i=>
  refine ay (qv i.1) λn o k=>?_;cases k with
  |none=>exact d
  |some _ _=>exact .lost A
 |bU m=>exact .lost A
 |_=>exact d
theorem LF(e:Base a h)(f:pE h){b c:E}(d:h b c):b<a.globals.size↔c<a.globals.size:=by exact e.2 _ _ d
theorem ox(n:Base a h)(m:pE h){c d e g:VT}(i:bC h c d)(l:bC h e g):ae a f (St h Eq) h (Op.twoPlaces c e) (Op.twoPlaces d g):=by
 unfold Op.twoPlaces;refine bI ?_;have p:=m _ _ _ _ i.1 l.1;have q:=LF n m i.1
 have o:(c.block !=e.block||decide (c.block>=a.globals.size))=(d.block !=g.block||decide (d.block>=a.globals.size)):=by grind
 rw[<-o];by_cases k:(c.block !=e.block||decide (c.block>=a.globals.size))=J
 .simp only[k,Wv];exact .lost A
 simp only[k];exact au (fG i) λb=>au (fG l) λQ=>aq A
theorem As(k:Base a h)(m:pE h)(g:IntKind){b c d e:VT}(i:bC h b c)(l:bC h d e):ae a f (St h (an f h)) h (Op.addrSub g b d) (Op.addrSub g c e):=by unfold Op.addrSub;exact au (ox k m i l) λn=>aq (.int _ _)
theorem Ar(k:Base a h)(m:pE h)(b:BinOp){c d e g:VT}(i:bC h c d)(l:bC h e g):ae a f (St h (an f h)) h (Op.addrCmp b c e) (Op.addrCmp b d g):=by unfold Op.addrCmp;refine au (ox k m i l) λn=>?_;cases b<;>first|exact aq (.bool _)|exact .lost rfl
theorem sI(m:IntKind){e g:VT}(i:bC h e g)(c:VB):ae a f (St h (an f h)) h (Op.addrMod m e c) (Op.addrMod m g c):=by
 unfold Op.addrMod;refine au (cZ i.1) λd=>?_;cases d with
 |none=>exact .lost A
 |some d=>
  dsimp only;refine ay (bL d.1) λl o⟨n,_⟩=>?_;subst n;by_cases k:(decide (c<1)||decide (c.toNat>l.align)||l.align%c.toNat !=0)=J
  .simp only[k,Wv];exact .lost A
  simp only[k];exact au (fG i) λb=>aq (.int _ _)
theorem AJ(g:BinOp)(c:VJ)(b Q:Wd){l i m e:Vx}(v:an f h l i)(o:an f h m e):
 ae a f (St h λ_ _=>True) h (eqGuard g c b Q l m) (eqGuard g c b Q i e):=by
 unfold eqGuard;by_cases x:g=.eql\/g=.neq
 .rcases x with rfl|rfl
  all_goals simp only[VI.not_true,WC,Wy]
  all_goals cases v<;>try exact aq trivial
  case inl.bU d|inr.bU d=>cases i<;>first|exact aq trivial|exact d.elim
  case inl.nilIface|inr.nilIface=>
   cases o<;>try exact aq trivial
   .rename_i d;cases e<;>first|exact aq trivial|exact d.elim
   have fin:ae a f (St h λ_ _=>True) h
    (do if<-Op.eqGuardIn Op.maxDepth c .nilIface .nilIface then unsupported (.noEntry "binop/eql: two nil values of an interface type with methods, neither of them the literal nil"):VR Unit)
    (do if<-Op.eqGuardIn Op.maxDepth c .nilIface .nilIface then unsupported (.noEntry "binop/eql: two nil values of an interface type with methods, neither of them the literal nil")):=by
    refine au (kA _ c _ _ _ _ .nilIface .nilIface) λk=>?_;cases k
    .exact aq trivial
    exact .lost A
   cases b<;>cases Q<;>first|exact aq trivial|exact fin
  case inl.agg t u p s|inr.agg t u p s=>
   cases o<;>try exact aq trivial
   .rename_i d;cases e<;>first|exact aq trivial|exact d.elim
   rename_i z D w y;refine bI (bI ?_);by_cases n:(!a.eqGuardType a.depth c)=J
   .simp only[n,Wv];exact aq trivial
   simp only[n,WC,Wy];refine au (kA _ c _ _ _ _ (ml ⟨p,s⟩) (ml ⟨w,y⟩)) λk=>?_;cases k
   .exact aq trivial
   exact .lost A
 simp_all [aq]
theorem Mn(e:Base a h)(g:pE h)(c:VJ){d:Vx}(i:an f h b W)(k:an f h Q d):
 ae a f (Vr f) h (do pure (.bool (!(<-Op.equal c b Q))):VR Vx) (do pure (.bool (!(<-Op.equal c W d)))):=
 au (rG e g c i k) λl=>aC (.bool _)
theorem ME(e:Base a h)(g:pE h)(c:VJ){d:Vx}(i:an f h b W)(k:an f h Q d):
 ae a f (Vr f) h (do pure (.bool (<-Op.equal c b Q)):VR Vx) (do pure (.bool (<-Op.equal c W d))):=
 au (rG e g c i k) λl=>aC (.bool _)
end
variable{b:VS}{a:Vx}
section
variable{c d e g:Type}{i:Ren->c->d->Prop}{S:Ren->e->g->Prop}
def alike:Vx->Vx->VI
 |.int ..,.int .. =>J
 |.string _,.string _=>J
 |_,_=>Vz
theorem Dh(g:Base b h)(c:BinOp)(i:VJ)(m:alike a Q=J):ae b f (Vr f) h (binOp c i a Q) (binOp c i a Q):=by
 cases a<;>cases Q<;>first|(cases m;done)|skip
 .rename_i n d o e;by_cases k:n=o
  .subst k;cases c<;>simp only[binOp,ne_eq,not_true_eq_false,Wy]<;>
    first|exact lN (qe _ _ _ _)|exact lN (DU g _ _ _ _)|exact lN (sN _ _ _ _)|exact lN (DT _ _ _)|exact lN (yi g _ _ _ _ _)
  cases c<;>simp only[binOp,ne_eq,k,Zp,Wv]<;>first|exact ai|exact lN (yi g _ _ _ _ _)
 rename_i d e;have l:binOp c i (.string d) (.string e)=Op.stringOp c d e:=by cases c<;>rfl
 rw[l];exact lN (qP _ _ _)
theorem binOp_eql{d:VJ}(e:alike a Q=Vz)(g:∀b c,a≠.float b c)(f:∀b c h,a≠.complex b c h):binOp .eql d a Q=(do pure (.bool (<-Op.equal d a Q))):=by cases a<;>first|exact absurd rfl (g _ _)|exact absurd rfl (f _ _ _)|rfl|(cases Q<;>first|rfl|cases e)
theorem binOp_neq{d:VJ}(e:alike a Q=Vz)(g:∀b c,a≠.float b c)(f:∀b c h,a≠.complex b c h):binOp .neq d a Q=(do pure (.bool (!(<-Op.equal d a Q)))):=by cases a<;>first|exact absurd rfl (g _ _)|exact absurd rfl (f _ _ _)|rfl|(cases Q<;>first|rfl|cases e)
def lU:Vx->VI
 |.pointer _=>Vz
 |_=>J
theorem uC{k:BinOp}{w:VJ}(o:alike a Q=Vz)(p:k≠.eql)(q:k≠.neq)(t:lU a=J)(u:lU Q=J)(s:∀l m,a≠.float l m)(r:∀l m v,a≠.complex l m v):
 ∃n,binOp k w a Q=.halt n/\Halt.lost n=J:=by
 cases k<;>first|exact absurd rfl p|exact absurd rfl q|skip
 all_goals (cases a<;>first|(cases t;done)|exact absurd rfl (s _ _)|exact absurd rfl (r _ _ _)|exact⟨_,rfl,rfl⟩|(cases Q<;>first|exact⟨_,rfl,rfl⟩|(cases o;done)|(cases u;done)))
theorem Hm{b:Vx}(d:an f h a W)(e:an f h Q b):alike a Q=J->W=a/\b=Q:=by intro c;cases d<;>cases e<;>first|exact⟨rfl,rfl⟩|cases c
theorem Ug(i:an f h a W):(∀b c,a≠.float b c)/\(∀b c e,a≠.complex b c e)/\(∀b c,W≠.float b c)/\(∀b c e,W≠.complex b c e):=by
 cases i with
 |bU g=>cases W<;>first|(simp only[bN]at g;done)|(refine⟨?_,?_,?_,?_⟩<;>intros<;>intro d<;>cases d)
 |_=>refine⟨?_,?_,?_,?_⟩<;>intros<;>intro d<;>cases d
theorem oJ(e:VJ)(f:a=.tuple #[]\/Q=.tuple #[])(g:lU a=J)(h:lU Q=J):gd (Op.equal e a Q):=by
 unfold Op.equal;cases hd:Op.maxDepth with
 |zero=>exact .lost A
 |succ k=>
  unfold Op.equalIn;refine .program λb=>?_;simp only[program,Bind.bind,Sem.bind];cases l:b.underlying e with
  |none=>exact .lost A
  |some c=>
   rcases f with rfl|rfl
   .cases Q<;>first|(cases h;done)|(cases c<;>exact .lost rfl)
   cases a with
   |slice d m i=>cases d<;>cases c<;>exact .lost A
   |map d=>cases d<;>cases c<;>exact .lost A
   |_=>first|(cases g;done)|(cases c<;>exact .lost rfl)
theorem Hl{b:Vx}(e:an f h a W)(g:an f h Q b)(d:alike a Q=Vz):alike W b=Vz\/((a=.tuple #[]\/Q=.tuple #[])/\lU a=J/\lU Q=J):=by
 cases c:alike W b with
 |false=>exact VA A
 |true=>right;cases e<;>cases g<;>first|(cases c;done)|(cases d;done)|exact⟨VA rfl,rfl,rfl⟩|exact⟨VC rfl,rfl,rfl⟩|(cases W<;>cases c;done)|(cases b<;>cases c;done)
theorem Dg{k:BinOp}{b:VJ}(l:a=.tuple #[]\/Q=.tuple #[])(c:alike a Q=Vz)(f:lU a=J)(g:lU Q=J)(e:∀h i,a≠.float h i)(d:∀h i q,a≠.complex h i q):gd (binOp k b a Q):=by
 by_cases m:k=.eql
 .subst m;rw[binOp_eql c e d];exact(oJ b l f g).bind _
 by_cases n:k=.neq
 .subst n;rw[binOp_neq c e d];exact(oJ b l f g).bind _
 obtain⟨r,o,p⟩:=uC (w:=b) c m n f g e d;rw[o];exact .lost p
theorem uq(c:VJ)(g:an f h a W)(d:IntKind)(e:VB):
 ae b f (Vr f) h (do if(<-underlying c) matches .unsafePointer then movedPointer c a (.int d e)else movedNumber c a (.int d e):VR Vx) (do if(<-underlying c) matches .unsafePointer then movedPointer c W (.int d e)else movedNumber c W (.int d e)):=by
 refine au (az c) λi=>?_;cases i<;>first|exact eE c g (.int d e)|(simp only[Wv];exact rP c g (.int d e))
theorem Ht(q:Base b h)(r:pE h)(d:BinOp)(m:VJ){y:Vx}(n:an f h a W)(g:an f h Q y):ae b f (Vr f) h (binOp d m a Q) (binOp d m W y):=by
 cases l:alike a Q with
 |true=>obtain⟨D,H⟩:=Hm n g l;subst D;subst H;exact Dh q d m l
 |false=>
  obtain⟨o,p,s,t⟩:=Ug n;rcases Hl n g l with u|⟨L,q1,R⟩
  rotate_left
  .exact .dead (Dg L l q1 R o p)
  by_cases i:d=.eql
  .subst i;rw[binOp_eql l o p,binOp_eql u s t];exact ME q r m n g
  by_cases k:d=.neq
  .subst k;rw[binOp_neq l o p,binOp_neq u s t];exact Mn q r m n g
  by_cases c:lU a=J/\lU Q=J
  .obtain⟨U,z,N⟩:=uC (w:=m) l i k c.1 c.2 o p;rw[z];exact .lost N
  clear u o p s t;cases n with
  |int X Y=>
   cases g<;>first|(exact absurd ⟨rfl,rfl⟩ c)|skip
   .cases d<;>first|exact absurd rfl i|exact absurd rfl k|exact .lost rfl|exact eE _ .cH (.int _ _)
   rename_i S T e;cases d<;>first|exact absurd rfl i|exact absurd rfl k|exact .lost rfl|exact eE _ (.ptr e) (.int _ _)|exact ay (eg e) λw x c=>lN (sI _ c.1 _)
  |cH=>cases g<;>cases d<;>first|exact absurd rfl i|exact absurd rfl k|exact .lost rfl|exact eE _ .cH (.int _ _)|exact uq _ .cH _ _
  |ptr e=>
   cases g<;>cases d<;>first
    |exact absurd rfl i|exact absurd rfl k|exact .lost rfl|exact eE _ (.ptr e) (.int _ _)
    |exact uq _ (.ptr e) _ _
    |exact ay (eg e) λw x c=>lN (sI _ c.1 _)
    |exact ay (eg e) λw x c=>ay (eg ‹_›) λO P v=>lN (As q r _ c.1 v.1)
    |exact ay (eg e) λw x c=>ay (eg ‹_›) λO P v=>lN (Ar q r _ c.1 v.1)
  |_=>
   cases g<;>first|(exact absurd ⟨rfl,rfl⟩ c)|skip
   all_goals (cases d<;>first|exact absurd rfl i|exact absurd rfl k|exact .lost rfl)
end
end Go.Sim
namespace Wt
variable{b:Tree}{c:Path}{a:Nd}{al:VB}{O:VD Ev}{y:dH}
abbrev keys(y:dH):VD VB:=y.dp.map (·.1)
def TB(d:VB)(b:Tree):Prop:=∀c a,find b c=C a->(0<=a.stat.fj/\a.stat.fj<=d)/\0<=a.stat.aF/\a.stat.aF<=d
theorem TB.more{d e:VB}(f:TB d b)(m:d<=e):TB e b:=λc a g=>by obtain⟨⟨h,i⟩,k,l⟩:=f c a g;omega
theorem TB.put{d:VB}(f:TB d b)(h:Ord b)(m:(0<=a.stat.fj/\a.stat.fj<=d)/\0<=a.stat.aF/\a.stat.aF<=d):TB d (put b c a):=λl i e=>by
 rw[bu h]at e;split at e
 .simp_all
 exact f l i e
theorem TB.drop{a:VB}(d:TB a b)(e:Ord b)(l:0<=a)(c:Path):TB (a+1) (Wt.drop b c):=by
 have hd:∀{b:Tree},Ord b->TB (a+1) b->TB (a+1) (del b c):=λe d k i f=>by
  rw[mE e]at f;split at f
  .cases f
  exact d k i f
 unfold Wt.drop;split
 .exact hd e (d.more (by omega))
 rename_i g h;refine hd (dK e) ((d.more (by omega)).put e ?_);obtain⟨⟨m,n⟩,o,p⟩:=d _ _ h;show(0<=g.stat.fj+1/\g.stat.fj+1<=a+1)/\0<=g.stat.aF/\g.stat.aF<=a+1;omega
theorem Hw{d:VB}{l:Tree}(e:TB d b)(f:WF b)(m:0<=d){k:Op}{aE:VB}{u:B}(g:change b k al aE=.yes l u O):TB (d+1) l:=by
 by_cases i:k.kind=3
 .unfold change at g;rw[VV i]at g;obtain⟨v,y,h,x,w,_,_,_,_,t,_,_,_,_,_,rfl,_,_⟩:=fH g;refine((e.more (by omega)).put f.ord ?_).put (dK f.ord) ?_
  .obtain⟨⟨n,o⟩,p,q⟩:=e _ _ t;show(0<=h.stat.fj+1/\h.stat.fj+1<=d+1)/\0<=h.stat.aF/\h.stat.aF<=d+1;omega
  show((0:VB)<=0/\(0:VB)<=d+1)/\(0:VB)<=0/\(0:VB)<=d+1;omega
 obtain⟨c,a,_,s,_,r⟩:=lr i g;rcases r with⟨_,_,_,rfl,_⟩|⟨_,rfl,_⟩|⟨_,_,rfl,_⟩
 .exact e.drop f.ord m c
 .refine(e.more (by omega)).put f.ord ?_;obtain⟨⟨n,o⟩,p,q⟩:=e _ _ s;show(0<=a.stat.fj/\a.stat.fj<=d+1)/\0<=a.stat.aF+1/\a.stat.aF+1<=d+1;omega
 exact e.more (by omega)
structure Ok(y:dH)(e:E):Prop where
 wf:WF y.tree
 wU:qV (keys y)
 key:∀d∈keys y,0<d/\d<y.next
 kI:1<=y.next/\y.next<=e+1
 xC:y.dp.length<=8
 aE:0<=y.aE/\y.aE<=512*e
 tK:Ap y
 tJ:∀d f,∀g∈y.bR d f,g∈keys y
 KN:TB (512*e) y.tree
theorem qH:∀{b c:VD VB},qV b->qV c->(∀a∈b,a∈c)->b.length<=c.length
 |[],c,_,_,_=>Xg _
 |a::b,[],_,_,d=>absurd (d a (by simp)) (by simp)
 |a::b,s::c,i,m,d=>by
  obtain⟨k,l⟩:=Xq.1 i;obtain⟨n,o⟩:=Xq.1 m
  have:=qH l o λf e=>by
   have r:=k f e;rcases Wo.1 (d f (WU _ e))with p|g
   .exfalso;rcases Wo.1 (d a (by simp))with q|h
    .omega
    have:=n a h;omega
   exact g
  simp_all
theorem Ok.TC{d:E}(a:Ok y d)(b:VI)(c:B):(y.bR b c).length<=8:=by
 have:=qH (a.tK b c) a.wU (a.tJ b c);have e:=a.xC
 grind
theorem Ok.more{f e:E}(d:Ok y f)(g:f<=e):Ok y e where
 wf:=d.wf
 wU:=d.wU
 key:=d.key
 kI:=⟨d.kI.1,by have:=d.kI.2;omega⟩
 xC:=d.xC
 aE:=⟨d.aE.1,by have:=d.aE.2;omega⟩
 tK:=d.tK
 tJ:=d.tJ
 KN:=d.KN.more (by omega)
theorem lC(y:dH)(id:VB):keys (heard y id)=keys y:=by
 unfold keys heard;simp only[Zq];refine VD.map_congr_left λa _=>?_
 grind
theorem Ok.heard{b:E}(a:Ok y b)(id:VB):Ok (Wt.heard y id) b where
 wf:=a.wf
 wU:=by rw[lC];exact a.wU
 key:=by rw[lC];exact a.key
 kI:=a.kI
 xC:=by show(y.dp.map _).length<=8;rw[Ya];exact a.xC
 aE:=a.aE
 tK:=a.tK
 tJ:=by rw[lC];exact a.tJ
 KN:=a.KN
theorem GO(e:VB):∀(O:VD Ev)(y:dH),∃a,(tell e y O).1={y with bR:=a}/\∀b c,a b c=[]\/a b c=y.bR b c
 |[],y=>⟨y.bR,A,λ_ _=>VC A⟩
 |f::O,y=>by
  obtain⟨a,h,g⟩:=GO e O (iS e y f).1;refine⟨a,?_,λb c=>?_⟩
  .simp_all [tell,iS]
  rcases g b c with d|d
  .exact VA d
  rw[d];show(if _ then _ else _)=_\/(if _ then _ else _)=_
  grind
theorem Ok.told{c:E}(a:Ok y c)(b:VB)(O:VD Ev):Ok (tell b y O).1 c:=by
 have d:=vT b O y a.tK;obtain⟨l,h,i⟩:=GO b O y;rw[h]at d⊢
 refine⟨a.wf,a.wU,a.key,a.kI,a.xC,a.aE,d,λe f k m=>?_,a.KN⟩;rcases i e f with g|g
 .simp_all
 refine a.tJ e f k ?_;simp_all
theorem xI(b:VB):∀a:VD VB,(dI b a).length<=a.length+1
 |[]=>by simp[dI]
 |c::a=>by
  unfold dI;split
  .simp
  split
  .simp
  have:=xI b a;simp only[WO];omega
theorem No{a:E}(h:∀e f,(y.bR e f).length<=a)(d:Ev):(toldOf y d).length<=a+a:=by
 have k:∀(c b:VD VB),(b.foldr dI c).length<=b.length+c.length:=λc b=>by
  induction b with
  |nil=>simp
  |cons g b l=>have i:=xI g (b.foldr dI c);simp only[J_,WO];omega
 unfold toldOf
 grind
theorem Cy(a:VB):∀(O:VD Ev)(y:dH),(∀b c,(y.bR b c).length<=8)->(tell a y O).2.length<=16*O.length
 |[],y,_=>Wl 0
 |d::O,y,e=>by
  have f:=No e d
  have g:=Cy a O (iS a y d).1 λb c=>by
   show(if _ then _ else _:VD VB).length<=8;split
   .exact Xg _
   exact e b c
  grind [iS,tell]
theorem Ok.add{e:E}(a:Ok y e){id:VB}(hid:known y id=J)(f:VI)(g:B):Ok (dB y id f g) e:=by
 refine⟨a.wf,a.wU,a.key,a.kI,a.xC,a.aE,λc d=>?_,λc d k i=>?_,a.KN⟩
 .show qV (if _ then _ else _);split
  .exact qG _ (a.tK _ _)
  exact a.tK _ _
 have b:k∈(if c=f/\d=g then dI id (y.bR c d)else y.bR c d):=i;split at b
 .rcases(mM _ _).1 b with h|b
  .rw[h];exact gQ.1 hid
  exact a.tJ _ _ _ b
 exact a.tJ _ _ _ b
theorem Ok.eU{c:E}(d:Ok y c)(g:VB)(a:eK)(f:CZ):Ok (Wt.eU y g a f).1 c:=by
 unfold Wt.eU;split
 .exact d
 rename_i h
 have e:known (Wt.heard y a.al) a.al=J:=by rw[gQ];show a.al∈keys (Wt.heard y a.al);simp_all [lC,gQ]
 have b:=d.heard a.al;split
 .split
  .simp only;split
   .exact b.add e _ _
   exact b
  exact b
 simp only;split
 .exact b.add e _ _
 exact b
theorem Ok.write{f:E}(g:Ok y f)(h:VB){r:eK}(l:r.op.kind≠2)(m:r.op.kind≠7):Ok (Wt.write y h r).1 (f+1)/\(Wt.write y h r).2.length<=33:=by
 have d:Ok {y with aE:=y.aE+1} (f+1):=by have:=g.more (YC f);exact⟨this.wf,this.wU,this.key,this.kI,this.xC,by have:=g.aE;grind,this.tK,this.tJ,this.KN⟩
 unfold Wt.write;rw[VK l];simp only;rw[VK m];cases e:change y.tree r.op r.al (y.aE+1)with
 |no o=>simp_all
 |yes b c O=>
  have i:Ok {y with aE:=y.aE+1,tree:=b} (f+1):=⟨rB g.wf e,d.wU,d.key,d.kI,d.xC,d.aE,d.tK,d.tJ,(Hw g.KN g.wf (by omega) e).more (by omega)⟩;have p:=Cy h O {y with aE:=y.aE+1,tree:=b} i.TC;have q:O.length<=2:=by
   by_cases k:r.op.kind=3
   .unfold change at e;rw[VV k]at e;obtain⟨_,_,_,_,_,_,_,_,_,_,_,_,_,_,_,_,_,rfl⟩:=fH e;simp
   obtain⟨_,_,_,_,_,n⟩:=lr k e;rcases n with⟨_,_,_,_,rfl⟩|⟨_,_,rfl⟩|⟨_,_,_,rfl⟩<;>simp[jX]
  simp only;split<;>exact⟨i.told h O,by grind⟩
theorem Ok.step{y:dH}{f:E}(d:Ok y f)(h:VB){e:eK}(o:e.op.kind≠2)(p:e.op.kind≠7)(w:e.op.kind≠11):Ok (Wt.step y h e).1 (f+1)/\(Wt.step y h e).2.length<=33:=by
 have s:=d.more (YC f);unfold Wt.step;split
 .simp_all
 .split
  .rename_i z;refine⟨?_,by simp⟩;have x:=d.key;refine⟨d.wf,?_,λg r=>?_,?_,?_,?_,d.tK,λg u m t=>?_,s.KN⟩
   .show qV ((y.dp++[(y.next,y.now)]).map (·.1));rw[YQ];refine V_.2 ⟨d.wU,by simp,λn q v k=>?_⟩;simp only[XE,XO,Xi]at k;subst k;exact(d.key n q).2
   .have l:g∈(y.dp++[(y.next,y.now)]).map (·.1):=r;rw[YQ,WL]at l;show 0<g/\g<y.next+1;rcases l with i|i
    .have:=d.key g i;omega
    simp only[XE,XO,Xi]at i;have:=d.kI;omega
   .have:=d.kI;show 1<=y.next+1/\y.next+1<=((f+1:E):VB)+1;omega
   .show(y.dp++[(y.next,y.now)]).length<=8;rw[WI,ZA];omega
   .have:=d.aE;show 0<=y.aE+1/\y.aE+1<=512*((f+1:E):VB);omega
   show m∈(y.dp++[(y.next,y.now)]).map (·.1);rw[YQ];exact Yj _ (d.tJ g u m t)
  simp_all
 .grind [task]
 .split
  .simp_all
  exact(d.heard e.al).write h o p
 exact⟨(d.eU h e _).more (YC f),by simp⟩
end Wt
