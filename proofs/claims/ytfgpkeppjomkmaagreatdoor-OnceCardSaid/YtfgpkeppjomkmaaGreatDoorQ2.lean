/- Proved here: parts of the proof of the claimed theorem, no conditions; the last text states it -/
import Derived.Test.YtfgpkeppjomkmaaGreatDoorProg
import Derived.Test.YtfgpkeppjomkmaaGreatDoorQ1
set_option linter.all false
set_option maxRecDepth 100000
set_option maxHeartbeats 16000000
open _root_ renaming rfl->A,Nat->E,List->Xg,Int->Xj,Array->Xk,Bool->Xo,Option->Xp,if_neg->Xx,ByteArray->XB,if_pos->XC
open Option renaming some->C,none->F
open Go renaming undef->I,World->M,Value->Xe,TypeId->Xq,Frame->Xr,Goroutine->Xt,Act->Xu,Addr->Xw,Program->Xy,Sem->Xz,Trace->XD,Event->XF,Code->XG,MapEntry->XH,FuncId->XI,Operand->XJ
open Bool renaming true->J,false->Xf
open Go.Lib renaming hid->Xl
open Go.MemOp renaming ofEvents->XE
open Go.Op renaming operands->XK
open Go.MemAct renaming ofEvent->XM
open Go.IntKind renaming i64->K
open Go.Value renaming int->Xd,slice->Xm,pointer->XA
open Or renaming inl->Xh,inr->Xi
open Go.Obj renaming cells->Xn
open Go.Ending renaming returned->Xs
open Go.Item renaming inRegion->Xv
namespace Go.Sv
open Go.MapKept Go.Proofs Go.RowKit Go.Lib Go.WideShapes Go.Sort Go.Sim Wt
variable{P:Xy}{S:Xk XH}{w:M}{s:E}{h:E}{m:E}
structure Et(P:Xy)(b:Xq)(N:Xe->Prop):Prop where
 TX:∀a(w:M) em,N a->(Instr.checkKey em 10000 b a).run P w=.ok () w
 Vw:∀a(w:M) c,N a->(∀i∈c,N i.key)->((Instr.findKey b a c).run P w=.ok F w/\∀i∈c,i.key≠a)\/∃j g,(Instr.findKey b a c).run P w=.ok (C (j,g.val)) w/\c[j]?=C g/\g.key=a
 same:∀a,N a->Instr.sameBits 10000 a a=J
structure Mp(N:Xe->Prop)(S:Xk XH)(d:E)(e:Xe->Xp Xe):Prop where
 st:Stamped S d
 key:∀a∈S.toList,N a.key/\e a.key=C a.val
 all:∀c g,e c=C g->∃a∈S.toList,a.key=c
abbrev xW(w:M)(a:E)(b:Obj):M:={w with heap:=w.heap.setIfInBounds a b}
theorem MX{b:Xq}(i:P.underlying b=C (.int K)):Et P b λa=>∃c,a=Xd K c where
 TX:=λa w em⟨c,d⟩=>F_ i (by subst d;exact A) em 9999
 Vw:=λa w l⟨c,d⟩ h=>by
  rcases findNow_spec (d:=.int K) (k:=a) (by subst d;exact A) l 0 (λm k=>by obtain⟨s,e⟩:=h m k;rw[e];exact A)with⟨f,g⟩|⟨j,o,f,g,p⟩
  .simp_all [R_]
  grind [run_findKey]
 same:=λa⟨c,d⟩=>by subst d;show((IntKind.i64==IntKind.i64)&&(c==c))=J;simp
section
variable{mt b f:Xq}{N:Xe->Prop}{d:E}{e:Xe->Xp Xe}{n:Xe}
theorem Mp.find(f:Mp N S d e)(k:Et P b N){a:Xe}(m:N a)(w:M):
 (e a=F/\(Instr.findKey b a S.toList).run P w=.ok F w/\∀h∈S.toList,h.key≠a)\/∃j c,e a=C c.val/\(Instr.findKey b a S.toList).run P w=.ok (C (j,c.val)) w/\S.toList[j]?=C c/\c.key=a:=by
 rcases k.Vw a w S.toList m (λh n=>(f.key h n).1)with⟨i,g⟩|⟨j,c,i,g,p⟩
 .left;refine⟨?_,i,g⟩;cases l:e a with
  |none=>rfl
  |some o=>obtain⟨c,q,r⟩:=f.all a o l;simp_all
 right;have:=(f.key c (Yj g)).2
 grind
theorem Mp.get(r:Mp N S d e)(g:Et P b N)(q:P.underlying mt=C (.map b f))(t:(zeroValue f).run P w=.ok n w)(p:w.heap[s]?=C (.map S d)){k:Xe}(o:N k)(ok:Xo):
 (Instr.lookup mt (.map (C s)) k ok).run P w=.ok (if ok then .tuple #[(e k).getD n,.bool (e k).isSome]else(e k).getD n) w:=by
 have l:=g.TX k w S.isEmpty o;rcases r.find g o w with⟨a,c,_⟩|⟨j,u,a,c,_⟩
 .simp[Instr.lookup,YL q,YD p,l,c,Result.andThen,t,a]
 simp[Instr.lookup,YL q,YD p,l,c,Result.andThen,a]
theorem Cf(e:Stamped S d){a b:XH}(f:S.toList[h]?=C a)(g:S.toList[m]?=C b)(c:a.key=b.key):h=m:=by obtain⟨i,rfl⟩:=YH.1 f;obtain⟨k,rfl⟩:=YH.1 g;exact(Xg.getElem_inj (i:=h) (j:=m) (h₀:=by grind) (h₁:=by grind) e.2.2).1 (by simpa using c)
theorem Mp.put(l:Mp N S d e)(z:Et P b N)(Y:P.underlying mt=C (.map b f))(x:w.heap[s]?=C (.map S d)){k:Xe}(O:N k)(v:Xe){g:Xe->Xp Xe}(a7:g k=C v)(u:∀a,a≠k->g a=e a):
 ∃U T,(Instr.mapUpdate mt (.map (C s)) k v).run P w=.ok () (xW w s (.map U T))/\Mp N U T g:=by
 have W:=z.TX k w Xf O;rcases l.find z O w with⟨a1,H,p⟩|⟨j,i,a1,H,p,t⟩
 .refine⟨S.push ⟨k,v,d⟩,d+1,?_,stamped_push l.st p,λa c=>?_,λa D c=>?_⟩
  .simp[Instr.mapUpdate,YL Y,YD x,W,H,Result.andThen,Zq _ x]
  .simp only[G',YC,YI]at c;rcases c with c|rfl
   .obtain⟨Q,R⟩:=l.key a c;refine⟨Q,?_⟩;rw[u _ (p a c)];exact R
   simp_all
  by_cases i:a=k
  .simp_all
  rw[u _ i]at c;obtain⟨y,Z,a8⟩:=l.all a D c
  grind
 have X:S[j]?=C i:=by simp_all
 have a3:(Instr.keyThatStays (((S[j]?).map (·.key)).getD k) k).run P w=.ok k w:=by rw[X];show(Instr.keyThatStays i.key k).run P w=.ok k w;rw[t];unfold Instr.keyThatStays;rw[XC (z.same k O)];rfl
 refine⟨S.modify j λi=>{i with key:=k,val:=v},d,?_,stamped_modify l.st j _ (λ_ _=>rfl) (λr _ L=>by simp_all),λa c=>?_,λa D c=>?_⟩
 .simp[Instr.mapUpdate,YL Y,YD x,W,H,a3,Result.andThen,Zq _ x]
 .obtain⟨b0,q⟩:=k_.1 c;rw[ZS,Zf]at q;split at q
  .grind
  rename_i a2;rw[<-ZS]at q;obtain⟨Q,R⟩:=l.key a (Yj q);refine⟨Q,?_⟩;rw[u _ (λa0=>a2 (Cf l.st p q (by rw[t,a0])))];exact R
 have:∃y∈S.toList,y.key=a:=by
  by_cases r:a=k
  .exact⟨i,Yj p,by rw[t,r]⟩
  rw[u _ r]at c;exact l.all a D c
 obtain⟨y,Z,a4⟩:=this;have a9:=modify_keys (es:=S) j (λi=>{i with key:=k,val:=v}) (λr L=>by rw[X]at L;cases L;exact t.symm);have:=YB.2 ⟨y,Z,a4⟩
 grind
theorem Mp.del(i:Mp N S d e)(u:Et P b N)(H:P.underlying mt=C (.map b f))(o:w.heap[s]?=C (.map S d)){k:Xe}(D:N k)(a0:Xq){g:Xe->Xp Xe}(a3:g k=F)(l:∀a,a≠k->g a=e a):
 ∃v,(Builtin.delete_ #[mt,b] a0 #[.map (C s),k]).run P w=.ok (.tuple #[]) (xW w s (.map v d))/\Mp N v d g:=by
 have x:=u.TX k w S.isEmpty D;rcases i.find u D w with⟨Q,q,r⟩|⟨j,a2,Q,q,r,R⟩
 .refine⟨S,?_,i.st,λa c=>?_,λa L c=>?_⟩
  .simp[Builtin.delete_,YL H,YD o,x,q,Result.andThen,Zq _ o]
  .rw[l _ (r a c)];exact i.key a c
  by_cases p:a=k
  .simp_all
  rw[l _ p]at c;exact i.all a L c
 have z:j<S.size:=by grind
 have U:∀a∈(S.eraseIdxIfInBounds j).toList,a∈S.toList/\a.key≠k:=λa c=>by rw[Xk.eraseIdxIfInBounds,abi z,l_]at c;refine⟨aaw c,λt=>?_⟩;obtain⟨X,T,y⟩:=N'.1 c;exact T (Cf i.st y r (by rw[t,R]))
 refine⟨S.eraseIdxIfInBounds j,?_,stamped_erase i.st j,λa c=>?_,λa O c=>?_⟩
 .simp[Builtin.delete_,YL H,YD o,x,q,Result.andThen,Zq _ o]
 .obtain⟨Y,Z⟩:=U a c;rw[l _ Z];exact i.key a Y
 by_cases p:a=k
 .simp_all
 rw[l _ p]at c;obtain⟨a1,W,t⟩:=i.all a O c;refine⟨a1,?_,t⟩;obtain⟨X,y⟩:=k_.1 W;rw[Xk.eraseIdxIfInBounds,abi z,l_]
 grind [List.mem_eraseIdx_iff_getElem?]
theorem Od(c:P.underlying mt=C (.map b f))(a:w.heap[s]?=C (.map S d))(e:Xq):(Builtin.len_ #[mt] e #[.map (C s)]).run P w=.ok (Xd K S.size) w:=by simp[Builtin.len_,YL c,YD a,Result.andThen];rfl
theorem Mp.size(c:Mp N S d e){l:Xg Xe}(p:l.Nodup)(i:∀a,a∈l↔(e a).isSome=J):S.size=l.length:=by
 have k:(S.toList.map (·.key)).Perm l:=by
  refine(aak c.st.2.2 p).2 λa=>?_;rw[i,YB];constructor
  .rintro⟨g,o,rfl⟩;rw[(c.key g o).2];rfl
  intro q;obtain⟨t,r⟩:=XR.1 q;exact c.all a t r
 have:=k.length_eq;simp_all
end
end Go.Sv
namespace Go.Proofs
open Go.Shelf Go.RowKit Go.Maps Go.Sort
theorem va{P:Xy}{b:XI}{B a:Func}(d:P.funcs[b]?=C a)(e:(a.name== "runtime.NumGoroutine")=Xf)(c:a={B with name:=a.name}):Bears P b B:=⟨a.name,e,d.trans (YU C c)⟩
def Tryz.tu:Go.Shelf.Ren:=⟨λ|156=>218|165=>238|166=>239|169=>240|240=>253|241=>254|276=>262|277=>263|a=>a,λ|31=>35|9=>9|3=>3|4=>4|0=>0|20=>20|72=>366|76=>367|70=>364|37=>249|75=>65|127=>372|164=>202|5=>5|80=>276|a=>a,λ|a=>a⟩
theorem Tryz.Hq:Go.Proofs.Lays.n156 Tryz.prog Tryz.tu:=by constructor<;>intros<;>first|kernel_rfl|decide
theorem Tryz.jT:Builder.Extra Tryz.prog Tryz.tu:=by constructor<;>intros<;>first|kernel_rfl|decide|(constructor<;>intros<;>kernel_rfl)
theorem Tryz.strings_Join_none(b:Xp Xw)(c:E)(d:XB)(a:M):
 Calls Tryz.prog 218 #[.slice b 0 c,.string d] a λe f=>e=Xs (.string ⟨#[]⟩)/\f=a:=Any.strings_Join_none Tryz.Hq Tryz.jT b c d a
theorem Tryz.strings_Join(c f e:E)(a:Xg XB)(d:XB)(b:M)(m:∀(j:E) g,a[j]?=C g->b.cell? ⟨c,f+j,F⟩=C (.string g))(k:c<b.heap.size)(i:a.length<=140737488355328)(l:a.length<=e)(n:(Lib.join (a.map (·.data.toList)) d.data.toList).length<=140737488355328):
 Calls Tryz.prog 218 #[Xm (C ⟨c,f,F⟩) a.length e,.string d] b λh o=>h=Xs (.string ⟨(Lib.join (a.map (·.data.toList)) d.data.toList).toArray⟩)/\Below b.heap.size b o:=Any.strings_Join Tryz.Hq Tryz.jT c f e a d b m k i l n
def Tryz.Cm:Go.Shelf.Ren:=⟨λ|103=>128|210=>166|206=>200|a=>a,λ|9=>9|4=>4|24=>246|3=>3|a=>a,λ|a=>a⟩
theorem Tryz.PR:Go.Proofs.Lays.n103 Tryz.prog Tryz.Cm:=by constructor<;>intros<;>first|kernel_rfl|decide
theorem Tryz.strings_CutPrefix(b a:XB)(c:M):
 Calls Tryz.prog 128 #[.string b,.string a] c λd e=>d=Xs (.tuple #[.string ⟨(Lib.trimPrefix b.data.toList a.data.toList).toArray⟩,.bool (Lib.hasPrefix b.data.toList a.data.toList)])/\e=c:=Any.strings_CutPrefix Tryz.PR b a c
def Tryz.Ad:Go.Shelf.Ren:=⟨λ|171=>216|243=>237|246=>252|283=>258|284=>259|285=>260|286=>261|129=>146|317=>264|318=>265|319=>266|320=>267|337=>268|338=>269|a=>a,λ|3=>3|9=>9|2=>2|4=>4|171=>379|0=>0|53=>146|37=>249|5=>5|173=>381|212=>386|51=>149|20=>20|213=>387|46=>207|232=>388|233=>389|a=>a,λ|17=>4|18=>5|19=>6|a=>a⟩
theorem Tryz.Nh:Go.Proofs.LaysM.n171 Tryz.prog Tryz.Ad:=by constructor<;>intros<;>first|kernel_rfl|decide|(constructor<;>intros<;>kernel_rfl)
theorem Tryz.strconv_Itoa(a:Xj)(d:-9223372036854775808<=a)(e:a<=9223372036854775807)(b:M)(f:Lib.TabIs Tryz.prog b "internal/strconv.uint64pow10" .u64 Lib.pow10Tab):
 Calls Tryz.prog 216 #[Xd K a] b λc i=>c=Xs (.string ⟨(Lib.itoa a).toArray⟩)/\∃g h,i=grow (b.drewN g) h:=Any.strconv_Itoa Tryz.Nh a d e b f
def Tryz.Cp:Go.Shelf.Ren:=⟨λ|189=>62|125=>107|257=>106|128=>145|129=>146|294=>136|295=>137|296=>138|297=>139|298=>140|299=>141|216=>142|300=>143|301=>144|328=>173|329=>174|330=>175|331=>176|332=>177|215=>178|343=>214|a=>a,λ|28=>61|3=>3|46=>207|0=>0|51=>149|53=>146|4=>4|183=>258|182=>257|131=>229|5=>5|9=>9|218=>299|222=>302|228=>342|229=>343|a=>a,λ|a=>a⟩
theorem Tryz.Hr:Go.Proofs.Lays.n189 Tryz.prog Tryz.Cp:=by constructor<;>intros<;>first|kernel_rfl|decide
theorem Tryz.slices_Sort_int(blk c d:E)(b:Xg Xj)(a:M)(f:Holds (Xe.int K) a blk c b.toArray)(g:blk<a.heap.size)(h:b.length<4611686018427387904):
 Calls Tryz.prog 62 #[Xm (C ⟨blk,c,F⟩) b.length d] a λe l=>e=Xs (.tuple #[])/\∃i k,l=grow (putRow (Xe.int K) (Sort.ahead a i) blk c (b.mergeSort λm n=>decide (m<=n)).toArray) k:=Any.slices_Sort_int Tryz.Hr blk c d b a f g h
def Tryz.Cn:Go.Shelf.Ren:=⟨λ|146=>129|221=>167|268=>201|138=>202|143=>203|195=>228|197=>229|218=>230|219=>231|260=>246|217=>247|225=>248|224=>249|267=>250|266=>256|314=>257|a=>a,λ|9=>9|31=>35|3=>3|4=>4|0=>0|105=>359|21=>21|5=>5|46=>207|119=>373|139=>376|138=>375|146=>377|51=>149|a=>a,λ|1=>1|3=>2|4=>3|a=>a⟩
theorem Tryz.PS:Go.Proofs.Lays.n146 Tryz.prog Tryz.Cn:=by constructor<;>intros<;>first|kernel_rfl|decide
theorem Tryz.strings_Split(a b:XB)(d:Xj)(c:M)(h:a.size<4294967281)(g:c.cell? ⟨1,0,F⟩=C (Xd K d))(f:1<=b.size):
 Calls Tryz.prog 129 #[.string a,.string b] c λe i=>e=Xs (Xm (C ⟨c.heap.size,0,F⟩) (Lib.countB a b+1) (Lib.countB a b+1))/\i=c.alloc (.cells ((Lib.splitB b 0 (Lib.countB a b) a).map Value.string).toArray 9):=Any.strings_Split Tryz.PS (by kernel_rfl) a b d c h g f
def Tryz.xG:Go.Shelf.Ren:=⟨λ|17=>188|a=>a,λ|24=>35|9=>9|3=>3|4=>4|0=>0|a=>a,λ|a=>a⟩
theorem Tryz.yG:Go.Proofs.Lays2.n17 Tryz.prog Tryz.xG:=by constructor<;>intros<;>first|kernel_rfl|decide
theorem Tryz.slices_Reverse_string(blk b d:E)(a:Xg (Xg UInt8))(c:M)(f:Holds encStr c blk b a.toArray)(g:a.length<=9223372036854775807):
 Calls Tryz.prog 188 #[Xm (C ⟨blk,b,F⟩) a.length d] c λe i=>e=Xs (.tuple #[])/\∃h,i=putRow encStr (Sort.ahead c h) blk b a.reverse.toArray:=Any.slices_Reverse_string Tryz.yG blk b d a c f g
theorem Tryz.slices_Reverse_string_empty(b:Xp Xw)(c:E)(a:M):
 Calls Tryz.prog 188 #[.slice b 0 c] a λd e=>d=Xs (.tuple #[])/\e=a:=Any.slices_Reverse_string_empty Tryz.yG b c a
def Tryz.xH:Go.Shelf.Ren:=⟨λ|20=>181|a=>a,λ|22=>61|3=>3|4=>4|0=>0|a=>a,λ|a=>a⟩
theorem Tryz.yH:Go.Proofs.Lays2.n20 Tryz.prog Tryz.xH:=by constructor<;>intros<;>first|kernel_rfl|decide
theorem Tryz.slices_Compact_int(blk b c:E)(a:Xg Xj)(d:M)(f:Holds (Xe.int K) d blk b a.toArray)(h:a.length<=9223372036854775807)(g:a.length<=c):
 Calls Tryz.prog 181 #[Xm (C ⟨blk,b,F⟩) a.length c] d λe k=>e=Xs (Xm (C ⟨blk,b,F⟩) (Lib.compact a).length c)/\∃i,k=putRow (Xe.int K) (Sort.ahead d i) blk b (Lib.compact a++List.replicate (a.length-(Lib.compact a).length) 0).toArray:=Any.slices_Compact_int Tryz.yH blk b c a d f h g
theorem Tryz.slices_Compact_int_empty(a:Xp Xw)(b:E)(c:M):
 Calls Tryz.prog 181 #[.slice a 0 b] c λd e=>d=Xs (.slice a 0 b)/\e=c:=Any.slices_Compact_int_empty Tryz.yH a b c
def Tryz.xI:Go.Shelf.Ren:=⟨λ|25=>134|31=>142|32=>170|37=>178|a=>a,λ|22=>61|3=>3|4=>4|40=>207|0=>0|a=>a,λ|a=>a⟩
theorem Tryz.yI:Go.Proofs.Lays2.n25 Tryz.prog Tryz.xI:=by constructor<;>intros<;>first|kernel_rfl|decide
theorem Tryz.slices_BinarySearch_int(e f a g:E)(b:Xg Xj)(d:Xj)(c:M)(m:a<=b.length)(i:a<4611686018427387904)(k:∀j,j<b.length->c.cell? ⟨e,f+j,F⟩=C (Xd K (b.getD j 0)))(l:(b.take a).Pairwise (·<=·)):
 Calls Tryz.prog 134 #[Xm (C ⟨e,f,F⟩) a g,Xd K d] c λh o=>h=Xs (.tuple #[Xd K ((b.take a).countP (·<d):E),.bool ((b.take a).contains d)])/\∃n,o=c.drewN n:=Any.slices_BinarySearch_int Tryz.yI e f a g b d c m i k l
theorem Tryz.slices_Sort_int_none(c:Xp Xw)(b:E)(a:M):
 Calls Tryz.prog 62 #[.slice c 0 b] a λd e=>d=Xs (.tuple #[])/\e=a:=Any.slices_Sort_int_none Tryz.Hr c b a
theorem Tryz.slices_BinarySearch_int_empty(b:Xp Xw)(c:E)(d:Xj)(a:M):
 Calls Tryz.prog 134 #[.slice b 0 c,Xd K d] a λe f=>e=Xs (.tuple #[Xd K 0,.bool Xf])/\f=a:=Any.slices_BinarySearch_int_empty Tryz.yI b c d a
def Tryz.tv:Go.Shelf.Ren:=⟨λ|21=>135|27=>171|28=>172|35=>213|39=>236|a=>a,λ|22=>61|3=>3|4=>4|0=>0|a=>a,λ|a=>a⟩
theorem Tryz.uu:Go.Proofs.Lays2.n21 Tryz.prog Tryz.tv:=by constructor<;>intros<;>first|kernel_rfl|decide
def Tryz.vO:Go.Shelf.Ren:=⟨λ|7=>98|10=>132|a=>a,λ|23=>188|26=>9|3=>187|28=>218|0=>0|27=>217|33=>250|4=>4|a=>a,λ|a=>a⟩
theorem Tryz.MY:Go.Proofs.SlLaysZ.n7 Tryz.prog Tryz.vO:=by constructor<;>intros<;>first|kernel_rfl|exact va rfl (by decide) (by kernel_rfl)
def Tryz.rC:Go.Shelf.Ren:=⟨λ|6=>97|8=>130|9=>131|11=>168|13=>107|12=>169|23=>145|24=>146|14=>204|15=>205|16=>206|17=>207|18=>208|19=>209|20=>210|21=>211|22=>212|25=>232|26=>174|27=>175|28=>233|29=>234|30=>235|31=>251|a=>a,λ|26=>9|28=>218|24=>35|0=>0|3=>3|37=>207|48=>149|50=>146|4=>4|40=>258|39=>257|45=>229|5=>5|9=>9|51=>299|55=>302|57=>342|58=>343|33=>250|a=>a,λ|a=>a⟩
theorem Tryz.Oo:Go.Proofs.SlLaysZ.n6 Tryz.prog Tryz.rC:=by constructor<;>intros<;>first|kernel_rfl|exact va rfl (by decide) (by kernel_rfl)
def Tryz.DK:Go.Shelf.Ren:=⟨λ|6=>131|8=>107|9=>169|19=>145|20=>146|21=>204|22=>205|23=>206|24=>207|25=>208|26=>209|27=>210|28=>211|29=>212|36=>232|31=>174|32=>175|37=>233|38=>234|39=>235|41=>251|a=>a,λ|27=>35|29=>9|3=>3|32=>207|26=>35|0=>0|44=>149|46=>146|4=>4|36=>258|35=>257|41=>229|5=>5|9=>9|53=>299|57=>302|63=>342|64=>343|a=>a,λ|a=>a⟩
theorem Tryz.Iu:Go.Proofs.SlLaysM.n6 Tryz.prog Tryz.DK:=by constructor<;>intros<;>first|kernel_rfl|exact va rfl (by decide) (by kernel_rfl)
theorem Tryz.QB(f:E):AnyZ.SortsIn Tryz.prog Tryz.rC Fence.wide f:=
 ⟨λblk g b i a c d e=>Zr.2 (AnyM.slices_Sort_string Tryz.Iu blk g b i a c d e),
  λh b a=>Zr.2 (AnyM.slices_Sort_string_none Tryz.Iu h b a)⟩
theorem Tryz.Aj(b:Xp E)(a:M):CallsIn Fence.wide 5 Tryz.prog 98 #[.map b] a λc d=>c=Xs (.func (.func 132) #[] #[XA (C ⟨a.heap.size,0,F⟩)])/\d=a.alloc (.cells #[.map b] 188):=
 AnyZ.keys_in Tryz.MY Fence.wide 5 trivial rfl b a
theorem Tryz.kO{e:Type}(b g:E)(D0:DataW e)(k:Xe->Xp (DataW e×Xg MemPlace))(a:M)(f:a.ownsMap Tryz.prog 9 k b g D0)(s:Maps.size D0<=maxLen)(r:Maps.size D0*16<=140737488355328):
 CallsIn Fence.wide 5 Tryz.prog 97 #[.func (.func 132) #[] #[XA (C ⟨a.heap.size,0,F⟩)]] (a.alloc (.cells #[.map (C b)] 188)) λm h=>∃(d:Xe)(c:Xg (Xg UInt8)),m=Xs d/\c.Perm (strKeys D0)/\
  h.ownsRow (a.alloc (.cells #[.map (C b)] 188)).heap.size 9 1 d c.length ((c.mergeSort (λv w=>decide (v<=w))).map encStr)/\(d=Xm F 0 0↔c=[])/\Below (a.alloc (.cells #[.map (C b)] 188)).heap.size (a.alloc (.cells #[.map (C b)] 188)) h:=by
 have q:=f.lt
 have u:SeqGives Fence.wide 2 Tryz.prog 132 #[XA (C ⟨a.heap.size,0,F⟩)] encStr (λc=>c.Perm (strKeys D0)) (Maps.size D0) (a.alloc (.cells #[.map (C b)] 188)):=
  AnyZ.keys_gives (ρ:=Tryz.vO) {Tryz.MY with} Fence.wide _ trivial rfl (by omega) a.heap.size b g D0 _ (by simp) (by simp) (by
   obtain⟨n,l,p,i,t,o⟩:=f
   exact⟨n,l,(XQ _ _ b q).trans p,i,t,o⟩)
 exact AnyZ.sorted_in Tryz.Oo Fence.wide 5 trivial trivial trivial trivial rfl (by omega) (Tryz.QB _) (enters_of Tryz.func131 (by kernel_rfl) A) 132 #[XA (C ⟨a.heap.size,0,F⟩)] trivial (enters_of Tryz.func132 (by kernel_rfl) A) _ _ s r _ u
end Go.Proofs
namespace Wt
abbrev B:=Xg UInt8
abbrev Path:=Xg B
structure Stat where
 made:Xj:=0
 set:Xj:=0
 aE:Xj:=0
 ez:Xj:=0
 own:Xj:=0
 size:Xj:=0
 kids:Xj:=0
 deriving DecidableEq
structure Nd where
 data:B:=[]
 stat:Stat:={}
 next:Xj:=0
 deriving DecidableEq
abbrev Tree:=Xg (Path×Nd)
def tY(a:UInt8):Xo:=(97<=a&&a<=122)||(65<=a&&a<=90)||(48<=a&&a<=57)||a==95
def cz(a:B):Xo:=decide (1<=a.length)&&decide (a.length<=12)&&a.all tY
def pieces:B->Xg B
 |[]=>[[]]
 |a::b=>if a=47 then[]::pieces b else
  match pieces b with
  |[]=>[[a]]
  |d::c=>(a::d)::c
def split:B->Xp Path
 |47::[]=>C []
 |47::a=>if(pieces a).length<=4/\(pieces a).all cz=J then C (pieces a)else F
 |_=>F
def join(a:Path):B:=47::[47].intercalate a
def three(a:Xj):B:=[48+UInt8.ofNat (a.toNat/100),48+UInt8.ofNat (a.toNat/10%10),48+UInt8.ofNat (a.toNat%10)]
def find:Tree->Path->Xp Nd
 |[],_=>F
 |(c,b)::d,a=>if c=a then C b else find d a
def put:Tree->Path->Nd->Tree
 |[],a,b=>[(a,b)]
 |(c,e)::d,a,b=>if c=a then(a,b)::d else if a<c then(a,b)::(c,e)::d else(c,e)::put d a b
def del(c:Tree)(b:Path):Tree:=c.filter λa=>decide (a.1≠b)
def be(c:Tree)(b:Path):Xg B:=c.filterMap λa=>if a.1≠[]/\a.1.dropLast=b then a.1.getLast? else F
structure Op where
 kind:Xj:=0
 path:B:=[]
 data:B:=[]
 aE:Xj:=0
 flags:Xj:=0
 deriving DecidableEq
abbrev Ev:=Xj×B
inductive UU where
 |no (a:Xj)
 |yes (d:Tree) (c:B) (b:Xg Ev)
def nameOf(b:Xj)(a:B)(c:Xj):B:=if 2<=b then a++three c else a
def mA(a:Nd)(b:Xj):Nd:={a with stat:={a.stat with ez:=a.stat.ez+1,kids:=a.stat.kids+1},next:=if 2<=b then a.next+1 else a.next}
def vw(a:Nd):Nd:={a with stat:={a.stat with ez:=a.stat.ez+1,kids:=a.stat.kids-1}}
def eV(a:Op)(ak aL:Xj):Nd:={data:=a.data,stat:={made:=aL,set:=aL,size:=a.data.length,own:=if a.flags%2=1 then ak else 0}}
def jM(a:Nd)(b:Op)(aL:Xj):Nd:={a with data:=b.data,stat:={a.stat with set:=aL,aE:=a.stat.aE+1,size:=b.data.length}}
def create(e:Tree)(a:Op)(ak aL:Xj):UU:=
 match split a.path with
 |none=>.no 4
 |some []=>.no 4
 |some (f::g)=>
  let c:=(f::g).dropLast
  let d:=(f::g).getLast (by simp)
  if 8<d.length then .no 4
  else if 16<a.data.length then .no 5
  else if a.flags<0\/3<a.flags then .no 6
  else match find e c with
  |none=>.no 7
  |some b=>
   if b.stat.own≠0 then .no 11
   else if 2<=a.flags/\b.next=1000 then .no 12
   else if(find e (c++[nameOf a.flags d b.next])).isSome then .no 8
   else if e.length=60 then .no 13
   else .yes (put (put e c (mA b a.flags)) (c++[nameOf a.flags d b.next]) (eV a ak aL)) (join (c++[nameOf a.flags d b.next])) [(1,join (c++[nameOf a.flags d b.next])),(4,join c)]
def drop(b:Tree)(a:Path):Tree:=
 match find b a.dropLast with
 |none=>del b a
 |some c=>del (put b a.dropLast (vw c)) a
def kq(a:Path):Xg Ev:=[(2,join a),(4,join a.dropLast)]
def change(c:Tree)(a:Op)(ak aL:Xj):UU:=
 if a.kind=3 then create c a ak aL else
 match split a.path with
 |none=>.no 4
 |some b=>
  if a.kind=4/\b=[]then .no 4
  else if a.kind=5/\16<a.data.length then .no 5
  else match find c b with
  |none=>.no 7
  |some d=>
   if a.aE≠-1/\a.aE≠d.stat.aE then .no 9
   else if a.kind=4/\0<d.stat.kids then .no 10
   else if a.kind=4 then .yes (drop c b) a.path (kq b)
   else if a.kind=5 then .yes (put c b (jM d a aL)) a.path [(3,a.path)]
   else .yes c a.path []
structure ew where
 ak:Xj:=0
 op:Op:={}
 watch:Xo:=Xf
 ops:Xg Op:=[]
structure Out where
 ak:Xj:=0
 ev:Xj:=0
 idx:Xj:=0
 err:Xj:=0
 path:B:=[]
 data:B:=[]
 found:Xo:=Xf
 stat:Stat:={}
 names:Xg B:=[]
 results:Xg (Xj×B):=[]
 deriving DecidableEq
structure cN where
 timeout:Xj
 now:Xj:=0
 aL:Xj:=0
 next:Xj:=1
 dE:Xg (Xj×Xj):=[]
 cd:Xo->B->Xg Xj:=λ_ _=>[]
 tree:Tree:=[([],{})]
def known(b:cN)(id:Xj):Xo:=b.dE.any λa=>decide (a.1=id)
def heard(b:cN)(id:Xj):cN:={b with dE:=b.dE.map λa=>if a.1=id then(a.1,b.now)else a}
def dF(a:Xj):Xg Xj->Xg Xj
 |[]=>[a]
 |b::c=>if a<b then a::b::c else if a=b then b::c else b::dF a c
def kx(a:Xj)(b:Xo):Xo:=if b then decide (a=4\/a=2)else decide (a≠4)
def toldOf(b:cN)(a:Ev):Xg Xj:=
 (if kx a.1 J then b.cd J a.2 else[]).foldr dF (if kx a.1 Xf then b.cd Xf a.2 else[])
def lu(e:Xj)(b:cN)(a:Ev):cN×Xg Out:=
 ({b with cd:=λc d=>if kx a.1 c/\d=a.2 then[]else b.cd c d},(toldOf b a).map λf=>{ak:=f,ev:=a.1,idx:=e,path:=a.2})
def tell(b:Xj):cN->Xg Ev->cN×Xg Out
 |a,[]=>(a,[])
 |a,c::d=>
  let (g,e):=lu b a c
  let (h,f):=tell b g d
  (h,e++f)
def Ra:Tree->Xg Path->Tree×Xg Ev
 |a,[]=>(a,[])
 |a,b::d=>
  let (e,c):=Ra (drop a b) d
  (e,kq b++c)
def mine(b:Tree)(id:Xj):Xg Path:=(b.filter λa=>decide (a.2.stat.own=id)).map (·.1)
def Ub(d:Xj)(a:cN)(id:Xj):cN×Xg Out:=
 let b:=Ra a.tree (mine a.tree id)
 tell d {a with aL:=a.aL+1,dE:=a.dE.filter λc=>decide (c.1≠id),cd:=λe f=>(a.cd e f).filter λg=>decide (g≠id),tree:=b.1} b.2
def ends(b:Xj):cN->Xg Xj->cN×Xg Out
 |a,[]=>(a,[])
 |a,id::c=>
  let (f,d):=Ub b a id
  let (g,e):=ends b f c
  (g,d++e)
def late(a:cN):Xg Xj:=(a.dE.filter λb=>decide (a.timeout<a.now-b.2)).map (·.1)
def Hz(ak aL:Xj):Tree->Xg Op->Except (E×Xj) (Tree×Xg B×Xg Ev)
 |b,[]=>.ok (b,[],[])
 |b,g::f=>
  match change b g ak aL with
  |.no a=>.error (0,a)
  |.yes k h c=>
   match Hz ak aL k f with
   |.error (e,a)=>.error (e+1,a)
   |.ok (l,i,d)=>.ok (l,h::i,c++d)
def Tg(c a:E)(b:Xj):Xg (Xj×B):=(Xg.range c).map λj=>(if j<a then 14 else if j=a then b else 15,[])
structure Seen where
 data:B
 stat:Stat
 names:Xg B
inductive Bb where
 |no (a:Xj)
 |yes (b:Seen)
def look(c:Tree)(d:B):Bb:=
 match split d with
 |none=>.no 4
 |some b=>
  match find c b with
  |none=>.no 7
  |some a=>.yes ⟨a.data,a.stat,be c b⟩
def dz(c:cN)(id:Xj)(d:Xo)(e:B):cN:={c with cd:=λa b=>if a=d/\b=e then dF id (c.cd a b)else c.cd a b}
def eN(e:cN)(c:Xj)(a:ew)(i:Bb):cN×Out:=
 if known e a.ak=Xf then(e,{ak:=a.ak,idx:=c,err:=3})else
 let b:=heard e a.ak
 match i with
 |.no g=>
  if g=7/\a.op.kind=9 then(if a.watch then dz b a.ak Xf a.op.path else b,{ak:=a.ak,idx:=c,path:=a.op.path})
  else(b,{ak:=a.ak,idx:=c,err:=g})
 |.yes f=>
  (if a.watch then dz b a.ak (decide (a.op.kind=10)) a.op.path else b,
    {ak:=a.ak,idx:=c,path:=a.op.path,found:=J,stat:=f.stat,data:=if a.op.kind=8 then f.data else[],names:=if a.op.kind=10 then f.names else[]})
def write(f:cN)(a:Xj)(r:ew):cN×Xg Out:=
 if r.op.kind=2 then
  let (b,c):=Ub a f r.ak
  (b,c++[{ak:=r.ak,idx:=a}])
 else
  let b:={f with aL:=f.aL+1}
  if r.op.kind=7 then
   match Hz r.ak b.aL f.tree r.ops with
   |.error (m,g)=>(b,[{ak:=r.ak,idx:=a,err:=g,results:=Tg r.ops.length m g}])
   |.ok (i,o,k)=>
    let (h,c):=tell a {b with tree:=i} k
    (h,c++[{ak:=r.ak,idx:=a,results:=o.map λe=>(0,e)}])
  else
   match change f.tree r.op r.ak b.aL with
   |.no g=>(b,[{ak:=r.ak,idx:=a,err:=g}])
   |.yes i e k=>
    let (h,c):=tell a {b with tree:=i} k
    match look i e with
    |.no _=>(h,c++[{ak:=r.ak,idx:=a,path:=e}])
    |.yes p=>(h,c++[{ak:=r.ak,idx:=a,path:=e,found:=J,stat:=p.stat}])
inductive Task where
 |read
 |write
 |enter
 |clock
 |IL (a:Xj)
 deriving DecidableEq
def task(c:Xj)(a:ew):Task:=
 if 64<=c then .IL 16
 else if a.op.kind=1 then .enter
 else if a.op.kind=11 then .clock
 else if a.op.kind=8\/a.op.kind=9\/a.op.kind=10 then .read
 else if a.op.kind=7 then(if 8<a.ops.length\/(a.ops.any λb=>decide (b.kind<3\/6<b.kind))=J then .IL 2 else .write)
 else if 2<=a.op.kind/\a.op.kind<=6 then .write
 else .IL 2
def step(a:cN)(b:Xj)(r:ew):cN×Xg Out:=
 match task b r with
 |.IL f=>(a,[{ak:=r.ak,idx:=b,err:=f}])
 |.enter=>
  if a.dE.length<8 then({a with aL:=a.aL+1,dE:=a.dE++[(a.next,a.now)],next:=a.next+1},[{ak:=a.next,idx:=b}])
  else(a,[{idx:=b,err:=13}])
 |.clock=>
  let d:={a with now:=a.now+1}
  let (h,l):=ends b d (late d)
  (h,l++[{idx:=b}])
 |.write=>
  if known a r.ak=Xf then(a,[{ak:=r.ak,idx:=b,err:=3}])
  else write (heard a r.ak) b r
 |.read=>
  let (d,g):=eN a b r (look a.tree r.op.path)
  (d,[g])
def handle:cN->Xj->Xg ew->cN×Xg Out
 |a,_,[]=>(a,[])
 |a,b,f::c=>
  let (g,d):=step a b f
  let (h,e):=handle g (b+1) c
  (h,d++e)
def lz(a:Xg Out):Xg Out:=a.filter λb=>decide (b.ev≠0)
theorem aby(a b:Xg Out):lz (a++b)=lz a++lz b:=Xg.filter_append ..
variable{c:Path×Nd}{a:Tree}{b:Path}{d:Nd}
theorem lq{a b c:Path}(d:a<b)(e:b<c):a<c:=Xg.lt_trans d e
theorem ep(a:Path):¬a<a:=Xg.lt_irrefl a
theorem FX{b a:Path}(d:b<a):b≠a:=λc=>ep a (c▸d)
def Ord(a:Tree):Prop:=a.Pairwise λb c=>b.1<c.1
theorem Ar:Ord []:=Xg.Pairwise.nil
theorem gA:Ord (c::a)↔(∀b∈a,c.1<b.1)/\Ord a:=YJ
theorem Ord.tail(b:Ord (c::a)):Ord a:=(gA.1 b).2
theorem Ord.head(b:Ord (c::a)):∀d∈a,c.1<d.1:=(gA.1 b).1
theorem jz:∀{a:Tree}{b:Path}{d:Nd},find a b=C d->(b,d)∈a
 |(g,f)::a,b,d,e=>by
  unfold find at e;split at e
  .rename_i c;cases e;subst c;exact YZ ..
  exact Ym _ (jz e)
theorem fA:∀{a:Tree}{b:Path},find a b=F↔∀e∈a,e.1≠b
 |[],b=>by simp[find]
 |(d,f)::a,b=>by
  unfold find;by_cases c:d=b
  .simp[c]
  simp_all [fA]
theorem iA:∀{a:Tree}{b:Path}{d:Nd},Ord a->(b,d)∈a->find a b=C d
 |(h,g)::a,b,d,f,e=>by
  unfold find;rcases XV.1 e with c|e
  .simp_all
  rw[Xx (FX (f.head _ e))];exact iA f.tail e
theorem Ie:∀{a f:Tree},Ord a->Ord f->(∀b,b∈a↔b∈f)->a=f
 |[],[],_,_,_=>rfl
 |[],b::f,_,_,d=>absurd ((d b).2 (YZ ..)) (by simp)
 |b::a,[],_,_,d=>absurd ((d b).1 (YZ ..)) (by simp)
 |b::a,m::f,g,h,d=>by
  have i:=(d b).1 (YZ ..);have k:=(d m).2 (YZ ..);have c:b=m:=by
   rcases XV.1 i with c|i
   .exact c
   rcases XV.1 k with c|k
   .exact c.symm
   exact absurd (lq (h.head b i) (g.head m k)) (ep _)
  subst c
  congr 1
  refine Ie g.tail h.tail λn=>?_;constructor
  .intro e;rcases XV.1 ((d n).1 (Ym _ e))with c|l
   .subst c;exact absurd (g.head _ e) (ep _)
   exact l
  intro e;rcases XV.1 ((d n).2 (Ym _ e))with c|l
  .subst c;exact absurd (h.head _ e) (ep _)
  exact l
theorem qM:∀{a:Tree}{b:Path}{d:Nd},Ord a->∀f,f∈put a b d↔f=(b,d)\/(f∈a/\f.1≠b)
 |[],b,d,_,f=>by simp[put]
 |(i,l)::a,b,d,g,f=>by
  unfold put;by_cases c:i=b
  .subst c;rw[XC A];simp only[XV];constructor
   .rintro(rfl|e)
    .exact Xh A
    exact Xi ⟨Xi e,λc=>ep _ (c▸g.head _ e)⟩
   grind
  rw[Xx c];by_cases e:b<i
  .rw[XC e];simp only[XV];constructor
   .rintro(rfl|rfl|h)
    .exact Xh A
    .exact Xi ⟨Xh A,c⟩
    exact Xi ⟨Xi h,λk=>ep _ (k▸lq e (g.head _ h))⟩
   grind
  rw[Xx e];rw[XV,qM g.tail,XV]
  grind
theorem fe:∀{a:Tree}{b:Path}{d:Nd},Ord a->Ord (put a b d)
 |[],b,d,_=>gA.2 ⟨by simp,Ar⟩
 |(i,k)::a,b,d,f=>by
  unfold put;by_cases c:i=b
  .subst c;rw[XC A];grind [gA]
  rw[Xx c];by_cases g:b<i
  .rw[XC g];refine gA.2 ⟨λh e=>?_,f⟩;rcases XV.1 e with rfl|e
   .exact g
   exact lq g (f.head h e)
  rw[Xx g];refine gA.2 ⟨λh e=>?_,fe f.tail⟩;rcases(qM f.tail h).1 e with rfl|⟨e,_⟩
  .grind
  exact f.head h e
theorem uw{c:Path×Nd}:c∈del a b↔c∈a/\c.1≠b:=by simp[del]
theorem Ic(c:Ord a):Ord (del a b):=aa8 _ c
theorem ou(c:Ord a):find (put a b d) b=C d:=
 iA (fe c) ((qM c _).2 (Xh A))
theorem vF{e:Path}(i:Ord a)(g:e≠b):find (put a b d) e=find a e:=by
 cases h:find a e with
 |none=>
  rw[fA]at h⊢
  intro k f;rcases(qM i k).1 f with rfl|⟨f,_⟩
  .exactλc=>g c.symm
  grind
 |some l=>grind [iA,fe,qM,jz]
theorem cD{c:Path}(e:Ord a):find (put a b d) c=if c=b then C d else find a c:=by grind [ou,vF]
theorem xC:find (del a b) b=F:=fA.2 λd c=>(uw.1 c).2
theorem vD{c:Path}(f:Ord a)(d:c≠b):find (del a b) c=find a c:=by
 cases e:find a c with
 |none=>grind [fA,uw]
 |some g=>grind [iA,Ic,uw,jz]
theorem vC{c:Path}(d:Ord a):find (del a b) c=if c=b then F else find a c:=by grind [xC,vD]
theorem dc:∀{a:Tree}{b:Path}{d:Nd},Ord a->(find a b).isSome=J->(put a b d).length=a.length
 |[],_,_,_,e=>by grind [find]
 |(h,k)::a,b,d,g,e=>by
  unfold put;by_cases c:h=b
  .simp_all
  rw[Xx c];unfold find at e;rw[Xx c]at e;have f:¬b<h:=by
   intro f;cases i:find a b with
   |none=>simp_all
   |some l=>exact ep _ (lq f (g.head _ (jz i)))
  rw[Xx f];simp[dc g.tail e]
theorem jD:∀{a:Tree}{b:Path}{d:Nd},find a b=F->(put a b d).length=a.length+1
 |[],_,_,_=>rfl
 |(g,f)::a,b,d,e=>by
  unfold find at e;split at e
  .cases e
  rename_i c;unfold put;rw[Xx c];split
  .rfl
  simp[jD e]
theorem pz:∀{a:Tree}{b:Path},Ord a->(find a b).isSome=J->(del a b).length+1=a.length
 |[],_,_,e=>by grind [find]
 |(f,h)::a,b,g,e=>by
  unfold find at e;by_cases c:f=b
  .subst c;have:del a f=a:=by
    unfold del;rw[aac];intro l k;have:=FX (g.head l k);simpa usingλc=>this c.symm
   grind [del]
  rw[Xx c]at e;have i:del ((f,h)::a) b=(f,h)::del a b:=by simp_all [del]
  rw[i,Yl,pz g.tail e];rfl
variable{a:Path}{b:Tree}{c:Nd}
theorem ra:∀{b:Tree}{a:Path}{c:Nd},find b a=F->(put b a c).Perm ((a,c)::b)
 |[],_,_,_=>.refl _
 |(g,f)::b,a,c,d=>by
  unfold find at d;split at d
  .cases d
  rename_i e;unfold put;rw[Xx e];split
  .exact .refl _
  exact((ra d).cons _).trans (.swap ..)
theorem rf:∀{b:Tree}{a:Path}{c:Nd},Ord b->(find b a).isSome=J->(put b a c).map (·.1)=b.map (·.1)
 |[],_,_,_,d=>by grind [find]
 |(h,k)::b,a,c,g,d=>by
  unfold put;by_cases f:h=a
  .simp_all
  rw[Xx f];unfold find at d;rw[Xx f]at d;have e:¬a<h:=by
   intro e;cases i:find b a with
   |none=>simp_all
   |some l=>exact ep _ (lq e (g.head _ (jz i)))
  rw[Xx e];simp[rf g.tail d]
theorem vt:∀{b:Tree}{a:Path}{c:Nd},Ord b->find b a=C c->b.Perm ((a,c)::del b a)
 |(f,g)::b,a,c,h,d=>by
  unfold find at d;by_cases e:f=a
  .subst e;rw[XC A]at d;obtain rfl:g=c:=YF d;have:del b f=b:=by
    unfold del;rw[aac];intro l k;have:=FX (h.head l k);simpa usingλe=>this e.symm
   grind [del]
  rw[Xx e]at d;have i:del ((f,g)::b) a=(f,g)::del b a:=by simp_all [del]
  rw[i];exact((vt h.tail d).cons _).trans (.swap ..)
theorem Bw{c:Type}(a:Xg c)(b:a≠[]):a.dropLast++[a.getLast b]=a:=Z_ b
def iy(a:Path)(b:Path):Xo:=decide (b≠[]/\b.dropLast=a)
theorem nL{b:Path}:iy a b=J↔∃d,b=a++[d]:=by
 unfold iy;rw[YV];constructor
 .rintro⟨c,rfl⟩;exact⟨b.getLast c,(Bw b c).symm⟩
 simp_all
theorem dD(b:Tree)(a:Path):(be b a).length=b.countP λd=>iy a d.1:=by
 unfold be
 induction b with
 |nil=>rfl
 |cons d b h=>
  obtain⟨f,c⟩:=d;rw[Xg.filterMap_cons,d_,<-h];by_cases e:f≠[]/\f.dropLast=a
  .have g:iy a f=J:=decide_eq_true e;simp only[e,g,and_self,Yc,G_,ne_eq];rw[f_ e.1];rfl
  simp_all [iy,Xx]
theorem ei{e:B}:e∈be b a↔(find b (a++[e])).isSome=J:=by
 have h:(find b (a++[e])).isSome=J↔∃c,(a++[e],c)∈b:=by
  rw[Xp.isSome_iff_ne_none,ne_eq,fA];constructor
  .intro d;apply Classical.byContradiction;intro i;exact d λn m g=>i ⟨n.2,by rw[<-g];exact m⟩
  rintro⟨c,l⟩ d;exact d _ l A
 rw[h];unfold be;rw[Xg.mem_filterMap];constructor
 .rintro⟨⟨p,c⟩,k,d⟩;split at d
  .rename_i f;rw[f_ f.1]at d;cases d;obtain⟨o,rfl⟩:=f;refine⟨c,?_⟩;rw[Bw];exact k
  cases d
 grind
theorem RO{b c:B}:a++[b]<a++[c]↔b<c:=by
 induction a with
 |nil=>simp[ZT]
 |cons e a d=>simp_all
theorem fC(f:Ord b):(be b a).Pairwise (·<·):=by
 induction b with
 |nil=>exact Xg.Pairwise.nil
 |cons h b k=>
  obtain⟨g,c⟩:=h;unfold be;rw[Xg.filterMap_cons];split
  .exact k f.tail
  rename_i q e;refine YJ.2 ⟨λo n=>?_,k f.tail⟩;split at e
  .rename_i d;have i:o∈be b a:=n;rw[ei]at i;obtain⟨p,m⟩:=XR.1 i;have:=f.head _ (jz m);simp only at this d;rw[f_ d.1]at e;cases e;have h:g=a++[g.getLast d.1]:=by obtain⟨l,rfl⟩:=d;exact(Bw g l).symm
   grind [RO]
  cases e
theorem lP{d:Path}(h:Ord b)(g:(find b a).isSome=J):(be (put b a c) d).length=(be b d).length:=by
 rw[dD,dD];have f:∀e:Tree,e.countP (λf=>iy d f.1)=(e.map (·.1)).countP (iy d):=λe=>by rw[Xg.countP_map];rfl
 grind [rf]
theorem Ac{d:Path}(e:find b a=F):(be (put b a c) d).length=(be b d).length+if iy d a then 1 else 0:=by rw[dD,dD,(ra e).countP_eq,d_]
theorem Na{d:Path}(f:Ord b)(e:find b a=C c):(be b d).length=(be (del b a) d).length+if iy d a then 1 else 0:=by rw[dD,dD,(vt f e).countP_eq,d_]
structure WF(b:Tree):Prop where
 ord:Ord b
 root:∃c,find b []=C c/\c.stat.own=0
 up:∀a,a≠[]->(find b a).isSome=J->(find b a.dropLast).isSome=J
 kids:∀a c,find b a=C c->c.stat.kids=(be b a).length
 leaf:∀a c,find b a=C c->c.stat.own≠0->c.stat.kids=0
 names:∀a c,find b a=C c->a.length<=4/\∀d∈a,cz d=J
 size:∀a c,find b a=C c->c.stat.size=c.data.length
 len:b.length<=60
 next:∀a c,find b a=C c->0<=c.next/\c.next<=1000
theorem IF:WF [([],{})] where
 ord:=gA.2 ⟨by simp,Ar⟩
 root:=⟨{},by simp[find],A⟩
 up:=λa e b=>by simp_all [find]
 kids:=λa c b=>by grind [find,be]
 leaf:=λa c b d=>by
  unfold find at b;split at b
  .cases b;exact absurd A d
  simp_all [find]
 names:=λa c b=>by simp_all [find]
 size:=λa c b=>by grind [find]
 len:=by simp
 next:=λa c b=>by grind [find]
theorem WF.Uw(h:WF b)(e:find b a=C c)(g:c.stat.kids=0)(d:B):find b (a++[d])=F:=by
 have:=h.kids a c e;rw[g]at this;have i:be b a=[]:=YR.1 (by omega);cases f:find b (a++[d])with
 |none=>rfl
 |some k=>
  have:d∈be b a:=ei.2 (by rw[f];rfl)
  grind
theorem BD(c:a≠[]):a.dropLast≠a:=λb=>by
 have:=YU List.length b
 grind [List.length_eq_zero_iff]
theorem WF.jS(e:WF b){g:Nd}(h:find b a=C c)(s:g.stat.own=c.stat.own)(l:g.stat.kids=c.stat.kids)(t:g.stat.size=g.data.length)(u:0<=g.next/\g.next<=1000):WF (put b a g):=by
 have o:(find b a).isSome=J:=by rw[h];rfl
 have q:∀f,(find (put b a g) f).isSome=(find b f).isSome:=λf=>by rw[cD e.ord];grind
 refine⟨fe e.ord,?_,?_,?_,?_,?_,?_,?_,?_⟩
 .obtain⟨r,v,n⟩:=e.root;rw[cD e.ord]
  grind
 .intro f p m;rw[q]at m⊢;exact e.up f p m
 .intro f i d;rw[lP e.ord o];rw[cD e.ord]at d;split at d
  .rename_i k;subst k;cases d;rw[l];exact e.kids _ _ h
  exact e.kids _ _ d
 .intro f i d n;rw[cD e.ord]at d;split at d
  .cases d;rw[l];exact e.leaf _ _ h (by omega)
  exact e.leaf _ _ d n
 .intro f i d;rw[cD e.ord]at d;split at d
  .rename_i k;subst k;exact e.names _ _ h
  exact e.names _ _ d
 .intro f i d;rw[cD e.ord]at d;split at d
  .simp_all
  exact e.size _ _ d
 .rw[dc e.ord o];exact e.len
 intro f i d;rw[cD e.ord]at d;split at d
 .simp_all
 exact e.next _ _ d
theorem WF.add(f:WF b){d:Path}{i:B}{p h:Nd}(l:find b d=C p)(T:p.stat.own=0)(z:find b (d++[i])=F)(R:b.length<60)(hd:d.length<4)(X:cz i=J)
 (N:h.stat.own=0)(w:h.stat.kids=p.stat.kids+1)(O:h.stat.size=h.data.length)(Q:0<=h.next/\h.next<=1000)(Y:c.stat.kids=0)(Z:c.stat.size=c.data.length)(a0:c.next=0):WF (put (put b d h) (d++[i]) c):=by
 have D:d++[i]≠d:=λg=>by simp at g
 have o:(find b d).isSome=J:=by rw[l];rfl
 have t:Ord (put b d h):=fe f.ord;have r:find (put b d h) (d++[i])=F:=by rw[cD f.ord,Xx D];exact z
 have k:∀e,find (put (put b d h) (d++[i]) c) e=if e=d++[i]then C c else if e=d then C h else find b e:=λe=>by rw[cD t,cD f.ord]
 have x:∀e,(be (put (put b d h) (d++[i]) c) e).length=(be b e).length+if e=d then 1 else 0:=λe=>by
  rw[Ac r,lP f.ord o];by_cases g:e=d
  .simp_all [nL]
  rw[Xx g,Xx];rw[nL];rintro⟨a3,q⟩;simp_all
 have S:be b (d++[i])=[]:=by apply Classical.byContradiction;intro H;obtain⟨a4,L⟩:=Xg.exists_mem_of_ne_nil _ H;have:=f.up _ (by simp) (ei.1 L);simp_all
 refine⟨fe t,?_,?_,?_,?_,?_,?_,?_,?_⟩
 .obtain⟨a2,U,W⟩:=f.root
  grind
 .intro e s m;rw[k]at m;rw[k];by_cases g:e=d++[i]
  .simp_all
  rw[Xx g]at m;by_cases q:e.dropLast=d++[i]
  .simp_all
  rw[Xx q];by_cases u:e.dropLast=d
  .simp_all
  rw[Xx u];split at m
  .rename_i v;subst v;exact f.up _ s o
  exact f.up _ s m
 .intro e n a;rw[x];rw[k]at a;split at a
  .simp_all
  split at a
  .rename_i g;subst g;cases a;rw[XC A,w,f.kids _ _ l];rfl
  rename_i g;rw[Xx g];exact f.kids _ _ a
 .intro e n a y;rw[k]at a;split at a
  .simp_all
  split at a
  .simp_all
  exact f.leaf _ _ a y
 .intro e n a;rw[k]at a;split at a
  .rename_i g;subst g;obtain⟨q1,a1⟩:=f.names _ _ l
   grind
  split at a
  .rename_i g;subst g;exact f.names _ _ l
  exact f.names _ _ a
 .intro e n a;rw[k]at a;split at a
  .simp_all
  split at a
  .simp_all
  exact f.size _ _ a
 .rw[jD r,dc f.ord o];omega
 intro e n a;rw[k]at a;split at a
 .simp_all
 split at a
 .simp_all
 exact f.next _ _ a
theorem WF.gone(f:WF b)(m:a≠[])(p:find b a=C c)(N:c.stat.kids=0):WF (Wt.drop b a):=by
 obtain⟨o,k⟩:=XR.1 (f.up a m (by rw[p];rfl));have R:a≠a.dropLast:=λh=>BD m h.symm;have x:(find b a.dropLast).isSome=J:=by rw[k];rfl
 have y:a.dropLast++[a.getLast m]=a:=Bw a m;have a4:1<=o.stat.kids:=by
  rw[f.kids _ _ k];have:a.getLast m∈be b a.dropLast:=ei.2 (by rw[y,p];rfl)
  grind
 have U:o.stat.own=0:=by apply Classical.byContradiction;intro T;have:=f.leaf _ _ k T;omega
 have w:drop b a=del (put b a.dropLast (vw o)) a:=by simp_all [Wt.drop]
 obtain⟨g,w,X,D,Y,W⟩:∃g:Nd,Wt.drop b a=del (put b a.dropLast g) a/\g.stat.own=0/\g.stat.kids=o.stat.kids-1/\g.stat.size=g.data.length/\0<=g.next/\g.next<=1000:=
  ⟨_,w,U,A,f.size a.dropLast o k,f.next a.dropLast o k⟩
 rw[w];have s:Ord (put b a.dropLast g):=fe f.ord;have z:find (put b a.dropLast g) a=C c:=by rw[cD f.ord,Xx R];exact p
 have i:∀e,find (del (put b a.dropLast g) a) e=if e=a then F else if e=a.dropLast then C g else find b e:=λe=>by rw[vC s,cD f.ord]
 have O:∀e,(be b e).length=(be (del (put b a.dropLast g) a) e).length+if e=a.dropLast then 1 else 0:=λe=>by
  rw[<-lP (c:=g) f.ord x,Na s z]
  congr 1
  by_cases h:e=a.dropLast
  .subst h;rw[XC A,XC (nL.2 ⟨_,y.symm⟩)]
  rw[Xx h,Xx];rw[nL];grind
 refine⟨Ic s,?_,?_,?_,?_,?_,?_,?_,?_⟩
 .obtain⟨a5,a2,a3⟩:=f.root
  grind
 .intro e n l;rw[i]at l;split at l
  .cases l
  rename_i h;rw[i];by_cases t:e.dropLast=a
  .have:e=a++[e.getLast n]:=by subst t;exact(Bw e n).symm
   have S:=f.Uw p N (e.getLast n);rw[<-this]at S;split at l
   .rename_i u;have H:=YU List.length t;have L:=YU List.length u;rw[S_]at H L;have:e.length≠0:=λv=>n (YR.1 v);have:a.length≠0:=λv=>m (YR.1 v);omega
   grind
  rw[Xx t];split
  .rfl
  split at l
  .rename_i u;subst u;exact f.up _ n x
  exact f.up _ n l
 .intro e r d;have q:=O e;rw[i]at d;split at d
  .cases d
  split at d
  .rename_i h;subst h;cases d;rw[XC A]at q;rw[D,f.kids _ _ k,q];omega
  rename_i h;rw[Xx h]at q;rw[f.kids _ _ d,q];simp
 .intro e r d Q;rw[i]at d;split at d
  .cases d
  split at d
  .simp_all
  exact f.leaf _ _ d Q
 .intro e r d;rw[i]at d;split at d
  .cases d
  split at d
  .rename_i h;subst h;exact f.names _ _ k
  exact f.names _ _ d
 .intro e r d;rw[i]at d;split at d
  .cases d
  split at d
  .simp_all
  exact f.size _ _ d
 .have Z:=pz s (b:=a) (by rw[z];rfl);have a0:=dc (d:=g) f.ord x;have a1:=f.len;omega
 intro e r d;rw[i]at d;split at d
 .cases d
 split at d
 .simp_all
 exact f.next _ _ d
variable{S:Xg Ev}
theorem jN{a:B}(c:a≠[]):split (47::a)=if(pieces a).length<=4/\(pieces a).all cz=J then C (pieces a)else F:=by
 cases a with
 |nil=>simp_all
 |cons b a=>rfl
theorem DM{d:B}(b:split d=C a):(d=[47]/\a=[])\/∃c,c≠[]/\d=47::c/\a=pieces c/\a.length<=4/\a.all cz=J:=by
 match d,b with
 |[],b=>cases b
 |[e],b=>
  by_cases f:e=47
  .subst f;cases b;exact Xh ⟨A,A⟩
  simp_all [split]
 |e::h::c,b=>
  by_cases f:e=47
  .subst f;rw[jN (by simp)]at b;split at b
   .rename_i g;cases b;exact Xi ⟨_,by simp,A,A,g.1,g.2⟩
   cases b
  simp_all [split]
theorem rD{c:B}(b:split c=C a):a.length<=4/\∀d∈a,cz d=J:=by
 rcases DM b with⟨_,rfl⟩|⟨g,_,_,_,e,f⟩
 .simp
 simp_all
theorem Ke:∀a:B,pieces a≠[]
 |[]=>by simp[pieces]
 |b::a=>by grind [pieces]
theorem abS:∀(a:B),[47].intercalate (pieces a)=a
 |[]=>by simp[pieces]
 |g::a=>by
  have b:=abS a;unfold pieces;split
  .rename_i e;subst e;cases c:pieces a with
   |nil=>exact absurd c (Ke a)
   |cons f d=>rw[c]at b;rw[aal];rw[b];rfl
  cases c:pieces a with
  |nil=>exact absurd c (Ke a)
  |cons f d=>
   rw[c]at b;cases d with
   |nil=>simpa using b
   |cons h d=>
    rw[aal]at b⊢
    rw[<-b];rfl
theorem ab8{b:B}(c:split b=C a):join a=b:=by
 rcases DM c with⟨rfl,rfl⟩|⟨d,_,rfl,rfl,_,_⟩
 .rfl
 simp[join,abS]
theorem oH(a:B)(c:B)(d:∀b∈a,b≠47):pieces (a++47::c)=a::pieces c:=by
 induction a with
 |nil=>simp[pieces]
 |cons b a e=>simp_all [pieces]
theorem wz(a:B)(c:∀b∈a,b≠47):pieces a=[a]:=by
 induction a with
 |nil=>rfl
 |cons b a d=>simp_all [pieces]
theorem ER:∀a:E,a<10->tY (48+UInt8.ofNat a)=J:=by decide
theorem Gv{a:Xj}(b:0<=a)(c:a<=999):(three a).length=3/\(three a).all tY=J:=by
 refine⟨A,?_⟩;unfold three;simp only[abk,Xg.all_nil,Xo.and_true,Yg]
 grind [ER]
theorem JW{b:B}(c:cz b=J)(f:b.length<=8){a:Xj}(d:0<=a)(e:a<=999):cz (b++three a)=J:=by
 obtain⟨g,h⟩:=Gv d e;unfold cz at c⊢
 simp only[Yg,YV,Xg.all_append,Yw]at c⊢
 grind
theorem gR{e:Op}{ak aL:Xj}{i:Tree}{h:B}(a:create b e ak aL=.yes i h S):
 ∃c d f g,split e.path=C (c::d)/\((c::d).getLast (by simp)).length<=8/\e.data.length<=16/\0<=e.flags/\e.flags<=3/\find b (c::d).dropLast=C f/\f.stat.own=0/\(2<=e.flags->f.next≠1000)/\
  g=nameOf e.flags ((c::d).getLast (by simp)) f.next/\find b ((c::d).dropLast++[g])=F/\b.length≠60/\
  i=put (put b (c::d).dropLast (mA f e.flags)) ((c::d).dropLast++[g]) (eV e ak aL)/\
  h=join ((c::d).dropLast++[g])/\S=[(1,join ((c::d).dropLast++[g])),(4,join (c::d).dropLast)]:=by
 unfold create at a;split at a
 .cases a
 .cases a
 rename_i c d p;simp only at a;split at a
 .cases a
 rename_i s;split at a
 .cases a
 rename_i r;split at a
 .cases a
 rename_i t;split at a
 .cases a
 rename_i f q;split at a
 .cases a
 rename_i o;split at a
 .cases a
 rename_i n;split at a
 .cases a
 rename_i u;split at a
 .cases a
 rename_i m;cases a;refine⟨c,d,f,_,p,by omega,by omega,by omega,by omega,q,by simpa using o,λl k=>n ⟨l,k⟩,A,?_,m,A,A,A⟩;simp_all
theorem nH(d:WF b){f:Op}{ak aL:Xj}{k:Tree}{o:B}(l:create b f ak aL=.yes k o S):WF k:=by
 obtain⟨g,i,c,D,n,r,q,s,t,e,h,x,w,m,v,rfl,_,_⟩:=gR l;obtain⟨H,p⟩:=rD n;obtain⟨y,z⟩:=d.next _ _ e;have u:cz ((g::i).getLast (by simp))=J:=p _ (Xg.getLast_mem _);refine d.add e h m (by have:=d.len;omega) (by grind) ?_ h A (d.size (g::i).dropLast c e) ?_ A rfl rfl
 .grind [nameOf,JW]
 show 0<=(if 2<=f.flags then c.next+1 else c.next)/\(if 2<=f.flags then c.next+1 else c.next)<=1000;omega
theorem ym(d:WF b){k:Op}{ak aL:Xj}{f:Tree}{l:B}(c:change b k ak aL=.yes f l S):WF f:=by
 unfold change at c;split at c
 .exact nH d c
 split at c
 .cases c
 rename_i a o;split at c
 .cases c
 rename_i h;split at c
 .cases c
 split at c
 .cases c
 rename_i i e;split at c
 .cases c
 split at c
 .cases c
 rename_i m;split at c
 .rename_i hd;cases c;have n:=d.kids _ _ e
  exact d.gone (λg=>h ⟨hd,g⟩) e (by omega)
 split at c
 .cases c;exact d.jS e A rfl rfl (d.next a i e)
 simp_all
end Wt
namespace Go.Sv
open Go.MapKept Go.Proofs Go.RowKit Go.Lib Go.WideShapes Go.Sort Go.Sim Wt
variable{b:E}{a:E}{j:E}
noncomputable abbrev TP:Xy:=Tryz.prog
def bs(a:B):XB:=⟨a.toArray⟩
theorem zA(a:B):(bs a).data.toList=a:=A
theorem TV(a:XB):bs a.data.toList=a:=A
theorem cR(a:B):(bs a).size=a.length:=by rfl
theorem zB{a b:B}(c:bs a=bs b):a=b:=by have:=YU (λd=>d.data.toList) c;exact this
theorem Cb{c:B}(e:index c [47]=b):c=c.take b++47::c.drop (b+1)/\∀d∈c.take b,d≠47:=by
 rw[index_one]at e;obtain⟨h,i⟩:=indexByte_some e;refine⟨?_,λd f g=>?_⟩
 .grind [List.take_append_drop,List.drop_eq_getElem_cons]
 obtain⟨a,k,rfl⟩:=Zg.1 f
 grind
theorem MS{d:B}(c:index d [47]=-1):∀b∈d,b≠47:=λb e f=>by rw[index_one]at c;obtain⟨a,g,rfl⟩:=Zg.1 e;exact indexByte_none c a (by simp_all)
theorem oK:∀(c:E)(a:B),a.length<=c->splitK [47] 0 (count a [47]) a=Wt.pieces a
 |c,a,k=>by
  by_cases e:index a [47]=-1
  .rw[count_miss e,wz a (MS e)];rfl
  obtain⟨b,d⟩:∃b:E,index a [47]=b:=⟨(index a [47]).toNat,by have:=index_ge a [47];omega⟩;obtain⟨g,h⟩:=Cb d;rw[count_hit (by simp) d,abn,splitK,Xx (by grind),d];have i:a.length≠0:=λf=>by grind
  cases c with
  |zero=>omega
  |succ c=>
   have l:=oK c (a.drop (b+1)) (by rw[aay];omega)
   grind [oH]
theorem oJ(a:XB):splitB ⟨#[47]⟩ 0 (countB a ⟨#[47]⟩) a=(Wt.pieces a.data.toList).map bs:=by have c:=splitB_data ⟨#[47]⟩ 0 (countB a ⟨#[47]⟩) a;have b:splitK [47] 0 (count a.data.toList [47]) a.data.toList=Wt.pieces a.data.toList:=oK _ _ (XS _);have d:=c.trans b;rw[<-d,aai];exact(Xg.map_id _).symm
theorem xz(a:XB):countB a ⟨#[47]⟩+1=(Wt.pieces a.data.toList).length:=by have:=splitB_all ⟨#[47]⟩ (by decide) 0 (countB a ⟨#[47]⟩) a A;simp_all [oJ]
def TJ(c:Xe)(a:Path)(d:E)(e:M):Prop:=
 (a=[]/\c=Xm F 0 0)\/∃b,c=Xm (C ⟨b,0,F⟩) a.length a.length/\d<=b/\0<a.length/\e.heap[b]?=C (Xn ((a.map bs).map Value.string).toArray 9 (0,0))
def cE(f:XB)(a:M)(b:Ending)(d:M):Prop:=
 Below a.heap.size a d/\match Wt.split f.data.toList with
  |none=>b=Xs (.tuple #[Xm F 0 0,.bool Xf])
  |some e=>∃c,b=Xs (.tuple #[c,.bool J])/\TJ c e a.heap.size d
theorem MN(a:UInt8):tY a=J↔(97<=a.toNat/\a.toNat<=122)\/(65<=a.toNat/\a.toNat<=90)\/(48<=a.toNat/\a.toNat<=57)\/a.toNat=95:=by have c:a=95↔a.toNat=95:=⟨λb=>by rw[b];rfl,λb=>UInt8.toNat_inj.1 b⟩;simp[tY,UInt8.le_iff_toNat_le,c,or_assoc]
theorem lS(a:B):cz a=J↔1<=a.length/\a.length<=12/\∀j,j<a.length->tY (a.getD j 0)=J:=by
 simp only[cz,Yg,YV,Za,and_assoc];refine and_congr Iff.rfl (and_congr Iff.rfl ⟨λb j d=>b _ ?_,λb e c=>?_⟩)
 .simp_all
 obtain⟨j,d,rfl⟩:=Zg.1 c;simp_all
theorem Gn{c:B}{b:Xg B}(e:b=Wt.pieces c)(g:a<b.length)(f:¬cz (b.getD a [])=J)(d:c≠[]):Wt.split (47::c)=F:=by
 rw[jN d,Xx]
 grind
theorem Gp(a:M):Calls TP 95 #[.string ⟨#[47]⟩] a (cE ⟨#[47]⟩ a):=by
 go_enter Tryz.func95,Tryz.ntmps95
 go_wp2
 go_ret2;exact⟨ZP _ _,_,A,Xh ⟨A,A⟩⟩
theorem DN(a:XB)(b:M)(f:(a.toList==[47])=Xf)(g:hasPrefix a.data.toList [47]=Xf)(d:Wt.split a.data.toList=F):Calls TP 95 #[.string a] b (cE a b):=by
 have c:=Xl d;go_enter Tryz.func95,Tryz.ntmps95
 go_wp2_with (go_at_call 128;refine(Tryz.strings_CutPrefix _ _ _).mono ?_;rintro e h⟨rfl,rfl⟩)
 go_ret2;unfold cE;rw[c.out];simp[ZP]
theorem Hd(a:B)(b:M):Calls TP 128 #[.string (bs (47::a)),.string ⟨#[47]⟩] b λc d=>c=Xs (.tuple #[.string (bs a),.bool J])/\b=d:=
 (Tryz.strings_CutPrefix (bs (47::a)) ⟨#[47]⟩ b).mono λc d⟨e,f⟩=>by simp_all [hasPrefix,bs,trimPrefix]
theorem zc(a:B)(f:Xj)(b:M)(i:a.length<2^31)(h:b.cell? ⟨1,0,F⟩=C (Xd K f)):
 Calls TP 129 #[.string (bs a),.string ⟨#[47]⟩] b λc g=>c=Xs (Xm (C ⟨b.heap.size,0,F⟩) (Wt.pieces a).length (Wt.pieces a).length)/\g=b.alloc (.cells (((Wt.pieces a).map bs).map Value.string).toArray 9):=
 (Tryz.strings_Split (bs a) ⟨#[47]⟩ f b (by grind [cR]) h (by decide)).mono λc g⟨d,e⟩=>by rw[xz]at d;rw[oJ]at e;exact⟨d,e⟩
theorem Oc(c:M)(b:Xg B)(d:a<b.length):(c.alloc (.cells ((b.map bs).map Value.string).toArray 9)).cell? ⟨c.heap.size,a,F⟩=C (.string (bs (b.getD a []))):=by simp_all
theorem EG(b:M)(a:XB)(c:E)(d:Xq)(e:E×E)(g:j<a.size):(b.alloc (.cells (bytesRow a c) d e)).cell? ⟨b.heap.size,j,F⟩=C (.int .u8 ((a.data.toList.getD j 0).toNat:Xj)):=by
 have f:(b.alloc (.cells (bytesRow a c) d e)).heap[b.heap.size]?=C (Xn (bytesRow a c) d e):=by show(b.heap.push _)[_]?=_;simp
 simp_all [M.cell?,bytesRow,aam]
theorem Gm(a:B)(i:Xj)(b:M)(p:((bs (47::a)).toList==[47])=Xf)(g:a.length<2^31)(e:b.cell? ⟨1,0,F⟩=C (Xd K i))(c:Xg B)(d:c=Wt.pieces a)(q:4<(c.length:Xj))(h:a≠[]):
 Calls TP 95 #[.string (bs (47::a))] b (cE (bs (47::a)) b):=by
 have c1:=Hd a b;have c2:=zc a i b g e;rw[<-d]at c2
 have f:cE (bs (47::a)) b (Xs (.tuple #[Xm F 0 0,.bool Xf])) (b.alloc (.cells ((c.map bs).map Value.string).toArray 9)):=by refine⟨(ZP _ b).alloc (XS _) _,?_⟩;rw[zA,jN h,<-d,Xx (by omega)]
 have m:=Xl f;have k:=Xl c1;have l:=Xl c2;clear d c1 c2 e g f h;generalize ((c.map bs).map Value.string).toArray=row at*
 go_enter Tryz.func95,Tryz.ntmps95
 go_wp2_with (first|(go_at_call 128;refine k.out.mono ?_;rintro n o⟨rfl,rfl⟩)|(go_at_call 129;refine l.out.mono ?_;rintro n o⟨rfl,rfl⟩))
 go_ret2;exact m.out
theorem Gq(f:B)(a2:Xj)(c:M)(h:((bs (47::f)).toList==[47])=Xf)(Y:f.length<2^31)(U:c.cell? ⟨1,0,F⟩=C (Xd K a2))(e:Xg B)(t:e=Wt.pieces f)(c9:¬4<(e.length:Xj))(Z:f≠[]):
 Calls TP 95 #[.string (bs (47::f))] c (cE (bs (47::f)) c):=by
 have c1:=Hd f c;have c2:=zc f a2 c Y U;rw[<-t]at c2
 have W:∀wr,Below (c.heap.size+1) (c.alloc (.cells ((e.map bs).map Value.string).toArray 9)) wr->∀a,a<e.length->¬cz (e.getD a [])=J->cE (bs (47::f)) c (Xs (.tuple #[Xm F 0 0,.bool Xf])) wr:=λwr i a x y=>by
  refine⟨((ZP _ c).alloc (XS _) _).trans (i.mono (ZN _)),?_⟩
  grind [zA,Gn]
 have a1:∀wr,Below (c.heap.size+1) (c.alloc (.cells ((e.map bs).map Value.string).toArray 9)) wr->(∀j,j<e.length->cz (e.getD j [])=J)->cE (bs (47::f)) c (Xs (.tuple #[Xm (C ⟨c.heap.size,0,F⟩) e.length e.length,.bool J])) wr:=λwr i y=>by
  refine⟨((ZP _ c).alloc (XS _) _).trans (i.mono (ZN _)),?_⟩
  rw[zA,jN Z,<-t,XC ⟨by omega,Za.2 λg p=>by
   obtain⟨j,l,rfl⟩:=Zg.1 p
   simp_all⟩]
  refine⟨_,A,Xi ⟨c.heap.size,A,XS _,?_,?_⟩⟩
  .simp_all [y_,Ke]
  rw[i.block _ (Zx _)];show(c.heap.push _)[_]?=_;simp
 have Q:=λa(x:a<e.length)=>Oc c e x;have s:=Xl W;have a7:=Xl a1;have a3:=Xl c1;have a4:=Xl c2;clear t c1 c2 U Y W a1 Z;generalize bs (47::f)=d4 at*
 generalize bs f=d3 at*
 generalize ((e.map bs).map Value.string).toArray=row at*
 go_enter Tryz.func95,Tryz.ntmps95
 go_wp2_with (first|(go_at_call 128;refine a3.out.mono ?_;rintro o b7⟨rfl,rfl⟩)|(go_at_call 129;refine a4.out.mono ?_;rintro o b7⟨rfl,rfl⟩))
 go_loopw [27] (λb wr=>∃a:E,a<=e.length/\b=Xd K a/\(∀j,j<a->cz (e.getD j [])=J)/\Below (c.heap.size+1) (c.alloc (.cells row 9)) wr) (λb _=>e.length-(Lib.intOf b).toNat)
 case atStart=>exact⟨0,YA _,A,λj l=>absurd l (aaV _),ZP _ _⟩
 case round=>
  obtain⟨a,x,rfl,X,i⟩:=hrel;have L:=Xl X;clear X;have b4:=i.size;have b4:c.heap.size+1<=wr.heap.size:=by simp_all
  by_cases r:a<e.length
  .have v:=Q a r;rw[<-i.cell (p:=⟨c.heap.size,a,F⟩) (by simp)]at v;obtain⟨g,p⟩:∃g,e.getD a []=g:=⟨_,A⟩;rw[p]at v;obtain⟨d,z⟩:∃d,bs g=d:=⟨_,A⟩;rw[z]at v;have a0:d.size=g.length:=by grind [cR]
   have R:d.data.toList=g:=by rw[<-z];rfl
   have q:=Xl p;have m:=Xl a0;have a6:=Xl R;clear z p Q a0 R;by_cases c0:d.size<1
   .go_wp2
    go_ret2;exact s.out _ i a r (λh=>by rw[q.out]at h;have:=((lS g).1 h).1;have:=m.out;omega)
   by_cases c7:12<d.size
   .go_wp2
    go_ret2;exact s.out _ i a r (λh=>by rw[q.out]at h;have:=((lS g).1 h).2.1;have:=m.out;omega)
   have c6:¬(d.size:Xj)<1:=by omega
   have c8:¬(12:Xj)<d.size:=by omega
   have b3:=run_bytes_of_string (P:=TP) wr 9 249 5 d A rfl rfl;generalize grownCap wr d.size 0 5=k at b3;have u:=λj(l:j<d.size)=>EG wr d k 5 ((bytesRow d k).size,(bytesRow d k).size+1) l;have N:Below (c.heap.size+1) (c.alloc (.cells row 9)) (wr.drew.alloc (.cells (bytesRow d k) 5 ((bytesRow d k).size,(bytesRow d k).size+1))):=i.drew.alloc (by simp_all) _;generalize bytesRow d k=b8 at*
   rw[a6.out]at u
   go_wp2
   go_loop [42] (λb=>∃j:E,j<=d.size/\b=Xd K j/\∀b,b<j->tY (g.getD b 0)=J) (λb=>d.size-(Lib.intOf b).toNat)
   case atStart=>exact⟨0,YA _,A,λj l=>absurd l (aaV _)⟩
   case round=>
    obtain⟨j,l,rfl,T⟩:=hrel;have H:=Xl T;clear T;by_cases b1:j<d.size
    .have a9:=u j b1;obtain⟨n,w⟩:∃n,g.getD j 0=n:=⟨_,A⟩;rw[w]at a9;have HC:=Xl w;have S:=MN n;have D:=Xl S;clear w u S;have d0:=n.toNat_lt;generalize n.toNat=b9 at*
     have O:¬tY n=J->¬cz (e.getD a [])=J:=λy h=>by rw[q.out]at h;have:=((lS g).1 h).2.2 j (by have:=m.out;omega);rw[HC.out]at this;exact y this
     have a5:=Xl O;clear O
     go_wp2
     all_goals try simp only[Yg,Xo.not_eq_true',Xo.not_eq_false',decide_eq_false_iff_not,YV,beq_eq_false_iff_ne,ne_eq,aaM]at*
     all_goals first
      |(go_ret2;refine s.out _ N a r (a5.out λh=>?_);have:=D.out.1 h;omega)
      |(go_round
        case rel=>exact⟨j+1,by omega,by go_num,λb b0=>by
         by_cases o:b=j
         .subst o;rw[HC.out];exact D.out.2 (by omega)
         exact H.out b (by omega)⟩
        case measure=>simp[Lib.intOf];omega)
    go_wp2
    go_roundw
    case rel=>exact⟨a+1,by omega,by go_num,λb b0=>by
     by_cases o:b=a
     .subst o;rw[q.out];exact(lS g).2 ⟨by have:=m.out;omega,by have:=m.out;omega,λb5 d1=>H.out b5 (by have:=m.out;omega)⟩
     exact L.out b (by omega),N⟩
    case measure=>simp[Lib.intOf];omega
  have b2:a=e.length:=by omega
  subst b2
  go_wp2
  go_ret2;exact a7.out _ i L.out
theorem nT(a:XB)(g:Xj)(c:M)(q:a.size<2^31)(k:c.cell? ⟨1,0,F⟩=C (Xd K g)):Calls TP 95 #[.string a] c (cE a c):=by
 by_cases e:a=⟨#[47]⟩
 .subst e;exact Gp c
 have f:(a.toList==[47])=Xf:=by rw[Lib.toList_data,beq_eq_false_iff_ne];intro d;exact e (by rw[<-TV a,d];rfl)
 by_cases l:hasPrefix a.data.toList [47]=J
 .obtain⟨b,o⟩:∃b,a.data.toList=47::b:=by
   cases hd:a.data.toList with
   |nil=>simp_all [hasPrefix]
   |cons h b=>simp_all [hasPrefix]
  have m:a=bs (47::b):=by rw[<-o];rfl
  have n:b≠[]:=λd=>e (by rw[m,d];rfl);subst m;have i:b.length<2^31:=by grind [cR]
  by_cases p:4<(Wt.pieces b).length
  .exact Gm b g c f i k _ A (by omega) n
  exact Gq b g c f i k _ A (by omega) n
 refine DN a c f (by simp_all) ?_;cases hd:a.data.toList with
 |nil=>rfl
 |cons h b=>rw[hd]at l;have:h≠47:=λd=>l (by simp[hasPrefix,d]);simp_all [Wt.split]
variable{S:Xk XH}{c:M}{s:E}
abbrev pt(a b:E):Xe:=XA (C ⟨a,b,F⟩)
structure Kids(S:Xk XH)(e:E)(d:B->Xp E):Prop where
 st:Stamped S e
 key:∀f∈S.toList,∃b a,f.key=.string (bs b)/\f.val=pt a 0/\d b=C a
 all:∀b a,d b=C a->∃f∈S.toList,f.key=.string (bs b)
def ud(c:M)(a:E)(b:Obj):M:={c with heap:=c.heap.setIfInBounds a b}
def gU(b:Xp E):Xe:=.pointer (b.map λa=>⟨a,0,F⟩)
section
variable{e:E}{d:B->Xp E}
theorem Kids.isKey(c:Kids S e d):∀b∈S.toList,IsKey .string b.key:=λb g=>by obtain⟨h,a,f,_⟩:=c.key b g;rw[f];trivial
theorem Kids.find(g:Kids S e d)(b:B):(d b=F/\Instr.findNow .string (.string (bs b)) S.toList 0=C F/\∀r∈S.toList,r.key≠.string (bs b))\/
 ∃a j c,d b=C a/\Instr.findNow .string (.string (bs b)) S.toList 0=C (C (j,pt a 0))/\S.toList[j]?=C c/\c.key=.string (bs b):=by
 rcases findNow_spec (d:=.string) (k:=.string (bs b)) trivial S.toList 0 g.isKey with⟨h,f⟩|⟨j,c,h,f,i⟩
 .left;refine⟨?_,h,f⟩;cases m:d b with
  |none=>rfl
  |some a=>obtain⟨c,l,n⟩:=g.all b a m;exact absurd n (f c l)
 right;obtain⟨q,a,k,o,p⟩:=g.key c (Yj f);rw[i]at k;have:b=q:=zB (aaz k);subst this;exact⟨a,j,c,p,by rw[h,o,Zk],f,i⟩
theorem xe:TP.underlying 188=C (.map 9 187):=A
theorem xf:TP.underlying 9=C .string:=A
theorem pP(i:c.heap[s]?=C (.map S e))(k:Kids S e d)(b:B):(Instr.lookup 188 (.map (C s)) (.string (bs b)) Xf).run TP c=.ok (gU (d b)) c:=by
 have l:(zeroValue 187).run TP c=.ok (XA F) c:=A;have h:=F_ (P:=TP) (w:=c) xf (k:=.string (bs b)) trivial S.isEmpty 9999;rcases k.find b with⟨f,g,_⟩|⟨a,j,m,f,g,_⟩
 .simp[Instr.lookup,YL xe,YD i,h,R_ xf g,Result.andThen,l,f,gU]
 simp[Instr.lookup,YL xe,YD i,h,R_ xf g,Result.andThen,f,gU]
theorem Qw(o:c.heap[s]?=C (.map S e))(i:Kids S e d){b:B}(p:d b=F)(a:E):
 (Instr.mapUpdate 188 (.map (C s)) (.string (bs b)) (pt a 0)).run TP c=.ok () (ud c s (.map (S.push ⟨.string (bs b),pt a 0,e⟩) (e+1)))/\Kids (S.push ⟨.string (bs b),pt a 0,e⟩) (e+1) λg=>if g=b then C a else d g:=by
 have r:=F_ (P:=TP) (w:=c) xf (k:=.string (bs b)) trivial Xf 9999;rcases i.find b with⟨l,m,n⟩|⟨k,j,h,l,m,_⟩
 .refine⟨?_,stamped_push i.st n,λg f=>?_,λg k f=>?_⟩
  .simp[Instr.mapUpdate,YL xe,YD o,r,R_ xf m,Result.andThen,Zq _ o,ud]
  .simp only[G',YC,YI]at f;rcases f with f|rfl
   .obtain⟨x,k,q,v,w⟩:=i.key g f;refine⟨x,k,q,v,?_⟩;rw[Xx (λh=>n g f (by rw[q,h]))];exact w
   exact⟨b,a,A,A,XC A⟩
  by_cases h:g=b
  .exact⟨⟨.string (bs b),pt a 0,e⟩,by simp,by rw[h]⟩
  rw[Xx h]at f;obtain⟨y,u,t⟩:=i.all g k f;exact⟨y,by simp[u],t⟩
 rw[l]at p;cases p
theorem Qv(O:c.heap[s]?=C (.map S e))(k:Kids S e d){h:B}(Q:d h=C a)(a3:Xq):
 ∃x,(Builtin.delete_ #[188,9] a3 #[.map (C s),.string (bs h)]).run TP c=.ok (.tuple #[]) (ud c s (.map x e))/\Kids x e λb=>if b=h then F else d b:=by
 have p:=F_ (P:=TP) (w:=c) xf (k:=.string (bs h)) trivial S.isEmpty 9999;rcases k.find h with⟨y,z,n⟩|⟨a5,j,w,y,z,n,o⟩
 .rw[y]at Q;cases Q
 have N:j<S.size:=by have:=(YH.1 n).1;simpa using this
 have W:∀b∈(S.eraseIdxIfInBounds j).toList,b∈S.toList/\b.key≠.string (bs h):=λb f=>by
  rw[Xk.eraseIdxIfInBounds,abi N,l_]at f;refine⟨aaw f,λg=>?_⟩;have U:=k.st.2.2;obtain⟨i,q,rfl⟩:=Zg.1 f;rw[Xg.getElem_eraseIdx]at g;obtain⟨v,H⟩:=YH.1 n
  have L:∀(l m:E)(D:l<S.toList.length)(p:m<S.toList.length),S.toList[l].key=S.toList[m].key->l=m:=λl m D p u=>by have:=(Xg.getElem_inj (i:=l) (j:=m) (h₀:=by simpa using D) (h₁:=by simpa using p) U).1 (by simpa using u);exact this
  rw[Xg.length_eraseIdx_of_lt v]at q;split at g
  .have:=L i j (by omega) v (by rw[g,H,o]);omega
  have:=L (i+1) j (by omega) v (by rw[g,H,o]);omega
 refine⟨S.eraseIdxIfInBounds j,?_,stamped_erase k.st j,λb f=>?_,λb r f=>?_⟩
 .simp[Builtin.delete_,YL xe,YD O,p,R_ xf z,Result.andThen,Zq _ O,ud]
 .obtain⟨a0,a1⟩:=W b f;obtain⟨a2,r,R,Y,Z⟩:=k.key b a0;refine⟨a2,r,R,Y,?_⟩;rw[Xx (λw=>a1 (by rw[R,w]))];exact Z
 by_cases t:b=h
 .rw[XC t]at f;cases f
 rw[Xx t]at f;obtain⟨a4,X,g⟩:=k.all b r f;refine⟨a4,?_,g⟩;obtain⟨i,q,rfl⟩:=Zg.1 X
 have T:i≠j:=λu=>by subst u;rw[Yy q]at n;cases n;rw[g]at o;exact t (zB (aaz o))
 rw[Xk.eraseIdxIfInBounds,abi N,l_];exact Xg.mem_eraseIdx_iff_getElem.2 ⟨i,q,T,A⟩
theorem Gh(a:c.heap[s]?=C (.map S e))(b:Xq):(Builtin.len_ #[188] b #[.map (C s)]).run TP c=.ok (Xd K S.size) c:=by simp[Builtin.len_,YL xe,YD a,Result.andThen];rfl
abbrev om:Xe->Xp (DataW Unit×Xg MemPlace):=λ_=>C (.nil,[])
theorem Kids.fit(c:Kids S e d)(k:S.size<=maxLen)(i:∀b a,d b=C a->b.length<=maxLen):WideElems.Fit TP 9 om S e where
 size:=k
 stamped:=c.st
 reads:=λf l=>by
  obtain⟨b,a,g,m,h⟩:=c.key f l
  have:keyOf TP 9 f.key=C (.string b):=by rw[g];exact aax xf (by rw[cR];exact i b a h)
  exact⟨_,by unfold WideElems.rd;rw[this];rfl⟩
def zo(h:Xe)(b:Xg B)(i:E)(c:M):Prop:=
 (h=Xm F 0 0/\b=[])\/∃a e d,h=Xm (C ⟨a,0,F⟩) b.length e/\i<=a/\b≠[]/\c.heap[a]?=C (Xn d 9 (0,0))/\b.length<=e/\d.size=e/\∀(f:E) g,b[f]?=C g->d[f]?=C (.string (bs g))
theorem MZ(c:M):Calls TP 98 #[.map (C s)] c λa b=>a=Xs (.func (.func 132) #[] #[pt c.heap.size 0])/\b=c.alloc (.cells #[.map (C s)] 188):=
 Zr.1 (Tryz.Aj (C s) c)
theorem Kids.strKeys(n:Kids S e d)(v:∀f a,d f=C a->f.length<=maxLen){names:Xg B}(w:∀f,f∈names↔(d f).isSome=J)(y:names.Pairwise (·<·)):
 names.Perm (Go.strKeys (.map ((S.toList.map (WideElems.rg TP 9 om)).foldr DataW.insert []))):=by
 have t:(Go.strKeys (H:=Unit) (.map ((S.toList.map (WideElems.rg TP 9 om)).foldr DataW.insert []))).Perm (S.toList.map λb=>strOf (WideElems.rg TP 9 om b).1):=by show(Xg.map _ _).Perm _;have:=(sorted_perm (S.toList.map (WideElems.rg TP 9 om))).map λL=>strOf L.1;rwa [aai]at this
 have m:∀b∈S.toList,∃f a,b.key=.string (bs f)/\strOf (WideElems.rg TP 9 om b).1=f/\d f=C a:=λb g=>by
  obtain⟨f,a,h,i,k⟩:=n.key b g;refine⟨f,a,h,?_,k⟩
  have:keyOf TP 9 b.key=C (.string f):=by rw[h];exact aax xf (by rw[cR];exact v f a k)
  unfold WideElems.rg WideElems.rd;rw[this];rfl
 refine Xg.Perm.trans ?_ t.symm;refine(aak (y.imp λ{o a} l(b:o=a)=>Xg.lt_irrefl a (b▸l)) ?_).2 λf=>?_
 .refine Xg.pairwise_map.2 ((Xg.pairwise_map.1 n.st.2.2).imp_of_mem λ{o a} u p x b=>x ?_);obtain⟨r,_,h,i,_⟩:=m o u;obtain⟨N,_,k,D,_⟩:=m a p;rw[i,D]at b;rw[h,k,b]
 rw[w f];constructor
 .intro l;obtain⟨a,p⟩:=XR.1 l;obtain⟨b,g,q⟩:=n.all f a p;obtain⟨r,_,h,i,_⟩:=m b g;rw[h]at q;exact YB.2 ⟨b,g,by rw[i];exact zB (aaz q)⟩
 intro l;obtain⟨b,g,z⟩:=YB.1 l;obtain⟨r,a,_,i,k⟩:=m b g;rw[<-z,i,k];rfl
theorem DL(R:c.heap[s]?=C (.map S e))(o:Kids S e d)(a4:S.size<=2^20)(u:∀g a,d g=C a->g.length<=maxLen){b:Xg B}(T:∀g,g∈b↔(d g).isSome=J)(w:b.Pairwise (·<·)):
 Calls TP 97 #[.func (.func 132) #[] #[pt c.heap.size 0]] (c.alloc (.cells #[.map (C s)] 188)) λf n=>∃h,f=Xs h/\zo h b (c.heap.size+1) n/\Below (c.heap.size+1) (c.alloc (.cells #[.map (C s)] 188)) n:=by
 have v:S.size<=maxLen:=by unfold maxLen;omega
 have q:Maps.size (DataW.map ((S.toList.map (WideElems.rg TP 9 om)).foldr DataW.insert []))=S.size:=by rw[Maps.size_eq,length_sorted];simp
 have W:c.ownsMap TP 9 om s S.size (.map ((S.toList.map (WideElems.rg TP 9 om)).foldr DataW.insert [])):=⟨S,e,R,o.fit v u,XS _,A⟩;refine(Zr.1 (Tryz.kO s S.size _ om c W (by rw[q];exact v) (by rw[q];omega))).mono ?_;rintro f n⟨h,m,rfl,X,k,U,r⟩;have Z:(c.alloc (.cells #[.map (C s)] 188)).heap.size=c.heap.size+1:=by show(c.heap.push _).size=_;simp
 rw[Z]at k r;have i:m.Perm b:=X.trans (o.strKeys u T w).symm
 have Y:m.mergeSort (λa0 a1=>decide (a0<=a1))=b:=by rw[mergeSort_of_perm i];exact Xg.mergeSort_of_pairwise (w.imp λz=>by simpa[leB]using Xg.le_of_lt z)
 rw[Y,i.length_eq]at k;refine⟨h,A,?_,r⟩;rcases k.2 with⟨rfl,D⟩|⟨y,x,p,rfl,H,L,N,a2,O,Q⟩
 .exact Xh ⟨A,ZE D⟩
 refine Xi ⟨y,x,p,A,H,λf=>?_,L,N,by simpa using O,λl g t=>?_⟩
 .subst f;have:m=[]:=Xg.Perm.eq_nil i;have:=U.2 this;cases this
 have a3:l<b.length:=(YH.1 t).1;have f:(p.toList.take (b.length*1))[l]?=(b.map encStr)[l]?:=by rw[Q]
 rw[ZQ,XC (by omega),o_,t]at f;simpa[encStr,bs]using f
end
variable{e:M}{g:E}{h:Xe}{c:Tree}{O:E}{a:Path}{i:M}
def vZ(a:Path):B:=a.getLastD []
def cU(a:Path)(b:Nd)(c f:E):Xk Xe:=
 #[.string (bs (vZ a)),.string (bs b.data),Xd K b.stat.made,Xd K b.stat.set,Xd K b.stat.aE,Xd K b.stat.ez,Xd K b.stat.own,Xd K b.stat.size,Xd K b.stat.kids,Xd K b.next,
   .pointer (if a=[]then F else C ⟨c,0,F⟩),.map (C f)]
def bX(c:Tree)(d:Path->E)(a:Path)(b:B):Xp E:=if(Wt.find c (a++[b])).isSome then C (d (a++[b]))else F
structure bw(c:Tree)(d f:Path->E)(e:M):Prop where
 nd:∀a k,Wt.find c a=C k->e.heap[d a]?=C (Xn (cU a k (d a.dropLast) (f a)) 192 (0,0))
 kd:∀a k,Wt.find c a=C k->∃m l,e.heap[f a]?=C (.map m l)/\Kids m l (bX c d a)
 inj:∀a b,(Wt.find c a).isSome=J->(Wt.find c b).isSome=J->d a=d b->a=b
 xM:∀a b,(Wt.find c a).isSome=J->(Wt.find c b).isSome=J->f a=f b->a=b
def Row(h:Xe)(a:Path)(e:M):Prop:=
 (h=Xm F 0 0/\a=[])\/∃g b,h=Xm (C ⟨g,0,F⟩) a.length b/\a.length<=b/\g<e.heap.size/\∀(c:E) d,a[c]?=C d->e.cell? ⟨g,c,F⟩=C (.string (bs d))
theorem aa{b:Xk Xe}{c:Xq}{k:E×E}(l:e.heap[g]?=C (Xn b c k))(j:E)(m:b[j]?=C h):e.cell? ⟨g,j,F⟩=C h:=by simp_all [M.cell?]
theorem AG{a g:Xe}(b:a=g):Ending.returned a=Xs g:=by rw[b]
section
variable{d f:Path->E}
theorem sO(g:∀a,a≠[]->(Wt.find c a).isSome=J->(Wt.find c a.dropLast).isSome=J):∀(b:E)(a:Path),a.length=b->(Wt.find c a).isSome=J->∀d,(Wt.find c (a.take d)).isSome=J
 |b,a,k,e,d=>by
  by_cases h:a.length<=d
  .rw[Zs h];exact e
  cases b with
  |zero=>omega
  |succ b=>
   have i:a≠[]:=by grind
   have f:=sO g b a.dropLast (by simp;omega) (g a i e) d;rw[L_,aan,aaX (by omega)]at f;exact f
structure mg(c:Tree)(d f:Path->E)(e:M):Prop where
 nd:∀a b,Wt.find c a=C b->∃m,e.heap[d a]?=C (Xn (cU a b (d a.dropLast) (f a)) 192 m)
 kd:∀a b,Wt.find c a=C b->∃l k,e.heap[f a]?=C (.map l k)/\Kids l k (bX c d a)
theorem bw.VV(b:bw c d f e):mg c d f e:=⟨λa h g=>⟨_,b.nd a h g⟩,b.kd⟩
theorem mg.lt(b:mg c d f e)(i:(Wt.find c a).isSome=J):d a<e.heap.size/\f a<e.heap.size:=by
 obtain⟨h,g⟩:=XR.1 i;obtain⟨l,k,n,_⟩:=b.kd a h g;obtain⟨m,o⟩:=b.nd a h g
 grind
theorem mg.old(k:mg c d f e)(n:∀l,l<e.heap.size->i.heap[l]?=e.heap[l]?):mg c d f i where
 nd:=λa m b=>by rw[n _ (k.lt (by rw[b];rfl)).1];exact k.nd a m b
 kd:=λa m b=>by rw[n _ (k.lt (by rw[b];rfl)).2];exact k.kd a m b
theorem zP(t:mg c d f e)(a6:e.cell? ⟨O,0,F⟩=C (pt (d []) 0))(v:(Wt.find c []).isSome=J)(x:∀a,a≠[]->(Wt.find c a).isSome=J->(Wt.find c a.dropLast).isSome=J)
 (a0:Row h a e)(b1:a.length<2^31):Calls TP 96 #[pt O 0,h] e λS i=>S=Xs (gU (if(Wt.find c a).isSome then C (d a)else F))/\e=i:=by
 rcases a0 with⟨rfl,rfl⟩|⟨g,a3,rfl,a8,a7,w⟩
 .generalize d []=a2 at*
  go_enter Tryz.func96,Tryz.ntmps96
  go_wp2
  go_loop [5,14] (λk l=>k=pt a2 0/\l=Xd K 0) (λ_ _=>0)
  case atStart=>simp
  case round=>
   go_wp2
   go_ret;exact⟨A,A⟩
 obtain⟨z,Y⟩:∃z,gU (if(Wt.find c a).isSome then C (d a)else F)=z:=by simp
 have r:=Xl Y;go_enter Tryz.func96,Tryz.ntmps96;have s:=Xl t;have L:=Xl x;have D:=Xl v;have H:=Xl w;clear t x v w
 go_wp2
 go_loop [5,14] (λk l=>∃b:E,b<=a.length/\l=Xd K b/\k=pt (d (a.take b)) 0/\(Wt.find c (a.take b)).isSome=J) (λ_ l=>a.length-(Lib.intOf l).toNat)
 case atStart=>exact⟨0,YA _,A,by simp,by simpa using D.out⟩
 case round=>
  obtain⟨b,a9,rfl,rfl,n⟩:=hrel;have q:=Xl n;by_cases b0:b<a.length
  .obtain⟨m,Z⟩:∃m,a[b]?=C m:=by simp_all
   have c1:=H.out b m Z;obtain⟨k,u⟩:=XR.1 q.out;have c2:e.cell? ⟨d (a.take b),11,F⟩=C (.map (C (f (a.take b)))):=aa (s.out.nd _ k u).choose_spec 11 A;obtain⟨a5,a4,W,Q⟩:=s.out.kd _ k u;have p:=pP W Q m;have X:a.take b++[m]=a.take (b+1):=by grind [List.take_add_one]
   rw[bX,X]at p;by_cases y:(Wt.find c (a.take (b+1))).isSome=J
   .have o:=Xl y;generalize a1:d (a.take (b+1))=b3 at*
    have N:=Xl a1;unfold gU at p
    go_wp2
    go_round
    case rel=>exact⟨b+1,by omega,by go_num,by rw[N.out],o.out⟩
    case measure=>grind [Lib.intOf]
   have o:=Xl y;unfold gU at p
   go_wp2
   go_ret;exact⟨AG (by rw[<-r.out,Xx (λT=>o.out (sO L.out _ a A T (b+1)))];rfl),A⟩
  have U:b=a.length:=by omega
  subst U
  go_wp2
  go_ret
  exact⟨AG (by
   have n:=q.out;rw[N_]at n
   rw[<-r.out,XC n];rfl),A⟩
end
variable{c:M}{f:Xe}{h:E}{d:Xq}{i:E}{l:Tree}
theorem LU(a b:B):bs a++bs b=bs (a++b):=by apply XB.ext;simp[bs,XB.data_append]
def strs(b:Xg B):Xg Xe:=b.map λa=>.string (bs a)
theorem DT(b:Xg B)(a:E):(strs b)[a]?=(b[a]?).map λc=>.string (bs c):=by simp[strs]
section
variable{b:Xg B}{k:E}
theorem Dp{g:E}(i:c.ownsRow k 9 1 (Xm (C ⟨h,0,F⟩) b.length g) b.length (strs b)):∀(a:E) f,b[a]?=C f->c.cell? ⟨h,a,F⟩=C (.string (bs f)):=λa f n=>by
 rcases i.2 with⟨e,_⟩|⟨q,o,p,e,_,l,_,_,_,m⟩
 .cases e
 cases e;simp only[M.cell?,l];have d:=YU (λb=>b[a]?) m;simp only[DT,n,Zo]at d;rw[ZQ]at d;split at d
 .simpa using d
 cases d
theorem Kv(g:c.ownsRow k 9 1 f b.length (strs b))(O:b.length<2^31):Calls TP 188 #[f] c λd e=>d=Xs (.tuple #[])/\e.ownsRow k 9 1 f b.length (strs b.reverse)/\Below k c e:=by
 rcases g.2 with⟨rfl,s⟩|⟨h,n,o,rfl,z,p,N,x,y,Q⟩
 .have L:b=[]:=ZE s;subst L;exact(Tryz.slices_Reverse_string_empty F 0 c).mono λd e⟨t,u⟩=>by subst u;exact⟨t,g,ZP _ _⟩
 have w:=Dp g;refine(Tryz.slices_Reverse_string h 0 n b c (λj D=>⟨?_,?_⟩) (by omega)).mono ?_
 .have q:j<b.length:=by simpa using D
  rw[Zk,w j b[j] (Yy q)];simp[encStr,bs,q]
 .simp[M.frozen?,p]
 rintro d e⟨rfl,i,rfl⟩
 have v:(putRow encStr (Sort.ahead c i) h 0 b.reverse.toArray).heap[h]?=C (Xn (putCells encStr 0 b.reverse.toArray o) 9 (0,0)):=by simp[putRow,mapBlock,Zf,Sort.ahead,p,onCells]
 refine⟨A,⟨by simp[strs],Xi ⟨h,n,_,A,z,v,N,x,by simpa[putCells]using y,?_⟩⟩,A,A,A,by simp[putRow,mapBlock,Sort.ahead],λm r=>?_⟩
 .apply Xg.ext_getElem?;intro m;rw[ZQ,DT];by_cases r:m<b.length
  .have H:m<o.size:=by omega
   rw[XC (by omega)];simp[putCells,H,r,encStr,bs]
  rw[Xx (by omega),Xg.getElem?_eq_none (by simp;omega)];rfl
 simp only[putRow,mapBlock,Zf,Sort.ahead];rw[Xx (by omega)]
theorem SF(i:c.ownsRow k 9 1 f b.length (strs b))(v:k<=c.heap.size)(g:([47].intercalate b).length<2^31)(z:b.length<2^31):Calls TP 189 #[f] c λd e=>d=Xs (.string (bs (Wt.join b)))/\Below c.heap.size c e:=by
 have l:Calls TP 218 #[f,.string ⟨#[47]⟩] c λd e=>d=Xs (.string (bs ([47].intercalate b)))/\Below c.heap.size c e:=by
  rcases i.2 with⟨rfl,s⟩|⟨h,q,N,rfl,S,y,D,Q,R,T⟩
  .have g:b=[]:=ZE s;subst g;have r:([47]:B).intercalate []=[]:=by simp[Xg.intercalate]
   rw[r];exact(Tryz.strings_Join_none F 0 ⟨#[47]⟩ c).mono λd e⟨t,u⟩=>⟨t,by rw[u];exact ZP _ _⟩
  have x:=Dp i
  have m:(b.map bs).map (λo:XB=>o.data.toList)=b:=by rw[aai];exact Xg.map_id _
  have a:=Tryz.strings_Join h 0 q (b.map bs) ⟨#[47]⟩ c (λj o n=>by
   rw[o_]at n;obtain⟨L,H,rfl⟩:=YE.1 n;rw[Zk]
   exact x j L H) (XN.1 y).1 (by simp;omega) (by simpa using D) (by
   rw[m];have:(Lib.join b [47]).length<2^31:=g;show(Lib.join b [47]).length<=_
   omega)
  rw[m,ZU]at a;exact a
 have O:¬9223372036854775807<1+(bs ([47].intercalate b)).size:=by rw[cR];omega
 have a:⟨#[47]⟩++bs ([47].intercalate b)=bs (Wt.join b):=LU [47] _;have HC:=Xl l;have p:=Xl a;clear l i g z v a;generalize bs ([47].intercalate b)=U at*
 generalize bs (Wt.join b)=W at*
 go_enter Tryz.func189,Tryz.ntmps189
 go_wp2_with (go_at_call 218;refine HC.out.mono ?_;rintro d e⟨rfl,w⟩)
 go_ret;exact⟨AG (YU Value.string p.out),w⟩
end
def PU:Xe->E
 |.slice _ i _=>i
 |_=>0
theorem tH{k:E}{e:Xg Xe}(a:c.ownsRow k d 1 f i e):PU f=i:=by
 rcases a.2 with⟨rfl,b⟩|⟨_,_,_,rfl,_⟩
 .exact b.symm
 rfl
theorem Up:∃a b,TP.info? 9=C a/\a.zero=C b/\a.size=1/\a.bytes=16/\b.cells.size=1:=⟨_,_,A,A,A,A,A⟩
theorem UO:TP.underlying 35=C (.slice 9):=A
def Lq(a:Path)(c:M)(d:Ending)(b:M):Prop:=d=Xs (.string (bs (Wt.join a)))/\Below c.heap.size c b
theorem sH{m d5:Path->E}(N:bw l m d5 c)(a1:∀a,a≠[]->(Wt.find l a).isSome=J->(Wt.find l a.dropLast).isSome=J)(W:(Wt.find l a).isSome=J)
 (e4:a.length<2^30)(c0:([47].intercalate a).length<2^31):Calls TP 156 #[pt (m a) 0] c (Lq a c):=by
 obtain⟨d4,d9,b7,d0,d1,d2,d3⟩:=Up;obtain⟨e9,L⟩:∃n,m a=n:=⟨_,A⟩;rw[L];have b1:=Xl L;have a8:=Xl N;have a9:=Xl a1;have a5:=Xl W;clear N a1 W L;go_enter Tryz.func156,Tryz.ntmps156
 go_wp2
 go_loopw [0,3] (λi f wr=>∃e:E,e<=a.length/\i=pt (m (a.take (a.length-e))) 0/\wr.ownsRow c.heap.size 9 1 f e (strs (a.drop (a.length-e)).reverse)/\Below c.heap.size c wr) (λ_ f _=>a.length-PU f)
 case atStart=>exact⟨0,YA _,by rw[E.sub_zero,N_,b1.out],by rw[E.sub_zero,Xg.drop_length];exact M.ownsRow_nil c _ _ _,ZP _ _⟩
 case round=>
  obtain⟨e,e2,rfl,o,p⟩:=hrel;obtain⟨g,w⟩:∃g,a.take (a.length-e)=g:=⟨_,A⟩;rw[w];have Y:(Wt.find l g).isSome=J:=by rw[<-w];exact sO a9.out _ a A a5.out _
  obtain⟨i,U⟩:=XR.1 Y;have v:=a8.out.nd g i U;have u:m g<c.heap.size:=(XN.1 v).1;have b2:wr.cell? ⟨m g,0,F⟩=C (.string (bs (vZ g))):=by rw[p.cell (p:=⟨m g,0,F⟩) u];exact aa v 0 A
  have s:wr.cell? ⟨m g,10,F⟩=C (.pointer (if g=[]then F else C ⟨m g.dropLast,0,F⟩)):=by rw[p.cell (p:=⟨m g,10,F⟩) u];exact aa v 10 A
  have D:=p.size;have r:=Xl w;have T:=tH o;have a4:=Xl T;clear w Y U v T;by_cases q:g=[]
  .have b9:e=a.length:=by have:=YU List.length r.out;rw[q]at this;simp at this;omega
   rw[XC q]at s;subst b9;rw[E.sub_self,Xg.drop_zero]at o;have z:=Kv (b:=a.reverse) (k:=c.heap.size) (c:=wr) (by rw[aad];exact o) (by rw[aad];omega);rw[aad,Xg.reverse_reverse]at z;have a6:=Xl z;clear z q b2 o r;generalize m g=n at*
   go_wp2_with (go_at_call 188;refine a6.out.mono ?_;rintro d e7⟨rfl,c8,x⟩)
   have b8:=SF c8 (XZ D x.size) c0 (by omega);refine b8.mono ?_;rintro d e8⟨rfl,b4⟩
   go_wp2
   go_ret;exact⟨A,(p.trans x).trans (b4.mono (XZ D x.size))⟩
  rw[Xx q]at s;have e3:e<a.length:=by
   rcases H_ e a.length with O|O
   .exact O
   exact absurd (by rw[<-r.out,show a.length-e=0 by omega,aa9]) q
  have X:g.dropLast=a.take (a.length-(e+1)):=by
   rw[<-r.out,L_,aan,Zy]
   congr 1;omega
  have S:(a.drop (a.length-(e+1))).reverse=(a.drop (a.length-e)).reverse++[vZ g]:=by
   have Q:a.length-(e+1)<a.length:=by omega
   rw[w_ Q,Xg.reverse_cons,show a.length-(e+1)+1=a.length-e by omega]
   congr 2
   unfold vZ;rw[<-r.out,Xg.getLastD_eq_getLast?,Xg.getLast?_eq_getElem?,ZQ,Zy];have d:min (a.length-e) a.length-1=a.length-(e+1):=by omega
   rw[d,XC (by omega),Yy Q];rfl
  rw[X]at s;have a3:=Xl S;clear X S q;obtain⟨d8,H⟩:∃n,m (a.take (a.length-(e+1)))=n:=⟨_,A⟩;rw[H]at s;have b0:=Xl H;clear H;generalize m g=n at*
  generalize Z:bs (vZ g)=d6 at*
  have a7:=Xl Z;clear Z;have b3:∀t,Below c.heap.size c (wr.alloc t):=λt=>p.alloc D t;have c9:=λt=>o.alloc (w:=wr) t;have c6:=o.lt;clear o
  go_wp2_with (at_builtin;refine wpList_append_own _ A _ _ 35 A c.heap.size 9 d4 d9 1 16 UO b7 d0 d1 d2 d3 (by decide) _ _ _ A (c9 _) ⟨wr.heap.size,0,F⟩ 1 1 [.string d6] A rfl (cell_one_new _ _ _) (by intro e6 a0;simp at a0;subst a0;rfl) (by unfold maxLen;omega) (by omega) (by simp;omega) ?_;intro d7 a2 y b6 c7;clear c7;have R:Below c.heap.size c a2:=(b3 _).grown b6 (by show _<=(wr.heap.push _).size;simp;omega) (λh b5=>(c6 h b5).1);have e1:a2.cell? ⟨n,10,F⟩=C (XA (C ⟨d8,0,F⟩)):=by(rw[R.cell (p:=⟨n,10,F⟩) u,<-p.cell (p:=⟨n,10,F⟩) u];exact s))
  go_roundw
  case rel=>
   refine⟨e+1,by omega,by rw[b0.out],?_,R⟩;rw[a3.out];unfold strs at y⊢
   rw[aaa,YG,Zl,a7.out];exact y
  case measure=>show a.length-PU d7<a.length-PU _;rw[tH y,a4.out];omega
variable{a:M}{b:Xq}{h:Xe}{d:E}{w':M}{f:E}{D:Xk Oper}{N:Exit->Xu->M->Prop}{l:E}
def cr(i:Xe->Prop)(a:M)(b:Xq)(size:E)(h:Xe)(d:E)(k:Xg Xe):Prop:=
 k.length=d*size/\((h=Xm F 0 0/\d=0)\/∃f c e,h=Xm (C ⟨f,0,F⟩) d c/\a.heap[f]?=C (Xn e b (0,0))/\d<=c/\c<=maxLen/\e.size=c*size/\e.toList.take (d*size)=k/\∀g∈e.toList,i g)
section
variable{i:Xe->Prop}{size:E}{k:Xg Xe}
theorem cr.nil(i:Xe->Prop)(a:M)(b:Xq)(size:E):cr i a b size (Xm F 0 0) 0 []:=⟨by simp,Xh ⟨A,A⟩⟩
theorem cr.lt(g:cr i a b size h d k):∀c,h.ownBlock=C c->c<a.heap.size:=λc e=>by
 rcases g.2 with⟨rfl,_⟩|⟨f,l,m,rfl,n,_⟩
 .cases e
 cases e;grind
theorem cr.blk(l:cr i a b size h d k):∀e,h.ownBlock=C e->∃c,a.heap[e]?=C (Xn c b (0,0))/\∀m∈c.toList,i m:=λe g=>by
 rcases l.2 with⟨rfl,_⟩|⟨f,n,c,rfl,p,_,_,_,_,o⟩
 .cases g
 cases g;simp_all
theorem cr.stay(e:cr i a b size h d k)(o:∀c,h.ownBlock=C c->w'.heap[c]?=a.heap[c]?):cr i w' b size h d k:=by
 refine⟨e.1,?_⟩;rcases e.2 with p|⟨f,g,m,rfl,n,q⟩
 .exact Xh p
 exact Xi ⟨f,g,m,A,by rw[o f A];exact n,q⟩
theorem cr.slice(e:cr i a b size h d k):∃c s l,h=.slice c s l:=by
 rcases e.2 with⟨rfl,f⟩|⟨_,_,_,rfl,_⟩
 .exact⟨_,_,_,A⟩
 simp
theorem cr.cell(g:cr i a b size h d k)(e:h.ownBlock=C f):∀(j:E) c,k[j]?=C c->a.cell? ⟨f,j,F⟩=C c:=λj c t=>by
 rcases g.2 with⟨rfl,_⟩|⟨q,n,o,rfl,m,_,_,_,r,_⟩
 .cases e
 cases e;exact aa m j (by grind)
theorem qe(f j:E):(⟨f,0,F⟩:Xw).add j=⟨f,j,F⟩:=by simp_all [Addr.add]
def kU(a:M)(h b:Xe):Prop:=∀f,b.ownBlock=C f->h.ownBlock=C f\/a.heap.size<=f
theorem lW(v:cr i a b size h d k){r y:Xq}{c:TypeInfo}{o:Xe}(Q:TP.underlying r=C (.slice b))(z:TP.info? b=C c)(W:c.zero=C o)(b2:c.size=size)(a5:c.bytes<=1000)(a1:o.cells.size=size)(b3:0<size)(c9:∀p∈o.cells.toList,i p)
 (t:Xw)(s l:E)(n:Xg Xe)(q:n.length=s*size)(O:∀j e,n[j]?=C e->a.cell? (t.add j)=C e)(Y:∀e∈n,e.oneCell'=J/\i e)(c7:d+s<2^30):
 ∃S w',(Builtin.append_ #[r,r] y #[h,Xm (C t) s l]).run TP a=.ok S w'/\cr i w' b size S (d+s) (k++n)/\a.grownBy w' h.ownBlock/\kU a h S:=by
 subst b2;have L:(k++n).length=(d+s)*c.size:=by rw[Yw,v.1,q,aat]
 have c8:∀m,∀p∈(Builtin.zeroCells o.cells m).toList,i p:=λm p R=>by unfold Builtin.zeroCells at R;simp only[aaA,YB]at R;obtain⟨j,_,rfl⟩:=R;simp_all [abm]
 have X:∀(old:E),(∀p∈k,i p)->∀row:Xp E,
  cr i (a.drew.alloc (.cells (k.toArray++n.toArray++Builtin.zeroCells o.cells (grownCap a (d+s) old b-(d+s))) b)) b c.size (Xm (C ⟨a.heap.size,0,F⟩) (d+s) (grownCap a (d+s) old b)) (d+s) (k++n)/\
  a.grownBy (a.drew.alloc (.cells (k.toArray++n.toArray++Builtin.zeroCells o.cells (grownCap a (d+s) old b-(d+s))) b)) row:=by
  intro old R row;have a8:=aau a (d+s) old b;have a6:=D_ a (d+s) old b (by unfold maxLen;omega);refine⟨⟨L,Xi ⟨a.heap.size,_,_,A,Yn a.drew _,a8,a6,?_,?_,?_⟩⟩,⟨A,A,A,by simp,λm H _=>aao a.drew _ H⟩⟩
  .rw[p_,p_,aba,a1,Yt,Yt,v.1,q,<-aat,<-aat]
   congr 1;omega
  .rw[ZK,ZK,aab (by simpa using L)]
  grind
 have a0:∀m,m<2^30->m*c.bytes<=140737488355328:=λm H=>by have:m*c.bytes<=1073741824*1000:=aap (by omega) a5;omega
 rcases v.2 with⟨rfl,rfl⟩|⟨f,u,T,rfl,Z,c0,a2,a3,a4,c6⟩
 .have b5:k=[]:=by simp_all
  subst b5;by_cases a9:s=0
  .subst a9;have b0:=ZE (by rw[q];simp);subst b0;obtain⟨S,w',b7,d0,b8,b9⟩:=run_append_own (P:=TP) a a.heap.size r y b c o c.size c.bytes Q z W A rfl a1 b3 (Xm F 0 0) 0 [] (M.ownsRow_nil a _ _ _) t 0 l [] (by simp) O (λe x=>(Y e x).1) (by simp) (a0 _ (by omega)) (XS _);have b4:=b9.2 ⟨A,A⟩;subst b4;exact⟨_,_,b7,⟨by simp,Xh ⟨A,A⟩⟩,b8,λf g=>by cases g⟩
  have w:=run_append_nil (P:=TP) a r y b c o Q z W t s l _ q O (by omega) (by omega) (by grind);have g:=X 0 (by simp) (Xe.ownBlock (Xm F 0 0));exact⟨_,_,w,by simp_all,by simp_all,λf g=>by cases g;simp⟩
 have b6:∀p∈k,i p:=by grind
 by_cases U:d+s<=u
 .have a7:d*c.size+n.length<=T.size:=by
   rw[a3,q,<-aat];exact aap U (XS _)
  have w:=run_append_room (P:=TP) a r y b c Q z f d u T Z t s l _ q O (λe x=>(Y e x).1) U a7;refine⟨_,_,w,⟨L,Xi ⟨f,u,_,A,ZY a f T _ b _ Z,U,a2,?_,?_,?_⟩⟩,⟨A,A,A,by simp,λm _ H=>ZD a f m _ (λb=>H (by simp[Xe.ownBlock,b]))⟩,λf g=>Xh g⟩
  .simp only[Yt,Yw,Zy,aay,aae];omega
  .rw[a4];exact aab L
  grind
 have b1:∀j e,k[j]?=C e->a.cell? ((⟨f,0,F⟩:Xw).add j)=C e:=λj e x=>by rw[qe];exact v.cell A j e x
 have w:=run_append_grow (P:=TP) a r y b c o Q z W ⟨f,0,F⟩ d u k v.1 b1 t s l _ q O (by omega) (by omega) (growslice_fits (by omega) (a0 _ (by omega)));have g:=X u b6 (Xe.ownBlock (Xm (C ⟨f,0,F⟩) d u));exact⟨_,_,w,g.1,g.2,λf g=>by cases g;simp⟩
theorem mr{rest:Xg Oper}{g:Oper}{o:Xu}(O:g.guard=F)(v q:XJ)(t:Xq)
 (T:g.op=.call {callee:=.builtin .append,args:=#[v,q],argTypes:=#[t,t]})(W:o.eval v=h)(w:cr i a b size h d k){p:TypeInfo}{u:Xe}(X:TP.underlying t=C (.slice b))(c:TP.info? b=C p/\p.zero=C u/\p.size=size/\p.bytes<=1000/\u.cells.size=size/\0<size)(Z:∀q∈u.cells.toList,i q)
 {r:Xw}(Y:o.eval q=Xm (C r) s l)(e:Xg Xe)(Q:e.length=s*size)(S:∀j m,e[j]?=C m->a.cell? (r.add j)=C m)(x:∀m∈e,m.oneCell'=J/\i m)(R:d+s<2^30)
 (next:∀n w',cr i w' b size n (d+s) (k++e)->a.grownBy w' h.ownBlock->kU a h n->wpList TP D N rest (o.put g.dst n) w'):wpList TP D N (g::rest) o a:=by
 refine wpList_plain O λa0 L=>?_;obtain⟨n,w',U,y,z,H⟩:=lW (y:=g.type) w X c.1 c.2.1 c.2.2.1 c.2.2.2.1 c.2.2.2.2.1 c.2.2.2.2.2 Z r s l e Q S x R;unfold Oper.wp execOp;simp only[T,resolve,invoke,builtin,Zp,aaN,q_,Zb,YG,Zl,W,Y,U];exact L _ _ (next n w' y z H)
end
end Go.Sv
namespace Wt
variable{a:Tree}{S:Xg Ev}{y:cN}
theorem rU{c:Op}{ak aL b:Xj}(d:create a c ak aL=.no b):b≠0:=by grind [create]
theorem Jg{d:Op}{ak aL c:Xj}(b:change a d ak aL=.no c):c≠0:=by
 unfold change at b;split at b
 .exact rU b
 repeat' split at b
 all_goals first|(cases b;decide)|cases b
theorem pj{b:Op}{ak aL:Xj}{e:Tree}{g:B}(h:b.kind≠3)(d:change a b ak aL=.yes e g S):
 ∃c f,split b.path=C c/\find a c=C f/\g=b.path/\((b.kind=4/\c≠[]/\¬0<f.stat.kids/\e=drop a c/\S=kq c)\/(b.kind=5/\e=put a c (jM f b aL)/\S=[(3,b.path)])\/(b.kind≠4/\b.kind≠5/\e=a/\S=[])):=by
 unfold change at d;rw[Xx h]at d;split at d
 .cases d
 grind
theorem ab6(y:cN)(id:Xj):(heard y id).dE.map (·.1)=y.dE.map (·.1):=by
 unfold heard;simp only[aai];refine Xg.map_congr_left λa _=>?_
 grind
theorem gW{id:Xj}:known y id=J↔id∈y.dE.map (·.1):=by simp[known]
def seven:Xg B:=[[47,97],[47,98],[47,97,47,120],[47,97,47,121],[47,98,47,120],[47,97,47,120,47,122],[47,99]]
structure abW(b:ew):Prop where
 ak:b.ak=1\/b.ak=2\/b.ak=3
 kind:b.op.kind=3\/b.op.kind=4\/b.op.kind=5\/b.op.kind=6\/b.op.kind=8\/b.op.kind=9\/b.op.kind=10
 path:b.op.path∈seven
 watch:b.watch=Xf
def rq(ak b:Xj)(e d:B)(aE a:Xj)(c:Xo):ew:={ak:=ak,op:={kind:=b,path:=e,data:=d,aE:=aE,flags:=a},watch:=c}
def UL:cN:={timeout:=50}
def first:B:=[102,105,114,115,116]
def Iy:B:=[116,104,105,114,100]
def pA:B:=[47,97]
def pB:B:=[47,98]
def Rm:B:=[47,97,47,120]
def Qu:Xg ew:=[rq 0 1 [] [] 0 0 Xf,rq 0 1 [] [] 0 0 Xf,rq 0 1 [] [] 0 0 Xf,rq 1 3 pA first 0 0 Xf,rq 2 3 pB [] 0 0 Xf,rq 3 3 Rm Iy 0 0 Xf,rq 1 8 Rm [] 0 0 Xf]
def UE:Xg Out:=[{ak:=1},{ak:=2},{ak:=3},
 {ak:=1,path:=pA,found:=J,stat:={made:=4,set:=4,size:=5}},
 {ak:=2,path:=pB,found:=J,stat:={made:=5,set:=5}},
 {ak:=3,path:=Rm,found:=J,stat:={made:=6,set:=6,size:=5}},
 {ak:=1,path:=Rm,data:=Iy,found:=J,stat:={made:=6,set:=6,size:=5}}]
def alone:cN->Xg ew->cN
 |y,[]=>y
 |y,b::a=>alone (step y 0 b).1 a
def rE(a:E):cN:=alone UL (Qu.take a)
def sB:cN:=rE 7
theorem EB:∀a,(b:a<7)->(step (rE a) 0 (Qu[a]'b)).2=[UE[a]'b]:=by
 intro a b
 match a,b with
 |0,_=>rfl
 |1,_=>rfl
 |2,_=>rfl
 |3,_=>rfl
 |4,_=>rfl
 |5,_=>rfl
 |6,_=>rfl
theorem Gr:∀a,(b:a<7)->rE (a+1)=(step (rE a) 0 (Qu[a]'b)).1:=by
 intro a b
 match a,b with
 |0,_=>rfl
 |1,_=>rfl
 |2,_=>rfl
 |3,_=>rfl
 |4,_=>rfl
 |5,_=>rfl
 |6,_=>rfl
theorem adz:WF sB.tree:=by have e:=nH IF (f:={kind:=3,path:=pA,data:=first}) (ak:=1) (aL:=4) A;have f:=nH e (f:={kind:=3,path:=pB}) (ak:=2) (aL:=5) A;exact nH f (f:={kind:=3,path:=Rm,data:=Iy}) (ak:=3) (aL:=6) A
theorem abE(e:Xj)(c:Xo)(d:B):∀(a:Xg Ev)(y:cN),y.cd c d=[]->(tell e y a).1.cd c d=[]
 |[],y,b=>b
 |f::a,y,b=>by
  unfold tell;simp only;refine abE e c d a _ ?_;unfold lu;simp only;split
  .rfl
  exact b
theorem acX{h:Xj}{c:ew}{e:Xo}{f:B}(a:y.cd e f=[])(k:c.watch=Xf)(g:c.op.kind≠2)(i:c.op.kind≠11):(step y h c).1.cd e f=[]:=by
 have b:(heard y c.ak).cd e f=[]:=a;unfold step;split
 .exact a
 .split
  .exact a
  exact a
 .rename_i d;exfalso;unfold task at d
  repeat' split at d
  all_goals first|cases d|contradiction
 .split
  .exact a
  unfold write;rw[Xx g];simp only;split
  .split
   .exact b
   exact abE _ _ _ _ _ b
  split
  .exact b
  split
  .exact abE _ _ _ _ _ b
  exact abE _ _ _ _ _ b
 grind [eN]
theorem abU(c:Xo)(d:B):∀a,a<=7->(rE a).cd c d=[]
 |0,_=>rfl
 |a+1,e=>by
  rw[Gr a (by omega)];refine acX (abU c d a (by omega)) ?_ ?_ ?_
  all_goals
   have:∀b∈Qu,b.watch=Xf/\b.op.kind≠2/\b.op.kind≠11:=by decide
  .exact(this _ (aaH _)).1
  .exact(this _ (aaH _)).2.1
  exact(this _ (aaH _)).2.2
theorem adq(a:Xo)(b:B):sB.cd a b=[]:=abU a b 7 (XS _)
abbrev rK(a:Xg Xj):Prop:=a.Pairwise (·<·)
theorem Il:∀{d e:Xg Xj},rK d->rK e->(∀b,b∈d↔b∈e)->d=e
 |[],[],_,_,_=>rfl
 |[],h::e,_,_,a=>absurd ((a h).2 (by simp)) (by simp)
 |b::d,[],_,_,a=>absurd ((a b).1 (by simp)) (by simp)
 |b::d,h::e,n,p,a=>by
  obtain⟨l,o⟩:=YJ.1 n;obtain⟨m,q⟩:=YJ.1 p;have r:b=h:=by
   have c:=(a b).1 (by simp);have k:=(a h).2 (by simp);rcases XV.1 c with f|c
   .exact f
   rcases XV.1 k with f|k
   .exact f.symm
   have:=m b c;have:=l h k;omega
  subst r;rw[Il o q λi=>?_];constructor
  .intro g;rcases XV.1 ((a i).1 (Ym _ g))with f|c
   .have:=l i g;omega
   exact c
  intro g;rcases XV.1 ((a i).2 (Ym _ g))with f|c
  .have:=m i g;omega
  exact c
theorem mT(d b:Xj):∀{c:Xg Xj},b∈dF d c↔b=d\/b∈c
 |[]=>by simp[dF]
 |e::c=>by
  unfold dF;split
  .simp
  split
  .rename_i a;subst a;simp
  rw[XV,mT d b,XV];constructor
  .rintro(a|a|a)
   .exact Xi (Xh a)
   .exact Xh a
   exact Xi (Xi a)
  rintro(a|a|a)
  .exact Xi (Xh a)
  .exact Xh a
  exact Xi (Xi a)
theorem rn(e:Xj):∀{d:Xg Xj},rK d->rK (dF e d)
 |[],_=>by simp[dF,rK]
 |k::d,c=>by
  obtain⟨f,h⟩:=YJ.1 c;unfold dF;split
  .rename_i i
   exact YJ.2 ⟨λb a=>by
    rcases XV.1 a with g|a
    .omega
    have:=f b a;omega,c⟩
  split
  .exact c
  exact YJ.2 ⟨λb a=>by
   rcases(mT e b).1 a with g|a
   .omega
   exact f b a,rn e h⟩
theorem mS(c:Xj)(d:Xg Xj):∀b:Xg Xj,c∈b.foldr dF d↔c∈b\/c∈d
 |[]=>by simp
 |e::b=>by
  rw[aaY,mT,mS c d b,XV];constructor
  .rintro(a|a|a)
   .exact Xh (Xh a)
   .exact Xh (Xi a)
   exact Xi a
  rintro((a|a)|a)
  .exact Xh a
  .exact Xi (Xh a)
  exact Xi (Xi a)
theorem nh{b:Xg Xj}(c:rK b):∀a:Xg Xj,rK (a.foldr dF b)
 |[]=>c
 |d::a=>rn d (nh c a)
theorem Ho{d:Xj}:∀{a:Xg Xj}{b:E},rK a->b<=a.length->(∀c∈a.take b,c<d)->(∀c∈a.drop b,d<c)->dF d a=a.take b++d::a.drop b
 |[],b,_,_,_,_=>by simp[dF]
 |g::a,0,_,_,_,l=>by
  simp_all [dF]
 |g::a,b+1,k,i,e,h=>by have m:=e g (by simp);unfold dF;rw[Xx (by omega),Xx (by omega),Ho (YJ.1 k).2 (by simpa using i) (λc f=>e c (by simp[f])) (λc f=>h c (by simp_all))];rfl
theorem Cd{c:Xj}:∀{a:Xg Xj},rK a->c∈a->dF c a=a
 |h::a,f,b=>by
  obtain⟨d,e⟩:=YJ.1 f;unfold dF;rcases XV.1 b with g|b
  .simp_all
  have:=d c b;rw[Xx (by omega),Xx (by omega),Cd e b]
def Bi(y:cN):Prop:=∀a b,rK (y.cd a b)
theorem acg(b:Bi y)(a:Ev):rK (toldOf y a):=by
 unfold toldOf;refine nh ?_ _;split
 .exact b _ _
 simp
theorem abQ{a:Ev}{b:Xj}:b∈toldOf y a↔(kx a.1 J=J/\b∈y.cd J a.2)\/(kx a.1 Xf=J/\b∈y.cd Xf a.2):=by simp[toldOf,mS]
theorem DY(b:Bi y)(c:Xj)(a:Ev):Bi (lu c y a).1:=λd e=>by
 unfold lu;simp only;split
 .simp
 exact b d e
theorem wX(c:Xj):∀(a:Xg Ev)(y:cN),Bi y->Bi (tell c y a).1
 |[],y,b=>b
 |d::a,y,b=>by unfold tell;exact wX c a _ (DY b c d)
theorem sP(b:Xj):∀(a:Xg Ev)(y:cN),(tell b y a).1.tree=y.tree
 |[],y=>rfl
 |c::a,y=>by unfold tell;exact sP b a _
end Wt
namespace Go.SimW
open Go.Conc
open Go.ConcR (KK wgBlock WgAt stA smA rd wr mk DC0)
open Go.ConcN (WgLive)
variable{c:Xt}
def RL(b:Xq)(a:E)(c d:M):Prop:=WgLive b a c->WgLive b a d
theorem RL.refl{b:Xq}{a:E}(c:M):RL b a c c:=id
theorem RL.trans{b:Xq}{a:E}(d e f:M)(g:RL b a d e)(h:RL b a e f):RL b a d f:=λi=>h (g i)
section
variable(P:Xy)(b:Xq)(a:E)
def Wc(c:Xt)(d:M):Prop:=
 c.status=.running/\mayWake P c=J/\(WgAt b a d 0 0->∃e,stepG P Xf c d=.go e (d.setCell (smA a) (.int .u32 1)) (semEvents (smA a))/\∃f,QuitsD P f 1 e)
def Wb(c:Xt)(d:M):Prop:=
 c.status=.running/\(WgAt b a d 1 0->∃e,stepG P Xf c d=.go e (d.setCell (stA a) (.int .u64 0)) #[wr (stA a)]/\∃f,Goes P Xf (RL b a) DC0 (Wc P b a) f e (d.setCell (stA a) (.int .u64 0)))
def Wa(c:Xt)(d:M):Prop:=
 c.status=.running/\(WgAt b a d 1 0->∃e,stepG P Xf c d=.go e d #[rd (stA a)]/\∃f,Goes P Xf (RL b a) DC0 (Wb P b a) f e d)
def VZ(c:Xt)(f:M):Prop:=
 c.status=.running/\∀d e:E,e<=1->d<2147483647->WgAt b a f ((d+1)*KK+e) 0->
  ∃g,stepG P Xf c f=.go g (f.setCell (stA a) (.int .u64 (d*KK+e))) #[rd (stA a),wr (stA a)]/\
   ((d=0/\e=1)->∃h,Goes P Xf (RL b a) DC0 (Wa P b a) h g (f.setCell (stA a) (.int .u64 (d*KK+e))))/\(¬(d=0/\e=1)->∃i,QuitsD P i 1 g)
def Wd(c:Xt)(d:M):Prop:=
 c.status=.running/\∃e,stepG P Xf c d=.go e d #[mk .disable]/\∃f,Goes P Xf (RL b a) DC0 (VZ P b a) f e d
def UW(c:Xt)(d:M):Prop:=
 c.status=.running/\∃e,stepG P Xf c d=.go e d #[mk (.releaseMerge (stA a))]/\∃f,Goes P Xf (RL b a) DC0 (Wd P b a) f e d
def QS:E->Xt->M->Prop
 |0=>UW P b a
 |1=>Wd P b a
 |2=>VZ P b a
 |3=>Wa P b a
 |4=>Wb P b a
 |_=>Wc P b a
end
theorem QS.running{P:Xy}{b:Xq}{a:E}:∀{e:E}{c:Xt}{f:M},QS P b a e c f->c.status=.running
 |0,_,_,d=>d.1
 |1,_,_,d=>d.1
 |2,_,_,d=>d.1
 |3,_,_,d=>d.1
 |4,_,_,d=>d.1
 |_+5,_,_,d=>d.1
theorem qC{P:Xy}{b:Xq}{a g f:E}{e:M}(d:Goes P Xf (RL b a) DC0 (QS P b a g) f c e):c.status=.running:=by
 cases f with
 |zero=>exact(d e (RL.refl e)).running
 |succ f=>
  rcases d with d|⟨d,_⟩
  .exact(d e (RL.refl e)).running
  exact d
end Go.SimW
namespace Go.SimW
open Go.Conc Go.RowKit Go.Conc.Lib Go.ConcR.Gen Go.ConcN.Gen
open Go.ConcR (KK wgBlock WgAt stA smA rd wr mk DC0)
open Go.ConcN (WgLive)
open Go.ConcN
variable{P:Xy}{d:Xg Xr}{l:XJ}{p:XG}{T:XG}{r:Xt}{n:Oper}
section
theorem WgLive.Vh{i:Xq}{f:E}{a:M}(b:WgLive i f a):∃c,a.cell? ⟨f,0,F⟩=C c:=let ⟨_,_,p⟩:=b;⟨_,p.cellSt⟩
theorem WgLive.Ve{i:Xq}{f:E}{a:M}(b:WgLive i f a):∃c,a.cell? ⟨f,1,F⟩=C c:=let ⟨_,_,p⟩:=b;⟨_,p.cellSm⟩
variable{L:WgLink}
def kN(b:Xr)(a:Xu)(q:Xg Item):Xr:={b.at a q with mode:=.returning}
section
variable{b:Xr}{a:Xu}{h q:Xg Item}{e k:E}{D:Xk Oper}{m:E}{rest:Xg E}
theorem UF(c:QuitsD P e k (G (b.at a (Xv D (m::rest)::h)) d)):QuitsD P e k (G (b.at a (Xv D (m::rest)::h)) d):=c
theorem Ta(c:QuitsD P e k (G (b.at a (.code (.cond l p T)::h)) d)):QuitsD P e k (G (b.at a (.code (.cond l p T)::h)) d):=c
theorem Qo{id:E}(c:QuitsD P e k (G (b.at a (.code (.exit id)::h)) d)):QuitsD P e k (G (b.at a (.code (.exit id)::h)) d):=c
theorem Te(c:QuitsD P e k (G (kN b a q) d)):QuitsD P e k (G (kN b a q) d):=c
theorem NV(c:QuitsD P e k (G (b.at a h) d)):QuitsD P (e+1) k (G (b.at a (Xv D []::h)) d):=.ctl A (λ_=>aaB) c
theorem Tf(c:QuitsD P e k (G (b.at a (.code p::.code T::h)) d)):QuitsD P (e+1) k (G (b.at a (.code (.seq p T)::h)) d):=.ctl A (λ_=>stepG_seq) c
theorem Qq(c:QuitsD P e k (G (b.at a h) d)):QuitsD P (e+1) k (G (b.at a (.code .skip::h)) d):=.ctl A (λ_=>stepG_skip) c
theorem Qp(c:QuitsD P e k (G (kN b a (.code .ret::h)) d)):QuitsD P (e+1) k (G (b.at a (.code .ret::h)) d):=.ctl A (λ_=>stepG_ret') c
theorem NY(c:QuitsD P e k (G (kN b a []) d)):QuitsD P (e+1) k (G (b.at a []) d):=.ctl A (λ_=>stepG_end) c
theorem Tc{l:XG}(c:QuitsD P e k (G (b.at a (.code l::.inLoop l::h)) d)):QuitsD P (e+1) k (G (b.at a (.inLoop l::h)) d):=.ctl A (λ_=>stepG_inLoop) c
theorem Tb{id:E}(c:QuitsD P e k (G (b.at a h) d)):QuitsD P (e+1) k (G (b.at a (.inBlock id::h)) d):=.ctl A (λ_=>stepG_inBlock) c
theorem yT{fn:Func}{f:Xr}{c:Xu}{g:Tmp}(l:b.kind=.normal)(hd:a.defers=[])(i:P.funcs[b.fn]?=C fn)(o:fn.results=#[.tmp g])
 (n:QuitsD P e k (G (f.at (c.put ((D[m]?).bind (·.dst)) (a.tmps.getD g I)) (Xv D rest::h)) d)):QuitsD P (e+1) k (G (kN b a q) (f.at c (Xv D (m::rest)::h)::d)):=QuitsD.leave1 l hd i o n
theorem sI{fn:Func}{f:Xr}{c:Xu}(i:b.kind=.normal)(hd:a.defers=[])(g:P.funcs[b.fn]?=C fn)(n:fn.results=#[])
 (l:QuitsD P e k (G (f.at (c.put ((D[m]?).bind (·.dst)) (.tuple #[])) (Xv D rest::h)) d)):QuitsD P (e+1) k (G (kN b a q) (f.at c (Xv D (m::rest)::h)::d)):=QuitsD.leave0 i hd g n l
theorem Km{L:WgLink}{c:Xg Deferred}(f:WgLib P L)(hd:a.defers=dcall L.enable #[]::c)(g:QuitsD P e 0 (G (kN b ⟨a.tmps,c⟩ q) d)):QuitsD P (e+1) 1 (G (kN b a q) d):=
 QuitsD.unwind_mark .enable A (by simp) hd f.f_enable (x_enable_n L) (x_enable_b L) (x_enable_x L) (x_enable_f L) g
theorem Td{id:E}(c:QuitsD P e k (G (b.at a (Xv D (Xg.range D.size)::h)) d)):QuitsD P (e+1) k (G (b.at a (.code (.region id D Xf)::h)) d):=.ctl A (λ_=>stepG_region) c
def GL(P:Xy)(main:Xo)(i:Xq)(f:E)(Stop:Xt->M->Prop)(b:E)(r:Xt):Prop:=∀a,WgLive i f a->Goes P main (RL i f) DC0 Stop b r a
variable{main:Xo}{i:Xq}{f:E}{Stop:Xt->M->Prop}
theorem eg{g:Xt}(w:r.status=.running)(u:∀c,WgLive i f c->stepG P main r c=.go g c)(v:GL P main i f Stop e g):GL P main i f Stop (e+1) r:=
 λc o=>Goes.step w λt s=>by rw[u t (s o)];exact⟨⟨A,A⟩,v t (s o)⟩
theorem lM(b:∀a,WgLive i f a->Stop r a):GL P main i f Stop e r:=λa c=>Goes.stop λg d=>b g (d c)
theorem Hm(c:GL P main i f Stop e (G (b.at a (Xv D (m::rest)::h)) d)):GL P main i f Stop e (G (b.at a (Xv D (m::rest)::h)) d):=c
theorem zS(c:GL P main i f Stop e (G (b.at a (.code (.cond l p T)::h)) d)):GL P main i f Stop e (G (b.at a (.code (.cond l p T)::h)) d):=c
theorem qB(g:a.eval l=.bool J)(c:GL P main i f Stop e (G (b.at a (.code p::h)) d)):GL P main i f Stop (e+1) (G (b.at a (.code (.cond l p T)::h)) d):=eg A (λ_ _=>aaO g) c
theorem qA(g:a.eval l=.bool Xf)(c:GL P main i f Stop e (G (b.at a (.code T::h)) d)):GL P main i f Stop (e+1) (G (b.at a (.code (.cond l p T)::h)) d):=eg A (λ_ _=>aaO g) c
theorem NU(f:a.eval l=.bool J)(c:QuitsD P e k (G (b.at a (.code p::h)) d)):QuitsD P (e+1) k (G (b.at a (.code (.cond l p T)::h)) d):=.ctl A (λ_=>aaO f) c
theorem NT(f:a.eval l=.bool Xf)(c:QuitsD P e k (G (b.at a (.code T::h)) d)):QuitsD P (e+1) k (G (b.at a (.code (.cond l p T)::h)) d):=.ctl A (λ_=>aaO f) c
theorem Fh(c:GL P main i f Stop e (G (kN b a q) d)):GL P main i f Stop e (G (kN b a q) d):=c
theorem vJ(c:GL P main i f Stop e (G (b.at a h) d)):GL P main i f Stop (e+1) (G (b.at a (Xv D []::h)) d):=eg A (λ_ _=>aaB) c
theorem zW(c:GL P main i f Stop e (G (b.at a (.code p::.code T::h)) d)):GL P main i f Stop (e+1) (G (b.at a (.code (.seq p T)::h)) d):=eg A (λ_ _=>stepG_seq) c
theorem ur(c:GL P main i f Stop e (G (b.at a h) d)):GL P main i f Stop (e+1) (G (b.at a (.code .skip::h)) d):=eg A (λ_ _=>stepG_skip) c
theorem zV(c:GL P main i f Stop e (G (kN b a (.code .ret::h)) d)):GL P main i f Stop (e+1) (G (b.at a (.code .ret::h)) d):=eg A (λ_ _=>stepG_ret') c
theorem Ff(c:GL P main i f Stop e (G (kN b a []) d)):GL P main i f Stop (e+1) (G (b.at a []) d):=eg A (λ_ _=>stepG_end) c
theorem vI{id:E}{l:XG}(c:GL P main i f Stop e (G (b.at a (.code l::.inBlock id::h)) d)):GL P main i f Stop (e+1) (G (b.at a (.code (.block id l)::h)) d):=eg A (λ_ _=>stepG_block) c
theorem zU{l:XG}(c:GL P main i f Stop e (G (b.at a (.code l::.inLoop l::h)) d)):GL P main i f Stop (e+1) (G (b.at a (.code (.loop l)::h)) d):=eg A (λ_ _=>stepG_loop) c
theorem Fg{l:XG}(c:GL P main i f Stop e (G (b.at a (.code l::.inLoop l::h)) d)):GL P main i f Stop (e+1) (G (b.at a (.inLoop l::h)) d):=eg A (λ_ _=>stepG_inLoop) c
theorem zT{id:E}(c:GL P main i f Stop e (G (b.at a h) d)):GL P main i f Stop (e+1) (G (b.at a (.inBlock id::h)) d):=eg A (λ_ _=>stepG_inBlock) c
theorem vK{id:E}(c:GL P main i f Stop e (G (b.at a (Xv D (Xg.range D.size)::h)) d)):GL P main i f Stop (e+1) (G (b.at a (.code (.region id D Xf)::h)) d):=eg A (λ_ _=>stepG_region) c
theorem lN(k:Xe)(q:D[m]?=C n)(s:Region.wanted n (yielded D a.tmps)=J)(p:b.kind≠.early)
 (r:∀c,WgLive i f c->(execOp a.eval n).run P c=.ok (.value k) c)(o:∀c,WgLive i f c->(execOp a.eval n).events P c #[]=#[])
 (l:GL P main i f Stop e (G (b.at (a.put n.dst k) (Xv D rest::h)) d)):GL P main i f Stop (e+1) (G (b.at a (Xv D (m::rest)::h)) d):=
 eg A (λc g=>by rw[stepG_value q s p (r c g)];unfold listed;rw[o c g,seen_none]) l
theorem zX(g:D[m]?=C n)(k:Region.wanted n (yielded D a.tmps)=Xf)(c:GL P main i f Stop e (G (b.at (a.put n.dst I) (Xv D rest::h)) d)):GL P main i f Stop (e+1) (G (b.at a (Xv D (m::rest)::h)) d):=
 eg A (λ_ _=>stepG_unwanted g k) c
theorem eH{fn:Func}{g:Xr}{c:Xu}{l:Tmp}(o:b.kind=.normal)(hd:a.defers=[])(n:P.funcs[b.fn]?=C fn)(k:fn.results=#[.tmp l])
 (p:GL P main i f Stop e (G (g.at (c.put ((D[m]?).bind (·.dst)) (a.tmps.getD l I)) (Xv D rest::h)) d)):GL P main i f Stop (e+1) (G (kN b a q) (g.at c (Xv D (m::rest)::h)::d)):=
 eg A (λr _=>by rw[kN,stepG_leave o hd n (results_tmp k _ P r) (events_results_tmp k _ _),YK]) p
theorem dN{fn:Func}{g:Xr}{c:Xu}(n:b.kind=.normal)(hd:a.defers=[])(l:P.funcs[b.fn]?=C fn)(k:fn.results=#[])
 (o:GL P main i f Stop e (G (g.at (c.put ((D[m]?).bind (·.dst)) (.tuple #[])) (Xv D rest::h)) d)):GL P main i f Stop (e+1) (G (kN b a q) (g.at c (Xv D (m::rest)::h)::d)):=
 eg A (λp _=>by rw[kN,stepG_leave n hd l (aaP k _ P p) (events_results_none k _ _),YK]) o
theorem gx{fn:Func}{g:XI}{c:Xk XJ}{l:Xk Xq}{k:XG}(t:D[m]?=C n)(v:Region.wanted n (yielded D a.tmps)=J)(r:b.kind≠.early)(u:n.op=.call {callee:=.value (.func g),args:=c,argTypes:=l})
 (q:P.funcs[g]?=C fn)(s:(fn.name== "runtime.NumGoroutine")=Xf)(p:fn.body=C k)
 (o:GL P main i f Stop e (G ((base g).at ⟨c.map a.eval++Array.replicate (fn.ntmps-(c.map a.eval).size) I,[]⟩ [.code k]) (b.at a (Xv D (m::rest)::h)::d))):GL P main i f Stop (e+1) (G (b.at a (Xv D (m::rest)::h)) d):=
 λO w=>Goes.step A λy x=>goes_call t v r u q s p ⟨⟨A,A⟩,o y (x w)⟩
theorem BW{g:XI}{c:Xk XJ}{k:Xk Xq}(p:D[m]?=C n)(r:Region.wanted n (yielded D a.tmps)=J)(o:b.kind≠.early)(q:n.op=.defer {callee:=.value (.func g),args:=c,argTypes:=k})
 (l:GL P main i f Stop e (G (b.at ({a with defers:=dcall g (c.map a.eval)::a.defers}.put n.dst I) (Xv D rest::h)) d)):GL P main i f Stop (e+1) (G (b.at a (Xv D (m::rest)::h)) d):=
 eg A (λw _=>stepG_defer p r o q) l
theorem zR(c:WgLib P L){g:Xk XJ}{k:Xk Xq}(p:D[m]?=C n)(r:Region.wanted n (yielded D a.tmps)=J)(o:b.kind≠.early)(q:n.op=.call {callee:=.value (.func L.inBubble),args:=g,argTypes:=k})
 (l:GL P main i f Stop e (G (b.at (a.put n.dst (.bool Xf)) (Xv D rest::h)) d)):GL P main i f Stop (e+1) (G (b.at a (Xv D (m::rest)::h)) d):=
 eg A (λv _=>stepG_entry_pure (.bool Xf) p r o q c.f_inBubble (x_inBubble_n L) (x_inBubble_b L) (x_inBubble_x L) (x_inBubble_f L)) l
end
theorem KQ{P:Xy}(H:WgLib P L){f:E}{q:Xr}{p:Xu}{o:Xk Oper}{r:E}{t:Xg E}{s:Xg Item}{d:Xg Xr}{k:E}
 (y:QuitsD P k 0 (G (q.at (p.put ((o[r]?).bind (·.dst)) (.tuple #[])) (Xv o t::s)) d)):
 GL P Xf L.tWg f (UW P L.tWg f) 20 (G ((base L.add).at ⟨#[XA (C ⟨f,0,F⟩),Xd K (-1),I,I,I,I,I,I,I,I,I,I,I,I,I,I,I,I,I,I,I,I,I,I,I,I,I,I,I,I,I,I,I,I,I,I,I,I,I,I,I,I,I,I,I,I,I,I,I,I,I,I,I,I,I,I,I,I,I,I,I,I,I,I,I,I,I,I,I,I,I,I,I,I,I,I,I,I,I,I,I,I,I,I,I,I,I,I,I,I,I,I,I,I,I,I,I,I,I,I,I,I,I,I,I,I,I,I,I,I,I,I,I,I,I,I,I],[]⟩ [.code (body_add L)]) (q.at p (Xv o (r::t)::s)::d)):=by
 lib_facts
 simp only[body_add,addFn,Zz]
 repeat' (first
  |with_reducible (first|refine vJ ?_|refine zW ?_|refine ur ?_|refine zV ?_|refine Ff ?_|refine Fg ?_|refine zT ?_|refine vI ?_|refine zU ?_|refine NV ?_|refine Tf ?_|refine Qq ?_|refine Qp ?_|refine NY ?_|refine Tc ?_|refine Tb ?_)
  |((with_reducible refine Hm ?_);first|(refine zX rfl rfl ?_;walk_nrm)|(refine lN _ rfl rfl (by k_ne) (λ_ _=>by go_simp;(try w_num);rfl) (λ_ _=>by simp[go_sem, *]) ?_;walk_nrm)|((first|refine zR H rfl rfl (by k_ne) rfl ?_|refine BW rfl rfl (by k_ne) rfl ?_);walk_nrm)|(refine gx rfl rfl (by k_ne) rfl H.f_uAdd (nm_uAdd L) rfl ?_;walk_nrmf uAddFn)|(refine gx rfl rfl (by k_ne) rfl H.f_uLoad (nm_uLoad L) rfl ?_;walk_nrmf uLoadFn)|(refine gx rfl rfl (by k_ne) rfl H.f_uStore (nm_uStore L) rfl ?_;walk_nrmf uStoreFn)|(refine gx rfl rfl (by k_ne) rfl H.f_uCas (nm_uCas L) rfl ?_;walk_nrmf uCasFn)|(refine lN (XA (C ⟨f,0,F⟩)) rfl rfl (by k_ne) (λW a=>by have Z:=m_ (P:=P) H.underlying_tWgP H.underlying_tUP H.room_tWg (WgLive.Vh a).choose_spec;(first|(go_simp;done)|fail)) (λW a=>by have z:=λx=>b_ (P:=P) H.underlying_tWgP H.underlying_tUP H.room_tWg (WgLive.Vh a).choose_spec x;(first|(simp[go_sem,z];done)|fail)) ?_;walk_nrm))
  |((with_reducible refine UF ?_);(first|refine QuitsD.unwanted rfl rfl ?_|refine QuitsD.value _ rfl rfl (by k_ne) (λ_=>by go_simp;(first|(try w_num);rfl|(simp only[u_,aaC,aaD,D,N,O,u,Q,R,S,T,U,Xj.reduceMod,Xj.reduceDiv,Xj.reducePow,abo,abp];rfl))) (λ_=>by simp[go_sem, *]) ?_);walk_nrm)
  |((with_reducible (first|refine vK ?_|refine Td ?_));simp only[Yt,Yl,Zd,E.reduceAdd,Zk,Xg.range,Xg.range.loop])
  |((with_reducible (first|refine zS ?_|refine Ta ?_));first|refine qB rfl ?_|refine qA rfl ?_|refine NU rfl ?_|refine NT rfl ?_)
  |((with_reducible refine Y ?_);refine X rfl ?_)
  |((with_reducible refine Qo ?_);q_exit)
  |((with_reducible refine Fh ?_);(first|refine eH rfl rfl H.f_uAdd rfl ?_|refine dN rfl rfl H.f_uAdd rfl ?_|refine eH rfl rfl H.f_uLoad rfl ?_|refine dN rfl rfl H.f_uLoad rfl ?_|refine eH rfl rfl H.f_uStore rfl ?_|refine dN rfl rfl H.f_uStore rfl ?_|refine eH rfl rfl H.f_uCas rfl ?_|refine dN rfl rfl H.f_uCas rfl ?_);walk_nrm)
  |((with_reducible refine Te ?_);first|(refine Km H rfl ?_)|((first|refine yT rfl rfl H.f_uAdd rfl ?_|refine sI rfl rfl H.f_uAdd rfl ?_|refine yT rfl rfl H.f_uStore rfl ?_|refine sI rfl rfl H.f_uStore rfl ?_);walk_nrm)|(refine sI rfl rfl H.f_add rfl ?_;exact y))
  |(refine lM λl e=>?_
    first
    |(first|refine⟨rfl,_,aaQ .releaseMerge (by simp) rfl rfl (by k_ne) rfl H.f_relMerge (x_relMerge_n L) (x_relMerge_b L) (x_relMerge_x L) (x_relMerge_f L) (by first|(simp[Act.eval,stA];done)|fail),10,?_⟩|refine⟨rfl,_,abb .disable (by simp) rfl rfl (by k_ne) rfl H.f_disable (x_disable_n L) (x_disable_b L) (x_disable_x L) (x_disable_f L),90,?_⟩|refine⟨rfl,λa=>⟨_,I_ (v:=1) A rfl (by k_ne) A H.f_loadU64 (x_loadU64_n L) (x_loadU64_b L) (x_loadU64_x L) .u64 (x_loadU64_f L) A a.cellSt,120,?_⟩⟩
      walk_nrm
      refine(?_:GL _ _ _ _ _ _ _) _ e)
    |(refine⟨rfl,λa=>⟨_,stepG_store_atomic A rfl (by k_ne) A H.f_storeU64 (x_storeU64_n L) (x_storeU64_b L) (x_storeU64_x L) (x_storeU64_f L) A rfl a.cellSt (a.thaw 0),50,?_⟩⟩
      have e:WgLive L.tWg f (l.setCell (stA f) (.int .u64 0)):=⟨_,_,a.setSt 0⟩;clear a;walk_nrm
      refine(?_:GL _ _ _ _ _ _ _) _ e)
    |(refine⟨rfl,mayWake_entry rfl rfl H.f_semrelease (x_semrelease_b L),λa=>⟨_,(stepG_semrelease A rfl (by k_ne) A H.f_semrelease (x_semrelease_n L) (x_semrelease_b L) (x_semrelease_x L) (x_semrelease_f L) (by simp[Act.eval,smA]) a.cellSm (a.thaw 1)).trans (by rfl),k+19,?_⟩⟩
      clear a
      walk_nrm)
    |(clear e
      refine⟨rfl,λb c a2 a0 a=>?_⟩;rcases Ye b with rfl|a1
      rw[show((0:E):Xj)*KK+(c:Xj)=c by simp];have v:IntKind.u64.wrap (KK+18446744069414584320)=0:=by decide
      have w:IntKind.u64.wrap (KK+1+18446744069414584320)=1:=by decide
      obtain rfl|rfl:c=0\/c=1:=by omega
      replace a:WgAt L.tWg f l KK 0:=by simpa using a
      refine⟨_,(v_ A rfl (by k_ne) A H.f_addU64 (x_addU64_n L) (x_addU64_b L) (x_addU64_x L) .u64 (x_addU64_f L) A rfl a.cellSt (a.thaw 0)).trans (by rw[v];rfl),λi=>absurd i.2 (by decide),λ_=>⟨k+89,?_⟩⟩;clear a;walk_nrm
      rotate_left
      replace a:WgAt L.tWg f l (KK+1) 0:=by simpa using a
      refine⟨_,(v_ A rfl (by k_ne) A H.f_addU64 (x_addU64_n L) (x_addU64_b L) (x_addU64_x L) .u64 (x_addU64_f L) A rfl a.cellSt (a.thaw 0)).trans (by rw[w];rfl),λ_=>⟨120,?_⟩,λi=>absurd ⟨A,A⟩ i⟩;have e:WgLive L.tWg f (l.setCell (stA f) (.int .u64 1)):=⟨_,_,a.setSt 1⟩;clear a;walk_nrm;refine(?_:GL _ _ _ _ _ _ _) _ e
      rotate_left
      have m:IntKind.u64.wrap (((b:E)+1)*KK+c+18446744069414584320)=(b:Xj)*KK+c:=by rw[u_];simp only[KK];omega
      obtain⟨g,h⟩:∃g:Xj,g=(b:Xj)*KK+c:=⟨_,A⟩;rw[<-h]at m⊢
      have D:g/4294967296=(b:Xj):=by rw[h];simp only[KK];omega
      have N:(b:Xj)%4294967296=b:=by omega
      have O:bits .and .u64 g 2147483648=0:=by rw[h];have:=st_flag b c (by omega) (by omega);simpa[KK]using this
      have u:bits .and .u64 g 2147483647=c:=by rw[h];have:=st_waiters b c (by omega) (by omega);simpa[KK]using this
      have Q:decide ((b:Xj)<0)=Xf:=by simp
      have R:decide (0<(b:Xj))=J:=by simp;omega
      have S:(b:Xj)-0=b:=by omega
      have T:(b:Xj)≠0:=by omega
      have U:((b:Xj)+2147483648)%4294967296-2147483648=b:=by omega
      clear h;refine⟨_,(v_ A rfl (by k_ne) A H.f_addU64 (x_addU64_n L) (x_addU64_b L) (x_addU64_x L) .u64 (x_addU64_f L) A rfl a.cellSt (a.thaw 0)).trans (by rw[m];rfl),λi=>absurd i.1 (by omega),λ_=>⟨k+89,?_⟩⟩;clear a m
      rcases(by omega:(c:Xj)=0\/(c:Xj)=1)with n|n<;>(rw[n]at u;clear n;walk_nrm))))
theorem QH(H:WgLib P L){f:E}{l:Xr}{g:E}(s:l.mode=.returning)(o:QuitsD P g 0 (G l d)):
 GL P Xf L.tWg f (UW P L.tWg f) 23 (G ((baseD L.done).at ⟨#[XA (C ⟨f,0,F⟩),I,I,I],[]⟩ [.code (body_done L)]) (l::d)):=by
 lib_facts
 have c:=@KQ L P H f;simp only[body_done,body_add,doneFn,addFn,Zz]at c⊢
 refine vK ?_;simp only[Yt,Yl,Zd,E.reduceAdd,Zk,Xg.range,Xg.range.loop];refine lN _ A rfl (by k_ne) (λ_ _=>by go_simp;rfl) (λ_ _=>by simp[go_sem, *]) ?_;walk_nrm;refine gx A rfl (by k_ne) A H.f_add (nm_add L) A ?_
 walk_nrmf addFn
 refine c (?_:QuitsD P (g+3) 0 _);refine NV ?_;refine NY ?_;exact QuitsD.leaveD A rfl H.f_done A s o
end
section
variable{L:WgLink}
def GT(P:Xy)(main:Xo)(Stop:Xt->M->Prop)(b:E)(a:Xt):Prop:=∀c,Goes P main (λ_ _=>True) DC0 Stop b a c
section
variable(P:Xy)(b:Xq)(a:E)(c:Xt)(e:Xt->M->Prop)
def Vj(a:Xt)(b:M):Prop:=a=c
def Vi(e:Xt)(d:M):Prop:=e.status=.running/\∃f,stepG P J e d=.go f d #[mk .enable]/\∃g,Goes P J (RL b a) DC0 (Vj c) g f d
def WH(e:Xt)(d:M):Prop:=e.status=.running/\∃f,stepG P J e d=.go f d #[mk (.read (smA a))]/\∃g,Goes P J (RL b a) DC0 (Vi P b a c) g f d
def WG(h:Xt)(e:M):Prop:=
 h.status=.running/\∀d:E,d<2147483647->WgAt b a e (d*KK) 0->∃f,stepG P J h e=.go f (e.setCell (stA a) (.int .u64 ((d+1)*KK))) #[rd (stA a),wr (stA a)]/\
  (d=0->∃g,Goes P J (RL b a) DC0 (WH P b a c) g f (e.setCell (stA a) (.int .u64 ((d+1)*KK))))/\(d≠0->∃g,Goes P J (RL b a) DC0 (Vi P b a c) g f (e.setCell (stA a) (.int .u64 ((d+1)*KK))))
def VY(e:Xt)(d:M):Prop:=e.status=.running/\∃f,stepG P J e d=.go f d #[mk .disable]/\∃g,Goes P J (RL b a) DC0 (WG P b a c) g f d
def Wm(b:Xt)(e:M):Prop:=b.status=.running/\∃d,stepG P J b e=.go d e #[mk (.acquire (stA a))]/\∃f,GT P J (Vj c) f d
def Vn(e:Xt)(d:M):Prop:=e.status=.running/\∃f,stepG P J e d=.go f d #[mk .enable]/\∃g,Goes P J (RL b a) DC0 (Wm P a c) g f d
def Wl(e:Xt)(d:M):Prop:=e.status=.running/\(WgAt b a d 0 0->∃f,stepG P J e d=.go f d #[rd (stA a)]/\∃g,Goes P J (RL b a) DC0 (Vn P b a c) g f d)
def Vm(e:Xt)(d:M):Prop:=
 e.status=.running/\e.offers=F/\((∃h,WgAt b a d h 0)->stepG P J e d=.go {e with status:=.blocked} d #[])/\
  (WgAt b a d 0 1->∃f,stepG P J e d=.go f (d.setCell (smA a) (.int .u32 0)) (semEvents (smA a))/\∃g,Goes P J (RL b a) DC0 (Wl P b a c) g f (d.setCell (smA a) (.int .u32 0)))
def WM(e:Xt)(d:M):Prop:=e.status=.running/\∃f,stepG P J e d=.go f d #[mk (.write (smA a))]/\∃g,Goes P J (RL b a) DC0 (λe d=>∀d,WgLive b a d->Vm P b a c e d) g f d
def WL(k:E)(h:Xt)(d:M):Prop:=
 h.status=.running/\∀f:E,f<2147483648->WgAt b a d (f*KK) 0->
  (f=k->∃g,stepG P J h d=.go g (d.setCell (stA a) (.int .u64 (f*KK+1))) #[rd (stA a),wr (stA a)]/\∃i,Goes P J (RL b a) DC0 (WM P b a c) i g (d.setCell (stA a) (.int .u64 (f*KK+1))))/\
  (f≠k->∃g,stepG P J h d=.go g d #[rd (stA a)]/\∃i,Goes P J (RL b a) DC0 e i g d)
def Wk(i:Xt)(f:M):Prop:=
 i.status=.running/\∀d:E,d<2147483648->WgAt b a f (d*KK) 0->∃g,stepG P J i f=.go g f #[rd (stA a)]/\
  (d=0->∃h,Goes P J (RL b a) DC0 (Vn P b a c) h g f)/\(d≠0->∃h,Goes P J (RL b a) DC0 (WL P b a c e d) h g f)
def Wj(d:Xt)(c:M):Prop:=d.status=.running/\∃f,stepG P J d c=.go f c #[mk .disable]/\∃g,Goes P J (RL b a) DC0 e g f c
end
variable{P:Xy}{a:E}{h:Xr}{g:Xu}{f:Xk Oper}{i:E}{l:Xg E}{k:Xg Item}{c:Xt}
theorem KM{main:Xo}(h:WgLib P L){b:Xr}{a:Xu}{f:Xg Item}{c:Xg Deferred}(hd:a.defers=dcall L.enable #[]::c)(g:M):
 stepG P main (G (kN b a f) d) g=.go (G (kN b ⟨a.tmps,c⟩ f) d) g #[mk .enable]:=
 stepG_unwind_entry (v:=.tuple #[]) hd h.f_enable (x_enable_n L) (x_enable_b L) (x_enable_x L) (x_enable_f L) (by simp[Extern.Race.none_]) (by simp[mk]) (by
  intro m e;simp[mk]at e;subst e
  exact⟨A,λk i=>by cases i⟩)
theorem Tx(H:WgLib P L)(y:G (h.at (g.put ((f[i]?).bind (·.dst)) (.tuple #[])) (Xv f l::k)) d=c):
 GL P J L.tWg a (VY P L.tWg a c) 20 (G ((base L.add).at ⟨#[XA (C ⟨a,0,F⟩),Xd K (1),I,I,I,I,I,I,I,I,I,I,I,I,I,I,I,I,I,I,I,I,I,I,I,I,I,I,I,I,I,I,I,I,I,I,I,I,I,I,I,I,I,I,I,I,I,I,I,I,I,I,I,I,I,I,I,I,I,I,I,I,I,I,I,I,I,I,I,I,I,I,I,I,I,I,I,I,I,I,I,I,I,I,I,I,I,I,I,I,I,I,I,I,I,I,I,I,I,I,I,I,I,I,I,I,I,I,I,I,I,I,I,I,I,I,I],[]⟩ [.code (body_add L)]) (h.at g (Xv f (i::l)::k)::d)):=by
 lib_facts
 simp only[body_add,addFn,Zz]
 repeat' (first
  |with_reducible (first|refine vJ ?_|refine zW ?_|refine ur ?_|refine zV ?_|refine Ff ?_|refine Fg ?_|refine zT ?_|refine vI ?_|refine zU ?_)
  |((with_reducible refine Hm ?_);first|(refine gx rfl rfl (by k_ne) rfl H.f_uAdd (nm_uAdd L) rfl ?_;walk_nrmf uAddFn)|(refine gx rfl rfl (by k_ne) rfl H.f_uLoad (nm_uLoad L) rfl ?_;walk_nrmf uLoadFn)|(refine gx rfl rfl (by k_ne) rfl H.f_uStore (nm_uStore L) rfl ?_;walk_nrmf uStoreFn)|(refine gx rfl rfl (by k_ne) rfl H.f_uCas (nm_uCas L) rfl ?_;walk_nrmf uCasFn)|((first|refine zX rfl rfl ?_|refine zR H rfl rfl (by k_ne) rfl ?_|refine BW rfl rfl (by k_ne) rfl ?_|refine lN _ rfl rfl (by k_ne) (λ_ _=>by go_simp;(first|(try w_num);rfl|(simp only[u_,aaC,aaD,z,D,N,O,Q,R,S,T,U,Xj.reduceMod,Xj.reduceDiv,Xj.reducePow,abo,abp];rfl))) (λ_ _=>by simp[go_sem, *]) ?_|refine lN (XA (C ⟨a,1,F⟩)) rfl rfl (by k_ne) (λu n=>by have Z:=m_ (P:=P) H.underlying_tPU32 H.underlying_tUP H.room_tU32 (WgLive.Ve n).choose_spec;(first|(go_simp;done)|fail)) (λu n=>by have x:=λw=>b_ (P:=P) H.underlying_tPU32 H.underlying_tUP H.room_tU32 (WgLive.Ve n).choose_spec w;(first|(simp[go_sem,x];done)|fail)) ?_);walk_nrm))
  |((with_reducible refine vK ?_);simp only[Yt,Yl,Zd,E.reduceAdd,Zk,Xg.range,Xg.range.loop])
  |((with_reducible refine zS ?_);first|refine qB rfl ?_|refine qA rfl ?_)
  |((with_reducible refine Y ?_);refine X rfl ?_)
  |((with_reducible refine Fh ?_);(first|refine eH rfl rfl H.f_uAdd rfl ?_|refine dN rfl rfl H.f_uAdd rfl ?_|refine eH rfl rfl H.f_uLoad rfl ?_|refine dN rfl rfl H.f_uLoad rfl ?_|refine eH rfl rfl H.f_uStore rfl ?_|refine dN rfl rfl H.f_uStore rfl ?_|refine eH rfl rfl H.f_uCas rfl ?_|refine dN rfl rfl H.f_uCas rfl ?_);walk_nrm)
  |(refine lM λt o=>?_
    first
    |((first|refine⟨rfl,_,abb .disable (by simp) rfl rfl (by k_ne) rfl H.f_disable (x_disable_n L) (x_disable_b L) (x_disable_x L) (x_disable_f L),90,?_⟩|refine⟨rfl,_,aaQ .read (by simp) rfl rfl (by k_ne) rfl H.f_raceRead (x_raceRead_n L) (x_raceRead_b L) (x_raceRead_x L) (x_raceRead_f L) (by first|(simp[Act.eval,smA];done)|fail),100,?_⟩)
      walk_nrm
      refine(?_:GL _ _ _ _ _ _ _) _ o)
    |(refine⟨rfl,_,KM H rfl _,5,?_⟩
      refine(?_:GL _ _ _ _ _ _ _) _ o;refine dN rfl rfl H.f_add rfl ?_
      exact lM λu o=>y)
    |(refine⟨rfl,λm a0 n=>?_⟩
      rcases Ye m with rfl|a1
      replace n:WgAt L.tWg a t 0 0:=by simpa using n
      have W:(((0:E):Xj)+1)*KK=KK:=by simp
      rw[W];have v:IntKind.u64.wrap (0+4294967296)=KK:=by decide
      refine⟨_,(v_ A rfl (by k_ne) A H.f_addU64 (x_addU64_n L) (x_addU64_b L) (x_addU64_x L) .u64 (x_addU64_f L) A rfl n.cellSt (n.thaw 0)).trans (by rw[v];rfl),λ_=>⟨110,?_⟩,λs=>absurd A s⟩;have o:WgLive L.tWg a (t.setCell (stA a) (.int .u64 KK)):=⟨_,_,n.setSt _⟩;clear n;refine(?_:GL _ _ _ _ _ _ _) _ o;simp only[KK];walk_nrm
      rotate_left
      have r:IntKind.u64.wrap ((m:Xj)*KK+4294967296)=((m:Xj)+1)*KK:=by rw[u_];simp only[KK];omega
      obtain⟨p,q⟩:∃p:Xj,((m:Xj)+1)*KK=p:=⟨_,A⟩;rw[q]at r⊢
      have z:p/4294967296=(m:Xj)+1:=by rw[<-q];simp only[KK];omega
      have D:((m:Xj)+1)%4294967296=m+1:=by omega
      have N:bits .and .u64 p 2147483648=0:=by rw[<-q];have:=st_flag (m+1) 0 (by omega) (by omega);simpa[KK]using this
      have O:bits .and .u64 p 2147483647=0:=by rw[<-q];have:=st_waiters (m+1) 0 (by omega) (by omega);simpa[KK]using this
      have Q:decide ((m:Xj)+1<0)=Xf:=by first|(simp;done)|(simp;omega)
      have R:decide (0<(m:Xj)+1)=J:=by first|(simp;done)|(simp;omega)
      have S:decide ((m:Xj)+1=1)=Xf:=by first|(simp;done)|(simp;omega)
      have T:(((m:Xj)+1)==1)=Xf:=by first|(simp;done)|(simp;omega)
      have U:((m:Xj)+1+2147483648)%4294967296-2147483648=m+1:=by omega
      refine⟨_,(v_ A rfl (by k_ne) A H.f_addU64 (x_addU64_n L) (x_addU64_b L) (x_addU64_x L) .u64 (x_addU64_f L) A rfl n.cellSt (n.thaw 0)).trans (by rw[r];rfl),λs=>absurd s (by omega),λ_=>⟨110,?_⟩⟩;have o:WgLive L.tWg a (t.setCell (stA a) (.int .u64 p)):=⟨_,_,n.setSt _⟩;clear n r q;refine(?_:GL _ _ _ _ _ _ _) _ o
      walk_nrm)))
end
variable{a:Xg Xr}{i:Xt}{u:XG}{p:XJ}
section
variable{L:WgLink}
def GI(L:WgLink)(h:E)(p:Xr)(a:Xg Xr)(i:Xt)(c:M):Prop:=
 ∃b:Xk Xe,i=G ((base L.wait).at ⟨b,[]⟩ [.code (L7 L),.inLoop (L7 L),.inBlock 0]) (p::a)/\b.size=84/\b[0]?=C (XA (C ⟨h,0,F⟩))
section
variable{e:Xr}{d:Xu}{f w:Xg Item}{b:E}{D:Xk Oper}{m:E}{rest:Xg E}{main:Xo}{Stop:Xt->M->Prop}
theorem lO{c:Xt}(g:i.status=.running)(e:∀a,stepG P main i a=.go c a)(f:GT P main Stop b c):GT P main Stop (b+1) i:=
 λa=>Goes.step g λd _=>by rw[e d];exact⟨⟨A,A⟩,f d⟩
theorem PL(c:∀a,Stop i a):GT P main Stop b i:=λa=>Goes.stop λd _=>c d
theorem Ss(c:GT P main Stop b (G (e.at d f) a)):GT P main Stop (b+1) (G (e.at d (Xv D []::f)) a):=lO A (λ_=>aaB) c
theorem Sw(c:GT P main Stop b (G (e.at d (.code u::.code T::f)) a)):GT P main Stop (b+1) (G (e.at d (.code (.seq u T)::f)) a):=lO A (λ_=>stepG_seq) c
theorem PK(c:GT P main Stop b (G (e.at d f) a)):GT P main Stop (b+1) (G (e.at d (.code .skip::f)) a):=lO A (λ_=>stepG_skip) c
theorem PI(c:GT P main Stop b (G (kN e d (.code .ret::f)) a)):GT P main Stop (b+1) (G (e.at d (.code .ret::f)) a):=lO A (λ_=>stepG_ret') c
theorem Ul(c:GT P main Stop b (G (e.at d (Xv D (m::rest)::f)) a)):GT P main Stop b (G (e.at d (Xv D (m::rest)::f)) a):=c
theorem Sr(c:GT P main Stop b (G (e.at d (.code (.cond p u T)::f)) a)):GT P main Stop b (G (e.at d (.code (.cond p u T)::f)) a):=c
theorem MO(g:d.eval p=.bool Xf)(c:GT P main Stop b (G (e.at d (.code T::f)) a)):GT P main Stop (b+1) (G (e.at d (.code (.cond p u T)::f)) a):=lO A (λ_=>aaO g) c
theorem Su{id:E}(c:GT P main Stop b (G (e.at d (Xv D (Xg.range D.size)::f)) a)):GT P main Stop (b+1) (G (e.at d (.code (.region id D Xf)::f)) a):=lO A (λ_=>stepG_region) c
theorem Sy(g:Xe)(l:D[m]?=C n)(p:Region.wanted n (yielded D d.tmps)=J)(k:e.kind≠.early)
 (o:∀c,(execOp d.eval n).run P c=.ok (.value g) c)(i:∀c,(execOp d.eval n).events P c #[]=#[])
 (h:GT P main Stop b (G (e.at (d.put n.dst g) (Xv D rest::f)) a)):GT P main Stop (b+1) (G (e.at d (Xv D (m::rest)::f)) a):=
 lO A (λc=>by rw[stepG_value l p k (o c)];unfold listed;rw[i c,seen_none]) h
theorem Sx(g:D[m]?=C n)(h:Region.wanted n (yielded D d.tmps)=Xf)(c:GT P main Stop b (G (e.at (d.put n.dst I) (Xv D rest::f)) a)):GT P main Stop (b+1) (G (e.at d (Xv D (m::rest)::f)) a):=
 lO A (λ_=>stepG_unwanted g h) c
theorem JC{fn:Func}{l:Xr}{k:Xu}(h:e.kind=.normal)(hd:d.defers=[])(g:P.funcs[e.fn]?=C fn)(c:fn.results=#[])
 (i:GT P main Stop b (G (l.at (k.put ((D[m]?).bind (·.dst)) (.tuple #[])) (Xv D rest::f)) a)):GT P main Stop (b+1) (G (kN e d w) (l.at k (Xv D (m::rest)::f)::a)):=
 lO A (λn=>by rw[kN,stepG_leave h hd g (aaP c _ P n) (events_results_none c _ _),YK]) i
end
variable{h:E}{l:Xr}{k:Xu}{q:Xk Oper}{r:E}{t:Xg E}{s:Xg Item}{v:Xt}
theorem QI(H:WgLib P L):GL P J L.tWg h (Wj P L.tWg h (GI L h (l.at k (Xv q (r::t)::s)) a)) 6 (G ((base L.wait).at ⟨#[XA (C ⟨h,0,F⟩),I,I,I,I,I,I,I,I,I,I,I,I,I,I,I,I,I,I,I,I,I,I,I,I,I,I,I,I,I,I,I,I,I,I,I,I,I,I,I,I,I,I,I,I,I,I,I,I,I,I,I,I,I,I,I,I,I,I,I,I,I,I,I,I,I,I,I,I,I,I,I,I,I,I,I,I,I,I,I,I,I,I,I],[]⟩ [.code (body_wait L)]) (l.at k (Xv q (r::t)::s)::a)):=by
 lib_facts
 simp only[body_wait,waitFn,Zz]
 repeat (first|with_reducible (first|refine vJ ?_|refine zW ?_|refine ur ?_|refine zT ?_|refine vI ?_)|((with_reducible refine Hm ?_);(first|refine zX rfl rfl ?_|refine lN _ rfl rfl (by k_ne) (λ_ _=>by go_simp;(try w_num);rfl) (λ_ _=>by simp[go_sem, *]) ?_|refine zR H rfl rfl (by k_ne) rfl ?_);walk_nrm)|((with_reducible refine zS ?_);first|refine qB rfl ?_|refine qA rfl ?_)|((with_reducible refine vK ?_);simp only[Yt,Yl,Zd,E.reduceAdd,Zk,Xg.range,Xg.range.loop]))
 refine lM λg c=>?_;refine⟨A,_,abb .disable (by simp) A rfl (by k_ne) A H.f_disable (x_disable_n L) (x_disable_b L) (x_disable_x L) (x_disable_f L),9,?_⟩;walk_nrm;refine(?_:GL _ _ _ _ _ _ _) _ c;refine vJ ?_;refine vI ?_;refine zU ?_;exact lM λg c=>⟨_,A,A,A⟩
theorem OF(H:WgLib P L)(a1:G (l.at (k.put ((q[r]?).bind (·.dst)) (.tuple #[])) (Xv q t::s)) a=v){y:M}(Q:GI L h (l.at k (Xv q (r::t)::s)) a i y):
 GL P J L.tWg h (Wk P L.tWg h v (GI L h (l.at k (Xv q (r::t)::s)) a)) 30 i:=by
 lib_facts
 obtain⟨X,rfl,Z,U⟩:=Q;obtain⟨c9,d0,e1,f2,g3,h4,i5,j6,k7,l2,d1,d2,d3,d4,d5,d6,d7,d8,d9,e0,e2,e3,e4,e5,e6,e7,e8,e9,f0,f1,f3,f4,f5,f6,f7,f8,f9,g0,g1,g2,g4,g5,g6,g7,g8,g9,h0,h1,h2,h3,h5,h6,h7,h8,h9,i0,i1,i2,i3,i4,i6,i7,i8,i9,j0,j1,j2,j3,j4,j5,j7,j8,j9,k0,k1,k2,k3,k4,k5,k6,k8,k9,l0,l1,rfl⟩:=array84 X Z;simp only[Yo,Yq,Yh]at U;subst U;simp only[L7,body_wait,waitFn,Zz]
 repeat' (first
  |with_reducible (first|refine vJ ?_|refine zW ?_|refine ur ?_|refine zV ?_|refine Ff ?_|refine zT ?_|refine vI ?_|refine Ss ?_|refine Sw ?_|refine PK ?_|refine PI ?_|refine b8 ?_|refine b9 ?_|refine b4 ?_)
  |((with_reducible refine Hm ?_);first|((first|refine zX rfl rfl ?_|refine lN _ rfl rfl (by k_ne) (λ_ _=>by go_simp;(first|(try w_num);rfl|(simp only[u_,aaC,aaD,a2,a3,a4,a5,a6,a7,a8,a9,b0,Xj.reduceMod,Xj.reduceDiv,Xj.reducePow,abo,abp];rfl))) (λ_ _=>by simp[go_sem, *]) ?_|refine zR H rfl rfl (by k_ne) rfl ?_|refine lN (XA (C ⟨h,0,F⟩)) rfl rfl (by k_ne) (λy c=>by have a0:=m_ (P:=P) H.underlying_tWgP H.underlying_tUP H.room_tWg (WgLive.Vh c).choose_spec;(first|(go_simp;done)|fail)) (λy c=>by have R:=λO=>b_ (P:=P) H.underlying_tWgP H.underlying_tUP H.room_tWg (WgLive.Vh c).choose_spec O;(first|(simp[go_sem,R];done)|fail)) ?_|refine lN (XA (C ⟨h,1,F⟩)) rfl rfl (by k_ne) (λy c=>by have a0:=m_ (P:=P) H.underlying_tPU32 H.underlying_tUP H.room_tU32 (WgLive.Ve c).choose_spec;(first|(go_simp;done)|fail)) (λy c=>by have R:=λO=>b_ (P:=P) H.underlying_tPU32 H.underlying_tUP H.room_tU32 (WgLive.Ve c).choose_spec O;(first|(simp[go_sem,R];done)|fail)) ?_);walk_nrm)|(refine gx rfl rfl (by k_ne) rfl H.f_uLoad (nm_uLoad L) rfl ?_;walk_nrmf uLoadFn)|(refine gx rfl rfl (by k_ne) rfl H.f_uCas (nm_uCas L) rfl ?_;walk_nrmf uCasFn))
  |((with_reducible refine Ul ?_);(first|refine Sx rfl rfl ?_|refine Sy _ rfl rfl (by k_ne) (λ_=>by go_simp;(try w_num);rfl) (λ_=>by simp[go_sem, *]) ?_);walk_nrm)
  |((with_reducible (first|refine vK ?_|refine Su ?_));simp only[Yt,Yl,Zd,E.reduceAdd,Zk,Xg.range,Xg.range.loop])
  |((with_reducible (first|refine zS ?_|refine Sr ?_));first|refine qB rfl ?_|refine qA rfl ?_|refine b5 rfl ?_|refine MO rfl ?_)
  |((with_reducible refine b3 ?_);refine b2 rfl ?_)
  |((with_reducible refine b7 ?_);refine b6 rfl ?_)
  |((with_reducible refine Fh ?_);(first|refine eH rfl rfl H.f_uLoad rfl ?_|refine dN rfl rfl H.f_uLoad rfl ?_|refine eH rfl rfl H.f_uCas rfl ?_|refine dN rfl rfl H.f_uCas rfl ?_);walk_nrm)
  |(refine JC rfl rfl H.f_wait rfl ?_;exact PL λy=>a1)
  |((with_reducible refine Fg ?_);exact lM λy x=>⟨_,A,A,A⟩)
  |(refine lM λW x=>?_
    first
    |((first|refine⟨rfl,_,abb .enable (by simp) rfl rfl (by k_ne) rfl H.f_enable (x_enable_n L) (x_enable_b L) (x_enable_x L) (x_enable_f L),20,?_⟩|refine⟨rfl,_,aaQ .write (by simp) rfl rfl (by k_ne) rfl H.f_raceWrite (x_raceWrite_n L) (x_raceWrite_b L) (x_raceWrite_x L) (x_raceWrite_f L) (by first|(simp[Act.eval,smA];done)|fail),100,?_⟩|refine⟨rfl,λc=>⟨_,I_ (v:=0) A rfl (by k_ne) A H.f_loadU64 (x_loadU64_n L) (x_loadU64_b L) (x_loadU64_x L) .u64 (x_loadU64_f L) A c.cellSt,120,?_⟩⟩)
      walk_nrm
      refine(?_:GL _ _ _ _ _ _ _) _ x)
    |(refine⟨rfl,_,aaQ .acquire (by simp) rfl rfl (by k_ne) rfl H.f_acquire (x_acquire_n L) (x_acquire_b L) (x_acquire_x L) (x_acquire_f L) (by first|(simp[Act.eval,stA];done)|fail),20,?_⟩
      walk_nrm)
    |(intro y x
      refine⟨A,A,λ⟨c8,c⟩=>stepG_semacquire_wait A rfl rfl H.f_semacquire (x_semacquire_n L) (x_semacquire_b L) (x_semacquire_x L) (x_semacquire_f L) (by simp[Act.eval,smA]) c.cellSm,λN=>?_⟩;refine⟨_,(stepG_semacquire (n:=1) A rfl (by k_ne) A H.f_semacquire (x_semacquire_n L) (x_semacquire_b L) (x_semacquire_x L) (x_semacquire_f L) (by simp[Act.eval,smA]) N.cellSm (by k_ne) (N.thaw 1)).trans (by rfl),120,?_⟩;have x:WgLive L.tWg h (y.setCell (smA h) (.int .u32 0)):=⟨_,_,N.setSm 0⟩;clear N;walk_nrm
      refine(?_:GL _ _ _ _ _ _ _) _ x)
    |(refine⟨rfl,λb1 c6 c=>⟨λS=>?_,λS=>?_⟩⟩
      subst S;rw[z]at c⊢
      refine⟨_,(stepG_cas_hit (v:=o) (n:=o+1) rfl rfl (by k_ne) rfl H.f_casU64 (x_casU64_n L) (x_casU64_b L) (x_casU64_x L) .u64 (x_casU64_f L) rfl rfl rfl c.cellSt (c.thaw 0)).trans (by rfl),120,?_⟩;have x:WgLive L.tWg h (W.setCell (stA h) (.int .u64 (o+1))):=⟨_,_,c.setSt _⟩;clear c z;walk_nrm;refine(?_:GL _ _ _ _ _ _ _) _ x
      rotate_left
      refine⟨_,stepG_cas_miss (v:=(b1:Xj)*KK) (old:=o) (n:=o+1) rfl rfl (by k_ne) rfl H.f_casU64 (x_casU64_n L) (x_casU64_b L) (x_casU64_x L) .u64 (x_casU64_f L) rfl rfl rfl c.cellSt (c.thaw 0) (by rw[<-z];simp only[KK];omega),120,?_⟩;clear c;walk_nrm
      refine(?_:GL _ _ _ _ _ _ _) _ x)
    |(refine⟨rfl,λg c0 c=>?_⟩
      rcases Ye g with rfl|c7
      replace c:WgAt L.tWg h W 0 0:=by simpa using c
      refine⟨_,I_ (v:=0) A rfl (by k_ne) A H.f_loadU64 (x_loadU64_n L) (x_loadU64_b L) (x_loadU64_x L) .u64 (x_loadU64_f L) A c.cellSt,λ_=>⟨120,?_⟩,λQ=>absurd A Q⟩;clear c;walk_nrm;refine(?_:GL _ _ _ _ _ _ _) _ x
      rotate_left
      obtain⟨o,z⟩:∃o:Xj,(g:Xj)*KK=o:=⟨_,A⟩;have a2:o/4294967296=(g:Xj):=by rw[<-z];simp only[KK];omega
      have a3:(g:Xj)%4294967296=g:=by omega
      have a4:bits .and .u64 o 2147483648=0:=by rw[<-z];have:=st_flag g 0 (by omega) (by omega);simpa[KK]using this
      have a5:bits .and .u64 o 2147483647=0:=by rw[<-z];have:=st_waiters g 0 (by omega) (by omega);simpa[KK]using this
      have a6:decide ((g:Xj)=0)=Xf:=by first|(simp;done)|(simp;omega)
      have a7:((g:Xj)==0)=Xf:=by first|(simp;done)|(simp;omega)
      have a8:(o+1)%18446744073709551616=o+1:=by rw[<-z];simp only[KK];omega
      have a9:(g:Xj)≠0:=by omega
      have b0:((g:Xj)+2147483648)%4294967296-2147483648=g:=by omega
      rw[z]at c;refine⟨_,I_ (v:=o) A rfl (by k_ne) A H.f_loadU64 (x_loadU64_n L) (x_loadU64_b L) (x_loadU64_x L) .u64 (x_loadU64_f L) A c.cellSt,λY=>absurd Y (by omega),λ_=>⟨120,?_⟩⟩;clear c;walk_nrm
      refine(?_:GL _ _ _ _ _ _ _) _ x)))
end
end Go.SimW
namespace Go.Sim
open Go.Conc Go.Proofs Go.RowKit
open Go.ConcN (PermW PermW.app PermW.of fork_knows WgLive RelBy sumTo)
open Go.ConcR (KK wgBlock WgAt stA smA rd wr mk DC0)
variable{v:Xe}{c:Xk Xe}{i:E}
abbrev Ren:=E->E->Prop
def Ren.le(d e:Ren):Prop:=∀a b,d a b->e a b
theorem Ren.le_refl(a:Ren):a.le a:=λ_ _ b=>b
theorem Ren.le_trans{a b c:Ren}(f:a.le b)(g:b.le c):a.le c:=λd e h=>g d e (f d e h)
def bC(d:Ren)(a b:Xw):Prop:=d a.block b.block/\a.off=b.off/\a.spot=b.spot
theorem bC.mono{e f:Ren}(g:e.le f){a b:Xw}(d:bC e a b):bC f a b:=⟨g _ _ d.1,d.2⟩
theorem bC.add{g:Ren}{a b:Xw}(k:bC g a b)(f:E):bC g (a.add f) (b.add f):=by
 obtain⟨d,e,h⟩:=k;unfold Addr.add;split
 .exact⟨d,e,h⟩
 exact⟨d,by simp[e],A⟩
def bO:Xe->Prop
 |XA (C _)|Xm (C _) _ _|.map (C _)|.chan (C _)|.func (.func _) _ _|.func (.yield _) _ _|.int .u8 _=>True
 |_=>False
structure Set where
 fn:XI->Xo
 fr:XI->Xo
 code:XG->Xo
 bi:Builtin->Xk Xq->Xo
 bZ:Xo
inductive uG(a:Set)(d:Ren):Fn->Fn->Prop
 |func (b:XI) (g:a.fn b=J):uG a d (.func b) (.func b)
 |yield {e f:E} (g:d e f):uG a d (.yield e) (.yield f)
inductive an(b:Set)(a:Ren):Xe->Xe->Prop
 |bS {v:Xe} (g:bO v):an b a (.tuple #[]) v
 |bool (p:Xo):an b a (.bool p) (.bool p)
 |int (s:IntKind) (f:Xj):an b a (.int s f) (.int s f)
 |string (u:XB):an b a (.string u) (.string u)
 |cG:an b a (XA F) (XA F)
 |ptr {h k:Xw} (g:bC a h k):an b a (XA (C h)) (XA (C k))
 |aO (f c:E):an b a (Xm F f c) (Xm F f c)
 |slice {h k:Xw} (g:bC a h k) (f c:E):an b a (Xm (C h) f c) (Xm (C k) f c)
 |ft:an b a (.map F) (.map F)
 |map {l m:E} (g:a l m):an b a (.map (C l)) (.map (C m))
 |ed:an b a (.chan F) (.chan F)
 |chan {l m:E} (g:a l m):an b a (.chan (C l)) (.chan (C m))
 |func {fn q:Fn} {n o c c':Xk Xe} (g:uG b a fn q) (y:n.size=o.size) (r:c.size=c'.size)
   (z:∀(i:E)(d e:Xe),n[i]?=C d->o[i]?=C e->an b a d e)
   (t:∀(i:E)(d e:Xe),c[i]?=C d->c'[i]?=C e->an b a d e):an b a (.func fn n c) (.func q o c')
 |nilFunc:an b a .nilFunc .nilFunc
 |iface (w:Xq) {v x:Xe} (g:an b a v x):an b a (.iface w v) (.iface w x)
 |nilIface:an b a .nilIface .nilIface
 |agg {c c':Xk Xe} (r:c.size=c'.size) (t:∀(i:E)(d e:Xe),c[i]?=C d->c'[i]?=C e->an b a d e):an b a (.agg c) (.agg c')
 |tuple {c c':Xk Xe} (r:c.size=c'.size) (t:∀(i:E)(d e:Xe),c[i]?=C d->c'[i]?=C e->an b a d e):an b a (.tuple c) (.tuple c')
def jW(P:Xy):Prop:=∀b a,P.underlying b≠C (.float a)/\P.underlying b≠C (.complex a)
def aw(e:Set)(f:Ren)(c a:Xk Xe):Prop:=c.size=a.size/\∀(i:E)(b d:Xe),c[i]?=C b->a[i]?=C d->an e f b d
theorem uG.mono{d:Set}{f g:Ren}(b:f.le g){a e:Fn}(k:uG d f a e):uG d g a e:=by
 cases k with
 |func a b=>exact .func a b
 |yield h=>exact .yield (b _ _ h)
theorem an.mono{g:Set}{k l:Ren}(b:k.le l){h:Xe}(a:an g k v h):an g l v h:=by
 induction a with
 |bS b=>exact .bS b
 |bool m=>exact .bool m
 |int r f=>exact .int r f
 |string s=>exact .string s
 |cG=>exact .cG
 |ptr a=>exact .ptr (a.mono b)
 |aO f c=>exact .aO f c
 |slice a f c=>exact .slice (a.mono b) f c
 |ft=>exact .ft
 |map a=>exact .map (b _ _ a)
 |ed=>exact .ed
 |chan a=>exact .chan (b _ _ a)
 |func n o d _ _ q p=>exact .func (n.mono b) o d q p
 |nilFunc=>exact .nilFunc
 |iface t _ e=>exact .iface t e
 |nilIface=>exact .nilIface
 |agg d _ e=>exact .agg d e
 |tuple d _ e=>exact .tuple d e
theorem aw.mono{a:Set}{e f:Ren}(g:e.le f){b:Xk Xe}(d:aw a e c b):aw a f c b:=
 ⟨d.1,λi l m h k=>(d.2 i l m h k).mono g⟩
inductive lE(a:Set)(b:Ren):Target->Target->Prop
 |fn {g h:Fn} {c f:Xk Xe} (k:uG a b g h) (p:aw a b c f):lE a b (.fn g c) (.fn h f)
 |nil:lE a b .nil .nil
 |builtin (d:Builtin) (e:Xk Xq) (o:Xq) (l:Xk Xo) (k:a.bi d e=J):lE a b (.builtin d e o l) (.builtin d e o l)
 |collected {m n:E} (k:b m n):lE a b (.collected m) (.collected n)
def rP(a:Set)(e:Ren)(b d:Deferred):Prop:=lE a e b.target d.target/\aw a e b.args d.args
inductive aZ{d e:Type}(b:d->e->Prop):Xg d->Xg e->Prop
 |nil:aZ b [] []
 |cons {a:d} {a':e} {f:Xg d} {g:Xg e} (h:b a a') (k:aZ b f g):aZ b (a::f) (a'::g)
theorem aZ.mono{h k:Type}{b a:h->k->Prop}(l:∀d e,b d e->a d e){f:Xg h}{g:Xg k}(n:aZ b f g):aZ a f g:=by
 induction n with
 |nil=>exact .nil
 |cons o _ m=>exact .cons (l _ _ o) m
theorem aZ.append{g h:Type}{a:g->h->Prop}{b e:Xg g}{d f:Xg h}(l:aZ a b d)(m:aZ a e f):aZ a (b++e) (d++f):=by
 induction l with
 |nil=>exact m
 |cons n _ k=>exact .cons n k
theorem aZ.length{d e:Type}{f:d->e->Prop}{a:Xg d}{b:Xg e}(h:aZ f a b):a.length=b.length:=by
 induction h with
 |nil=>rfl
 |cons _ _ g=>simp[g]
theorem aZ.get{d l:Type}{e:d->l->Prop}{g:Xg d}{h:Xg l}(p:aZ e g h){f:d}(a:g[i]?=C f):∃b,h[i]?=C b/\e f b:=by
 induction p generalizing i with
 |nil=>simp at a
 |cons x _ o=>
  cases i with
  |zero=>simp at a;subst a;exact⟨_,by simp,x⟩
  |succ i=>simp at a;obtain⟨b,m,n⟩:=o a;exact⟨b,by simpa using m,n⟩
theorem lE.mono{e:Set}{g h:Ren}(a:g.le h){b f:Target}(d:lE e g b f):lE e h b f:=by
 cases d with
 |fn m l=>exact .fn (m.mono a) (l.mono a)
 |nil=>exact .nil
 |builtin k o b n a=>exact .builtin k o b n a
 |collected d=>exact .collected (a _ _ d)
theorem rP.mono{a:Set}{g h:Ren}(e:g.le h){b d:Deferred}(f:rP a g b d):rP a h b d:=⟨f.1.mono e,f.2.mono e⟩
def iZ(d:Set)(e:Ren)(a b:XH):Prop:=an d e a.key b.key/\an d e a.val b.val/\a.born=b.born
def cJ:XG->Xo
 |.seq a b=>cJ a&&cJ b
 |.cond _ a b=>cJ a&&cJ b
 |.block _ a|.loop a|.scope a=>cJ a
 |.rangeFunc _ _ a b=>cJ a&&cJ b
 |.region _ e _=>e.toList.all λd=>match d.op with|.defer _=>Xf|_=>J
 |_=>J
def zn(d:Set)(e:Ren)(a b:Loop):Prop:=
 a.state=b.state/\a.pending=b.pending/\a.fn=b.fn/\aw d e a.tmps b.tmps/\a.params=b.params/\a.assign=b.assign/\a.body=b.body/\e a.defers b.defers/\
  d.code a.assign=J/\d.code a.body=J/\(∀c,a.pending=C c->d.code c=J/\cJ c=J)/\d.fr a.fn=J/\cJ a.assign=J/\cJ a.body=J
def kS(a b:E×E):Prop:=b.1=b.2\/(a.1≠a.2/\a.1<=b.1/\b.2<=a.2)
theorem kS.refl(a:E×E):kS a a:=by
 unfold kS;by_cases b:a.1=a.2
 .exact Xh b
 exact Xi ⟨b,XS _,XS _⟩
def aT(c:Xk Xe):Prop:=∃(a:E)(b:Xj),c[a]?=C (.int .u8 b)
inductive gP(b:Set)(a:Ren):Obj->Obj->Prop
 |cells {c o:Xk Xe} (D:Xq) {s t:E×E} (e:aw b a c o) (Q:kS s t):gP b a (.cells c D s) (.cells o D t)
 |map {q r:Xk XH} (u:E) (e:aZ (iZ b a) q.toList r.toList):gP b a (.map q u) (.map r u)
 |view {f g:Xw} (e:bC a f g) (L:Xq):gP b a (.view f L) (.view g L)
 |number {f g:Xw} (e:bC a f g) (d:Xo):gP b a (.number f d) (.number g d)
 |stringIter (z:XB) (y:E):gP b a (.stringIter z y) (.stringIter z y)
 |pE (k:E) (seen:Xk E) (l:E):gP b a (.mapIter F k seen l) (.mapIter F k seen l)
 |mapIter {w x:E} (e:a w x) (k:E) (seen:Xk E) (l:E):gP b a (.mapIter (C w) k seen l) (.mapIter (C x) k seen l)
 |loop {d h:Loop} (e:zn b a d h):gP b a (.loop d) (.loop h)
 |chan {m n:Xk Xe} (p:E) (cl:Xo) (N O:E) (H:Xo) (e:aw b a m n):gP b a (.chan p m cl N O H) (.chan p n cl N O H)
 |lJ:gP b a (.deferred F) (.deferred F)
 |deferred {d h:Xg Deferred} (e:aZ (rP b a) d h):gP b a (.deferred (C d)) (.deferred (C h))
theorem iZ.mono{b:Set}{g h:Ren}(f:g.le h){d e:XH}(a:iZ b g d e):iZ b h d e:=⟨a.1.mono f,a.2.1.mono f,a.2.2⟩
theorem gP.mono{h:Set}{m n:Ren}(b:m.le n){k l:Obj}(a:gP h m k l):gP h n k l:=by
 cases a with
 |cells u a q=>exact .cells u (a.mono b) q
 |map r a=>exact .map r (a.mono λ_ _ g=>g.mono b)
 |view a f=>exact .view (a.mono b) f
 |number a f=>exact .number (a.mono b) f
 |stringIter t s=>exact .stringIter t s
 |pE d e c=>exact .pE d e c
 |mapIter a d e c=>exact .mapIter (b _ _ a) d e c
 |loop a=>exact .loop ⟨a.1,a.2.1,a.2.2.1,a.2.2.2.1.mono b,a.2.2.2.2.1,a.2.2.2.2.2.1,a.2.2.2.2.2.2.1,b _ _ a.2.2.2.2.2.2.2.1,a.2.2.2.2.2.2.2.2⟩
 |chan d e c o p a=>exact .chan d e c o p (a.mono b)
 |lJ=>exact .lJ
 |deferred a=>exact .deferred (a.mono λ_ _ g=>g.mono b)
structure aV(m:Set)(d:Ren)(l e:M):Prop where
 inj:∀a f b g,d a b->d f g->(a=f↔b=g)
 obj:∀a b,d a b->∃h k,l.heap[a]?=C h/\e.heap[b]?=C k/\gP m d h k
 os:l.os=e.os
variable{h:Set}{m:Ren}{P:Xy}{w:M}{q:M}{d:Xk Xe}{b:Xe}{w':M}
def Ak(h:Set):Mark->Xo
 |.extern a=>h.fn a
 |.noRoom=>J
 |_=>Xf
def dX(h:Set)(m:Ren):Loc->Loc->Prop
 |.cell b,.cell c=>bC m b c
 |.obj e,.obj f=>m e f
 |.mark a,.mark d=>a=d/\Ak h a=J
 |.output,.output=>True
 |_,_=>False
def ma(h:Set)(m:Ren)(a b:XF):Prop:=dX h m a.loc b.loc/\a.write=b.write/\a.sync=b.sync
theorem dX.mono{l:Ren}(k:m.le l){c g:Loc}(a:dX h m c g):dX h l c g:=by
 cases c<;>cases g<;>simp only[dX]at a⊢
 .exact a.mono k
 .exact k _ _ a
 exact a
theorem ma.mono{k:Ren}(l:m.le k){a c:XF}(g:ma h m a c):ma h k a c:=⟨g.1.mono l,g.2⟩
def lC(h:Set)(m:Ren):Halt->Halt->Prop
 |.panic v,.panic a=>an h m v a
 |.goexit,.goexit=>True
 |_,_=>False
def Halt.lost:Halt->Xo
 |.stuck _=>J
 |.unsupported (.initOrder _)=>Xf
 |.unsupported _=>J
 |_=>Xf
inductive gq{e:Type}:Xz e->Prop
 |lost {c:Halt} (p:Halt.lost c=J):gq (.halt c)
 |shape {o:E} {a:Xp (Xq×E)->Xz e} (c:∀g,gq (a g)):gq (.shape o a)
 |frozen {k:Xw} {a:Xo->Xz e} (c:∀g,gq (a g)):gq (.frozen k a)
 |mark {l:Mark} {a:Xz e} (c:gq a):gq (.mark l a)
 |program {a:Xy->Xz e} (c:∀P,gq (a P)):gq (.program a)
theorem gq.bind{e n:Type}{b:Xz e}(d:gq b)(c:e->Xz n):gq (b >>= c):=by
 induction d with
 |lost f=>exact .lost f
 |shape _ a=>exact .shape a
 |frozen _ a=>exact .frozen a
 |mark _ a=>exact .mark a
 |program _ a=>exact .program a
theorem gq.run{e:Type}{f:Xz e}(k:gq f)(P:Xy):∀(w:M)(a:Xk XF),∃c h,(∀g,f.runT P {w with tape:=g} a=(.halt c {w with tape:=g},h))/\Halt.lost c=J:=by
 induction k with
 |lost m=>simp_all
 |@shape l d _ b=>intro w a;exact b (w.shape? l) w a
 |@frozen i d _ b=>intro w a;exact b (w.frozen? i) w a
 |mark _ b=>intro w a;exact b w _
 |@program d _ b=>intro w a;exact b P w a
theorem lL{e:Type}(c:Xk e)(b:E)(d:e->e)(f:e)(g:c[b]?=C f)(a:E):(c.modify b d)[a]?=if a=b then C (d f)else c[a]?:=by grind
theorem bind_assoc'{e n k:Type}(f:Xz e)(g:e->Xz n)(h:n->Xz k):(f.bind g).bind h=f.bind λc=>(g c).bind h:=by
 induction f with
 |pure=>rfl
 |halt=>rfl
 |store i c v d a|freeze c l d a|setObj o m d a|mark i d a=>simp only[Sem.bind,a]
 |_=>simp only[Sem.bind];congr 1;funext b;apply_assumption
def lR{e:Type}(c:Obj)(b:E->Xz e):Xz e:=.new c λa=>(markStringish ⟨a,0,F⟩).bind λ_=>b a
theorem qK{e n:Type}(c:Obj)(b:E->Xz e)(a:e->Xz n):(lR c b).bind a=lR c λd=>(b d).bind a:=by simp[lR,Sem.bind,bind_assoc']
theorem tB{e:Type}(P:Xy)(d:Xk Xe)(a:Xq)(c:E->Xz e)(w:M)(b:Xk XF):
 (lR (.cells d a) c).runT P w b=(Xz.new (.cells d a (d.size,d.size+1)) c).runT P w b:=by
 have h:(w.heap.push (Obj.cells d a))[w.heap.size]?=C (Obj.cells d a):=by simp
 have f:M.shape? {w with heap:=w.heap.push (Obj.cells d a)} w.heap.size=C (a,d.size):=by simp[M.shape?]
 have g:M.freeze {w with heap:=w.heap.push (Obj.cells d a)} {block:=w.heap.size,off:=d.size} 1={w with heap:=w.heap.push (.cells d a (d.size,d.size+1))}:=by
  unfold M.freeze;rw[Xx (by simp)]
  congr 1
  grind
 unfold lR markStringish;simp only[Xz.runT,shape,Bind.bind,Sem.bind,f,freeze,g]
def iw{e:Type}(a:Xw)(b:E)(c:XB->Xz e):Xz e:=(loadBytes a .empty b).bind λd=>.freeze a b (c d)
theorem ox{e n:Type}(a:Xw)(d:E)(c:XB->Xz e)(b:e->Xz n):(iw a d c).bind b=iw a d λf=>(c f).bind b:=by simp[iw,bind_assoc',Sem.bind]
def kL:Obj->Xo
 |.map .. =>Xf
 |_=>J
inductive ae(P:Xy)(h:Set){e i:Type}(f:Ren->e->i->Prop):Ren->Xz e->Xz i->Prop
 |pure {m:Ren} {p:e} {r:i} (l:f m p r):ae P h f m (.pure p) (.pure r)
 |load {m:Ren} (x:Mode) {p r:Xw} {c:Xe->Xz e} {a:Xe->Xz i} (l:bC m p r) (g:∀v Q,an h m v Q->ae P h f m (c v) (a Q)):ae P h f m (.load x p c) (.load x r a)
 |store {m:Ren} (x:Mode) {p r:Xw} {v Q:Xe} {c:Xz e} {a:Xz i} (l:bC m p r) (a2:an h m v Q) (g:ae P h f m c a):ae P h f m (.store x p v c) (.store x r Q a)
 |new {m:Ren} {y z:Obj} {c:E->Xz e} {a:E->Xz i} (l:gP h m y z) (g:∀t O D,m.le D->D t O->ae P h f D (c t) (a O)):ae P h f m (.new y c) (.new z a)
 |shape {m:Ren} {u o:E} {c:Xp (Xq×E)->Xz e} {a:Xp (Xq×E)->Xz i} (l:m u o) (g:∀k,ae P h f m (c k) (a k)):ae P h f m (.shape u c) (.shape o a)
 |nQ {m:Ren} {d U:Xk Xe} (R:Xq) {c:E->Xz e} {a:E->Xz i} (l:aw h m d U) (g:∀t O D,m.le D->D t O->ae P h f D (c t) (a O)):ae P h f m (lR (.cells d R) c) (lR (.cells U R) a)
 |jR {m:Ren} {p r:Xw} (t:E) {c:XB->Xz e} {a:XB->Xz i} (l:bC m p r) (g:∀b,ae P h f m (c b) (a b)):ae P h f m (iw p t c) (iw r t a)
 |frozen {m:Ren} {p r:Xw} {c:Xo->Xz e} {a:Xo->Xz i} (l:bC m p r) (g:∀S T,(T=J->S=J)->ae P h f m (c S) (a T)):ae P h f m (.frozen p c) (.frozen r a)
 |getObj {m:Ren} {u o:E} {c:Obj->Xz e} {a:Obj->Xz i} (l:m u o) (g:∀y z,gP h m y z->ae P h f m (c y) (a z)):ae P h f m (.getObj u c) (.getObj o a)
 |setObj {m:Ren} {u o:E} {y z:Obj} {c:Xz e} {a:Xz i} (l:m u o) (a1:gP h m y z) (X:h.bZ=J\/kL y=J) (g:ae P h f m c a):ae P h f m (.setObj u y c) (.setObj o z a)
 |choose {m:Ren} (H:Question) {c:E->Xz e} {a:E->Xz i} (g:∀t,ae P h f m (c t) (a t)):ae P h f m (.choose H c) (.choose H a)
 |kl {m:Ren} (H:Question) {c:E->Xz e} {L:Xz i} (Y:H.forced=Xf) (R:E) (g:ae P h f m (c (H.cut R)) L):ae P h f m (.choose H c) L
 |sL {m:Ren} {o:E} {k:Xz e} {a:Xp (Xq×E)->Xz i} (g:∀b,ae P h f m k (a b)):ae P h f m k (.shape o a)
 |wU {m:Ren} {o:E} {k:Xz i} {a:Xp (Xq×E)->Xz e} (g:∀b,ae P h f m (a b) k):ae P h f m (.shape o a) k
 |nJ {m:Ren} {o:Xw} {k:Xz e} {a:Xo->Xz i} (g:∀b,ae P h f m k (a b)):ae P h f m k (.frozen o a)
 |qx {m:Ren} {o:Xw} {k:Xz i} {a:Xo->Xz e} (g:∀b,ae P h f m (a b) k):ae P h f m (.frozen o a) k
 |env {m:Ren} {c:SysRet->Xz e} {a:SysRet->Xz i} (g:∀u,ae P h f m (c u) (a u)):ae P h f m (.sys .env c) (.sys .env a)
 |program {m:Ren} {c:Xy->Xz e} {a:Xy->Xz i} (g:ae P h f m (c P) (a P)):ae P h f m (.program c) (.program a)
 |mark {m:Ren} (x:Mark) (X:Ak h x=J) {c:Xz e} {a:Xz i} (g:ae P h f m c a):ae P h f m (.mark x c) (.mark x a)
 |halt {m:Ren} {l W:Halt} (Z:lC h m l W):ae P h f m (.halt l) (.halt W)
 |lost {m:Ren} {l:Halt} {L:Xz i} (a0:Halt.lost l=J):ae P h f m (.halt l) L
 |dead {m:Ren} {k:Xz e} {L:Xz i} (l:gq k):ae P h f m k L
section
variable{e i n s:Type}{f:Ren->e->i->Prop}{N:Ren->n->s->Prop}
theorem ae.bind{t:Xz e}{T:Xz i}(c:ae P h f m t T){R:e->Xz n}{S:i->Xz s}
 (d:∀o p q,m.le o->f o p q->ae P h N o (R p) (S q)):ae P h N m (t.bind R) (T.bind S):=by
 induction c with
 |pure c=>exact d _ _ _ (Ren.le_refl _) c
 |load r c g a=>exact .load r c λv a3 D=>a v a3 D d
 |store r c D g a=>exact .store r c D (a d)
 |new c g a=>exact .new c λl H o k y=>a l H o k y λQ p q u=>d Q p q (Ren.le_trans k u)
 |shape c g a=>exact .shape c λt=>a t d
 |nQ O c g a=>rw[qK,qK];exact .nQ O c λl H o k y=>a l H o k y λQ p q u=>d Q p q (Ren.le_trans k u)
 |jR l c g a=>rw[ox,ox];exact .jR l c λb=>a b d
 |frozen c g a=>exact .frozen c λU W k=>a U W k d
 |getObj c g a=>exact .getObj c λa0 a1 z=>a a0 a1 z d
 |setObj c z x g a=>exact .setObj c z x (a d)
 |choose L g a=>exact .choose L λl=>a l d
 |kl L Z O g a=>exact .kl L Z O (a d)
 |sL g a=>exact .sL λb=>a b d
 |wU g a=>exact .wU λb=>a b d
 |nJ g a=>exact .nJ λb=>a b d
 |qx g a=>exact .qx λb=>a b d
 |env g a=>exact .env λa2=>a a2 d
 |program g a=>exact .program (a d)
 |mark r x g a=>exact .mark r x (a d)
 |halt X=>exact .halt X
 |lost Y=>exact .lost Y
 |dead c=>exact .dead (c.bind _)
theorem ae.mono{x:Xz e}{y:Xz i}{r:Ren->e->i->Prop}(c:ae P h f m x y)(O:∀m t u,f m t u->r m t u):ae P h r m x y:=by
 induction c with
 |pure c=>exact .pure (O _ _ _ c)
 |load k c g a=>exact .load k c a
 |store k c Q g a=>exact .store k c Q a
 |new c g a=>exact .new c a
 |shape c g a=>exact .shape c a
 |nQ p c g a=>exact .nQ p c a
 |jR R c g a=>exact .jR R c a
 |frozen c g a=>exact .frozen c a
 |getObj c g a=>exact .getObj c a
 |setObj c H l g a=>exact .setObj c H l a
 |choose o g a=>exact .choose o a
 |kl o L p g a=>exact .kl o L p a
 |sL g a=>exact .sL a
 |wU g a=>exact .wU a
 |nJ g a=>exact .nJ a
 |qx g a=>exact .qx a
 |env g a=>exact .env a
 |program g a=>exact .program a
 |mark k l g a=>exact .mark k l a
 |halt z=>exact .halt z
 |lost D=>exact .lost D
 |dead c=>exact .dead c
end
theorem JP{e i:Type}{f:e->i->Prop}{a:Xg e}{c:Xg i}(d:aZ f a c){b:e}(g:b∈a):∃h∈c,f b h:=by
 induction d with
 |nil=>cases g
 |cons k _ l=>grind
def Ep(w:M)(a:E):Prop:=a<w.heap.size->∃d c b,w.heap[a]?=C (Obj.cells d c b)/\aT d
structure bD(h:Set)(m x:Ren)(w o q p:M)(r z:Xg XF):Prop where
 le:m.le x
 rel:aV h x o p
 lz:aZ (ma h x) r z
 size:w.heap.size<=o.heap.size
 uP:q.heap.size<=p.heap.size
 os:p.os=q.os
 out:p.output=q.output
 tape:p.tape=q.tape
 same:∀c,c<q.heap.size->(∀g∈z,g.write=J->g.loc≠.obj c/\∀a,g.loc=.cell a->a.block≠c)->
  p.heap[c]?=q.heap[c]?\/((∃a,m a c/\Ep w a)/\∃d t k u,aT d/\q.heap[c]?=C (Xn d t k)/\p.heap[c]?=C (Xn d t u))
 wr:∀g∈r,g.write=J->∀a,g.loc=.cell a->a.block<w.heap.size->w.frozen? a=Xf
 fresh:∀a c,x a c->m a c\/(w.heap.size<=a/\q.heap.size<=c)
 iG:∀c,c<w.heap.size->(∀g∈r,g.write=J->g.loc≠.obj c/\∀a,g.loc=.cell a->a.block≠c)->
  o.heap[c]?=w.heap[c]?\/∃d t k u,w.heap[c]?=C (Xn d t k)/\o.heap[c]?=C (Xn d t u)
 oe:h.bZ=Xf->∀c,(∃g∈r,g.write=J/\g.loc=.obj c)->∃D,o.heap[c]?=C D/\kL D=J
 qn:∀(c:E) d t k,w.heap[c]?=C (Obj.cells d t k)->∃y u,o.heap[c]?=C (Obj.cells y t u)/\y.size=d.size
 iq:∀g∈r,g.write=J->∀a,g.loc=.cell a->∃d t k,o.heap[a.block]?=C (Obj.cells d t k)/\a.off<d.size
 qU:∀g∈r,g.write=J->∀c,g.loc=.obj c->∀d t k,w.heap[c]?≠C (Obj.cells d t k)
 jR:∀a,w.frozen? a=J->o.frozen? a=J
theorem bD.refl(a:aV h m w q):bD h m m w w q q [] [] where
 le:=Ren.le_refl _
 rel:=a
 lz:=.nil
 size:=XS _
 uP:=XS _
 os:=A
 out:=A
 tape:=A
 same:=λ_ _ _=>Xh A
 wr:=by simp
 fresh:=λ_ _ a=>Xh a
 iG:=λ_ _ _=>Xh A
 oe:=by simp
 qn:=λc d i b a=>⟨d,b,a,A⟩
 iq:=by simp
 qU:=by simp
 jR:=λ_ a=>a
theorem bD.trans{β₁ b5:Ren}{w₁ b4 a2 a3:M}{Y a4 U a5:Xg XF}(l:bD h m β₁ w w₁ q a2 Y a4)(o:bD h β₁ b5 w₁ b4 a2 a3 U a5):
 bD h m b5 w b4 q a3 (Y++U) (a4++a5) where
 le:=Ren.le_trans l.le o.le
 rel:=o.rel
 lz:=(l.lz.mono λ_ _ b=>b.mono o.le).append o.lz
 size:=XZ l.size o.size
 uP:=XZ l.uP o.uP
 os:=o.os.trans l.os
 out:=o.out.trans l.out
 tape:=o.tape.trans l.tape
 same:=by
  intro g y S;have r:=l.same g y λk c=>S k (ZF _ c);have Q:=o.same g (XY y l.uP) λk c=>S k (n_ _ c)
  have T:(∃a,β₁ a g/\Ep w₁ a)->∃a,m a g/\Ep w a:=by
   rintro⟨a,p,c6⟩;rcases l.fresh a g p with T|⟨_,T⟩
   .refine⟨a,T,λO=>?_⟩;obtain⟨d,u,x,a9,a8⟩:=c6 (XY O l.size)
    have c8:∀k∈Y,k.write=J->k.loc≠.obj a/\∀b,k.loc=.cell b->b.block≠a:=λk c t=>by
     obtain⟨H,R,z,d1,_⟩:=JP l.lz c;have b0:=S H (ZF _ R) (by rw[<-d1];exact t);constructor
     .intro D;rw[D]at z;cases L:H.loc with
      |obj b2=>rw[L]at z;have:g=b2:=(l.rel.inj a a g b2 p z).1 A;exact b0.1 (by rw[L,this])
      |_=>rw[L]at z;exact z.elim
     intro b D c9;rw[D]at z;cases L:H.loc with
     |cell X=>rw[L]at z;have b3:β₁ b.block X.block:=z.1;rw[c9]at b3;have:g=X.block:=(l.rel.inj a a g X.block p b3).1 A;exact b0.2 X L this.symm
     |_=>rw[L]at z;exact z.elim
    rcases l.iG a O c8 with d0|⟨d4,e0,b6,d5,q1,b1⟩
    .exact⟨d,u,x,by rw[<-d0];exact a9,a8⟩
    rw[a9]at b1;cases b1;exact⟨_,_,_,q1,a8⟩
   omega
  grind
 wr:=by
  intro k c t a p O;rcases YC.1 c with c|c
  .exact l.wr k c t a p O
  have:=o.wr k c t a p (XY O l.size);cases c7:w.frozen? a with
  |false=>rfl
  |true=>rw[l.jR a c7]at this;cases this
 fresh:=by
  intro a g a0;rcases o.fresh a g a0 with r|⟨r,Q⟩
  .exact l.fresh a g r
  exact Xi ⟨XZ l.size r,XZ l.uP Q⟩
 jR:=λa p=>o.jR a (l.jR a p)
 iG:=by
  intro g y S;have r:=l.iG g y λk c=>S k (ZF _ c);have Q:=o.iG g (XY y l.size) λk c=>S k (n_ _ c)
  grind
 qn:=by intro g d u x y;obtain⟨c1,Z,r,d2⟩:=l.qn g d u x y;obtain⟨c2,b7,Q,d3⟩:=o.qn g c1 u Z r;simp_all
 qU:=by
  intro k c t g D d u x y;rcases YC.1 c with c|c
  .exact l.qU k c t g D d u x y
  obtain⟨c1,Z,r,_⟩:=l.qn g d u x y;exact o.qU k c t g D c1 u Z r
 iq:=by
  intro k c t a p;rcases YC.1 c with c|c
  .obtain⟨d,u,x,r,d2⟩:=l.iq k c t a p;obtain⟨c2,b7,Q,d3⟩:=o.qn _ d u x r;simp_all
  exact o.iq k c t a p
 oe:=by
  rintro a1 g⟨k,c,t,D⟩;rcases YC.1 c with c|c
  .obtain⟨d7,r,Q⟩:=l.oe a1 g ⟨k,c,t,D⟩;by_cases a6:∃k∈U,k.write=J/\k.loc=.obj g
   .exact o.oe a1 g a6
   by_cases a7:∃k∈U,k.write=J/\∃a,k.loc=.cell a/\a.block=g
   .obtain⟨H,R,W,a,p,rfl⟩:=a7;obtain⟨d,u,x,b8,_⟩:=o.iq H R W a p;exact⟨_,b8,A⟩
   have O:g<w₁.heap.size:=(XN.1 r).1;rcases o.iG g O (λH R W=>⟨λT=>a6 ⟨H,R,W,T⟩,λa p a0=>a7 ⟨H,R,W,a,p,a0⟩⟩)with b9|⟨d,u,x,b6,b9,c0⟩
   .simp_all
   exact⟨_,c0,A⟩
  exact o.oe a1 g ⟨k,c,t,D⟩
section
theorem aV.cell(o:aV h m w q){g k:Xw}(c:bC m g k)(a:w.cell? g=C v):∃l,q.cell? k=C l/\an h m v l:=by
 obtain⟨L,O,t,u,y⟩:=o.obj _ _ c.1;unfold M.cell? at a⊢
 rw[t]at a;rw[u];cases y with
 |cells Q r z=>
  simp only at a⊢
  rw[<-c.2.2,<-c.2.1];split at a
  .cases a
  rename_i x;rw[Xx x];obtain⟨H,D⟩:=r
  grind
 |_=>cases a
theorem aV.left(c:aV h m w q){a b:E}(d:m a b):a<w.heap.size:=by
 obtain⟨f,_,e,_⟩:=c.obj _ _ d
 grind
theorem aV.right(c:aV h m w q){b a:E}(d:m b a):a<q.heap.size:=by
 obtain⟨_,f,_,e,_⟩:=c.obj _ _ d
 grind
theorem aV.put(c:aV h m w q){l t:E}(R:m l t){o o':Obj}(S:gP h m o o'){u p:M}
 (D:∀a,u.heap[a]?=if a=l then C o else w.heap[a]?)(H:∀a,p.heap[a]?=if a=t then C o' else q.heap[a]?)(O:u.os=w.os)(L:p.os=q.os):aV h m u p where
 os:=by rw[O,L];exact c.os
 inj:=c.inj
 obj:=by
  intro r x y;have Q:=c.inj r l x t y R;rw[D,H];by_cases z:r=l
  .simp_all
  rw[Xx z,Xx (λb=>z (Q.2 b))];exact c.obj r x y
theorem yk{a:Xe}(c:an h m v a){bs:Xg UInt8}(b:v.bytes?=C bs):a=v:=by cases c<;>first|rfl|cases b
theorem getElem?_set{e:Type}(c:Xk e)(b:E)(d:e)(f:b<c.size)(a:E):(c.setIfInBounds b d)[a]?=if a=b then C d else c[a]?:=by grind
theorem xB{e n:Type}{a:e->Xp n}{f:Xk e}{d:n}(c:f.findSome? a=C d):∃b,a b=C d:=by
 rw[<-Xk.findSome?_toList]at c;obtain⟨b,_,g⟩:=Xg.exists_of_findSome?_eq_some c
 grind
theorem ig(e:jW P):∀(d:E)(c:Xq)(i:E){v:Xe},plainCell P d c i=C v->(∃k,v=.bool k)\/∃b h,v=.int b h
 |0,_,_,_,a=>by grind [plainCell]
 |d+1,c,i,v,a=>by
  unfold plainCell at a;cases g:P.underlying c with
  |none=>simp_all
  |some l=>
   rw[g]at a;cases l with
   |struct o=>
    obtain⟨n,f⟩:=xB a;split at f
    .exact ig e d _ _ f
    cases f
   |array h m=>
    dsimp only at a;split at a
    .cases a
    exact ig e d _ _ a
   |bool=>simp_all
   |int b=>grind
   |float b=>exact absurd g (e c b).1
   |complex b=>exact absurd g (e c b).2
   |_=>cases a
theorem mY{b:Xe}{bs:Xg UInt8}(f:(∃c,b=.bool c)\/∃d e,b=.int d e)(a:b.ofBytes bs=C v):an h m v v:=by
 rcases f with⟨c,rfl⟩|⟨d,e,rfl⟩
 .simp only[Xe.ofBytes]at a;split at a<;>first|(cases a;exact .bool _)|cases a
 simp only[Xe.ofBytes]at a;split at a<;>first|(cases a;exact .int _ _)|cases a
theorem tE{old b:Xe}{bs:Xg UInt8}(c:an h m old b)(a:old.ofBytes bs=C v):an h m v v:=by cases c<;>first|exact mY (Xh ⟨_,rfl⟩) a|exact mY (Xi ⟨_,_,rfl⟩) a|cases a
theorem oI(P:Xy){f:Xk Xe}(i:aw h m d f)(a:Xq):∀(e b stop:E){n:Xg (E×E×Xg UInt8)},seenCells P d a e b stop=.ok n->seenCells P f a e b stop=.ok n
 |0,_,_,_,c=>by grind [seenCells]
 |e+1,b,stop,n,c=>by
  unfold seenCells at c⊢
  by_cases q:b>=stop
  .simp_all
  rw[Xx q]at c⊢
  simp only at c⊢
  by_cases r:P.bytesOf a=0
  .simp_all
  simp only[r,Yf]at c⊢
  cases s:cellHolding P P.depth a (b%P.bytesOf a)with
  |none=>simp_all
  |some g=>
   simp only[s,Zo]at c⊢
   cases l:d[b/P.bytesOf a*P.cellsOf a+g.1]? with
   |none=>simp_all
   |some v=>
    simp only[l]at c;cases o:v.bytes? with
    |none=>simp_all
    |some bs=>
     cases bs with
     |nil=>simp_all
     |cons p bs=>
      simp only[o]at c;have t:=(XN.1 l).1;have u:b/P.bytesOf a*P.cellsOf a+g.1<f.size:=by rw[<-i.1];exact t
      have y:=i.2 _ _ _ l (XN.2 ⟨u,A⟩);have x:f[b/P.bytesOf a*P.cellsOf a+g.1]?=C v:=by grind [yk]
      simp only[x,o];cases k:seenCells P d a e (b/P.bytesOf a*P.bytesOf a+g.2+(p::bs).length) stop with
      |error D=>rw[k]at c;cases c
      |ok z=>rw[k]at c;rw[oI P i a e _ stop k];exact c
theorem lK{g e n:Type}{b:Except g e}{c:e->Except g n}{f:n}(d:(b >>= c)=.ok f):∃a,b=.ok a/\c a=.ok f:=by
 cases b with
 |error h=>cases d
 |ok a=>exact⟨a,A,d⟩
theorem DC(W:aV h m w q)(N:jW P){c y:Xw}(u:bC m c y)(k:Xq){b x:Xw}(Z:b.off=x.off)(a0:b.spot=x.spot)(l:Xo)
 {f:Xq}{o:E×E}{first:E}{i:Xe}{R:Xg (E×E×Xg UInt8)}(a:w.seen P c k b l=.ok (d,f,o,first,i,R)):
 ((∃S,i=.bool S)\/∃b a6,i=.int b a6)/\∃n p,q.seen P y k x l=.ok (n,f,p,first,i,R)/\aw h m d n/\kS o p/\w.heap[c.block]?=C (Xn d f o)/\q.heap[y.block]?=C (Xn n f p):=by
 unfold M.seen at a⊢
 rw[<-Z,<-a0,<-u.2.2,<-u.2.1];by_cases Q:(b.spot.isSome||c.spot.isSome)=J
 .simp only[Q,Yc]at a;obtain⟨_,r,_⟩:=lK a;cases r
 simp only[Q]at a⊢
 cases g:plainCell P P.depth k b.off with
 |none=>simp only[g]at a;cases a
 |some lk=>
  simp only[g]at a⊢
  cases X:lk.bytes?.map (·.length)with
  |none=>simp_all
  |some size=>
   simp only[X]at a⊢
   cases H:byteOfCell P P.depth k b.off with
   |none=>simp only[H]at a;cases a
   |some U=>
    simp only[H]at a⊢
    obtain⟨b3,b4,a2,a3,a8⟩:=W.obj _ _ u.1;rw[a2]at a⊢
    rw[a3];cases a8 with
    |cells e s O=>
     rename_i b0 z b1 D;simp only at a⊢
     by_cases L:P.cellsOf e=0
     .simp only[L,Yc]at a;cases a
     simp only[L,Yf]at a⊢
     cases Y:byteOfCell P P.depth e (c.off%P.cellsOf e)with
     |none=>simp_all
     |some T=>
      simp only[Y]at a⊢
      obtain⟨a4,a1,a⟩:=lK a;rw[oI P s e _ _ _ a1];cases l with
      |false=>
       simp only[Yi,Yf]at a⊢
       cases a;exact⟨ig N _ _ _ g,z,D,A,s,O,A,A⟩
      |true=>
       simp only[Yc]at a⊢
       cases a4 with
       |nil=>cases a
       |cons a7 a5=>
        obtain⟨b2,a9,bs⟩:=a7;cases a5 with
        |cons _ _=>cases a
        |nil=>
         simp only at a⊢
         by_cases t:(decide (a9≠c.off/P.cellsOf e*P.bytesOf e+T+U)||decide (bs.length≠size))=J
         .simp only[t,Yc]at a;obtain⟨_,r,_⟩:=lK a;cases r
         simp only[t]at a;cases a;refine⟨ig N _ _ _ g,z,D,?_,s,O,A,A⟩;simp only[Yi,Yf,bind,Except.bind,t];rfl
    |_=>cases a
theorem aV.Ud(t:aV h m w q)(Q:jW P){e f:Xw}(o:bC m e f)(Z:w.cell? e=F)(a:Xo):
 (∃u,(∀c,({w with tape:=c}:M).farLoad P e a=.error u)/\Halt.lost u=J)\/
 ∃v tl H,(∀c,({w with tape:=c}:M).farLoad P e a=.ok (v,tl))/\q.farLoad P f a=.ok (v,H)/\an h m v v/\aZ (bC m) tl H/\q.cell? f=F:=by
 obtain⟨a3,a4,S,a2,i⟩:=t.obj _ _ o.1;have L:∀c,({w with tape:=c}:M).farLoad P e a=w.farLoad P e a:=λc=>rfl;cases i with
 |view y n=>
  rename_i c D
  have N:w.farLoad P e a=(match w.viewLoad P c n e a with|.ok i=>.ok i|.error k=>.error (.unsupported (.unsafePointer k))):=by grind [World.farLoad]
  have O:q.farLoad P f a=(match q.viewLoad P D n f a with|.ok i=>.ok i|.error k=>.error (.unsupported (.unsafePointer k))):=by grind [World.farLoad]
  cases r:w.viewLoad P c n e a with
  |error k=>exact Xh ⟨.unsupported (.unsafePointer k),λc=>by simp_all,A⟩
  |ok b=>
   obtain⟨v,tl⟩:=b;right;unfold M.viewLoad at r;obtain⟨⟨d,W,X,first,z,l⟩,p,s⟩:=lK r;obtain⟨R,U,Y,x,a0,a1,_,_⟩:=DC t Q y n o.2.1 o.2.2 a p;simp only at s;cases g:z.ofBytes (l.flatMap λb=>(b.2.2.drop (first-b.2.1)).take (first+(z.bytes?.map (·.length)).getD 0-max first b.2.1))with
   |none=>simp_all
   |some a7=>
    simp only[g]at s;cases s;refine⟨v,_,l.map (λb=>{block:=D.block,off:=b.1}),λa6=>by rw[L,N];unfold M.viewLoad;rw[p];simp only[bind,Except.bind,g];rfl,?_,mY R g,?_,?_⟩
    .rw[O];unfold M.viewLoad;rw[x];simp only[bind,Except.bind,g];rfl
    .clear g p x r
     induction l with
     |nil=>exact .nil
     |cons b l T=>exact .cons ⟨y.1,A,A⟩ T
    simp_all [M.cell?]
 |_=>left;unfold M.farLoad M.noCell;simp only[S];exact⟨_,λ_=>rfl,A⟩
def pT(b:E×E)(first:E)(bytes:Xg UInt8)(d:Xk Xe)(a:E×E×Xg UInt8):Except String (Xk Xe):=do
 if a.2.1<first||a.2.1+a.2.2.length>first+bytes.length then MonadExcept.throw "memory seen as another type: a part of a cell written"
 if b.1<=a.1&&a.1<b.2 then MonadExcept.throw "a write to bytes that a string shares"
 let C old:=d[a.1]?|MonadExcept.throw "memory seen as another type: no such cell"
 let C new:=old.ofBytes ((bytes.drop (a.2.1-first)).take a.2.2.length)|MonadExcept.throw "memory seen as another type: a bool from a byte other than 0 or 1"
 pure (d.setIfInBounds a.1 new)
theorem An{old c:Xe}(d:an h m old c){bs:Xg UInt8}(a:old.ofBytes bs=C b):c.ofBytes bs=C b:=by cases d<;>first|exact a|cases a
theorem GC{g l:E×E}(y:kS g l)(first:E)(bytes:Xg UInt8){f c1:Xk Xe}(k:aw h m d f){a:E×E×Xg UInt8}(c:pT g first bytes d a=.ok c1):
 ∃t,pT l first bytes f a=.ok t/\aw h m c1 t/\¬(g.1<=a.1/\a.1<g.2)/\a.1<d.size/\c1.size=d.size:=by
 unfold pT at c⊢
 by_cases u:(decide (a.2.1<first)||decide (a.2.1+a.2.2.length>first+bytes.length))=J
 .simp only[u,Yc]at c;obtain⟨_,o,_⟩:=lK c;cases o
 simp only[u]at c⊢
 by_cases p:(decide (g.1<=a.1)&&decide (a.1<g.2))=J
 .simp only[p,Yc]at c;simp only[Yi,Yf]at c;obtain⟨_,o,_⟩:=lK c;cases o
 have L:¬(decide (l.1<=a.1)&&decide (a.1<l.2))=J:=by
  simp only[Yg,YV]at p⊢
  rcases y with y|⟨_,b,D⟩<;>omega
 simp only[p]at c;cases q:d[a.1]? with
 |none=>simp_all
 |some old=>
  simp only[q]at c;have s:=(XN.1 q).1;have O:a.1<f.size:=by rw[<-k.1];exact s
  have x:f[a.1]?=C f[a.1]:=by simp
  have z:=k.2 _ _ _ q x;cases r:old.ofBytes ((bytes.drop (a.2.1-first)).take a.2.2.length)with
  |none=>simp_all
  |some b=>
   simp only[r]at c;simp only[Yi,Yf]at c;cases c;refine⟨f.setIfInBounds a.1 b,?_,?_,by simp_all,s,by simp⟩
   .simp only[L,x,An z r,Yi,Yf];rfl
   refine⟨by simp[k.1],λj D N i e=>?_⟩;rw[YO]at i e;rw[<-k.1]at e;split at i
   .rename_i n;rw[XC n]at e
    first
    |(split at i
      .rename_i H;rw[XC H]at e;cases i;cases e;exact tE z r
      cases i)
    |(simp only[s,Yc]at e;grind [tE])
   rename_i n;rw[Xx n]at e;exact k.2 _ D N i e
theorem zg{f n:E×E}(o:kS f n)(first:E)(bytes:Xg UInt8):∀(c:Xg (E×E×Xg UInt8)){d a c1:Xk Xe},aw h m d a->c.foldlM (pT f first bytes) d=.ok c1->
 ∃e,c.foldlM (pT n first bytes) a=.ok e/\aw h m c1 e/\(∀k∈c,¬(f.1<=k.1/\k.1<f.2)/\k.1<d.size)/\(c=[]->e=a/\c1=d)/\c1.size=d.size
 |[],d,a,c1,l,g=>by cases g;exact⟨a,A,l,by simp,λ_=>⟨A,A⟩,A⟩
 |k::c,d,a,c1,l,g=>by
  rw[O_]at g;obtain⟨c2,t,u⟩:=lK g;obtain⟨L,r,z,x,y,q⟩:=GC o first bytes l t
  obtain⟨e,s,D,p,_,H⟩:=zg o first bytes c z u
  refine⟨e,by rw[O_,r];exact s,D,?_,by simp,H.trans q⟩;intro b i;rcases XV.1 i with rfl|i
  .exact⟨x,y⟩
  exact⟨(p b i).1,q▸(p b i).2⟩
theorem AV(P:Xy)(w:M)(a:Xw)(b:Xq)(e:Xw)(v:Xe)(c:Xo):w.viewStore P a b e v c=(do
 if !tight P P.depth b then MonadExcept.throw "memory seen as another type: a store through a type with padding"
 let (d,f,frozen,first,h,cells)<-w.seen P a b e c
 let C bytes:=v.bytes?|MonadExcept.throw "memory seen as another type: a value that is no plain data"
 if C bytes.length≠h.bytes?.map (·.length)then MonadExcept.throw "memory seen as another type: a value of another size"
 let d<-cells.foldlM (pT frozen first bytes) d
 pure ({w with heap:=w.heap.setIfInBounds a.block (.cells d f frozen)},cells.map λ(g,_,_)=>{block:=a.block,off:=g})):=A
theorem aV.Vu(i:aV h m w q)(a7:jW P){g r:Xw}(L:bC m g r){D:Xe}(b5:an h m v D)(d0:w.cell? g=F)(e:Xo):
 (∃Z,(∀f,({w with tape:=f}:M).farStore P g v e=.error Z)/\Halt.lost Z=J)\/
 ∃T U tl a5,(∀f,({w with tape:=f}:M).farStore P g v e=.ok ({w with tape:=f,heap:=T},tl))/\q.farStore P r D e=.ok (U,a5)/\q.cell? r=F/\
  ∀x,bD h m m w {w with heap:=T} q U (tl.map (⟨.cell ·,J,x⟩)) (a5.map (⟨.cell ·,J,x⟩)):=by
 obtain⟨d6,d7,b4,d2,u⟩:=i.obj _ _ L.1;have d3:=i;cases u with
 |view t o=>
  rename_i f S
  have c:∀a,({w with tape:=a}:M).farStore P g v e=(match({w with tape:=a}:M).viewStore P f o g v e with|.ok u=>.ok u|.error p=>.error (.unsupported (.unsafePointer p))):=by grind [World.farStore]
  have l:q.farStore P r D e=(match q.viewStore P S o r D e with|.ok u=>.ok u|.error p=>.error (.unsupported (.unsafePointer p))):=by grind [World.farStore]
  have c0:∀a,({w with tape:=a}:M).seen P f o g e=w.seen P f o g e:=λa=>rfl;simp only[AV]at c l;simp only[c0]at c;by_cases a2:(!tight P P.depth o)=J
  .left;refine⟨.unsupported (.unsafePointer "memory seen as another type: a store through a type with padding"),λa=>?_,A⟩;rw[c];simp only[a2,Yc];rfl
  simp only[a2,Yi,Yf]at c l;cases z:w.seen P f o g e with
  |error p=>left;refine⟨.unsupported (.unsafePointer p),λa=>?_,A⟩;rw[c,z];rfl
  |ok b=>
   obtain⟨d,s,a6,first,b8,k⟩:=b;obtain⟨d1,c6,c9,a1,b2,X,a9,b0⟩:=DC i a7 t o L.2.1 L.2.2 e z;simp only[z,bind,Except.bind]at c;simp only[a1,bind,Except.bind]at l;cases R:v.bytes? with
   |none=>left;refine⟨.unsupported (.unsafePointer "memory seen as another type: a value that is no plain data"),λa=>by rw[c,R];rfl,A⟩
   |some bytes=>
    have b6:=yk b5 R;subst b6;simp only[R]at c l;by_cases a0:C bytes.length≠b8.bytes?.map (·.length)
    .left;refine⟨.unsupported (.unsafePointer "memory seen as another type: a value of another size"),λa=>by rw[c,XC a0];rfl,A⟩
    simp only[a0,Yf]at c l;cases N:k.foldlM (pT a6 first bytes) d with
    |error p=>left;refine⟨.unsupported (.unsafePointer p),λa=>?_,A⟩;simp_all
    |ok c1=>
     obtain⟨c7,Y,b1,b3,Q,d4⟩:=zg X first bytes k b2 N
     right;have a3:=i.left t.1;have a4:=i.right t.1;refine⟨_,_,_,_,λa=>by rw[c];simp only[N];rfl,by rw[l];simp only[Y];rfl,by simp_all [M.cell?],λx=>?_⟩;refine⟨Ren.le_refl _,i.put t.1 (.cells s b1 X) (getElem?_set _ _ _ a3) (getElem?_set _ _ _ a4) A rfl,?_,by simp,by simp,A,A,A,?_,?_,λ_ _ i=>Xh i,?_,?_,?_,?_,?_,?_⟩
     .clear c l z a1 N Y b3 Q
      induction k with
      |nil=>exact .nil
      |cons b k b7=>exact .cons ⟨⟨t.1,A,A⟩,A,A⟩ b7
     .intro H a8 O;left;simp only;rw[getElem?_set _ _ _ a4];by_cases n:H=S.block
      .rw[XC n,n,b0];cases k with
       |nil=>rw[(Q A).1]
       |cons b k=>exact absurd n (λs=>(O ⟨.cell {block:=S.block,off:=b.1},J,x⟩ (by simp) A).2 _ A s.symm)
      simp_all
     .intro c8 W _ a y _;simp only[aai,YB]at W;obtain⟨b,d5,rfl⟩:=W;simp only[Function.comp]at y;cases y;unfold M.frozen?
      grind
     .intro H a8 O;left;simp only;rw[getElem?_set _ _ _ a3];by_cases n:H=f.block
      .rw[XC n,n,a9];cases k with
       |nil=>rw[(Q A).2]
       |cons b k=>exact absurd n (λs=>(O ⟨.cell {block:=f.block,off:=b.1},J,x⟩ (by simp) A).2 _ A s.symm)
      simp_all
     .grind
     .grind
     .grind
     .grind
     intro a y;unfold M.frozen? at y⊢
     grind
 |_=>left;unfold M.farStore M.noCell;simp only[b4];exact⟨_,λ_=>rfl,A⟩
theorem aV.frozen(f:aV h m w q){b c:Xw}(d:bC m b c)(a:q.frozen? c=J):w.frozen? b=J:=by
 obtain⟨p,r,g,i,k⟩:=f.obj _ _ d.1;unfold M.frozen? at a⊢
 rw[g];rw[i]at a;cases k with
 |cells s o e=>
  simp only[Yg,YV]at a⊢
  rw[<-d.2.1]at a;rcases e with e|⟨_,l,n⟩<;>omega
 |_=>cases a
theorem aV.shape(d:aV h m w q){a c:E}(i:m a c):w.shape? a=q.shape? c:=by
 obtain⟨l,n,f,g,b⟩:=d.obj _ _ i;unfold M.shape?;rw[f,g];cases b with
 |cells o e k=>simp[e.1]
 |_=>rfl
end
section
theorem Ed(r:aV h m w q){a g:Xw}(o:bC m a g){L:Xe}(a0:an h m v L)(k:w.cell? a=C b)(b3:w.frozen? a=Xf)(T:Xo)(a5:E->Question->E):
 bD h m m w (({w with tape:=a5}:M).setCell a v) q (q.setCell g L) [⟨.cell a,J,T⟩] [⟨.cell g,J,T⟩]:=by
 obtain⟨a1,a2,y,b1,a4⟩:=r.obj _ _ o.1;have D:a.spot.isSome=Xf:=by grind [World.cell?]
 have b2:g.spot.isSome=Xf:=by rw[<-o.2.2];exact D
 cases a4 with
 |cells H Q Z=>
  rename_i d U W X;refine⟨Ren.le_refl _,?_,.cons ⟨o,A,A⟩ .nil,by simp[M.setCell],by simp[M.setCell],A,A,A,?_,?_,λ_ _ r=>Xh r,?_,?_,?_,?_,?_,?_⟩
  .refine r.put o.1 (o:=.cells (d.setIfInBounds a.off v) H W) (o':=.cells (U.setIfInBounds g.off L) H X) (.cells H ⟨by simp[Q.1],?_⟩ Z) ?_ ?_ A rfl
   .intro S b a6 l c;rw[YO]at l c;rw[<-o.2.1]at c;split at l
    .rename_i u;subst u;simp only[Yc]at l c;split at l<;>simp at l;split at c<;>simp at c;subst l;subst c;exact a0
    rename_i u;rw[Xx u]at c;exact Q.2 S b a6 l c
   .intro S;simp only[M.setCell];rw[lL _ _ _ _ y];simp[D]
   simp_all [M.setCell,lL]
  .intro p O x;left;have Y:p≠g.block:=λt=>(x _ (YI.2 A) A).2 g A t.symm;simp only[M.setCell]
   grind
  .simp_all
  .intro p O x;left;have Y:p≠a.block:=λt=>(x _ (YI.2 A) A).2 a A t.symm;simp only[M.setCell]
   grind
  .simp
  .intro p a7 b4 a9 O;simp only[M.setCell]
   grind
  .intro a8 R _ a3 z;simp only[YI]at R;subst R;cases z;have b0:a.off<d.size:=by
    unfold M.cell? at k;rw[y]at k;simp only[D,Yi,Yf]at k;exact(XN.1 k).1
   simp_all [M.setCell,lL]
  .simp
  intro a3 z;unfold M.frozen? at z⊢
  simp only[M.setCell]
  grind
 |_=>unfold M.cell? at k;rw[y]at k;cases k
theorem Ec(a:aV h m w q){i k:Obj}(o:gP h m i k)(r:E->Question->E):
 bD h m (λc d=>m c d\/(c=w.heap.size/\d=q.heap.size)) w {w with tape:=r,heap:=w.heap.push i} q {q with heap:=q.heap.push k} [] []:=by
 have g:m.le (λc d=>m c d\/(c=w.heap.size/\d=q.heap.size)):=λ_ _ a=>Xh a;refine⟨g,⟨?_,?_,a.os⟩,.nil,by simp,by simp,A,A,A,?_,by simp,?_,?_,by simp,?_,by simp,by simp,?_⟩
 .rintro c t d u(e|⟨rfl,rfl⟩)(f|⟨rfl,rfl⟩)
  .exact a.inj _ _ _ _ e f
  .have:=a.left e;have:=a.right e;omega
  .have:=a.left f;have:=a.right f;omega
  simp
 .rintro c d(e|⟨rfl,rfl⟩)
  .obtain⟨b,s,l,x,p⟩:=a.obj c d e;have:=a.left e;have:=a.right e;refine⟨b,s,?_,?_,p.mono g⟩
   .simp only;rw[Ze,Xx (by omega)];exact l
   grind
  exact⟨i,k,by simp,by simp,o.mono g⟩
 .grind
 .grind
 .grind
 .grind
 intro c n;unfold M.frozen? at n⊢
 grind
theorem Eb(a:aV h m w q){f c:Xw}(p:bC m f c)(e:E)(i:E->Question->E)
 (x:e≠0->(∀d i n,q.heap[c.block]?=C (Xn d i n)->aT d)/\∀d i n,w.heap[f.block]?=C (Xn d i n)->aT d):
 bD h m m w (({w with tape:=i}:M).freeze f e) q (q.freeze c e) [] []:=by
 by_cases b:e=0
 .subst b;have:=bD.refl a;refine⟨this.le,⟨a.inj,a.obj,a.os⟩,this.lz,XS _,XS _,A,A,A,λ_ _ _=>Xh A,by simp,this.fresh,λ_ _ _=>Xh A,by simp,λt d i n a=>⟨d,n,a,A⟩,by simp,by simp,λ_ a=>a⟩
 obtain⟨o,T,D,H,s⟩:=a.obj _ _ p.1
 have N:∀g,(({w with tape:=i}:M).freeze f e).heap[g]?=if g=f.block then C ((λ
  |.cells d r (l,k)=>.cells d r (if l==k then(f.off,f.off+e)else(min l f.off,max k (f.off+e)))
  |o=>o:Obj->Obj) o)else w.heap[g]?:=by
  intro g;simp only[M.freeze,Xx b];grind
 have u:∀g,(q.freeze c e).heap[g]?=if g=c.block then C ((λ
  |.cells d r (l,k)=>.cells d r (if l==k then(c.off,c.off+e)else(min l c.off,max k (c.off+e)))
  |o=>o:Obj->Obj) T)else q.heap[g]?:=by
  intro g;simp only[M.freeze,Xx b];grind
 refine⟨Ren.le_refl _,a.put p.1 ?_ N u (by simp[M.freeze,Xx b]) (by simp[M.freeze,Xx b]),.nil,by simp[M.freeze,Xx b],by simp[M.freeze,Xx b],by simp[M.freeze,Xx b],by simp[M.freeze,Xx b],by simp[M.freeze,Xx b],?_,by simp,λ_ _ a=>Xh a,?_,by simp,?_,by simp,by simp,?_⟩
 .have U:=s;cases s with
  |cells L y z=>
   rename_i d W O Q;obtain⟨l,k⟩:=O;obtain⟨Z,Y⟩:=Q;refine .cells L y ?_;unfold kS at z⊢
   rw[p.2.1]
   grind
  |_=>exact U
 .intro t X _;rw[u];by_cases R:t=c.block
  .subst R;rw[XC A,H];cases s with
   |cells L y z=>exact Xi ⟨⟨_,p.1,λ_=>⟨_,_,_,D,(x b).2 _ _ _ D⟩⟩,_,_,_,_,(x b).1 _ _ _ H,A,A⟩
   |_=>exact Xh A
  simp_all
 .grind
 .grind
 intro a0 S;unfold M.frozen? at S⊢
 grind
theorem OA(a:aV h m w q){e f:E}(c:m e f){g k b t:Obj}(o:gP h m g k)(x:h.bZ=J\/kL g=J)(y:w.heap[e]?=C b)(z:q.heap[f]?=C t)(u:∀d i n,b≠.cells d i n)(l:Xo)(i:E->Question->E):
 bD h m m w {w with tape:=i,heap:=w.heap.setIfInBounds e g} q {q with heap:=q.heap.setIfInBounds f k} [⟨.obj e,J,l⟩] [⟨.obj f,J,l⟩]:=by
 have r:=a.left c;have s:=a.right c;refine⟨Ren.le_refl _,a.put c o (getElem?_set _ _ _ r) (getElem?_set _ _ _ s) A rfl,.cons ⟨c,A,A⟩ .nil,by simp,by simp,A,A,A,?_,?_,λ_ _ a=>Xh a,?_,?_,?_,?_,?_,?_⟩
 .simp_all
 .simp
 .simp_all
 .grind
 .grind
 .simp
 .simp_all
 intro D p;unfold M.frozen? at p⊢
 grind
end
def Out{e i:Type}(h:Set)(f:Ren->e->i->Prop)(m:Ren)(w q:M)(n o:Xk XF)(b:Result e×Xk XF)(s:Result i×Xk XF):Prop:=
 match b with
 |(.ok t k,g)=>∃d l a new c,s=(.ok l a,o++Xg.toArray c)/\g=n++Xg.toArray new/\f d t l/\bD h m d w k q a new c
 |(.halt p k,g)=>Halt.lost p=J\/∃d r a new c,s=(.halt r a,o++Xg.toArray c)/\g=n++Xg.toArray new/\lC h d p r/\bD h m d w k q a new c
theorem Out.step{e i:Type}{h:Set}{f:Ren->e->i->Prop}{m S:Ren}{w Q q D:M}{H L:Xk XF}{a c:Xg XF}{b:Result e×Xk XF}{R:Result i×Xk XF}
 (O:bD h m S w Q q D a c)(g:Out h f S Q D (H++a.toArray) (L++c.toArray) b R):Out h f m w q H L b R:=by
 obtain⟨r,T⟩:=b;cases r with
 |ok U w₂=>obtain⟨z,o,k,new,x,p,t,u,y⟩:=g;exact⟨z,o,k,a++new,c++x,by rw[p];simp,by rw[t];simp,u,O.trans y⟩
 |halt W w₂=>
  rcases g with g|⟨z,o,k,new,x,p,t,u,y⟩
  .exact Xh g
  exact Xi ⟨z,o,k,a++new,c++x,by rw[p];simp,by rw[t];simp,u,O.trans y⟩
theorem aV.PT{a:M}(b:aV h m w q)(c:w'.heap=w.heap)(d:a.heap=q.heap)(e:w'.os=w.os)(f:a.os=q.os):aV h m w' a:=
 ⟨b.inj,by rw[c,d];exact b.obj,by rw[e,f];exact b.os⟩
theorem bD.of_heap{W':M}(a:aV h m w q)(g:w'.heap=w.heap)(k:W'.heap=q.heap)(c:W'.os=q.os)(p:W'.output=q.output)(r:W'.tape=q.tape)(o:w'.os=w.os:=by rfl):bD h m m w w' q W' [] [] where
 le:=Ren.le_refl _
 rel:=a.PT g k o c
 lz:=.nil
 size:=by simp_all
 uP:=by simp_all
 os:=c
 out:=p
 tape:=r
 same:=λ_ _ _=>by simp_all
 wr:=by simp
 fresh:=λ_ _ a=>Xh a
 iG:=λ_ _ _=>by simp_all
 oe:=by simp
 qn:=λu d D l a=>⟨d,l,by simp_all,A⟩
 iq:=by simp
 qU:=by simp
 jR:=λt a=>by simp_all [M.frozen?]
theorem fS{e:Type}(b:Xk e)(a:e):b.push a=b++[a].toArray:=by simp
theorem GR{e:Type}(a:Xk e):a++([]:Xg e).toArray=a:=by simp
def dr{e:Type}:Result e×Xk XF->E
 |(.ok _ w,_)=>w.drawn
 |(.halt _ w,_)=>w.drawn
def iR{e:Type}(b:E->Question->E):Result e×Xk XF->Result e×Xk XF
 |(.ok c w,a)=>(.ok c {w with tape:=b},a)
 |(.halt d w,a)=>(.halt d {w with tape:=b},a)
def Goes{e:Type}(P:Xy)(h:Xz e)(w:M)(f:Xk XF)(g:E->Question->E)(b:Result e×Xk XF):Prop:=
 w.drawn<=dr b/\∀c:E->Question->E,(∀a d,w.drawn<=a->a<dr b->c a d=g a d)->h.runT P {w with tape:=c} f=iR c b
theorem oA(N:jW P):∀(f:E){c i:Xw}(u:bC m c i){w q:M}(o:aV h m w q)(acc:XB)(g l:Xk XF),
 (∃t L,Halt.lost t=J/\∀a,(loadBytes c acc f).runT P {w with tape:=a} g=(.halt t {w with tape:=a},L))\/
 ∃s new k,(∀a,(loadBytes c acc f).runT P {w with tape:=a} g=(.ok s {w with tape:=a},g++Xg.toArray new))/\(loadBytes i acc f).runT P q l=(.ok s q,l++Xg.toArray k)/\
  bD h m m w w q q new k/\(f≠0->(∀d a e,q.heap[i.block]?=C (Xn d a e)->aT d)/\∀d a e,w.heap[c.block]?=C (Xn d a e)->aT d)
 |0,c,i,u,w,q,o,acc,g,l=>Xi ⟨acc,[],[],λa=>by rfl,by rfl,bD.refl o,λD=>absurd A D⟩
 |f+1,c,i,u,w,q,o,acc,g,l=>by
  have Q:∀(v x:Xe)(new k:Xg XF),an h m v x->bD h m m w w q q new k->
   (∀a,(loadBytes c acc (f+1)).runT P {w with tape:=a} g=(match v with|.int .u8 p=>loadBytes (c.add 1) (acc.push p.toNat.toUInt8) f|_=>stuck "a byte variable that holds no byte").runT P {w with tape:=a} (g++new.toArray))->
   ((loadBytes i acc (f+1)).runT P q l=(match x with|.int .u8 p=>loadBytes (i.add 1) (acc.push p.toNat.toUInt8) f|_=>stuck "a byte variable that holds no byte").runT P q (l++k.toArray))->
   ((∀d a e,q.heap[i.block]?=C (Xn d a e)->d[i.off]?=C x)/\∀d a e,w.heap[c.block]?=C (Xn d a e)->d[c.off]?=C v)->
   ((∃t L,Halt.lost t=J/\∀a,(loadBytes c acc (f+1)).runT P {w with tape:=a} g=(.halt t {w with tape:=a},L))\/
   ∃s new k,(∀a,(loadBytes c acc (f+1)).runT P {w with tape:=a} g=(.ok s {w with tape:=a},g++Xg.toArray new))/\(loadBytes i acc (f+1)).runT P q l=(.ok s q,l++Xg.toArray k)/\
    bD h m m w w q q new k/\(f+1≠0->(∀d a e,q.heap[i.block]?=C (Xn d a e)->aT d)/\∀d a e,w.heap[c.block]?=C (Xn d a e)->aT d)):=by
   intro v x new k H a4 r y n;by_cases S:∃p,v=.int .u8 p
   .obtain⟨p,rfl⟩:=S;cases H;rcases oA N f (u.add 1) o (acc.push p.toNat.toUInt8) (g++new.toArray) (l++k.toArray)with⟨t,L,O,z⟩|⟨s,a0,a1,z,R,a2,_⟩
    .simp_all
    refine Xi ⟨s,new++a0,k++a1,λa=>?_,?_,a4.trans a2,λ_=>⟨λd a e D=>⟨_,_,n.1 d a e D⟩,λd a e D=>⟨_,_,n.2 d a e D⟩⟩⟩
    .rw[r];refine(z a).trans ?_;simp
    simp_all
   refine Xh ⟨.stuck "a byte variable that holds no byte",g++new.toArray,A,λa=>?_⟩;simp_all
  cases n:w.cell? c with
  |none=>
   rcases o.Ud N u n Xf with⟨W,y,O⟩|⟨v,tl,a3,y,z,H,X,T⟩
   .refine Xh ⟨W,g,O,λa=>?_⟩;have r:({w with tape:=a}:M).cell? c=F:=n;unfold loadBytes;show Xz.runT P _ _ _=_;simp only[load,Bind.bind,Sem.bind,Xz.runT,r]
    grind
   refine Q v v (tl.map (⟨.cell ·,Xf,Xf⟩)) (a3.map (⟨.cell ·,Xf,Xf⟩)) H ?_ ?_ ?_ ?_
   .have:=bD.refl o;refine{this with lz:= ?_,wr:=by simp,same:=λ_ _ _=>Xh A,iG:=λ_ _ _=>Xh A,oe:=by simp,iq:=by simp,qU:=by simp};clear y z
    induction X with
    |nil=>exact .nil
    |cons b _ Z=>exact .cons ⟨b,A,A⟩ Z
   .intro a;have r:({w with tape:=a}:M).cell? c=F:=n;rw[loadBytes];simp only[load,Bind.bind,Sem.bind,Xz.runT,r];rw[show(Mode.plain==Mode.atomic)=Xf from A,y a,<-Zb];rfl
   .rw[loadBytes];simp only[load,Bind.bind,Sem.bind,Xz.runT,T];rw[show(Mode.plain==Mode.atomic)=Xf from A,z,<-Zb];rfl
   refine⟨λd a e U=>?_,λd a e U=>?_⟩
   .grind [World.farLoad]
   exfalso;have R:=y w.tape
   grind [World.farLoad]
  |some v=>
   obtain⟨x,Y,H⟩:=o.cell u n;refine Q v x [⟨.cell c,Xf,Xf⟩] [⟨.cell i,Xf,Xf⟩] H ?_ ?_ ?_ ?_
   .have:=bD.refl o;exact{this with lz:=.cons ⟨u,A,A⟩ .nil,wr:=by simp,same:=λ_ _ _=>Xh A,iG:=λ_ _ _=>Xh A,oe:=by simp,iq:=by simp,qU:=by simp}
   .intro a;have r:({w with tape:=a}:M).cell? c=C v:=n;rw[loadBytes];simp only[load,Bind.bind,Sem.bind,Xz.runT,r];rw[show(Mode.plain==Mode.atomic)=Xf from A,fS]
    first|rfl|(split<;>rfl)
   .rw[loadBytes];simp only[load,Bind.bind,Sem.bind,Xz.runT,Y];rw[show(Mode.plain==Mode.atomic)=Xf from A,fS]
    first|rfl|(split<;>rfl)
   grind [World.cell?]
theorem sound(c9:jW P){e i:Type}{f:Ren->e->i->Prop}{a6:Xz e}{d4:Xz i}(Z:ae P h f m a6 d4):
 ∀(w q:M)(c l:Xk XF),aV h m w q->
  ∃n b,Goes P a6 w c n b/\Out h f m w q c l b (d4.runT P q l):=by
 induction Z with
 |pure a1=>intro w q c l g;exact⟨λ_ _=>0,(.ok _ w,c),⟨XS _,λa _=>rfl⟩,⟨_,_,q,[],[],by rfl,by simp,a1,bD.of_heap g A rfl rfl rfl rfl⟩⟩
 |load s T O p=>
  rename_i m r z D u;intro w q c l g;cases U:w.cell? r with
  |none=>
   rcases g.Ud c9 T U (s==.atomic)with⟨a9,Q,W⟩|⟨v,tl,b9,Q,c7,b0,e4,d6⟩
   .refine⟨λ_ _=>0,(.halt a9 w,c),⟨XS _,λa _=>?_⟩,Xh W⟩;have y:({w with tape:=a}:M).cell? r=F:=U
    grind [Sem.runT,iR]
   obtain⟨n,b,k,t⟩:=p v v b0 w q (c++tl.toArray.map (⟨.cell ·,Xf,s==.atomic⟩)) (l++b9.toArray.map (⟨.cell ·,Xf,s==.atomic⟩)) g;refine⟨n,b,⟨k.1,λa o=>?_⟩,?_⟩
   .have y:({w with tape:=a}:M).cell? r=F:=U;simp only[Xz.runT,y,Q a];exact k.2 a o
   simp only[Xz.runT,d6,c7]
   have S:bD h m m w w q q (tl.map (⟨.cell ·,Xf,s==.atomic⟩)) (b9.map (⟨.cell ·,Xf,s==.atomic⟩)):=by
    have:=bD.refl g;refine{this with lz:= ?_,wr:=by simp,same:=λ_ _ _=>Xh A,iG:=λ_ _ _=>Xh A,oe:=by simp,iq:=by simp,qU:=by simp};clear Q c7 t k
    induction e4 with
    |nil=>exact .nil
    |cons b _ p=>exact .cons ⟨b,A,A⟩ p
   grind [Out.step]
  |some v=>
   obtain⟨a0,e5,b0⟩:=g.cell T U;obtain⟨n,b,k,t⟩:=p v a0 b0 w q (c.push ⟨.cell r,Xf,s==.atomic⟩) (l.push ⟨.cell z,Xf,s==.atomic⟩) g;refine⟨n,b,⟨k.1,λa o=>?_⟩,?_⟩
   .have y:({w with tape:=a}:M).cell? r=C v:=U;simp only[Xz.runT,y];exact k.2 a o
   simp only[Xz.runT,e5];have S:bD h m m w w q q [⟨.cell r,Xf,s==.atomic⟩] [⟨.cell z,Xf,s==.atomic⟩]:=by have:=bD.refl g;exact{this with lz:=.cons ⟨T,A,A⟩ .nil,wr:=by simp,same:=λ_ _ _=>Xh A,iG:=λ_ _ _=>Xh A,oe:=by simp,iq:=by simp,qU:=by simp}
   grind [Out.step,fS]
 |store s T b0 O p=>
  rename_i m r z v a0 D u;intro w q c l g
  have e8:(∀d,v≠.agg d)->(∀d,v≠.tuple d)->(∀d,a0≠.agg d)->(∀d,a0≠.tuple d)->
   ∃n b,Goes P (.store s r v D) w c n b/\Out h f m w q c l b ((Xz.store s z a0 u).runT P q l):=by
   intro f4 f6 f5 f7
   have d7:∀(w:M)(c:Xk XF),(Xz.store s r v D).runT P w c=match w.cell? r with
    |some _=>if w.frozen? r then(.halt (.unsupported (.unsafePointer "a write to bytes that a string shares")) w,c)else D.runT P (w.setCell r v) (c.push ⟨.cell r,J,s==.atomic⟩)
    |none=>match w.farStore P r v (s==.atomic)with
     |.ok (w,d5)=>D.runT P w (c++d5.toArray.map (⟨.cell ·,J,s==.atomic⟩))
     |.error Z=>(.halt Z w,c):=by
    intro w c;cases v<;>first|rfl|simp_all|simp_all
   have f0:∀(w:M)(c:Xk XF),(Xz.store s z a0 u).runT P w c=match w.cell? z with
    |some _=>if w.frozen? z then(.halt (.unsupported (.unsafePointer "a write to bytes that a string shares")) w,c)else u.runT P (w.setCell z a0) (c.push ⟨.cell z,J,s==.atomic⟩)
    |none=>match w.farStore P z a0 (s==.atomic)with
     |.ok (w,d5)=>u.runT P w (c++d5.toArray.map (⟨.cell ·,J,s==.atomic⟩))
     |.error Z=>(.halt Z w,c):=by
    intro w c;cases a0<;>first|rfl|simp_all|simp_all
   cases U:w.cell? r with
   |none=>
    rcases g.Vu c9 T b0 U (s==.atomic)with⟨a9,Q,W⟩|⟨c6,d9,tl,b9,Q,c7,d6,S⟩
    .refine⟨λ_ _=>0,(.halt a9 w,c),⟨XS _,λa _=>?_⟩,Xh W⟩;have y:({w with tape:=a}:M).cell? r=F:=U;simp_all [iR]
    have L:=S (s==.atomic);obtain⟨n,b,k,t⟩:=p {w with heap:=c6} d9 (c++tl.toArray.map (⟨.cell ·,J,s==.atomic⟩)) (l++b9.toArray.map (⟨.cell ·,J,s==.atomic⟩)) L.rel;refine⟨n,b,⟨k.1,λa o=>?_⟩,?_⟩
    .have y:({w with tape:=a}:M).cell? r=F:=U;rw[d7];simp only[y,Q a];exact k.2 a o
    grind [Out.step]
   |some b=>
    obtain⟨f2,b8,_⟩:=g.cell T U;cases b6:w.frozen? r with
    |true=>refine⟨λ_ _=>0,(.halt (.unsupported (.unsafePointer "a write to bytes that a string shares")) w,c),⟨XS _,λa _=>?_⟩,Xh A⟩;have y:({w with tape:=a}:M).cell? r=C b:=U;have Q:({w with tape:=a}:M).frozen? r=J:=b6;simp_all [iR]
    |false=>
     have e7:q.frozen? z=Xf:=by
      cases b5:q.frozen? z with
      |false=>rfl
      |true=>rw[g.frozen T b5]at b6;cases b6
     have L:=Ed g T b0 U b6 (s==.atomic) w.tape;have L:bD h m m w (w.setCell r v) q (q.setCell z a0) [⟨.cell r,J,s==.atomic⟩] [⟨.cell z,J,s==.atomic⟩]:=L;obtain⟨n,b7,a5,t⟩:=p (w.setCell r v) (q.setCell z a0) (c.push ⟨.cell r,J,s==.atomic⟩) (l.push ⟨.cell z,J,s==.atomic⟩) L.rel;have hd:(w.setCell r v).drawn=w.drawn:=by unfold M.setCell;split<;>rfl
     have d1:∀a,({w with tape:=a}:M).setCell r v={w.setCell r v with tape:=a}:=by intro a;unfold M.setCell;split<;>rfl
     refine⟨n,b7,⟨by rw[<-hd];exact a5.1,λa o=>?_⟩,?_⟩
     .have y:({w with tape:=a}:M).cell? r=C b:=U;have Q:({w with tape:=a}:M).frozen? r=Xf:=b6;rw[d7];simp only[y,Q,Yi,Yf];rw[d1];exact a5.2 a (λR Y a3=>o R Y (by rw[<-hd];exact a3))
     rw[f0];simp only[b8,e7,Yi,Yf]
     grind [Out.step,fS]
  cases b0 with
  |bS Z=>exact⟨λ_ _=>0,(.halt (.stuck "store: not the value of one cell") w,c),⟨XS _,λa _=>rfl⟩,Xh A⟩
  |agg Z e0=>exact⟨λ_ _=>0,(.halt (.stuck "store: not the value of one cell") w,c),⟨XS _,λa _=>rfl⟩,Xh A⟩
  |tuple Z e0=>exact⟨λ_ _=>0,(.halt (.stuck "store: not the value of one cell") w,c),⟨XS _,λa _=>rfl⟩,Xh A⟩
  |_=>exact e8 (by simp) (by simp) (by simp) (by simp)
 |new a4 O p=>
  rename_i m H X D u;intro w q c l g;have L:=Ec g a4 w.tape;obtain⟨n,b,k,t⟩:=p w.heap.size q.heap.size _ L.le (Xi ⟨A,A⟩) {w with heap:=w.heap.push H} {q with heap:=q.heap.push X} c l L.rel;refine⟨n,b,⟨k.1,λa o=>k.2 a o⟩,?_⟩
  grind [Sem.runT,Out.step]
 |shape a1 O p=>rename_i m x N D u;intro w q c l g;obtain⟨n,b,k,t⟩:=p (w.shape? x) w q c l g;refine⟨n,b,⟨k.1,λa o=>k.2 a o⟩,?_⟩;simp only[Xz.runT];rw[<-g.shape a1];exact t
 |nQ S b3 O p=>
  rename_i m d b2 D u;intro w q c l g
  have a4:gP h m (.cells d S (d.size,d.size+1)) (.cells b2 S (b2.size,b2.size+1)):=.cells S b3 (by
   have:=b3.1
   unfold kS;simp only;omega)
  have L:=Ec g a4 w.tape;obtain⟨n,b,k,t⟩:=p w.heap.size q.heap.size _ L.le (Xi ⟨A,A⟩) {w with heap:=w.heap.push (.cells d S (d.size,d.size+1))} {q with heap:=q.heap.push (.cells b2 S (b2.size,b2.size+1))} c l L.rel;refine⟨n,b,⟨k.1,λa o=>by rw[tB];exact k.2 a o⟩,?_⟩
  grind [tB,Sem.runT,Out.step]
 |jR b1 T O p=>
  rename_i m r z D u;intro w q c l g;rcases oA c9 b1 T g .empty c l with⟨c6,c0,W,y⟩|⟨a6,new,e9,y,Q,f1,e1⟩
  .refine⟨λ_ _=>0,(.halt c6 w,c0),⟨XS _,λa _=>?_⟩,Xh W⟩;unfold iw;rw[Go.Sem.runT_bind',y];rfl
  have L:=Eb g T b1 w.tape e1;obtain⟨n,b,k,t⟩:=p a6 (w.freeze r b1) (q.freeze z b1) (c++new.toArray) (l++e9.toArray) L.rel;have hd:(w.freeze r b1).drawn=w.drawn:=by grind [World.freeze]
  have d1:∀a,({w with tape:=a}:M).freeze r b1={w.freeze r b1 with tape:=a}:=by grind [World.freeze]
  refine⟨n,b,⟨by rw[<-hd];exact k.1,λa o=>?_⟩,?_⟩
  .unfold iw;rw[Go.Sem.runT_bind',y];simp only[Xz.runT];rw[d1];exact k.2 a (λR Y a3=>o R Y (by omega))
  unfold iw;rw[Go.Sem.runT_bind',Q];simp only[Xz.runT];refine Out.step f1 (Out.step L ?_);rw[GR,GR];exact t
 |frozen T O p=>rename_i m r z D u;intro w q c l g;obtain⟨n,b,k,t⟩:=p (w.frozen? r) (q.frozen? z) (λZ=>g.frozen T Z) w q c l g;refine⟨n,b,⟨k.1,λa o=>k.2 a o⟩,?_⟩;simp_all [Xz.runT]
 |getObj a1 O p=>
  rename_i m x N D u;intro w q c l g;obtain⟨H,X,a4,e2,b⟩:=g.obj _ _ a1;by_cases a2:∃d a a8,H=.cells d a a8
  .obtain⟨d,a,a8,rfl⟩:=a2;refine⟨λ_ _=>0,(.halt (.stuck "getObj: a row of cells") w,c),⟨XS _,λa _=>?_⟩,Xh A⟩
   grind [Sem.runT,iR]
  obtain⟨n,b7,a5,t⟩:=p H X b w q (c.push ⟨.obj x,Xf,H.isChan⟩) (l.push ⟨.obj N,Xf,X.isChan⟩) g;have d0:H.isChan=X.isChan:=by cases b<;>rfl
  have y:∀a,(Xz.getObj x D).runT P {w with tape:=a} c=(D H).runT P {w with tape:=a} (c.push ⟨.obj x,Xf,H.isChan⟩):=by intro a;have y:({w with tape:=a}:M).heap[x]?=_:=a4;simp only[Xz.runT,y];cases H<;>first|rfl|exact absurd ⟨_,_,_,rfl⟩ a2
  have Q:(Xz.getObj N u).runT P q l=(u X).runT P q (l.push ⟨.obj N,Xf,X.isChan⟩):=by simp only[Xz.runT,e2];cases b<;>first|rfl|exact absurd ⟨_,_,_,rfl⟩ a2
  refine⟨n,b7,⟨a5.1,λa o=>by rw[y];exact a5.2 a o⟩,?_⟩;rw[Q];have S:bD h m m w w q q [⟨.obj x,Xf,H.isChan⟩] [⟨.obj N,Xf,X.isChan⟩]:=by have:=bD.refl g;exact{this with lz:=.cons ⟨a1,A,d0⟩ .nil,wr:=by simp,same:=λ_ _ _=>Xh A,iG:=λ_ _ _=>Xh A,oe:=by simp,iq:=by simp,qU:=by simp}
  grind [Out.step,fS]
 |setObj a1 a4 d2 O p=>
  rename_i m x N H X D u;intro w q c l g;obtain⟨b,f2,k,b8,f3⟩:=g.obj _ _ a1;by_cases a2:∃d a a8,b=.cells d a a8
  .obtain⟨d,a,a8,rfl⟩:=a2;refine⟨λ_ _=>0,(.halt (.stuck "setObj: a row of cells") w,c),⟨XS _,λa _=>?_⟩,Xh A⟩;simp_all [Xz.runT,iR]
  have d0:H.isChan=X.isChan:=by cases a4<;>rfl
  have L:=OA g a1 a4 d2 k b8 (λd a a8 a7=>a2 ⟨d,a,a8,a7⟩) H.isChan w.tape;obtain⟨n,b7,a5,t⟩:=p {w with heap:=w.heap.setIfInBounds x H} {q with heap:=q.heap.setIfInBounds N X} (c.push ⟨.obj x,J,H.isChan⟩) (l.push ⟨.obj N,J,H.isChan⟩) L.rel
  have y:∀a,(Xz.setObj x H D).runT P {w with tape:=a} c=D.runT P {w with tape:=a,heap:=w.heap.setIfInBounds x H} (c.push ⟨.obj x,J,H.isChan⟩):=by intro a;have y:({w with tape:=a}:M).heap[x]?=_:=k;simp only[Xz.runT,y];cases b<;>first|rfl|exact absurd ⟨_,_,_,rfl⟩ a2
  have Q:(Xz.setObj N X u).runT P q l=u.runT P {q with heap:=q.heap.setIfInBounds N X} (l.push ⟨.obj N,J,H.isChan⟩):=by simp only[Xz.runT,b8,<-d0];cases f3<;>first|rfl|exact absurd ⟨_,_,_,rfl⟩ a2
  refine⟨n,b7,⟨a5.1,λa o=>by rw[y];exact a5.2 a o⟩,?_⟩
  grind [Out.step,fS]
 |choose Y O p=>
  rename_i m D u;intro w q c l g;cases b5:Y.forced with
  |true=>
   obtain⟨n,b,k,t⟩:=p 0 w q c l g;refine⟨n,b,⟨k.1,λa o=>?_⟩,?_⟩
   .simp only[Xz.runT,b5,Yc];exact k.2 a o
   simp_all [Xz.runT]
  |false=>
   have L:=bD.of_heap (w':={w with drawn:=w.drawn+1}) (W':={q with drawn:=q.drawn+1}) g A rfl rfl rfl rfl;obtain⟨n,b,k,t⟩:=p (Y.cut (q.tape q.drawn Y)) {w with drawn:=w.drawn+1} {q with drawn:=q.drawn+1} c l L.rel;have e6:w.drawn+1<=dr b:=k.1;refine⟨λR x=>if R=w.drawn then q.tape q.drawn x else n R x,b,⟨by omega,λa o=>?_⟩,?_⟩
   .have b3:a w.drawn Y=q.tape q.drawn Y:=by have:=o w.drawn Y (XS _) (by omega);simpa using this
    have:=k.2 a (λR x a3 W=>by
     have c8:=o R x (XZ (ZN _) a3) W;have d3:R≠w.drawn:=by intro a7;subst a7;exact absurd a3 (by simp)
     simpa only[Xx d3]using c8)
    simp only[Xz.runT,b5,Yi,Yf,b3];exact this
   simp only[Xz.runT,b5,Yi,Yf]
   grind [Out.step]
 |kl Y e3 S O p=>
  rename_i m D d4;intro w q c l g;have L:=bD.of_heap (w':={w with drawn:=w.drawn+1}) (W':=q) g A rfl rfl rfl rfl;obtain⟨n,b,k,t⟩:=p {w with drawn:=w.drawn+1} q c l L.rel;have e6:w.drawn+1<=dr b:=k.1;refine⟨λR x=>if R=w.drawn then S else n R x,b,⟨by omega,λa o=>?_⟩,?_⟩
  .have b3:a w.drawn Y=S:=by have:=o w.drawn Y (XS _) (by omega);simpa using this
   have:=k.2 a (λR x a3 W=>by
    have c8:=o R x (XZ (ZN _) a3) W;have d3:R≠w.drawn:=by intro a7;subst a7;exact absurd a3 (by simp)
    simpa only[Xx d3]using c8)
   simp only[Xz.runT,e3,Yi,Yf,b3];exact this
  grind [Out.step]
 |sL O p=>rename_i m N a6 u;intro w q c l g;obtain⟨n,b,k,t⟩:=p (q.shape? N) w q c l g;exact⟨n,b,⟨k.1,λa o=>k.2 a o⟩,t⟩
 |wU O p=>rename_i m N a6 u;intro w q c l g;obtain⟨n,b,k,t⟩:=p (w.shape? N) w q c l g;exact⟨n,b,⟨k.1,λa o=>k.2 a o⟩,t⟩
 |nJ O p=>rename_i m N a6 u;intro w q c l g;obtain⟨n,b,k,t⟩:=p (q.frozen? N) w q c l g;exact⟨n,b,⟨k.1,λa o=>k.2 a o⟩,t⟩
 |qx O p=>rename_i m N a6 u;intro w q c l g;obtain⟨n,b,k,t⟩:=p (w.frozen? N) w q c l g;exact⟨n,b,⟨k.1,λa o=>k.2 a o⟩,t⟩
 |env O p=>
  rename_i m D u;intro w q c l g;obtain⟨n,b,k,t⟩:=p (.strings w.os.env) w q (c.push ⟨.output,J,Xf⟩) (l.push ⟨.output,J,Xf⟩) g;refine⟨n,b,⟨k.1,λa o=>k.2 a o⟩,?_⟩;have Q:q.sys .env=(.strings w.os.env,q):=by rw[g.os];rfl
  have S:bD h m m w w q q [⟨.output,J,Xf⟩] [⟨.output,J,Xf⟩]:=by have:=bD.refl g;exact{this with lz:=.cons ⟨trivial,A,A⟩ .nil,wr:=by simp,same:=λ_ _ _=>Xh A,iG:=λ_ _ _=>Xh A,oe:=by simp,iq:=by simp,qU:=by simp}
  grind [Sem.runT,Out.step,fS]
 |program O p=>intro w q c l g;obtain⟨n,b,k,t⟩:=p w q c l g;exact⟨n,b,⟨k.1,λa o=>k.2 a o⟩,by simp_all [Xz.runT]⟩
 |mark s d2 O p=>
  rename_i m D u;intro w q c l g;obtain⟨n,b,k,t⟩:=p w q (c.push ⟨.mark s,Xf,J⟩) (l.push ⟨.mark s,Xf,J⟩) g;refine⟨n,b,⟨k.1,λa o=>k.2 a o⟩,?_⟩;have S:bD h m m w w q q [⟨.mark s,Xf,J⟩] [⟨.mark s,Xf,J⟩]:=by have:=bD.refl g;exact{this with lz:=.cons ⟨⟨A,d2⟩,A,A⟩ .nil,wr:=by simp,same:=λ_ _ _=>Xh A,iG:=λ_ _ _=>Xh A,oe:=by simp,iq:=by simp,qU:=by simp}
  grind [Sem.runT,Out.step,fS]
 |halt a9=>intro w q c l g;exact⟨λ_ _=>0,(.halt _ w,c),⟨XS _,λa _=>rfl⟩,Xi ⟨_,_,q,[],[],by rfl,by simp,a9,bD.of_heap g A rfl rfl rfl rfl⟩⟩
 |lost W=>intro w q c l g;exact⟨λ_ _=>0,(.halt _ w,c),⟨XS _,λa _=>rfl⟩,Xh W⟩
 |dead Z=>intro w q c l g;obtain⟨a9,c0,a7,W⟩:=Z.run P w c;exact⟨λ_ _=>0,(.halt a9 w,c0),⟨XS _,λa _=>a7 a⟩,Xh W⟩
variable{a:Xk Xe}{x:Xe}
def St(m:Ren){d e:Type}(N:d->e->Prop):Ren->d->e->Prop:=λc a b=>c=m/\N a b
def V(h:Set):Ren->Xe->Xe->Prop:=λm b a=>an h m b a
def iL(P:Xy):Prop:=∀b i a,P.info? b=C i->i.zero=C a->∀h m,an h m a a
def Base(P:Xy)(m:Ren):Prop:=(∀a,(0<a\/a=P.globals.size)->a<=P.globals.size->m a a)/\∀b c,m b c->(b<P.globals.size↔c<P.globals.size)
theorem Base.at(b:Base P m){a:E}(c:0<a)(d:a<=P.globals.size):m a a:=b.1 a (Xh c) d
theorem Base.types(a:Base P m):m P.globals.size P.globals.size:=a.1 _ (Xi A) (XS _)
section
variable{d e g l:Type}{f:Ren->d->e->Prop}{N:Ren->g->l->Prop}
theorem bindM{o:Xz d}{p:Xz e}(q:ae P h f m o p){k:d->Xz g}{n:e->Xz l}
 (r:∀a b c,m.le a->f a b c->ae P h N a (k b) (n c)):ae P h N m (o >>= k) (p >>= n):=q.bind r
theorem ax{n:d->e->Prop}{q:Xz d}{r:Xz e}(s:ae P h (St m n) m q r){o:d->Xz g}{p:e->Xz l}
 (w:∀c k,n c k->ae P h N m (o c) (p k)):ae P h N m (q >>= o) (r >>= p):=
 s.bind λy c k _ t=>by obtain⟨u,v⟩:=t;simp_all
theorem au{e f:Xz d}(k:ae P h (St m Eq) m e f){b:d->Xz g}{c:d->Xz l}
 (p:∀a,ae P h N m (b a) (c a)):ae P h N m (e >>= b) (f >>= c):=
 ax k λa n o=>by simp_all
theorem aB{a:d}{b:e}(c:f m a b):ae P h f m (pure a) (pure b):=.pure c
theorem aq{a:d->e->Prop}{b:d}{c:e}(f:a b c):ae P h (St m a) m (pure b) (pure c):=.pure ⟨A,f⟩
theorem ah{b:String}{a:Xz e}:ae P h f m (stuck b:Xz d) a:=.lost A
theorem fi{a:Unsupported}{c:Xz e}(b:Halt.lost (.unsupported a)=J:=by rfl):ae P h f m (unsupported a:Xz d) c:=.lost b
theorem bJ{a:Xy->Xz g}{b:Xy->Xz l}(c:ae P h N m (a P) (b P)):ae P h N m (program >>= a) (program >>= b):=.program c
theorem dT{a:Xe}(c:an h m b a):ae P h f m (goPanic b:Xz d) (goPanic a:Xz e):=.halt c
theorem bM(a:Xq):ae P h (St m λi b=>i=b/\P.info? a=C i) m (typeInfo a) (typeInfo a):=by
 unfold typeInfo;refine bJ ?_;cases c:P.info? a with
 |none=>exact ah
 |some i=>simp[aq]
theorem ay(a:Xq):ae P h (St m Eq) m (underlying a) (underlying a):=by
 unfold underlying;refine bJ ?_;cases b:P.underlying a with
 |none=>exact ah
 |some i=>exact aq A
theorem aU(a:Xq):ae P h (St m Eq) m (Go.sizeOf a) (Go.sizeOf a):=by unfold Go.sizeOf;exact ax (bM a) λc d⟨b,_⟩=>by subst b;exact aq A
theorem yE(a:Xq):ae P h (St m Eq) m (isAgg a) (isAgg a):=by unfold isAgg;refine au (ay a) λb=>?_;cases b<;>exact aq A
theorem cI(f:iL P)(a:Xq):ae P h (St m (an h m)) m (zeroValue a) (zeroValue a):=by
 unfold zeroValue;refine ax (bM a) λb g⟨c,e⟩=>?_;subst c;cases d:b.zero with
 |none=>exact fi
 |some k=>exact aq (f _ _ _ e d _ _)
theorem qI{c d:Xw}(e:bC m c d)(a:Mode:=.plain):ae P h (St m (an h m)) m (load c a) (load d a):=
 .load a e λb g f=>.pure ⟨A,f⟩
theorem KH{c d:Xw}(f:bC m c d){e:Xe}(g:an h m b e)(a:Mode:=.plain):ae P h (St m λ_ _=>True) m (store c b a) (store d e a):=
 .store a f g (.pure ⟨A,trivial⟩)
theorem aw.push{o:Xk Xe}(k:aw h m a o){p:Xe}(s:an h m b p):aw h m (a.push b) (o.push p):=by
 refine⟨by simp[k.1],λi x r n c=>?_⟩;rw[Ze]at n c;rw[<-k.1]at c;split at n
 .simp_all
 rename_i q;rw[Xx q]at c;exact k.2 i x r n c
theorem aw.nil:aw h m #[] #[]:=⟨A,λi x b a=>by simp at a⟩
theorem aw.append{f g k:Xk Xe}(e:aw h m a f)(l:aw h m g k):aw h m (a++g) (f++k):=by
 refine⟨by simp[e.1,l.1],λi x n c b=>?_⟩;rw[aa6]at c b;rw[<-e.1]at b;split at c
 .rename_i d;rw[XC d]at b;exact e.2 i x n c b
 rename_i d;rw[Xx d]at b;exact l.2 _ x n c b
theorem aw.get{c:Xk Xe}(n:aw h m a c)(p:a[i]?=C x):∃q,c[i]?=C q/\an h m x q:=by
 obtain⟨r,_⟩:=XN.1 p;have o:i<c.size:=by rw[<-n.1];exact r
 exact⟨c[i],by simp[o],n.2 i _ _ p (by simp[o])⟩
theorem aw.none{b:Xk Xe}(d:aw h m a b)(c:a[i]?=F):b[i]?=F:=by
 rw[Xk.getElem?_eq_none_iff]at c⊢
 rw[<-d.1];exact c
theorem aw.getD{b:Xk Xe}(e:aw h m a b)(i:E){c d:Xe}(hd:an h m c d):an h m (a.getD i c) (b.getD i d):=by
 rw[Yu,Yu];cases f:a[i]? with
 |none=>rw[e.none f];exact hd
 |some x=>obtain⟨l,g,k⟩:=e.get f;simp_all
theorem aY:an h m I I:=.tuple A λi x k c=>by simp at c
theorem aw.extract{g:Xk Xe}(d:aw h m a g)(e f:E):aw h m (a.extract e f) (g.extract e f):=by
 refine⟨by simp[d.1],λi x l b c=>?_⟩;rw[aaR]at b c;rw[<-d.1]at c;split at b
 .rename_i k;rw[XC k]at c;exact d.2 _ x l b c
 cases b
theorem aw.set{f:Xk Xe}(d:aw h m a f)(i:E){g:Xe}(n:an h m b g):aw h m (a.setIfInBounds i b) (f.setIfInBounds i g):=by
 refine⟨by simp[d.1],λj x l e c=>?_⟩;rw[YO]at e c;rw[<-d.1]at c;split at e
 .simp_all
 rename_i k;rw[Xx k]at c;exact d.2 _ x l e c
theorem aw.list{b:Xk Xe}(e:aw h m a b):aZ (an h m) a.toList b.toList:=by
 obtain⟨a⟩:=a;obtain⟨b⟩:=b;obtain⟨c,d⟩:=e;simp only[Yt,Yo]at c d⊢
 induction a generalizing b with
 |nil=>cases b with
  |nil=>exact .nil
  |cons=>simp at c
 |cons x q f=>cases b with
  |nil=>simp at c
  |cons k g=>refine .cons (d 0 x k (by simp) (by simp)) (f g (by simp_all) λi l n o p=>d (i+1) l n (by simp_all) (by simp_all))
theorem aZ.arr{c d:Xg Xe}(a:aZ (an h m) c d):aw h m c.toArray d.toArray:=by refine⟨by simp[a.length],λi x k b e=>?_⟩;simp only[Yo]at b e;obtain⟨l,f,g⟩:=a.get b;simp_all
theorem dM{e:Xe}(c:an h m b e):aw h m b.cells e.cells:=by
 have one:∀{x n:Xe},an h m x n->aw h m #[x] #[n]:=λc=>aw.push aw.nil c;cases c with
 |bS l=>
  have:e.cells=#[e]:=by cases e<;>first|rfl|cases l
  rw[this];exact one (.bS l)
 |agg g k=>exact⟨g,k⟩
 |bool f=>exact one (.bool f)
 |int r d=>exact one (.int r d)
 |string s=>exact one (.string s)
 |cG=>exact one .cG
 |ptr c=>exact one (.ptr c)
 |aO d a=>exact one (.aO d a)
 |slice c d a=>exact one (.slice c d a)
 |ft=>exact one .ft
 |map c=>exact one (.map c)
 |ed=>exact one .ed
 |chan c=>exact one (.chan c)
 |func o f a p q=>exact one (.func o f a p q)
 |nilFunc=>exact one .nilFunc
 |iface t c=>exact one (.iface t c)
 |nilIface=>exact one .nilIface
 |tuple g k=>exact one (.tuple g k)
theorem kA{e f:Xw}(g:bC m e f):∀(a i:E)(acc c:Xk Xe),aw h m acc c->
 ae P h (St m (aw h m)) m (loadCellsFrom e i a acc) (loadCellsFrom f i a c)
 |0,_,_,_,d=>aq d
 |a+1,i,acc,c,d=>by unfold loadCellsFrom;exact ax (qI (g.add i)) λb l k=>kA g a (i+1) _ _ (d.push k)
theorem kK{b c:Xw}(d:bC m b c)(a:E):ae P h (St m (aw h m)) m (loadCells b a) (loadCells c a):=kA d a 0 _ _ aw.nil
theorem gD{a b:Xw}(e:bC m a b){c d:Xg Xe}(f:aZ (an h m) c d):∀i,ae P h (St m λ_ _=>True) m (storeCells a c i) (storeCells b d i):=by
 induction f with
 |nil=>simp[storeCells,aq]
 |cons g _ k=>intro i;unfold storeCells;exact ax (KH (e.add i) g) λ_ _ _=>k (i+1)
theorem tz{c d:Xw}(e:bC m c d)(b:Xq):ae P h (St m (an h m)) m (loadVar b c) (loadVar b d):=by
 unfold loadVar;refine au (yE b) λg=>?_;cases g
 .exact qI e
 refine au (aU b) λk=>?_;exact ax (kK e k) λa l f=>aq (.agg f.1 f.2)
theorem AQ{e f:Xw}(l:bC m e f){d:Xe}(o:an h m b d)(c:Xq):ae P h (St m λ_ _=>True) m (storeVar c e b) (storeVar c f d):=by
 have g:=dM o;unfold storeVar;refine au (aU c) λk=>?_;by_cases a:b.cells.size=k
 .have n:d.cells.size=k:=by rw[<-g.1];exact a
  simp only[a,n,ne_eq,not_true_eq_false,Yf];exact gD l g.list 0
 simp only[ne_eq,a,G_,Yc];exact ah
theorem gY{d:Xk Xe}(g:aw h m a d)(b:Xq):ae P h (λc e f=>m.le c/\bC c e f) m (newRow b a) (newRow b d):=by unfold newRow;exact .new (.cells b g (kS.refl _)) λn o c k l=>.pure ⟨k,l,A,A⟩
theorem pF{c:Xe}(g:an h m b c)(a:Xq):ae P h (λd e f=>m.le d/\bC d e f) m (newVar a b) (newVar a c):=gY (dM g) a
theorem pk(a:Xq):ae P h (St m Eq) m (elemOf a) (elemOf a):=by unfold elemOf;refine au (ay a) λb=>?_;cases b<;>first|exact aq rfl|exact ah
theorem iD{e:Xk Xe}(c:aw h m a e)(b:Xq)(d:E):ae P h (St m (an h m)) m (part b a d) (part b e d):=by
 unfold part;refine au (yE b) λf=>?_;cases f
 .cases g:a[d]? with
  |none=>exact ah
  |some x=>obtain⟨o,k,n⟩:=c.get g;simp_all [aq]
 refine au (aU b) λl=>?_;exact aq (.agg (c.extract _ _).1 (c.extract _ _).2)
theorem mE{b:Xk Xe}(c:aw h m a b):an h m (.agg a) (.agg b):=.agg c.1 c.2
theorem gH{b:Xk Xe}(c:aw h m a b):an h m (.tuple a) (.tuple b):=.tuple c.1 c.2
theorem xd(b:Base P m)(a:Xq):an h m (typeHandle P a) (typeHandle P a):=.ptr ⟨b.types,A,A⟩
theorem bA(r:Base P m){c:RuntimeError}(u:∀k o a p,c≠.typeAssertion k o a p):ae P h f m (runtimePanic c:Xz d) (runtimePanic c:Xz e):=by
 unfold runtimePanic;refine bJ ?_;cases c with
 |bounds x w v a=>exact dT (.iface _ (mE ((((aw.nil.push (.int _ _)).push (.int _ _)).push (.bool _)).push (.int _ _))))
 |error s=>exact dT (.iface _ (.string _))
 |plain s=>exact dT (.iface _ (.string _))
 |nilDeref=>exact dT (.iface _ (.string _))
 |typeAssertion k o a p=>grind
 |panicNil=>refine au (pk _) λn=>?_;exact bindM (pF (mE aw.nil) n) λy k t _⟨_,q⟩=>dT (.iface _ (.ptr q))
 |unhashable n=>exact dT (.iface _ (mE (aw.nil.push (xd r n))))
theorem cj(a:Question):ae P h (St m Eq) m (choose a) (choose a):=.choose a λb=>.pure ⟨A,A⟩
theorem ey(k:Base P m)(b:IntKind)(x g:Xj)(a:BoundsCode):ae P h f m (boundsPanic b x g a:Xz d) (boundsPanic b x g a:Xz e):=by
 unfold boundsPanic;by_cases c:(b !=.u64&&decide (0<=x)&&decide (x<=31))=J
 .simp only[c,Yc];simp_all [au,cj,bA]
 simp only[c];simp_all [bA]
theorem kh{a:Xe}(c:an h m b a):ae P h (St m Eq) m (asIntOf b) (asIntOf a):=by cases c<;>first|exact aq rfl|exact ah|exact fi
theorem dL{a:Xe}(d:an h m b a):ae P h (St m Eq) m (asInt b) (asInt a):=by unfold asInt;exact ax (kh d) λe f c=>by subst c;exact aq A
theorem uW{a:Xe}(c:an h m b a):ae P h (St m Eq) m (asBool b) (asBool a):=by cases c<;>first|exact aq rfl|exact ah
theorem IZ{a:Xe}(c:an h m b a):ae P h (St m (aw h m)) m (asAgg b) (asAgg a):=by cases c<;>first|exact aq ⟨‹_›,‹_›⟩|exact ah
theorem uV(f:Base P m){d:Xe}(e:an h m b d):ae P h (St m (bC m)) m (asAddr b) (asAddr d):=by cases e<;>first|exact aq ‹_›|exact ah|exact bA (c:=.nilDeref) f (λg k a l c=>by cases c)
theorem cX{a b:E}(c:m a b):ae P h (St m Eq) m (shape a) (shape b):=.shape c λd=>.pure ⟨A,A⟩
theorem bK{a b:E}(c:m a b):ae P h (St m (gP h m)) m (getObj a) (getObj b):=.getObj c λe f d=>.pure ⟨A,d⟩
inductive LA(m:Ren):Xp (Xw×Xq)->Xp (Xw×Xq)->Prop
 |none:LA m F F
 |some {c k:Xw} (o:bC m c k) (n:Xq):LA m (C (c,n)) (C (k,n))
theorem jO{b c:E}(a:m b c):ae P h (St m (LA m)) m (viewAt b) (viewAt c):=by
 unfold viewAt;refine au (cX a) λe=>?_;cases e with
 |some x=>exact aq .none
 |none=>refine ax (bK a) λf g d=>?_;cases d<;>first|exact aq .none|exact aq (.some ‹_› _)
inductive Lm(m:Ren):Xp (Xw×Xo)->Xp (Xw×Xo)->Prop
 |none:Lm m F F
 |some {c k:Xw} (o:bC m c k) (n:Xo):Lm m (C (c,n)) (C (k,n))
theorem qT{b c:E}(a:m b c):ae P h (St m (Lm m)) m (numberAt b) (numberAt c):=by
 unfold numberAt;refine au (cX a) λe=>?_;cases e with
 |some x=>exact aq .none
 |none=>refine ax (bK a) λf g d=>?_;cases d<;>first|exact aq .none|exact aq (.some ‹_› _)
theorem jE{c k:Xw}(n:bC m c k):ae P h (St m λ_ _=>True) m (noView c) (noView k):=by
 unfold noView;refine ax (jO n.1) λx p o=>?_;cases o
 .exact aq trivial
 exact fi
theorem eU{a b:Xw}(e:bC m a b):ae P h (St m λc d=>d=J->c=J) m (frozen a) (frozen b):=.frozen e λc d f=>.pure ⟨A,f⟩
theorem oM{c d:Xw}(e:bC m c d):ae P h (St m λa b=>b=J->a=J) m (stringish c) (stringish d):=by
 unfold stringish;refine ax (eU e) λa b l=>?_
 have tail:ae P h (St m λa b=>b=J->a=J) m
  (do match<-shape c.block with|some (_,f)=>frozen {block:=c.block,off:=f}|none=>pure Xf:Xz Xo)
  (do match<-shape d.block with|some (_,f)=>frozen {block:=d.block,off:=f}|none=>pure Xf:Xz Xo):=by
  refine au (cX e.1) λk=>?_;cases k with
  |some x=>exact eU ⟨e.1,A,A⟩
  |none=>simp[aq]
 cases a
 .grind
 cases b
 .refine .sL λx=>?_;cases x with
  |none=>exact aq (by simp)
  |some x=>exact .nJ λn=>aq (by simp)
 simp[aq]
theorem qL{a b c d:Xw}(f:bC m a b)(e:bC m c d):ae P h (St m λx g=>g=J->x=J) m (mayBeOne a c) (mayBeOne b d):=by
 unfold mayBeOne;refine ax (oM f) λx g l=>?_;refine ax (oM e) λq r n=>?_;refine au (au (cX f.1) λk=>aq A) λo=>?_;refine au (au (cX e.1) λk=>aq A) λp=>?_;refine aq ?_
 grind
def pV(m:Ren):Prop:=∀a b c d,m a c->m b d->(a=b↔c=d)
theorem ry(s:pV m){e f g k:Xw}(d:bC m e f)(c:bC m g k):ae P h (St m Eq) m (sameAddr e g) (sameAddr f k):=by
 unfold sameAddr;have n:=s _ _ _ _ d.1 c.1;by_cases a:e.block=g.block
 .have l:=n.1 a;simp only[a,l,beq_self_eq_true,Yc];refine aq ?_;obtain⟨x,q,R⟩:=e;obtain⟨p,r,S⟩:=f;obtain⟨N,b,H⟩:=g;obtain⟨O,Q,L⟩:=k;simp only[bC]at d c a l
  grind
 have l:¬f.block=k.block:=λx=>a (n.2 x);simp only[aaM,a,l,Yf];refine ax (eU d) λx p y=>?_;refine ax (eU c) λq r z=>?_;by_cases o:(x&&q)=J
 .simp only[o,Yc];exact fi
 have t:¬(p&&r)=J:=by grind
 simp only[o,t];refine ax (jE d) λ_ _ _=>?_;refine ax (jE c) λ_ _ _=>?_;refine ax (qL d c) λu v w=>?_;cases u
 .simp_all [aq]
 cases v
 .exact .kl _ (by decide) 0 (aq (by decide))
 exact au (cj _) λD=>aq A
end
section
variable{a b c d:Type}{e:Ren->a->b->Prop}{N:Ren->c->d->Prop}
theorem forIn_list{d k:Type}{f g:k->d->Xz (ForInStep d)}(i:∀c a,ae P h (St m Eq) m (f c a) (g c a)):∀(b:Xg k)(a:d),ae P h (St m Eq) m (forIn b a f) (forIn b a g)
 |[],a=>by simp[aq]
 |c::b,a=>by
  simp only[aaZ];refine au (i c a) λl=>?_;cases l with
  |done e=>exact aq A
  |yield e=>exact forIn_list i b e
theorem rZ{b g:Type}{c d:g->b->Xz (ForInStep b)}(i:∀f a,ae P h (St m Eq) m (c f a) (d f a))(e:Xk g)(a:b):ae P h (St m Eq) m (forIn e a c) (forIn e a d):=by
 rw[<-g_,<-g_]
 grind [forIn_list]
theorem forIn_range{b:Type}{c d:E->b->Xz (ForInStep b)}(g:∀f a,ae P h (St m Eq) m (c f a) (d f a))(e:Std.Legacy.Range)(a:b):ae P h (St m Eq) m (forIn e a c) (forIn e a d):=by simp_all [forIn_list]
theorem dZ{b c:Xw}(d:bC m b c):ae P h (St m λa e=>bC m a.1 e.1/\a.2=e.2) m (behindNumber b) (behindNumber c):=by
 unfold behindNumber;refine ax (qT d.1) λa k g=>?_;cases g with
 |none=>exact aq ⟨d,A⟩
 |some f i=>exact aq ⟨f,A⟩
theorem tS(a:Xq):ae P h (St m Eq) m (typeStr a) (typeStr a):=by
 unfold typeStr;refine ax (bM a) λd e⟨b,_⟩=>?_;subst b;dsimp only;by_cases c:d.str.isEmpty=J
 .simp only[c,Yc];exact fi
 simp_all [aq]
theorem fJ{a b:Xw}(k:bC m a b):ae P h (St m Eq) m (byteOf a) (byteOf b):=by
 unfold byteOf;obtain⟨n,f,p⟩:=a;obtain⟨o,s,t⟩:=b;obtain⟨e,g,i⟩:=k;simp only at e g i;subst g;subst i;cases p with
 |some c=>exact aq A
 |none=>
  refine bJ ?_;refine ax (jE (c:=⟨n,f,Option.none⟩) (k:=⟨o,f,Option.none⟩) ⟨e,A,A⟩) λ_ _ _=>?_;refine au (cX e) λc=>?_;cases c with
  |none=>exact ah
  |some c=>
   obtain⟨d,r⟩:=c;dsimp only;by_cases l:P.cellsOf d=0
   .simp_all [aq]
   simp only[l,Yf];cases byteOfCell P P.depth d (f%P.cellsOf d)with
   |none=>exact ah
   |some q=>exact aq A
theorem FK{a b c d:E}(g:pV m)(f:m a b)(e:m c d):(C a==C c)=(C b==C d):=by
 have:=g _ _ _ _ f e
 grind
theorem addr_eq(h:pV m){a b c d:Xw}(f:bC m a b)(e:bC m c d):(a==c)=(b==d):=by
 have g:=h _ _ _ _ f.1 e.1;obtain⟨q,s,u⟩:=a;obtain⟨r,t,v⟩:=b;obtain⟨l,o,i⟩:=c;obtain⟨n,p,k⟩:=d;simp only[bC]at f e g
 grind
theorem mL(Y:Base P m)(w:pV m):∀(l:E)(p:Xq)(y S z T:Xe),an h m y S->an h m z T->ae P h (St m Eq) m (Op.equalIn l p y z) (Op.equalIn l p S T)
 |0,_,_,_,_,_,_,_=>fi
 |l+1,p,y,S,z,T,b,c=>by
  unfold Op.equalIn;refine au (ay p) λa6=>?_
  have a1:∀(d:Xq){k q a r:Xk Xe}(f:E),aw h m k q->aw h m a r->ae P h (St m Eq) m
   (do if(!(<-Op.equalIn l d (<-part d k f) (<-part d a f)))=J then pure (ForInStep.done (C Xf,()))else pure (ForInStep.yield ((F:Xp Xo),())):Xz (ForInStep (Xp Xo×Unit)))
   (do if(!(<-Op.equalIn l d (<-part d q f) (<-part d r f)))=J then pure (ForInStep.done (C Xf,()))else pure (ForInStep.yield ((F:Xp Xo),()))):=by
   intro d k q a r f s t;refine ax (iD s d f) λb4 b5 b1=>?_;refine ax (iD t d f) λR b3 b0=>?_;simp_all [au,mL,aq]
  cases a6 with
  |struct a7=>
   cases b<;>try exact ah
   cases c<;>try exact ah
   rename_i k q s N a r t O;simp only;refine bJ ?_;by_cases Z:P.stoodInHeld p=J
   .simp only[Z,Yc];exact .lost A
   simp only[Z];refine au (rZ (λb6 a3=>?_) a7 _) λi=>?_
   .split
    .exact a1 _ _ ⟨s,N⟩ ⟨t,O⟩
    exact aq A
   obtain⟨i,R⟩:=i;cases i<;>exact aq A
  |array o d=>
   cases b<;>try exact ah
   cases c<;>try exact ah
   rename_i k q s N a r t O;simp only;refine au (aU d) λb8=>?_;refine au (forIn_range (λa0 a3=>a1 d _ ⟨s,N⟩ ⟨t,O⟩) _ _) λi=>?_;obtain⟨i,R⟩:=i;cases i<;>exact aq A
  |bool=>
   cases b<;>try exact ah
   cases c<;>first|exact ah|exact aq rfl
  |int a2=>
   cases b<;>cases c<;>try first|exact ah|exact fi
   .dsimp only;split<;>first|exact aq rfl|exact ah
   .rename_i o _ _ _;cases o with
    |ofNat u=>cases u<;>first|exact aq rfl|exact fi
    |negSucc u=>exact fi
   .rename_i o;cases o with
    |ofNat u=>cases u<;>first|exact aq rfl|exact fi
    |negSucc u=>exact fi
   rename_i U a4 D W a5 H;dsimp only;refine ax (dZ D) λg v e=>?_;refine ax (dZ H) λx L n=>?_;obtain⟨g,_⟩:=g;obtain⟨v,_⟩:=v;obtain⟨x,_⟩:=x;obtain⟨L,_⟩:=L;obtain⟨e,_⟩:=e;obtain⟨n,_⟩:=n;dsimp only at e n⊢
   refine bJ ?_;have b7:=w _ _ _ _ e.1 n.1;have AZ:g.block<P.globals.size↔v.block<P.globals.size:=Y.2 _ _ e.1
   have a8:(g.block==x.block&&decide (g.block<P.globals.size))=(v.block==L.block&&decide (v.block<P.globals.size)):=by grind
   rw[<-a8];by_cases X:(g.block==x.block&&decide (g.block<P.globals.size))=J
   .simp only[X,Yc];exact au (fJ e) λy=>au (fJ n) λz=>aq A
   simp only[X];refine ax (bM p) λa0 b2⟨a,_⟩=>?_;subst a;have a9:=addr_eq w e n;rw[<-a9];split
   .split<;>first|exact aq rfl|exact fi
   exact fi
  |string=>
   cases b<;>try exact ah
   cases c<;>first|exact ah|exact aq rfl
  |unsafePointer=>
   cases b<;>try exact ah
   all_goals (cases c<;>try first|exact ah|exact aq rfl)
   all_goals exact ry w ‹_› ‹_›
  |pointer a=>
   cases b<;>try exact ah
   all_goals (cases c<;>try first|exact ah|exact aq rfl)
   rename_i U a4 D W a5 H;simp only;refine au (aU a) λo=>?_;split
   .simp_all [ry]
   rw[addr_eq w D H];split
   .exact aq A
   exact au (cj _) λo=>aq A
  |chan _ _=>
   cases b<;>try exact ah
   all_goals (cases c<;>try first|exact ah|exact aq rfl)
   grind [aq,FK]
  |interface ms=>
   cases b<;>try exact ah
   all_goals (cases c<;>try first|exact ah|exact aq rfl)
   rename_i Q b4 b5 b1 b9 R b3 b0;simp only;split
   .exact aq A
   refine ax (bM Q) λa0 b2⟨a,_⟩=>?_;subst a;split
   .refine bJ (bJ ?_);by_cases e:P.holdsPacked P.depth Q=J
    .simp only[e,Yc];exact .lost A
    simp only[e];exact au (tS Q) λa3=>bA Y (λU W k l a=>by cases a)
   simp_all [mL]
  |slice a=>
   cases b<;>try exact ah
   all_goals (cases c<;>first|exact ah|exact aq rfl)
  |map _ _=>
   cases b<;>try exact ah
   all_goals (cases c<;>first|exact ah|exact aq rfl)
  |func _ _ _=>
   cases b<;>try exact ah
   all_goals (cases c<;>first|exact ah|exact aq rfl)
  |float a2=>cases b<;>exact ah
  |complex a2=>cases b<;>exact ah
  |_=>exact ah
end
variable{a:Xe}{Y:Xe}{T:Xe}
section
variable{b c d e:Type}{f:Ren->b->c->Prop}{N:Ren->d->e->Prop}
theorem rY(d:Base P m)(e:pV m)(b:Xq){c:Xe}(f:an h m a Y)(g:an h m T c):ae P h (St m Eq) m (Op.equal b a T) (Op.equal b Y c):=
 mL d e _ b a Y T c f g
theorem qE(b:BinOp)(c:IntKind)(a T:Xj):ae P h (St m (an h m)) m (Op.intArith b c a T) (Op.intArith b c a T):=by unfold Op.intArith;cases b<;>first|exact aq (.int _ _)|exact ah
theorem Fu(d:Base P m)(b:BinOp)(c:IntKind)(a T:Xj):ae P h (St m (an h m)) m (Op.intDiv b c a T) (Op.intDiv b c a T):=by
 unfold Op.intDiv;split
 .simp_all [bA]
 cases b<;>first|exact aq (.int _ _)|exact ah
theorem tn(b:BinOp)(c:IntKind)(a T:Xj):ae P h (St m (an h m)) m (Op.intBits b c a T) (Op.intBits b c a T):=by unfold Op.intBits;cases b<;>first|exact aq (.int _ _)|exact ah
theorem Fs(b:BinOp)(a T:Xj):ae P h (St m (an h m)) m (Op.intCmp b a T) (Op.intCmp b a T):=by unfold Op.intCmp;cases b<;>first|exact aq (.bool _)|exact ah
theorem zb(e:Base P m)(b:BinOp)(c d:IntKind)(a T:Xj):ae P h (St m (an h m)) m (Op.shift b c a d T) (Op.shift b c a d T):=by
 unfold Op.shift;split
 .simp_all [bA]
 cases b<;>first|exact aq (.int _ _)|exact ah
theorem rG(b:BinOp)(a T:XB):ae P h (St m (an h m)) m (Op.stringOp b a T) (Op.stringOp b a T):=by
 unfold Op.stringOp;cases b<;>try first|exact aq (.bool _)|exact ah
 dsimp only;split
 .exact fi
 exact aq (.string _)
theorem kJ:∀(k:E)(q:Xq)(a Y T f:Xe),an h m a Y->an h m T f->ae P h (St m Eq) m (Op.eqGuardIn k q a T) (Op.eqGuardIn k q Y f)
 |0,_,_,_,_,_,_,_=>fi
 |k+1,q,a,Y,T,f,r,s=>by
  unfold Op.eqGuardIn;refine au (ay q) λx=>?_
  have v:∀(b:Xq){g i l n:Xk Xe}(d:E),aw h m g i->aw h m l n->ae P h (St m Eq) m
   (do if(<-Op.eqGuardIn k b (<-part b g d) (<-part b l d))=J then pure (ForInStep.done (C J,()))else pure (ForInStep.yield ((F:Xp Xo),())):Xz (ForInStep (Xp Xo×Unit)))
   (do if(<-Op.eqGuardIn k b (<-part b i d) (<-part b n d))=J then pure (ForInStep.done (C J,()))else pure (ForInStep.yield ((F:Xp Xo),()))):=by
   intro b g i l n d o p;refine ax (iD o b d) λS U L=>?_;refine ax (iD p b d) λw R H=>?_;simp_all [au,kJ,aq]
  cases x with
  |struct y=>
   cases r<;>try exact aq A
   .rename_i c;cases Y<;>first|exact aq rfl|exact c.elim
   cases s<;>try exact aq A
   .rename_i c;cases f<;>first|exact aq rfl|exact c.elim
   rename_i g i o t l n p u;simp only;refine au (rZ (λD z=>?_) y _) λe=>?_
   .split
    .exact v _ _ ⟨o,t⟩ ⟨p,u⟩
    exact aq A
   obtain⟨e,w⟩:=e;cases e<;>exact aq A
  |array O b=>
   cases r<;>try exact aq A
   .rename_i c;cases Y<;>first|exact aq rfl|exact c.elim
   cases s<;>try exact aq A
   .rename_i c;cases f<;>first|exact aq rfl|exact c.elim
   rename_i g i o t l n p u;simp only;refine au (aU b) λQ=>?_;refine au (forIn_range (λN z=>v b _ ⟨o,t⟩ ⟨p,u⟩) _ _) λe=>?_;obtain⟨e,w⟩:=e;cases e<;>exact aq A
  |interface ms=>
   cases r<;>try exact aq A
   .rename_i c;cases Y<;>first|exact aq rfl|exact c.elim
   cases s<;>try exact aq A
   rename_i c;cases f<;>first|exact aq rfl|exact c.elim
  |_=>exact aq A
theorem oP(s:Xk Xq)(r:Xq){p q n o:Xe}(u:an h m p q)(k:an h m n o):ae P h (St m (an h m)) m (Builtin.unsafeAdd_ s r #[p,n]) (Builtin.unsafeAdd_ s r #[q,o]):=by
 unfold Builtin.unsafeAdd_;cases u<;>try exact ah
 .dsimp only;refine au (dL k) λl=>?_;split
  .exact .lost A
  split<;>exact .lost A
 rename_i t w g;dsimp only;refine au (dL k) λl=>?_;split
 .refine ax (jO g.1) λy z v=>?_;cases v
  .exact aq (.ptr g)
  exact .lost A
 split
 .exact .lost A
 refine au (cX g.1) λi=>?_;cases i with
 |none=>exact .lost A
 |some i=>
  refine bJ ?_;rw[<-g.2.1];cases cellAtBytes P P.depth i.1 (i.2/P.cellsOf i.1) t.off l with
  |none=>exact .lost A
  |some x=>exact aq (.ptr ⟨g.1,A,g.2.2⟩)
def Vr(h:Set):Ren->Xe->Xe->Prop:=λm a b=>an h m a b
theorem lY{b c:Xz Xe}(e:ae P h (St m (an h m)) m b c):ae P h (Vr h) m b c:=e.mono λi f g⟨d,a⟩=>by subst d;exact a
theorem zx{b c:Xw}(d:bC m b c)(a:Xo):ae P h (Vr h) m (asNumber b a) (asNumber c a):=by unfold asNumber;exact .new (.number d a) λg i k f e=>.pure (.ptr ⟨e,A,A⟩)
theorem xY(l:Xk Xq)(k:Xq){c d:Xw}(a:bC m c d){g i:Xe}(p:an h m g i):
 ae P h (St m λn o=>∃e f,n=XA (C e)/\o=XA (C f)/\bC m e f) m (Builtin.unsafeAdd_ l k #[XA (C c),g]) (Builtin.unsafeAdd_ l k #[XA (C d),i]):=by
 unfold Builtin.unsafeAdd_;dsimp only;refine au (dL p) λr=>?_;split
 .refine ax (jO a.1) λn o q=>?_;cases q
  .simp_all [aq]
  exact .lost A
 split
 .exact .lost A
 refine au (cX a.1) λb=>?_;cases b with
 |none=>exact .lost A
 |some b=>
  refine bJ ?_;rw[<-a.2.1];cases cellAtBytes P P.depth b.1 (b.2/P.cellsOf b.1) c.off r with
  |none=>exact .lost A
  |some s=>exact aq ⟨_,_,A,A,a.1,A,a.2.2⟩
theorem eE(b:Xq){i:Xe}(l:an h m a Y)(n:an h m T i):ae P h (Vr h) m (movedNumber b a T) (movedNumber b Y i):=by
 unfold movedNumber;refine au (ay b) λg=>?_;have s:=lY (oP (P:=P) #[] b l n);by_cases hd:g=.unsafePointer
 .subst hd;exact .lost A
 cases l with
 |ptr t=>
  rename_i q r
  have fin:ae P h (Vr h) m (do let (f,lost)<-behindNumber q;match<-Builtin.unsafeAdd_ #[] b #[XA (C f),T]with|XA (C c)=>asNumber c lost|e=>pure e:Xz Xe)
   (do let (f,lost)<-behindNumber r;match<-Builtin.unsafeAdd_ #[] b #[XA (C f),i]with|XA (C c)=>asNumber c lost|e=>pure e:Xz Xe):=by
   refine ax (dZ t) λo p d=>?_;obtain⟨o,w⟩:=o;obtain⟨p,z⟩:=p;obtain⟨d,k⟩:=d;dsimp only at k d⊢
   subst k;refine ax (xY #[] b d n) λe D v=>?_;obtain⟨c,x,rfl,rfl,u⟩:=v;exact zx u w
  grind
 |bS y=>cases g<;>first|exact absurd rfl hd|exact .lost rfl
 |_=>cases g<;>first|exact absurd rfl hd|exact s
theorem sF(b:Xq){e:Xe}(d:an h m a Y)(i:an h m T e):ae P h (Vr h) m (movedPointer b a T) (movedPointer b Y e):=by
 unfold movedPointer;have c:=lY (oP (P:=P) #[] b d i);cases d with
 |ptr f=>
  refine ax (qT f.1) λl n g=>?_;cases g with
  |none=>exact c
  |some _ _=>exact .lost A
 |bS k=>exact .lost A
 |_=>exact c
theorem ML(d:Base P m)(e:pV m){a b:E}(c:m a b):a<P.globals.size↔b<P.globals.size:=by exact d.2 _ _ c
theorem oO(l:Base P m)(k:pV m){b c d e:Xw}(f:bC m b c)(i:bC m d e):ae P h (St m Eq) m (Op.twoPlaces b d) (Op.twoPlaces c e):=by
 unfold Op.twoPlaces;refine bJ ?_;have o:=k _ _ _ _ f.1 i.1;have p:=ML l k f.1
 have n:(b.block !=d.block||decide (b.block>=P.globals.size))=(c.block !=e.block||decide (c.block>=P.globals.size)):=by grind
 rw[<-n];by_cases g:(b.block !=d.block||decide (b.block>=P.globals.size))=J
 .simp only[g,Yc];exact .lost A
 simp only[g];exact au (fJ f) λa=>au (fJ i) λT=>aq A
theorem Bm(g:Base P m)(k:pV m)(e:IntKind){a b c d:Xw}(f:bC m a b)(i:bC m c d):ae P h (St m (an h m)) m (Op.addrSub e a c) (Op.addrSub e b d):=by unfold Op.addrSub;exact au (oO g k f i) λl=>aq (.int _ _)
theorem Bl(g:Base P m)(k:pV m)(a:BinOp){b c d e:Xw}(f:bC m b c)(i:bC m d e):ae P h (St m (an h m)) m (Op.addrCmp a b d) (Op.addrCmp a c e):=by unfold Op.addrCmp;refine au (oO g k f i) λl=>?_;cases a<;>first|exact aq (.bool _)|exact .lost rfl
theorem td(k:IntKind){d e:Xw}(f:bC m d e)(b:Xj):ae P h (St m (an h m)) m (Op.addrMod k d b) (Op.addrMod k e b):=by
 unfold Op.addrMod;refine au (cX f.1) λc=>?_;cases c with
 |none=>exact .lost A
 |some c=>
  dsimp only;refine ax (bM c.1) λi n⟨l,_⟩=>?_;subst l;by_cases g:(decide (b<1)||decide (b.toNat>i.align)||i.align%b.toNat !=0)=J
  .simp only[g,Yc];exact .lost A
  simp only[g];exact au (fJ f) λa=>aq (.int _ _)
theorem BH(e:BinOp)(b:Xq)(a T:XJ){i f k d:Xe}(u:an h m i f)(n:an h m k d):
 ae P h (St m λ_ _=>True) m (eqGuard e b a T i k) (eqGuard e b a T f d):=by
 unfold eqGuard;by_cases w:e=.eql\/e=.neq
 .rcases w with rfl|rfl
  all_goals simp only[Xo.not_true,Yi,Yf]
  all_goals cases u<;>try exact aq trivial
  case inl.bS c|inr.bS c=>cases f<;>first|exact aq trivial|exact c.elim
  case inl.nilIface|inr.nilIface=>
   cases n<;>try exact aq trivial
   .rename_i c;cases d<;>first|exact aq trivial|exact c.elim
   have fin:ae P h (St m λ_ _=>True) m
    (do if<-Op.eqGuardIn Op.maxDepth b .nilIface .nilIface then unsupported (.noEntry "binop/eql: two nil values of an interface type with methods, neither of them the literal nil"):Xz Unit)
    (do if<-Op.eqGuardIn Op.maxDepth b .nilIface .nilIface then unsupported (.noEntry "binop/eql: two nil values of an interface type with methods, neither of them the literal nil")):=by
    refine au (kJ _ b _ _ _ _ .nilIface .nilIface) λg=>?_;cases g
    .exact aq trivial
    exact .lost A
   cases a<;>cases T<;>first|exact aq trivial|exact fin
  case inl.agg s t o r|inr.agg s t o r=>
   cases n<;>try exact aq trivial
   .rename_i c;cases d<;>first|exact aq trivial|exact c.elim
   rename_i y z v x;refine bJ (bJ ?_);by_cases l:(!P.eqGuardType P.depth b)=J
   .simp only[l,Yc];exact aq trivial
   simp only[l,Yi,Yf];refine au (kJ _ b _ _ _ _ (mE ⟨o,r⟩) (mE ⟨v,x⟩)) λg=>?_;cases g
   .exact aq trivial
   exact .lost A
 simp_all [aq]
theorem Ny(d:Base P m)(e:pV m)(b:Xq){c:Xe}(f:an h m a Y)(g:an h m T c):
 ae P h (Vr h) m (do pure (.bool (!(<-Op.equal b a T))):Xz Xe) (do pure (.bool (!(<-Op.equal b Y c)))):=
 au (rY d e b f g) λi=>aB (.bool _)
theorem NQ(d:Base P m)(e:pV m)(b:Xq){c:Xe}(f:an h m a Y)(g:an h m T c):
 ae P h (Vr h) m (do pure (.bool (<-Op.equal b a T)):Xz Xe) (do pure (.bool (<-Op.equal b Y c))):=
 au (rY d e b f g) λi=>aB (.bool _)
end
section
variable{b c d e:Type}{f:Ren->b->c->Prop}{N:Ren->d->e->Prop}
def alike:Xe->Xe->Xo
 |.int ..,.int .. =>J
 |.string _,.string _=>J
 |_,_=>Xf
theorem EE(c:Base P m)(b:BinOp)(e:Xq)(f:alike a T=J):ae P h (Vr h) m (binOp b e a T) (binOp b e a T):=by
 cases a<;>cases T<;>first|(cases f;done)|skip
 .rename_i g k i l;by_cases d:g=i
  .subst d;cases b<;>simp only[binOp,ne_eq,not_true_eq_false,Yf]<;>
    first|exact lY (qE _ _ _ _)|exact lY (Fu c _ _ _ _)|exact lY (tn _ _ _ _)|exact lY (Fs _ _ _)|exact lY (zb c _ _ _ _ _)
  cases b<;>simp only[binOp,ne_eq,d,G_,Yc]<;>first|exact ah|exact lY (zb c _ _ _ _ _)
 grind [binOp,lY,rG]
theorem binOp_eql{d:Xq}(e:alike a T=Xf)(g:∀b c,a≠.float b c)(f:∀b c h,a≠.complex b c h):binOp .eql d a T=(do pure (.bool (<-Op.equal d a T))):=by cases a<;>first|exact absurd rfl (g _ _)|exact absurd rfl (f _ _ _)|rfl|(cases T<;>first|rfl|cases e)
theorem binOp_neq{d:Xq}(e:alike a T=Xf)(g:∀b c,a≠.float b c)(f:∀b c h,a≠.complex b c h):binOp .neq d a T=(do pure (.bool (!(<-Op.equal d a T)))):=by cases a<;>first|exact absurd rfl (g _ _)|exact absurd rfl (f _ _ _)|rfl|(cases T<;>first|rfl|cases e)
def mj:Xe->Xo
 |.pointer _=>Xf
 |_=>J
theorem vd{g:BinOp}{v:Xq}(n:alike a T=Xf)(o:g≠.eql)(p:g≠.neq)(s:mj a=J)(t:mj T=J)(r:∀i k,a≠.float i k)(q:∀i k u,a≠.complex i k u):
 ∃l,binOp g v a T=.halt l/\Halt.lost l=J:=by
 cases g<;>first|exact absurd rfl o|exact absurd rfl p|skip
 all_goals (cases a<;>first|(cases s;done)|exact absurd rfl (r _ _)|exact absurd rfl (q _ _ _)|exact⟨_,rfl,rfl⟩|(cases T<;>first|exact⟨_,rfl,rfl⟩|(cases n;done)|(cases t;done)))
theorem IX{b:Xe}(d:an h m a Y)(e:an h m T b):alike a T=J->Y=a/\b=T:=by intro c;cases d<;>cases e<;>first|exact⟨rfl,rfl⟩|cases c
theorem Vy(f:an h m a Y):(∀b c,a≠.float b c)/\(∀b c d,a≠.complex b c d)/\(∀b c,Y≠.float b c)/\(∀b c d,Y≠.complex b c d):=by
 cases f with
 |bS g=>grind [bO]
 |_=>refine⟨?_,?_,?_,?_⟩<;>intros<;>intro e<;>cases e
theorem pn(d:Xq)(e:a=.tuple #[]\/T=.tuple #[])(f:mj a=J)(g:mj T=J):gq (Op.equal d a T):=by
 unfold Op.equal;cases hd:Op.maxDepth with
 |zero=>exact .lost A
 |succ i=>
  refine .program λP=>?_;simp only[program,Bind.bind,Sem.bind];cases k:P.underlying d with
  |none=>exact .lost A
  |some b=>
   rcases e with rfl|rfl
   .cases T<;>first|(cases g;done)|(cases b<;>exact .lost rfl)
   cases a with
   |slice c l h=>cases c<;>cases b<;>exact .lost A
   |map c=>cases c<;>cases b<;>exact .lost A
   |_=>first|(cases f;done)|(cases b<;>exact .lost rfl)
theorem IW{b:Xe}(e:an h m a Y)(f:an h m T b)(d:alike a T=Xf):alike Y b=Xf\/((a=.tuple #[]\/T=.tuple #[])/\mj a=J/\mj T=J):=by
 cases c:alike Y b with
 |false=>simp
 |true=>right;cases e<;>cases f<;>first|(cases c;done)|(cases d;done)|exact⟨Xh rfl,rfl,rfl⟩|exact⟨Xi rfl,rfl,rfl⟩|(cases Y<;>cases c;done)|(cases b<;>cases c;done)
theorem ED{k:BinOp}{b:Xq}(l:a=.tuple #[]\/T=.tuple #[])(c:alike a T=Xf)(f:mj a=J)(g:mj T=J)(e:∀h i,a≠.float h i)(d:∀h i q,a≠.complex h i q):gq (binOp k b a T):=by
 by_cases m:k=.eql
 .subst m;rw[binOp_eql c e d];exact(pn b l f g).bind _
 by_cases n:k=.neq
 .subst n;rw[binOp_neq c e d];exact(pn b l f g).bind _
 obtain⟨r,o,p⟩:=vd (v:=b) c m n f g e d;rw[o];exact .lost p
theorem uS(b:Xq)(e:an h m a Y)(c:IntKind)(d:Xj):
 ae P h (Vr h) m (do if(<-underlying b) matches .unsafePointer then movedPointer b a (.int c d)else movedNumber b a (.int c d):Xz Xe) (do if(<-underlying b) matches .unsafePointer then movedPointer b Y (.int c d)else movedNumber b Y (.int c d)):=by
 refine au (ay b) λf=>?_;cases f<;>first|exact eE b e (.int c d)|(exact sF b e (.int c d))
theorem Jd(s:Base P m)(t:pV m)(c:BinOp)(i:Xq){u:Xe}(p:an h m a Y)(g:an h m T u):ae P h (Vr h) m (binOp c i a T) (binOp c i Y u):=by
 cases n:alike a T with
 |true=>grind [IX,EE]
 |false=>
  obtain⟨k,l,w,x⟩:=Vy p;rcases IW p g n with y|⟨z,q1,N⟩
  rotate_left
  .exact .dead (ED z n q1 N k l)
  by_cases e:c=.eql
  .grind [binOp_eql,NQ]
  by_cases f:c=.neq
  .grind [binOp_neq,Ny]
  by_cases b:mj a=J/\mj T=J
  .obtain⟨R,v,D⟩:=vd (v:=i) n e f b.1 b.2 k l;rw[v];exact .lost D
  clear y k l w x;cases p with
  |int S U=>
   cases g<;>first|(exact absurd ⟨rfl,rfl⟩ b)|skip
   .cases c<;>first|exact absurd rfl e|exact absurd rfl f|exact .lost rfl|exact eE _ .cG (.int _ _)
   rename_i O Q d;cases c<;>first|exact absurd rfl e|exact absurd rfl f|exact .lost rfl|exact eE _ (.ptr d) (.int _ _)|exact ax (dZ d) λq r b=>lY (td _ b.1 _)
  |cG=>cases g<;>cases c<;>first|exact absurd rfl e|exact absurd rfl f|exact .lost rfl|exact eE _ .cG (.int _ _)|exact uS _ .cG _ _
  |ptr d=>
   cases g<;>cases c<;>first
    |exact absurd rfl e|exact absurd rfl f|exact .lost rfl|exact eE _ (.ptr d) (.int _ _)
    |exact uS _ (.ptr d) _ _
    |exact ax (dZ d) λq r b=>lY (td _ b.1 _)
    |exact ax (dZ d) λq r b=>ax (dZ ‹_›) λH L o=>lY (Bm s t _ b.1 o.1)
    |exact ax (dZ d) λq r b=>ax (dZ ‹_›) λH L o=>lY (Bl s t _ b.1 o.1)
  |_=>
   cases g<;>first|(exact absurd ⟨rfl,rfl⟩ b)|skip
   all_goals (cases c<;>first|exact absurd rfl e|exact absurd rfl f|exact .lost rfl)
end
variable{n:E}
section
variable{b c d e:Type}{f:Ren->b->c->Prop}{N:Ren->d->e->Prop}
theorem KN(c:UnOp)(d:an h m a Y):ae P h (Vr h) m (Op.unary c a) (Op.unary c Y):=by
 cases d<;>cases c<;>first|exact ah|exact fi|exact aB (.bool _)|skip
 .rename_i b n;show ae P h (Vr h) m (Op.intArith .sub b 0 n) (Op.intArith .sub b 0 n);simp[lY,qE]
 rename_i b n;show ae P h (Vr h) m (Op.intBits .xor b (if b.signed then-1 else b.max) n) (Op.intBits .xor b (if b.signed then-1 else b.max) n);simp[lY,tn]
theorem gG(b:an h m a Y):ae P h (St m (bC m)) m (Instr.sureAddr a) (Instr.sureAddr Y):=by cases b<;>first|exact ah|exact aq ‹_›
theorem FW{b c:Xw}(e:bC m b c)(d f:E):ae P h (St m (bC m)) m (partAt b d f) (partAt c d f):=by
 refine au (fJ e) λa=>?_;have g:bC m {block:=b.block,off:=b.off+d} {block:=c.block,off:=c.off+d}:=⟨e.1,by simp[e.2.1],A⟩;refine au (fJ g) λT=>?_;by_cases i:T=a+f
 .simp_all [aq]
 simp only[i,Yf];exact aq ⟨e.1,g.2.1,A⟩
theorem vz{a b:Xw}(d:bC m a b)(c:Field):ae P h (St m (bC m)) m (fieldPlace a c) (fieldPlace b c):=by
 refine au (aU _) λn=>?_;split
 .grind [FW]
 exact aq (d.add _)
theorem BL(c:Xq)(k:an h m a Y)(b:E):ae P h (Vr h) m (Instr.fieldAt c a b) (Instr.fieldAt c Y b):=by
 refine au (ay c) λd=>?_;cases d<;>try exact ah
 rename_i f;dsimp only;cases f[b]? with
 |none=>exact ah
 |some e=>refine ax (gG k) λl o g=>?_;exact ax (vz g e) λp q i=>aB (.ptr i)
theorem FB(b:Xq)(d:an h m a Y):ae P h (Vr h) m (Instr.loadAt b a) (Instr.loadAt b Y):=by exact ax (gG d) λe f c=>lY (tz c b)
theorem DS(b:Xq){c:Xe}(e:an h m a Y)(f:an h m T c):ae P h (St m λ_ _=>True) m (Instr.storeAt b a T) (Instr.storeAt b Y c):=by exact ax (gG e) λg i d=>AQ d f b
theorem Ca(v:Base P m)(e:Xq){q:Xe}(p:an h m a Y)(t:an h m T q):ae P h (Vr h) m (Instr.indexAt e a T) (Instr.indexAt e Y q):=by
 refine au (kh t) λu=>?_;obtain⟨i,b⟩:=u;refine au (ay e) λr=>?_
 have fin:∀(k:Xo)(base g:Xp Xw)(len:E)(d:Xq),(base=F/\g=F\/∃c f,base=C c/\g=C f/\bC m c f)->
  ae P h (Vr h) m
   (match base with
     |some c=>(do
      if 0<=b/\b<len then pure (XA (C (c.add (b.toNat*(<-Go.sizeOf d)))))
      else if k then unsupported (.noEntry "op/indexAddr.an index out of range at an array of length 0 or 1 (ledger 616)")
      else boundsPanic i b len .index:Xz Xe)
     |none=>boundsPanic i b 0 .index)
   (match g with
     |some c=>(do
      if 0<=b/\b<len then pure (XA (C (c.add (b.toNat*(<-Go.sizeOf d)))))
      else if k then unsupported (.noEntry "op/indexAddr.an index out of range at an array of length 0 or 1 (ledger 616)")
      else boundsPanic i b len .index:Xz Xe)
     |none=>boundsPanic i b 0 .index):=by
  intro k base g len d s;rcases s with⟨rfl,rfl⟩|⟨c,f,rfl,rfl,l⟩
  .simp_all [ey]
  dsimp only;split
  .exact au (aU d) λn=>aB (.ptr (l.add _))
  cases k
  .simp_all [ey]
  exact .lost A
 cases r with
 |array len d=>refine ax (gG p) λc f l=>?_;refine au (ay e) λo=>?_;exact fin _ _ _ _ _ (Xi ⟨c,f,A,A,l⟩)
 |slice d=>
  cases p<;>try exact ah
  .refine au (ay e) λo=>?_;exact fin Xf _ _ 0 d (Xh ⟨A,A⟩)
  refine au (ay e) λo=>?_;exact fin _ _ _ _ _ (Xi ⟨_,_,A,A,‹_›⟩)
 |_=>exact ah
def mc(h:Set)(m:Ren):Xp Xe->Xp Xe->Prop
 |F,F=>True
 |C a,C b=>an h m a b
 |_,_=>False
theorem dQ(d:Base P m)(c:an h m a Y)(T:E)(b:BoundsCode):ae P h (St m Eq) m (Instr.sliceBound a T b) (Instr.sliceBound Y T b):=by
 refine au (kh c) λe=>?_;dsimp only;split
 .exact aq A
 simp_all [ey]
theorem eG(b:Base P m)(sl:Xo)(len l:E){c d f g i k:Xp Xe}(a:mc h m c d)(e:mc h m f g)(o:mc h m i k):
 ae P h (St m Eq) m (Instr.sliceBounds sl len l c f i) (Instr.sliceBounds sl len l d g k):=by
 cases i<;>cases k<;>first|(exact o.elim)|skip
 .cases f<;>cases g<;>first|(exact e.elim)|skip
  .cases c<;>cases d<;>first|(exact a.elim)|skip
   .exact aq A
   exact au (dQ b a _ _) λp=>aq A
  refine au (dQ b e _ _) λq=>?_;cases c<;>cases d<;>first|(exact a.elim)|skip
  .exact aq A
  exact au (dQ b a _ _) λp=>aq A
 refine au (dQ b o _ _) λr=>?_;cases f<;>cases g<;>first|(exact e.elim)|skip
 .exact ah
 refine au (dQ b e _ _) λq=>?_;cases c<;>cases d<;>first|(exact a.elim)|skip
 .exact aq A
 exact au (dQ b a _ _) λp=>aq A
theorem KB(o:Base P m)(O:Xq)(z:an h m a Y){D H x y l p:Xp Xe}(r:mc h m D H)(s:mc h m x y)(t:mc h m l p):
 ae P h (Vr h) m (Instr.slice O a D x l) (Instr.slice O Y H y p):=by
 refine au (ay O) λv=>?_;have U:mc h m F F:=trivial;cases v with
 |string=>
  cases z<;>try exact ah
  have S:l.isSome=p.isSome:=by cases l<;>cases p<;>first|rfl|exact t.elim
  rw[<-S];cases l.isSome
  .exact au (eG o _ _ _ r s U) λu=>aB (.string _)
  exact .lost A
 |slice Q=>
  cases z<;>try exact ah
  .refine au (eG o _ _ _ r s t) λu=>?_;obtain⟨g,q,i⟩:=u;refine au (aU Q) λL=>?_;have:(if i=g then(F:Xp Xw)else Xp.map (λa:Xw=>a.add (g*L)) F)=F:=by split<;>rfl
   rw[this];exact aB (.aO _ _)
  refine au (eG o _ _ _ r s t) λu=>?_;refine au (aU Q) λL=>?_;split
  .exact aB (.slice ‹bC m _ _› _ _)
  exact aB (.slice (bC.add ‹bC m _ _› _) _ _)
 |pointer arr=>
  have main:ae P h (Vr h) m
   (do
     let k<-asAddr a
     let .array n w<-underlying arr|stuck "Slice: array type expected"
     let (g,q,i)<-Instr.sliceBounds Xf n n D x l
     let size<-Go.sizeOf w
     pure (Xm (C (if i=g then k else k.add (g*size))) (q-g) (i-g)):Xz Xe)
   (do
     let k<-asAddr Y
     let .array n w<-underlying arr|stuck "Slice: array type expected"
     let (g,q,i)<-Instr.sliceBounds Xf n n H y p
     let size<-Go.sizeOf w
     pure (Xm (C (if i=g then k else k.add (g*size))) (q-g) (i-g))):=by
   refine ax (uV o z) λk W R=>?_;refine au (ay arr) λv=>?_;cases v<;>try exact ah
   refine au (eG o _ _ _ r s t) λu=>?_;refine au (aU _) λL=>?_;split
   .exact aB (.slice R _ _)
   exact aB (.slice (R.add _) _ _)
  omega
 |_=>exact ah
theorem DJ(g:Base P m)(b:Xq)(l:an h m a Y){o p i k q r:Xp Xe}(c:mc h m o p)(d:mc h m i k)(e:mc h m q r):
 ae P h (Vr h) m (Instr.sliceAt b a o i q) (Instr.sliceAt b Y p k r):=by
 refine au (ay b) λs=>?_;have other:=KB (P:=P) g b l c d e;cases s with
 |array n v=>
  refine ax (gG l) λt u f=>?_;refine au (eG g _ _ _ c d e) λw=>?_;refine au (aU _) λx=>?_;split
  .exact aB (.slice f _ _)
  exact aB (.slice (f.add _) _ _)
 |_=>exact other
theorem JH(p:Base P m)(b:Xq){d:Xe}(c:an h m a Y)(i:an h m T d):ae P h (Vr h) m (Instr.index b a T) (Instr.index b Y d):=by
 refine au (kh i) λq=>?_;refine au (ay b) λe=>?_;cases e with
 |array n f=>
  cases c<;>try exact ah
  rename_i l o g k;dsimp only;split
  .exact au (aU f) λr=>lY (iD ⟨g,k⟩ _ _)
  simp_all [ey]
 |string=>
  cases c<;>try exact ah
  dsimp only;split
  .exact aB (.int _ _)
  simp_all [ey]
 |_=>exact ah
theorem Jp(c:Xq)(g:an h m a Y)(b:E):ae P h (Vr h) m (Instr.field c a b) (Instr.field c Y b):=by
 refine au (ay c) λd=>?_;cases d<;>try exact ah
 rename_i e;dsimp only;cases e[b]? with
 |none=>exact ah
 |some l=>exact ax (IZ g) λi k f=>lY (iD f _ _)
theorem BK(g:an h m a Y)(b:E):ae P h (Vr h) m (Instr.extract a b) (Instr.extract Y b):=by
 cases g<;>try exact ah
 rename_i c l f k;unfold Instr.extract;dsimp only;cases e:c[b]? with
 |none=>exact ah
 |some o=>obtain⟨p,d,i⟩:=aw.get ⟨f,k⟩ e;rw[d];exact aB i
theorem qJ(b:Xq)(d:an h m a Y):ae P h (Vr h) m (Instr.makeInterface b a) (Instr.makeInterface b Y):=by refine au (ay b) λc=>?_;cases c<;>first|exact ah|exact aB (.iface _ d)
theorem IY(b:iL P)(a:Xq):ae P h (Vr h) m (Instr.alloc a J (.tuple #[])) (Instr.alloc a J (.tuple #[])):=by refine ax (cI b a) λf g b=>?_;exact bindM (pF b a) λi d e _⟨_,c⟩=>aB (.ptr c)
theorem Pb(b:Xq)(d:an h m a Y):ae P h (Vr h) m (Instr.box b a) (Instr.box b Y):=by exact bindM (pF d b) λg e f _⟨_,c⟩=>aB (.ptr c)
theorem Cu(c:Xq){a b:Xp Xe}(d:mc h m a b):ae P h (Vr h) m (Instr.makeMap c a) (Instr.makeMap c b):=by
 have fin:ae P h (Vr h) m (do pure (.map (C (<-newObj (.map #[] 0)))):Xz Xe) (do pure (.map (C (<-newObj (.map #[] 0))))):=
  .new (.map 0 .nil) λn i k g f=>.pure (.map f)
 cases a<;>cases b<;>first|(exact d.elim)|skip
 .exact fin
 refine au (ay c) λe=>?_;cases e<;>try exact ah
 exact au (dL d) λ_=>fin
theorem aw.const{i o:Xk Xe}(l:aw h m i o)(hd:an h m (default:Xe) (default:Xe)):aw h m ((Xk.range n).map (i[·%i.size]!)) ((Xk.range n).map (o[·%o.size]!)):=by
 refine⟨by simp,λr a Y k g=>?_⟩;rw[Yk]at k g;rw[<-l.1]at g;cases q:(Xk.range n)[r]? with
 |none=>simp_all
 |some s=>
  rw[q]at k g;simp only[Zo,Yh]at k g;subst k;subst g;rw[getElem!_def,getElem!_def];cases p:i[s%i.size]? with
  |none=>rw[l.none p];exact hd
  |some v=>obtain⟨w,t,u⟩:=l.get p;simp_all
end
section
variable{b c e f:Type}{d:Ren->b->c->Prop}{N:Ren->e->f->Prop}
theorem km:an h m (default:Xe) (default:Xe):=.bool _
theorem mF(a:E):ae P h (St m λ_ _=>True) m (askRoom a) (askRoom a):=by
 unfold askRoom;split
 .exact .mark .noRoom A (.pure ⟨A,trivial⟩)
 exact aq trivial
theorem Gg(p:Base P m){g:RuntimeError}(o:∀i k l n,g≠.typeAssertion i k l n):ae P h d m (runtimePanic g:Xz b) (runtimePanic g:Xz c):=bA p o
theorem jK(o:Base P m){a:RuntimeError}(g:∀i k l n,a≠.typeAssertion i k l n){p:b->Xz e}{q:c->Xz f}:ae P h N m (runtimePanic a >>= p) (runtimePanic a >>= q):=
 bindM (bA (f:=λ_ _ _=>False) o g) (λ_ _ _ _ g=>g.elim)
theorem xK(r:iL P)(g:Base P m)(i:Xq){n:Xe}(p:an h m a Y)(q:an h m T n):ae P h (Vr h) m (Instr.makeSlice i a T) (Instr.makeSlice i Y n):=by
 unfold Instr.makeSlice;refine au (ay i) λe=>?_;cases e<;>try exact ah
 rename_i c;refine au (dL p) λlen=>?_;refine au (dL q) λu=>?_;refine ax (bM c) λv w⟨b,_⟩=>?_;subst b;dsimp only;split
 .split
  .exact jK g (λd k l e b=>by cases b)
  split
  .exact jK g (λd k l e b=>by cases b)
  exact au (cj _) λx=>jK g (λd k l e b=>by cases b)
 refine ax (mF _) λ_ _ _=>?_;refine au (aU c) λy=>?_;split
 .refine bindM (gY (aw.const aw.nil km) c) λt d o _⟨_,f⟩=>aB (.slice f _ _)
 refine ax (cI r c) λz D s=>?_;refine bindM (gY (aw.const (dM s) km) c) λt d o _⟨_,f⟩=>aB (.slice f _ _)
theorem BM{b c:Xk Xe}(f:aw h m b c)(i:E):∀(d e:Xg (Xe×E)),aZ (λa Y=>an h m a.1 Y.1/\a.2=Y.2) d e->
 aw h m (d.foldl (λb a=>b.setIfInBounds (i+a.2) a.1) b) (e.foldl (λb a=>b.setIfInBounds (i+a.2) a.1) c):=by
 intro d e k
 induction k generalizing b c with
 |nil=>exact f
 |cons g _ l=>simp only[ZW];rw[<-g.2];exact l (f.set _ g.1)
theorem GH{c d:Xg Xe}(e:aZ (an h m) c d):∀b,aZ (λa Y=>an h m a.1 Y.1/\a.2=Y.2) (c.zipIdx b) (d.zipIdx b):=by
 induction e with
 |nil=>intro b;exact .nil
 |cons f _ g=>intro b;simp only[Xg.zipIdx_cons];exact .cons ⟨f,A⟩ (g _)
def Lp(h:Set)(m:Ren)(a b:E×Xe):Prop:=a.1=b.1/\an h m a.2 b.2
theorem vA(c:E->Xp (E×E)){e f:Xg (E×Xe)}(o:aZ (Lp h m) e f):∀{a b:Xk Xe},aw h m a b->
 (Instr.fill c a e=F/\Instr.fill c b f=F)\/∃g i,Instr.fill c a e=C g/\Instr.fill c b f=C i/\aw h m g i:=by
 induction o with
 |nil=>intro a b d;exact Xi ⟨a,b,A,A,d⟩
 |cons p _ r=>
  rename_i t u e f _;intro a b d;obtain⟨q,x⟩:=t;obtain⟨w,y⟩:=u;obtain⟨k,n⟩:=p;simp only at k n;subst k;unfold Instr.fill;cases c q with
  |none=>exact Xh ⟨A,A⟩
  |some v=>
   obtain⟨s,size⟩:=v;have l:=dM n;dsimp only;rw[<-l.1,<-d.1];split
   .exact Xh ⟨A,A⟩
   refine r ?_;rw[<-Xk.foldl_toList,<-Xk.foldl_toList,Xk.toList_zipIdx,Xk.toList_zipIdx];exact BM d s _ _ (GH l.list 0)
theorem Ns{e g:Type}{b:e->Xz g}(k:∀a,ae P h (St m Eq) m (b a) (b a))(f:Xk e):ae P h (St m Eq) m (f.mapM b) (f.mapM b):=by
 rw[T_];rw[<-aaf]
 have:∀(c:Xg e)(acc:Xk g),ae P h (St m Eq) m (c.foldlM (λbs d=>Functor.map bs.push (b d)) acc) (c.foldlM (λbs d=>Functor.map bs.push (b d)) acc):=by
  intro c
  induction c with
  |nil=>intro acc;exact aq A
  |cons a c l=>intro acc;simp only[O_];exact au (au (k a) λd=>aq A) λi=>l i
 exact this _ _
theorem Je(r:iL P)(c:Xq){g i:Xk (E×Xe)}(e:aZ (Lp h m) g.toList i.toList):ae P h (Vr h) m (Instr.build c g) (Instr.build c i):=by
 unfold Instr.build;refine ax (cI r c) λw x s=>?_;have f:=dM s;dsimp only;refine au (ay c) λn=>?_;cases n with
 |struct q=>
  dsimp only;refine au (Ns (λp=>au (aU p.type) λu=>aq A) q) λv=>?_;rcases vA (v[·]?) e f with⟨a,b⟩|⟨k,l,a,b,d⟩
  .rw[a];exact ah
  rw[a,b];exact aB (mE d)
 |array u o=>
  dsimp only;refine au (aU o) λsize=>?_;rcases vA (λt=>C (t*size,size)) e f with⟨a,b⟩|⟨k,l,a,b,d⟩
  .rw[a];exact ah
  rw[a,b];exact aB (mE d)
 |_=>exact ah
theorem vg(r:iL P)(o:Xq)(len:E){l n:Xk (E×Xe)}(i:aZ (Lp h m) l.toList n.toList):ae P h (Vr h) m (Instr.buildSlice o len l) (Instr.buildSlice o len n):=by
 unfold Instr.buildSlice;refine au (ay o) λq=>?_;cases q<;>try exact ah
 rename_i a;refine au (aU a) λsize=>?_
 have fin:∀{c d:Xk Xe},aw h m c d->ae P h (Vr h) m
  (do
    let C cells:=Instr.fill (λb=>C (b*size,size)) ((Xk.range (len*size)).map (c[·%c.size]!)) l.toList|stuck "buildSlice: a part of the wrong size"
    pure (Xm (C (<-newRow a cells)) len len):Xz Xe)
  (do
    let C cells:=Instr.fill (λb=>C (b*size,size)) ((Xk.range (len*size)).map (d[·%d.size]!)) n.toList|stuck "buildSlice: a part of the wrong size"
    pure (Xm (C (<-newRow a cells)) len len)):=by
  intro c d k;rcases vA (λb=>C (b*size,size)) i (aw.const (n:=len*size) k km)with⟨g,p⟩|⟨v,w,g,p,s⟩
  .rw[g];exact ah
  rw[g,p];exact bindM (gY s a) λy t u _⟨_,i⟩=>aB (.slice i _ _)
 dsimp only;by_cases e:len*size>2^24
 .rw[XC e,XC e];exact .lost A
 rw[Xx e,Xx e];by_cases f:len*size=0
 .rw[XC f,XC f];exact fin aw.nil
 rw[Xx f,Xx f];exact ax (cI r a) λc d k=>fin (dM k)
theorem sD(b:an h m a Y):ae P h (St m Eq) m (Builtin.lenOf a) (Builtin.lenOf Y):=by cases b<;>first|exact ah|exact aq rfl
theorem AR(d:Xg UInt8):aw h m (d.toArray.map λc=>Xe.int .u8 c.toNat) (d.toArray.map λc=>Xe.int .u8 c.toNat):=by
 refine⟨A,λg a Y b f=>?_⟩;rw[b]at f;cases f;rw[Yk]at b;cases e:d.toArray[g]? with
 |none=>rw[e]at b;cases b
 |some c=>rw[e]at b;cases b;exact .int _ _
theorem oL(a:Xk UInt8):aw h m (a.map λb=>Xe.int .u8 b.toNat) (a.map λb=>Xe.int .u8 b.toNat):=by obtain⟨c⟩:=a;exact AR c
theorem gw(size b:E)(c:an h m a Y):ae P h (St m (aw h m)) m (Builtin.firstCells size b a) (Builtin.firstCells size b Y):=by cases c<;>first|exact ah|exact aq aw.nil|exact aq (oL _)|exact kK ‹_› _
theorem kQ{c d:Xk Xe}(b:aw h m c d)(a:E):aw h m (Builtin.zeroCells c a) (Builtin.zeroCells d a):=by unfold Builtin.zeroCells;rw[<-b.1];have:=aw.const (n:=a*c.size) b km;rw[<-b.1]at this;exact this
end
section
variable{c d e f:Type}{b:Ren->c->d->Prop}{N:Ren->e->f->Prop}
theorem cq(a:Xq):ae P h (St m λb c=>b=c/\P.underlying a=C b) m (underlying a) (underlying a):=by
 refine bJ ?_;cases d:P.underlying a with
 |none=>exact ah
 |some e=>simp[aq]
theorem xL(size o i:E)(g:Xp Xw)(a:Xe){c:Xo->Xz e}(d:∀b,gq (c b)):gq (Builtin.mayShare size o i g a >>= c):=by
 have l:∀(f:Xw)(h:E){c:Xo->Xz e},(∀b,gq (c b))->gq (Builtin.holdsCells f h >>= c):=by intro f h c d;refine gq.shape λn=>?_;cases n<;>exact d _
 have rest:∀b:Xo,gq ((do
  if !b then return J
  match a with
  |Xm (C k) _ _=>do pure (!(<-Builtin.holdsCells k (i*size))||g.any (·.block==k.block))
  |_=>pure Xf:Xz Xo) >>= c):=by
  intro b;cases b
  .exact d J
  cases a<;>first|exact d Xf|skip
  rename_i m _ _;cases m
  .exact d Xf
  simp only[Xo.not_true,Yi,Yf,bind_assoc,pure_bind]
  grind
 unfold Builtin.mayShare;cases g with
 |none=>grind
 |some f=>rw[bind_assoc];exact l f _ λb=>(gq.frozen λp=>rest _)
def Vk(m:Ren)(c d:Xp Xw):Prop:=c=F/\d=F\/∃a b,c=C a/\d=C b/\bC m a b
theorem nM{c d:Type}{b:Ren->c->d->Prop}{e:Prop}[Decidable e]{a T:Xz c}{Y f:Xz d}(g:e->ae P h b m a Y)(i:¬e->ae P h b m T f):ae P h b m (if e then a else T) (if e then Y else f):=by grind
theorem EA(a1:iL P)(w:Base P m)(L:Xk Xq)(a3:Xq){v U:Xk Xe}(W:aw h m v U):
 ae P h (Vr h) m (Builtin.append_ L a3 v) (Builtin.append_ L a3 U):=by
 unfold Builtin.append_;cases c6:L[0]? with
 |none=>exact ah
 |some c0=>
  cases b0:v[0]? with
  |none=>exact ah
  |some d1=>
   obtain⟨d2,a8,a0⟩:=W.get b0;rw[a8];cases b1:v[1]? with
   |none=>exact ah
   |some a=>
    obtain⟨Y,a9,x⟩:=W.get b1;rw[a9];dsimp only;refine au (ay c0) λl=>?_;cases l<;>try exact ah
    rename_i c
    have main:∀(q:Xo)(S T:Xz E)(r s:E->Xz (Xk Xe)),ae P h (St m Eq) m S T->(∀b,ae P h (St m (aw h m)) m (r b) (s b))->∀(size:E)(base n:Xp Xw)(d f:E),Vk m base n->an h m (.slice base d f) (.slice n d f)->
     ae P h (Vr h) m
      (do
        let b<-S
        let g:=d+b
        if g<=f then
         let new<-r b
         if let C k:=base then storeCells (k.add (d*size)) new.toList
         pure (.slice base g f)
        else
         if(g:Xj)>IntKind.i64.max/\(q=J\/(<-typeInfo c).bytes=0)then runtimePanic (.error "growslice: len out of range")
         if Builtin.nextslicecap g f*(<-typeInfo c).bytes>2^48 then(if q=J then runtimePanic (.error "growslice: len out of range")else do
          if !(<-Builtin.mayShare size d b base a)then mark .noRoom
          unsupported (.resourceLimit "append: a slice or a string whose bytes no memory bears"))
         let i<-choose (.appendCap g f c)
         askRoom (i*(<-typeInfo c).bytes)
         let old<-Builtin.firstCells size d (.slice base d f)
         let new<-r b
         let rest:=Builtin.zeroCells (<-zeroValue c).cells (i-g)
         pure (Xm (C (<-newRow c (old++new++rest))) g i):Xz Xe)
      (do
        let b<-T
        let g:=d+b
        if g<=f then
         let new<-s b
         if let C k:=n then storeCells (k.add (d*size)) new.toList
         pure (.slice n g f)
        else
         if(g:Xj)>IntKind.i64.max/\(q=J\/(<-typeInfo c).bytes=0)then runtimePanic (.error "growslice: len out of range")
         if Builtin.nextslicecap g f*(<-typeInfo c).bytes>2^48 then(if q=J then runtimePanic (.error "growslice: len out of range")else do
          if !(<-Builtin.mayShare size d b n Y)then mark .noRoom
          unsupported (.resourceLimit "append: a slice or a string whose bytes no memory bears"))
         let i<-choose (.appendCap g f c)
         askRoom (i*(<-typeInfo c).bytes)
         let old<-Builtin.firstCells size d (.slice n d f)
         let new<-s b
         let rest:=Builtin.zeroCells (<-zeroValue c).cells (i-g)
         pure (Xm (C (<-newRow c (old++new++rest))) g i)):=by
     intro q S T r s b3 Z size base n d f b2 b5;refine au b3 λb=>?_;dsimp only;split
     .refine ax (Z b) λt a6 O=>?_;rcases b2 with⟨rfl,rfl⟩|⟨k,a5,rfl,rfl,X⟩
      .exact aB (.aO _ _)
      exact ax (gD (X.add _) O.list 0) λ_ _ _=>aB (.slice X _ _)
     have tail:ae P h (Vr h) m
      (do
        let i<-choose (.appendCap (d+b) f c)
        askRoom (i*(<-typeInfo c).bytes)
        let old<-Builtin.firstCells size d (.slice base d f)
        let new<-r b
        let rest:=Builtin.zeroCells (<-zeroValue c).cells (i-(d+b))
        pure (Xm (C (<-newRow c (old++new++rest))) (d+b) i):Xz Xe)
      (do
        let i<-choose (.appendCap (d+b) f c)
        askRoom (i*(<-typeInfo c).bytes)
        let old<-Builtin.firstCells size d (.slice n d f)
        let new<-s b
        let rest:=Builtin.zeroCells (<-zeroValue c).cells (i-(d+b))
        pure (Xm (C (<-newRow c (old++new++rest))) (d+b) i)):=by
      refine au (cj _) λc8=>?_;refine ax (bM c) λy z⟨e,_⟩=>?_;subst e;refine ax (mF _) λ_ _ _=>?_;refine ax (gw size d b5) λc9 d0 b4=>?_;exact ax (Z b) λt a6 O=>(ax (cI a1 c) λo p Q=>(bindM (gY ((b4.append O).append (kQ (dM Q) _)) c) λd3 k a5 _⟨_,u⟩=>aB (.slice u _ _)))
     refine ax (bM c) λy z⟨e,_⟩=>?_;subst e;split
     .simp_all [jK]
     refine ax (bM c) λy z⟨e,_⟩=>?_;subst e;split
     .cases q
      rotate_left
      .simp_all [jK]
      refine .dead (gq.bind ?_ _);refine xL _ _ _ _ _ λb9=>?_;cases b9
      .exact .mark (.lost A)
      exact .lost A
     exact tail
    have b6:∀size b:E,ae P h (St m (aw h m)) m (if b*size=0 then pure #[]else do pure (Builtin.zeroCells (<-zeroValue c).cells b)) (if b*size=0 then pure #[]else do pure (Builtin.zeroCells (<-zeroValue c).cells b)):=by
     intro size b;split
     .exact aq aw.nil
     exact ax (cI a1 c) λo p Q=>aq (kQ (dM Q) _)
    have H:=λsize=>main Xf _ _ (λb=>Builtin.firstCells size b a) (λb=>Builtin.firstCells size b Y) (sD x) (λb=>gw size b x) size;have a2:=λsize(D:Xj)=>main J (pure D.toNat) (pure D.toNat) _ _ (aq A) (b6 size) size;cases c7:L[1]? with
    |none=>
     cases a0<;>try exact ah
     .exact au (aU c) λsize=>H size F F _ _ (Xh ⟨A,A⟩) (.aO _ _)
     exact au (aU c) λsize=>H size _ _ _ _ (Xi ⟨_,_,A,A,‹_›⟩) (.slice ‹_› _ _)
    |some a4=>
     cases a0<;>try exact ah
     .refine au (aU c) λsize=>ax (cq a4) λl a7 hd=>?_;obtain⟨e,hd⟩:=hd;subst e;cases l
      case int b7=>refine ax (show ae P h (St m λo p:Xo=>o=J/\p=J) m _ _ from aq ⟨A,A⟩) λo p R=>?_;obtain⟨rfl,rfl⟩:=R;refine nM (λ_=>?_) λu=>absurd A u;refine au (dL x) λD=>?_;refine nM (λ_=>(jK w (λk N t l e=>by cases e))) λ_=>?_;refine ax (bM c) λy z⟨e,_⟩=>?_;subst e;exact nM (λ_=>(au (cj _) λb8=>(jK w (λk N t l e=>by cases e)))) λ_=>(a2 size _ F F _ _ (Xh ⟨A,A⟩) (.aO _ _))
      all_goals exact H size F F _ _ (Xh ⟨A,A⟩) (.aO _ _)
     refine au (aU c) λsize=>ax (cq a4) λl a7 hd=>?_;obtain⟨e,hd⟩:=hd;subst e;cases l
     case int b7=>refine ax (show ae P h (St m λo p:Xo=>o=J/\p=J) m _ _ from aq ⟨A,A⟩) λo p R=>?_;obtain⟨rfl,rfl⟩:=R;refine nM (λ_=>?_) λu=>absurd A u;refine au (dL x) λD=>?_;refine nM (λ_=>(jK w (λk N t l e=>by cases e))) λ_=>?_;refine ax (bM c) λy z⟨e,_⟩=>?_;subst e;exact nM (λ_=>(au (cj _) λb8=>(jK w (λk N t l e=>by cases e)))) λ_=>(a2 size _ _ _ _ _ (Xi ⟨_,_,A,A,‹_›⟩) (.slice ‹_› _ _))
     all_goals exact H size _ _ _ _ (Xi ⟨_,_,A,A,‹_›⟩) (.slice ‹_› _ _)
theorem Pe(c:Xk Xq)(g:Xq){a d:Xk Xe}(l:aw h m a d):ae P h (Vr h) m (Builtin.cap_ c g a) (Builtin.cap_ c g d):=by
 unfold Builtin.cap_;cases q:c[0]? with
 |none=>exact ah
 |some o=>
  cases k:a[0]? with
  |none=>exact ah
  |some u=>
   obtain⟨v,i,f⟩:=l.get k;rw[i];refine au (ay o) λb=>?_;cases b with
   |array r e=>exact aB (.int _ _)
   |pointer arr=>refine au (ay arr) λb=>?_;cases b<;>first|exact ah|exact aB (.int _ _)
   |slice e=>cases f<;>first|exact ah|exact aB (.int _ _)
   |chan p e=>
    cases f<;>first|exact ah|exact aB (.int _ _)|skip
    refine ax (bK ‹_›) λs t n=>?_;cases n<;>first|exact ah|exact aB (.int _ _)
   |_=>exact ah
theorem PV(i:Xk Xq)(l:Xq){c k:Xk Xe}(r:aw h m c k):ae P h (Vr h) m (Builtin.len_ i l c) (Builtin.len_ i l k):=by
 unfold Builtin.len_;cases D:i[0]? with
 |none=>exact ah
 |some v=>
  cases q:c[0]? with
  |none=>exact ah
  |some L=>
   obtain⟨N,n,b⟩:=r.get q;rw[n];refine au (ay v) λd=>?_;cases d with
   |array H e=>exact aB (.int _ _)
   |pointer arr=>refine au (ay arr) λd=>?_;cases d<;>first|exact ah|exact aB (.int _ _)
   |string=>cases b<;>first|exact ah|exact aB (.int _ _)
   |slice e=>cases b<;>first|exact ah|exact aB (.int _ _)
   |map s e=>
    cases b<;>first|exact ah|exact aB (.int _ _)|skip
    refine ax (bK ‹_›) λt u g=>?_;cases g<;>first|exact ah|skip
    rename_i o p s f;have:o.size=p.size:=by have:=f.length;omega
    dsimp only;rw[this];exact aB (.int _ _)
   |chan z e=>
    cases b<;>first|exact ah|exact aB (.int _ _)|skip
    refine ax (bK ‹_›) λt u g=>?_;cases g<;>first|exact ah|skip
    rename_i w x y cl a T O f;dsimp only;rw[f.1];exact aB (.int _ _)
   |_=>exact ah
theorem Mk(d:Xk Xq)(k:Xq){b e:Xk Xe}(g:aw h m b e):ae P h (Vr h) m (Builtin.copy_ d k b) (Builtin.copy_ d k e):=by
 unfold Builtin.copy_;cases w:d[0]? with
 |none=>exact ah
 |some v=>
  cases r:b[0]? with
  |none=>exact ah
  |some x=>
   obtain⟨y,p,t⟩:=g.get r;rw[p];cases s:b[1]? with
   |none=>exact ah
   |some a=>
    obtain⟨Y,q,c⟩:=g.get s;rw[q];refine au (ay v) λo=>?_;cases o<;>try exact ah
    rename_i f;cases t<;>try exact ah
    .exact au (sD c) λu=>(au (aU f) λsize=>(ax (gw size _ c) λl n i=>aB (.int _ _)))
    refine au (sD c) λu=>?_;exact au (aU f) λsize=>(ax (gw size _ c) λl n i=>(ax (gD ‹_› i.list 0) λ_ _ _=>aB (.int _ _)))
theorem iJ:an h m (.tuple #[]) (.tuple #[]):=aY
theorem Ji(q:h.bZ=J)(s:iL P)(c:Xk Xq)(f:Xq){a d:Xk Xe}(n:aw h m a d):ae P h (Vr h) m (Builtin.clear_ c f a) (Builtin.clear_ c f d):=by
 unfold Builtin.clear_;cases v:c[0]? with
 |none=>exact ah
 |some u=>
  cases l:a[0]? with
  |none=>exact ah
  |some y=>
   obtain⟨z,k,r⟩:=n.get l;rw[k];refine au (ay u) λi=>?_;cases r with
   |ft=>exact aB iJ
   |aO b g=>exact aB iJ
   |map e=>
    refine ax (bK e) λw x p=>?_;cases p<;>first|exact ah|skip
    exact .setObj e (.map _ .nil) (Xh q) (.pure iJ)
   |slice o b g=>
    cases b with
    |zero=>exact aB iJ
    |succ b=>
     cases i<;>try exact ah
     exact ax (cI s _) λD H t=>(ax (gD o (kQ (dM t) _).list 0) λ_ _ _=>aB iJ)
   |_=>exact ah
theorem Nt{b:Xe}(d:an h m a Y)(e:an h m T b):ae P h (St m (an h m)) m (Builtin.min2 a T) (Builtin.min2 Y b):=by
 cases d<;>cases e<;>first|exact ah|exact fi|exact aq (.int _ _)|skip
 rename_i f g;exact ax (rG .leq f g) λk l c=>(au (uW c) λi=>aq (.string _))
theorem Cw:∀(b c:Xg Xe),aZ (an h m) b c->∀{a Y:Xe},an h m a Y->ae P h (St m (an h m)) m (b.foldlM Builtin.min2 a) (c.foldlM Builtin.min2 Y):=by
 intro b c d
 induction d with
 |nil=>simp_all [aq]
 |cons e _ f=>grind [ax,Nt]
theorem PZ(e:Xk Xq)(d:Xq){a b:Xk Xe}(f:aw h m a b):ae P h (Vr h) m (Builtin.min_ e d a) (Builtin.min_ e d b):=by
 unfold Builtin.min_;have c:=f.list;generalize a.toList=k at c;generalize b.toList=l at c;cases c with
 |nil=>exact ah
 |cons i g=>simp_all [lY,Cw]
end
end Go.Sim
namespace Wt
variable{b:Tree}{d:Path}{a:Nd}{S:Xg Ev}{y:cN}
abbrev keys(y:cN):Xg Xj:=y.dE.map (·.1)
def TB(c:Xj)(b:Tree):Prop:=∀d a,find b d=C a->(0<=a.stat.ez/\a.stat.ez<=c)/\0<=a.stat.aE/\a.stat.aE<=c
theorem TB.more{c e:Xj}(f:TB c b)(m:c<=e):TB e b:=λd a g=>by obtain⟨⟨h,i⟩,k,l⟩:=f d a g;omega
theorem TB.put{c:Xj}(f:TB c b)(h:Ord b)(m:(0<=a.stat.ez/\a.stat.ez<=c)/\0<=a.stat.aE/\a.stat.aE<=c):TB c (put b d a):=λl i e=>by
 rw[cD h]at e;split at e
 .simp_all
 exact f l i e
theorem TB.drop{a:Xj}(c:TB a b)(e:Ord b)(l:0<=a)(d:Path):TB (a+1) (Wt.drop b d):=by
 have hd:∀{b:Tree},Ord b->TB (a+1) b->TB (a+1) (del b d):=λe c k i f=>by
  rw[vC e]at f;split at f
  .cases f
  exact c k i f
 unfold Wt.drop;split
 .exact hd e (c.more (by omega))
 rename_i g h;refine hd (fe e) ((c.more (by omega)).put e ?_);obtain⟨⟨m,n⟩,o,p⟩:=c _ _ h;show(0<=g.stat.ez+1/\g.stat.ez+1<=a+1)/\0<=g.stat.aE/\g.stat.aE<=a+1;omega
theorem Jh{c:Xj}{l:Tree}(e:TB c b)(f:WF b)(m:0<=c){k:Op}{ak aL:Xj}{u:B}(g:change b k ak aL=.yes l u S):TB (c+1) l:=by
 by_cases i:k.kind=3
 .unfold change at g;rw[XC i]at g;obtain⟨v,y,h,x,w,_,_,_,_,t,_,_,_,_,_,rfl,_,_⟩:=gR g;refine((e.more (by omega)).put f.ord ?_).put (fe f.ord) ?_
  .obtain⟨⟨n,o⟩,p,q⟩:=e _ _ t;show(0<=h.stat.ez+1/\h.stat.ez+1<=c+1)/\0<=h.stat.aE/\h.stat.aE<=c+1;omega
  show((0:Xj)<=0/\(0:Xj)<=c+1)/\(0:Xj)<=0/\(0:Xj)<=c+1;omega
 obtain⟨d,a,_,s,_,r⟩:=pj i g;rcases r with⟨_,_,_,rfl,_⟩|⟨_,rfl,_⟩|⟨_,_,rfl,_⟩
 .exact e.drop f.ord m d
 .refine(e.more (by omega)).put f.ord ?_;obtain⟨⟨n,o⟩,p,q⟩:=e _ _ s;show(0<=a.stat.ez/\a.stat.ez<=c+1)/\0<=a.stat.aE+1/\a.stat.aE+1<=c+1;omega
 exact e.more (by omega)
structure Ok(y:cN)(e:E):Prop where
 wf:WF y.tree
 xU:rK (keys y)
 key:∀c∈keys y,0<c/\c<y.next
 kR:1<=y.next/\y.next<=e+1
 yt:y.dE.length<=8
 aL:0<=y.aL/\y.aL<=512*e
 uf:Bi y
 ue:∀c f,∀g∈y.cd c f,g∈keys y
 LQ:TB (512*e) y.tree
theorem rr:∀{b c:Xg Xj},rK b->rK c->(∀a∈b,a∈c)->b.length<=c.length
 |[],c,_,_,_=>YA _
 |a::b,[],_,_,d=>absurd (d a (by simp)) (by simp)
 |a::b,s::c,i,m,d=>by
  obtain⟨k,l⟩:=YJ.1 i;obtain⟨n,o⟩:=YJ.1 m
  have:=rr l o λf e=>by
   have r:=k f e;rcases XV.1 (d f (Ym _ e))with p|g
   .exfalso;rcases XV.1 (d a (by simp))with q|h
    .omega
    have:=n a h;omega
   exact g
  simp_all
theorem Ok.UR{d:E}(a:Ok y d)(b:Xo)(c:B):(y.cd b c).length<=8:=by
 have:=rr (a.uf b c) a.xU (a.ue b c);have e:=a.yt
 grind
theorem Ok.more{f e:E}(c:Ok y f)(g:f<=e):Ok y e where
 wf:=c.wf
 xU:=c.xU
 key:=c.key
 kR:=⟨c.kR.1,by have:=c.kR.2;omega⟩
 yt:=c.yt
 aL:=⟨c.aL.1,by have:=c.aL.2;omega⟩
 uf:=c.uf
 ue:=c.ue
 LQ:=c.LQ.more (by omega)
theorem eh(y:cN)(id:Xj):keys (heard y id)=keys y:=by
 unfold keys heard;simp only[aai];refine Xg.map_congr_left λa _=>?_
 grind
theorem Ok.heard{b:E}(a:Ok y b)(id:Xj):Ok (Wt.heard y id) b where
 wf:=a.wf
 xU:=by rw[eh];exact a.xU
 key:=by rw[eh];exact a.key
 kR:=a.kR
 yt:=by show(y.dE.map _).length<=8;rw[ZU];exact a.yt
 aL:=a.aL
 uf:=a.uf
 ue:=by rw[eh];exact a.ue
 LQ:=a.LQ
theorem AS(e:Xj):∀(S:Xg Ev)(y:cN),∃a,(tell e y S).1={y with cd:=a}/\∀b c,a b c=[]\/a b c=y.cd b c
 |[],y=>⟨y.cd,A,λ_ _=>Xi A⟩
 |f::S,y=>by
  obtain⟨a,h,g⟩:=AS e S (lu e y f).1;refine⟨a,?_,λb c=>?_⟩
  .simp_all [tell,lu]
  rcases g b c with d|d
  .exact Xh d
  rw[d];show(if _ then _ else _)=_\/(if _ then _ else _)=_
  grind
theorem Ok.told{g:E}(e:Ok y g)(f:Xj)(S:Xg Ev):Ok (tell f y S).1 g:=by
 have h:=wX f S y e.uf;obtain⟨q,m,n⟩:=AS f S y;rw[m]at h⊢
 refine⟨e.wf,e.xU,e.key,e.kR,e.yt,e.aL,h,λi k p r=>?_,e.LQ⟩;rcases n i k with l|l
 .simp_all
 refine e.ue i k p ?_;simp_all
theorem yB(b:Xj):∀a:Xg Xj,(dF b a).length<=a.length+1
 |[]=>by simp[dF]
 |c::a=>by
  unfold dF;split
  .simp
  split
  .simp
  have:=yB b a;simp only[Yl];omega
theorem Ox{a:E}(h:∀e f,(y.cd e f).length<=a)(d:Ev):(toldOf y d).length<=a+a:=by
 have k:∀(c b:Xg Xj),(b.foldr dF c).length<=b.length+c.length:=λc b=>by
  induction b with
  |nil=>simp
  |cons g b l=>have i:=yB g (b.foldr dF c);simp only[aaY,Yl];omega
 unfold toldOf
 grind
theorem DZ(a:Xj):∀(S:Xg Ev)(y:cN),(∀b c,(y.cd b c).length<=8)->(tell a y S).2.length<=16*S.length
 |[],y,_=>XS 0
 |d::S,y,e=>by
  have f:=Ox e d
  have g:=DZ a S (lu a y d).1 λb c=>by
   show(if _ then _ else _:Xg Xj).length<=8;split
   .exact YA _
   exact e b c
  grind [lu,tell]
theorem Ok.add{e:E}(a:Ok y e){id:Xj}(hid:known y id=J)(f:Xo)(g:B):Ok (dz y id f g) e:=by
 refine⟨a.wf,a.xU,a.key,a.kR,a.yt,a.aL,λc d=>?_,λc d k i=>?_,a.LQ⟩
 .show rK (if _ then _ else _);split
  .exact rn _ (a.uf _ _)
  exact a.uf _ _
 have b:k∈(if c=f/\d=g then dF id (y.cd c d)else y.cd c d):=i;split at b
 .rcases(mT _ _).1 b with h|b
  .rw[h];exact gW.1 hid
  exact a.ue _ _ _ b
 exact a.ue _ _ _ b
theorem Ok.eN{c:E}(d:Ok y c)(g:Xj)(a:ew)(f:Bb):Ok (Wt.eN y g a f).1 c:=by
 unfold Wt.eN;split
 .exact d
 rename_i h
 have e:known (Wt.heard y a.ak) a.ak=J:=by rw[gW];show a.ak∈keys (Wt.heard y a.ak);simp_all [eh,gW]
 have b:=d.heard a.ak;split
 .split
  .simp only;split
   .exact b.add e _ _
   exact b
  exact b
 simp only;split
 .exact b.add e _ _
 exact b
theorem Ok.write{f:E}(g:Ok y f)(h:Xj){r:ew}(l:r.op.kind≠2)(m:r.op.kind≠7):Ok (Wt.write y h r).1 (f+1)/\(Wt.write y h r).2.length<=33:=by
 have c:Ok {y with aL:=y.aL+1} (f+1):=by have:=g.more (ZN f);exact⟨this.wf,this.xU,this.key,this.kR,this.yt,by have:=g.aL;grind,this.uf,this.ue,this.LQ⟩
 unfold Wt.write;rw[Xx l];simp only;rw[Xx m];cases e:change y.tree r.op r.ak (y.aL+1)with
 |no o=>simp_all
 |yes b d S=>
  have i:Ok {y with aL:=y.aL+1,tree:=b} (f+1):=⟨ym g.wf e,c.xU,c.key,c.kR,c.yt,c.aL,c.uf,c.ue,(Jh g.LQ g.wf (by omega) e).more (by omega)⟩;have p:=DZ h S {y with aL:=y.aL+1,tree:=b} i.UR;have q:S.length<=2:=by
   by_cases k:r.op.kind=3
   .unfold change at e;rw[XC k]at e;obtain⟨_,_,_,_,_,_,_,_,_,_,_,_,_,_,_,_,_,rfl⟩:=gR e;simp
   obtain⟨_,_,_,_,_,n⟩:=pj k e;rcases n with⟨_,_,_,_,rfl⟩|⟨_,_,rfl⟩|⟨_,_,_,rfl⟩<;>simp[kq]
  simp only;split<;>exact⟨i.told h S,by grind⟩
theorem Ok.step{y:cN}{e:E}(c:Ok y e)(g:Xj){r:ew}(o:r.op.kind≠2)(p:r.op.kind≠7)(x:r.op.kind≠11):Ok (Wt.step y g r).1 (e+1)/\(Wt.step y g r).2.length<=33:=by
 have t:=c.more (ZN e);unfold Wt.step;split
 .simp_all
 .split
  .rename_i D;refine⟨?_,by simp⟩;have z:=c.key;refine⟨c.wf,?_,λf s=>?_,?_,?_,?_,c.uf,λf v m u=>?_,t.LQ⟩
   .show rK ((y.dE++[(y.next,y.now)]).map (·.1));rw[aaa];refine Y_.2 ⟨c.xU,by simp,λn q w i=>?_⟩;simp only[YG,Zl,YI]at i;subst i;exact(c.key n q).2
   .have k:f∈(y.dE++[(y.next,y.now)]).map (·.1):=s;rw[aaa,YC]at k;show 0<f/\f<y.next+1;rcases k with h|h
    .have:=c.key f h;omega
    simp only[YG,Zl,YI]at h;have:=c.kR;omega
   .have:=c.kR;show 1<=y.next+1/\y.next+1<=((e+1:E):Xj)+1;omega
   .show(y.dE++[(y.next,y.now)]).length<=8;rw[Yw,aa7];omega
   .have:=c.aL;show 0<=y.aL+1/\y.aL+1<=512*((e+1:E):Xj);omega
   show m∈(y.dE++[(y.next,y.now)]).map (·.1);rw[aaa];exact ZF _ (c.ue f v m u)
  simp_all
 .grind [task]
 .split
  .simp_all
  exact(c.heard r.ak).write g o p
 exact⟨(c.eN g r _).more (ZN e),by simp⟩
theorem ab3(b:Xj):∀(S:Xg Ev)(y:cN),(∀a∈S,a.1≠0)->lz (tell b y S).2=(tell b y S).2
 |[],y,_=>rfl
 |a::S,y,c=>by
  unfold tell;simp only;rw[aby,ab3 b S _ λa d=>c a (by simp[d])]
  have:lz (lu b y a).2=(lu b y a).2:=by have:=c a (by simp);simp[lz,lu,aac,this]
  rw[this]
theorem ab5{g:Op}{ak aL:Xj}{n:Tree}{m:B}(c:change b g ak aL=.yes n m S):∀h∈S,h.1≠0:=by
 by_cases f:g.kind=3
 .unfold change at c;rw[XC f]at c;obtain⟨o,Q,R,O,l,s,p,t,u,N,H,D,y,z,w,e,L,rfl⟩:=gR c;simp
 obtain⟨d,a,l,x,k,i⟩:=pj f c;rcases i with⟨q,k,v,e,rfl⟩|⟨r,e,rfl⟩|⟨_,_,e,rfl⟩<;>simp[kq]
theorem acW(y:cN)(b:Xj)(c:ew)(a:Bb):(eN y b c a).2.ev=0:=by
 unfold eN;split
 .rfl
 split
 .split<;>rfl
 rfl
theorem xE(b:cN)(a:ew):handle b 0 [a]=step b 0 a:=by show((step b 0 a).1,(step b 0 a).2++[])=_;simp
end Wt
