/- Proved here: parts of the proof of the claimed theorem, no conditions; the last text states it -/
import Derived.Test.YtfgpkeppjomkmaaGreatDoorProg
import Derived.Test.YtfgpkeppjomkmaaGreatDoorR1
set_option linter.all false
set_option maxRecDepth 100000
set_option maxHeartbeats 16000000
open _root_ renaming rfl->A,Nat->E,List->Xq,Int->Xt,Array->Xu,Bool->Xy,Option->Xz,if_neg->XH,ByteArray->XM,if_pos->XN
open Option renaming some->C,none->F
open Go renaming undef->I,World->K,Value->Xn,TypeId->XA,Frame->XC,Goroutine->XD,Act->XF,Addr->XG,Program->XI,Sem->XJ,Trace->XO,Event->XQ,Code->XR,MapEntry->XS,FuncId->XU,Operand->XV
open Bool renaming true->J,false->Xp
open Go.Lib renaming hid->Xv
open Go.MemOp renaming ofEvents->XP
open Go.Op renaming operands->XX
open Go.MemAct renaming ofEvent->XY
open Go.IntKind renaming i64->M
open Go.Value renaming int->Xo,slice->Xw,pointer->XK
open Or renaming inl->Xr,inr->Xs
open Go.Obj renaming cells->Xx
open Go.Ending renaming returned->XB
open Go.Item renaming inRegion->XE
namespace Go.Sv
open Go.MapKept Go.Proofs Go.RowKit Go.Lib Go.WideShapes Go.Sort Go.Sim Wt
variable{P:XI}{R:Xu XS}{w:K}{s:E}{h:E}{m:E}
structure ET(P:XI)(b:XA)(Q:Xn->Prop):Prop where
 Ue:∀a(w:K) em,Q a->(Instr.checkKey em 10000 b a).run P w=.ok () w
 VH:∀a(w:K) c,Q a->(∀i∈c,Q i.key)->((Instr.findKey b a c).run P w=.ok F w/\∀i∈c,i.key≠a)\/∃j g,(Instr.findKey b a c).run P w=.ok (C (j,g.val)) w/\c[j]?=C g/\g.key=a
 same:∀a,Q a->Instr.sameBits 10000 a a=J
structure Mp(Q:Xn->Prop)(R:Xu XS)(d:E)(e:Xn->Xz Xn):Prop where
 st:Stamped R d
 key:∀a∈R.toList,Q a.key/\e a.key=C a.val
 all:∀c g,e c=C g->∃a∈R.toList,a.key=c
abbrev yb(w:K)(a:E)(b:Obj):K:={w with heap:=w.heap.setIfInBounds a b}
theorem Nj{b:XA}(i:P.underlying b=C (.int M)):ET P b λa=>∃c,a=Xo M c where
 Ue:=λa w em⟨c,d⟩=>N' i (by subst d;exact A) em 9999
 VH:=λa w l⟨c,d⟩ h=>by
  rcases findNow_spec (d:=.int M) (k:=a) (by subst d;exact A) l 0 (λm k=>by obtain⟨s,e⟩:=h m k;rw[e];exact A)with⟨f,g⟩|⟨j,o,f,g,p⟩
  .simp_all [aac]
  grind [run_findKey]
 same:=λa⟨c,d⟩=>by subst d;show((IntKind.i64==IntKind.i64)&&(c==c))=J;simp
section
variable{mt b f:XA}{Q:Xn->Prop}{d:E}{e:Xn->Xz Xn}{n:Xn}
theorem Mp.find(f:Mp Q R d e)(k:ET P b Q){a:Xn}(m:Q a)(w:K):
 (e a=F/\(Instr.findKey b a R.toList).run P w=.ok F w/\∀h∈R.toList,h.key≠a)\/∃j c,e a=C c.val/\(Instr.findKey b a R.toList).run P w=.ok (C (j,c.val)) w/\R.toList[j]?=C c/\c.key=a:=by
 rcases k.VH a w R.toList m (λh n=>(f.key h n).1)with⟨i,g⟩|⟨j,c,i,g,p⟩
 .left;refine⟨?_,i,g⟩;cases l:e a with
  |none=>rfl
  |some o=>obtain⟨c,q,r⟩:=f.all a o l;simp_all
 right;have:=(f.key c (Yn g)).2
 grind
theorem Mp.get(r:Mp Q R d e)(g:ET P b Q)(q:P.underlying mt=C (.map b f))(t:(zeroValue f).run P w=.ok n w)(p:w.heap[s]?=C (.map R d)){k:Xn}(o:Q k)(ok:Xy):
 (Instr.lookup mt (.map (C s)) k ok).run P w=.ok (if ok then .tuple #[(e k).getD n,.bool (e k).isSome]else(e k).getD n) w:=by
 have l:=g.Ue k w R.isEmpty o;rcases r.find g o w with⟨a,c,_⟩|⟨j,u,a,c,_⟩
 .simp[Instr.lookup,YW q,YO p,l,c,Result.andThen,t,a]
 simp[Instr.lookup,YW q,YO p,l,c,Result.andThen,a]
theorem Da(e:Stamped R d){a b:XS}(f:R.toList[h]?=C a)(g:R.toList[m]?=C b)(c:a.key=b.key):h=m:=by obtain⟨i,rfl⟩:=YM.1 f;obtain⟨k,rfl⟩:=YM.1 g;exact(Xq.getElem_inj (i:=h) (j:=m) (h₀:=by grind) (h₁:=by grind) e.2.2).1 (by simpa using c)
theorem Mp.put(l:Mp Q R d e)(z:ET P b Q)(Y:P.underlying mt=C (.map b f))(x:w.heap[s]?=C (.map R d)){k:Xn}(N:Q k)(v:Xn){g:Xn->Xz Xn}(a7:g k=C v)(u:∀a,a≠k->g a=e a):
 ∃U T,(Instr.mapUpdate mt (.map (C s)) k v).run P w=.ok () (yb w s (.map U T))/\Mp Q U T g:=by
 have W:=z.Ue k w Xp N;rcases l.find z N w with⟨a1,H,p⟩|⟨j,i,a1,H,p,t⟩
 .refine⟨R.push ⟨k,v,d⟩,d+1,?_,stamped_push l.st p,λa c=>?_,λa D c=>?_⟩
  .simp[Instr.mapUpdate,YW Y,YO x,W,H,Result.andThen,ZC _ x]
  .simp only[N_,YC,YS]at c;rcases c with c|rfl
   .obtain⟨O,S⟩:=l.key a c;refine⟨O,?_⟩;rw[u _ (p a c)];exact S
   simp_all
  by_cases i:a=k
  .simp_all
  rw[u _ i]at c;obtain⟨y,Z,a8⟩:=l.all a D c
  grind
 have X:R[j]?=C i:=by simp_all
 have a3:(Instr.keyThatStays (((R[j]?).map (·.key)).getD k) k).run P w=.ok k w:=by rw[X];show(Instr.keyThatStays i.key k).run P w=.ok k w;rw[t];unfold Instr.keyThatStays;rw[XN (z.same k N)];rfl
 refine⟨R.modify j λi=>{i with key:=k,val:=v},d,?_,stamped_modify l.st j _ (λ_ _=>rfl) (λr _ L=>by simp_all),λa c=>?_,λa D c=>?_⟩
 .simp[Instr.mapUpdate,YW Y,YO x,W,H,a3,Result.andThen,ZC _ x]
 .obtain⟨b0,q⟩:=ZH.1 c;rw[g_,Zr]at q;split at q
  .grind
  rename_i a2;rw[<-g_]at q;obtain⟨O,S⟩:=l.key a (Yn q);refine⟨O,?_⟩;rw[u _ (λa0=>a2 (Da l.st p q (by rw[t,a0])))];exact S
 have:∃y∈R.toList,y.key=a:=by
  by_cases r:a=k
  .exact⟨i,Yn p,by rw[t,r]⟩
  rw[u _ r]at c;exact l.all a D c
 obtain⟨y,Z,a4⟩:=this;have a9:=modify_keys (es:=R) j (λi=>{i with key:=k,val:=v}) (λr L=>by rw[X]at L;cases L;exact t.symm);have:=YL.2 ⟨y,Z,a4⟩
 grind
theorem Mp.del(i:Mp Q R d e)(u:ET P b Q)(H:P.underlying mt=C (.map b f))(o:w.heap[s]?=C (.map R d)){k:Xn}(D:Q k)(a0:XA){g:Xn->Xz Xn}(a3:g k=F)(l:∀a,a≠k->g a=e a):
 ∃v,(Builtin.delete_ #[mt,b] a0 #[.map (C s),k]).run P w=.ok (.tuple #[]) (yb w s (.map v d))/\Mp Q v d g:=by
 have x:=u.Ue k w R.isEmpty D;rcases i.find u D w with⟨O,q,r⟩|⟨j,a2,O,q,r,S⟩
 .refine⟨R,?_,i.st,λa c=>?_,λa L c=>?_⟩
  .simp[Builtin.delete_,YW H,YO o,x,q,Result.andThen,ZC _ o]
  .rw[l _ (r a c)];exact i.key a c
  by_cases p:a=k
  .simp_all
  rw[l _ p]at c;exact i.all a L c
 have z:j<R.size:=by grind
 have U:∀a∈(R.eraseIdxIfInBounds j).toList,a∈R.toList/\a.key≠k:=λa c=>by rw[Xu.eraseIdxIfInBounds,abt z,v_]at c;refine⟨aaF c,λt=>?_⟩;obtain⟨X,T,y⟩:=X'.1 c;exact T (Da i.st y r (by rw[t,S]))
 refine⟨R.eraseIdxIfInBounds j,?_,stamped_erase i.st j,λa c=>?_,λa N c=>?_⟩
 .simp[Builtin.delete_,YW H,YO o,x,q,Result.andThen,ZC _ o]
 .obtain⟨Y,Z⟩:=U a c;rw[l _ Z];exact i.key a Y
 by_cases p:a=k
 .simp_all
 rw[l _ p]at c;obtain⟨a1,W,t⟩:=i.all a N c;refine⟨a1,?_,t⟩;obtain⟨X,y⟩:=ZH.1 W;rw[Xu.eraseIdxIfInBounds,abt z,v_]
 grind [List.mem_eraseIdx_iff_getElem?]
theorem On(c:P.underlying mt=C (.map b f))(a:w.heap[s]?=C (.map R d))(e:XA):(Builtin.len_ #[mt] e #[.map (C s)]).run P w=.ok (Xo M R.size) w:=by simp[Builtin.len_,YW c,YO a,Result.andThen];rfl
theorem Mp.size(c:Mp Q R d e){l:Xq Xn}(p:l.Nodup)(i:∀a,a∈l↔(e a).isSome=J):R.size=l.length:=by
 have k:(R.toList.map (·.key)).Perm l:=by
  refine(aat c.st.2.2 p).2 λa=>?_;rw[i,YL];constructor
  .rintro⟨g,o,rfl⟩;rw[(c.key g o).2];rfl
  intro q;obtain⟨t,r⟩:=Yd.1 q;exact c.all a t r
 have:=k.length_eq;simp_all
end
end Go.Sv
namespace Go.Proofs
open Go.Shelf Go.RowKit Go.Maps Go.Sort
theorem vh{P:XI}{b:XU}{B a:Func}(d:P.funcs[b]?=C a)(e:(a.name== "runtime.NumGoroutine")=Xp)(c:a={B with name:=a.name}):Bears P b B:=⟨a.name,e,d.trans (Zc C c)⟩
def Tryz.tF:Go.Shelf.Ren:=⟨λ|156=>218|165=>238|166=>239|169=>240|240=>253|241=>254|276=>262|277=>263|a=>a,λ|31=>35|9=>9|3=>3|4=>4|0=>0|20=>20|72=>366|76=>367|70=>364|37=>249|75=>65|127=>372|164=>202|5=>5|80=>276|a=>a,λ|a=>a⟩
theorem Tryz.If:Go.Proofs.Lays.n156 Tryz.prog Tryz.tF:=by constructor<;>intros<;>first|kernel_rfl|decide
theorem Tryz.jZ:Builder.Extra Tryz.prog Tryz.tF:=by constructor<;>intros<;>first|kernel_rfl|decide|(constructor<;>intros<;>kernel_rfl)
theorem Tryz.strings_Join_none(b:Xz XG)(c:E)(d:XM)(a:K):
 Calls Tryz.prog 218 #[.slice b 0 c,.string d] a λe f=>e=XB (.string ⟨#[]⟩)/\f=a:=Any.strings_Join_none Tryz.If Tryz.jZ b c d a
theorem Tryz.strings_Join(c f e:E)(a:Xq XM)(d:XM)(b:K)(m:∀(j:E) g,a[j]?=C g->b.cell? ⟨c,f+j,F⟩=C (.string g))(k:c<b.heap.size)(i:a.length<=140737488355328)(l:a.length<=e)(n:(Lib.join (a.map (·.data.toList)) d.data.toList).length<=140737488355328):
 Calls Tryz.prog 218 #[Xw (C ⟨c,f,F⟩) a.length e,.string d] b λh o=>h=XB (.string ⟨(Lib.join (a.map (·.data.toList)) d.data.toList).toArray⟩)/\Below b.heap.size b o:=Any.strings_Join Tryz.If Tryz.jZ c f e a d b m k i l n
def Tryz.Df:Go.Shelf.Ren:=⟨λ|103=>128|210=>166|206=>200|a=>a,λ|9=>9|4=>4|24=>246|3=>3|a=>a,λ|a=>a⟩
theorem Tryz.PX:Go.Proofs.Lays.n103 Tryz.prog Tryz.Df:=by constructor<;>intros<;>first|kernel_rfl|decide
theorem Tryz.strings_CutPrefix(b a:XM)(c:K):
 Calls Tryz.prog 128 #[.string b,.string a] c λd e=>d=XB (.tuple #[.string ⟨(Lib.trimPrefix b.data.toList a.data.toList).toArray⟩,.bool (Lib.hasPrefix b.data.toList a.data.toList)])/\e=c:=Any.strings_CutPrefix Tryz.PX b a c
def Tryz.Ap:Go.Shelf.Ren:=⟨λ|171=>216|243=>237|246=>252|283=>258|284=>259|285=>260|286=>261|129=>146|317=>264|318=>265|319=>266|320=>267|337=>268|338=>269|a=>a,λ|3=>3|9=>9|2=>2|4=>4|171=>379|0=>0|53=>146|37=>249|5=>5|173=>381|212=>386|51=>149|20=>20|213=>387|46=>207|232=>388|233=>389|a=>a,λ|17=>4|18=>5|19=>6|a=>a⟩
theorem Tryz.Ns:Go.Proofs.LaysM.n171 Tryz.prog Tryz.Ap:=by constructor<;>intros<;>first|kernel_rfl|decide|(constructor<;>intros<;>kernel_rfl)
theorem Tryz.strconv_Itoa(a:Xt)(d:-9223372036854775808<=a)(e:a<=9223372036854775807)(b:K)(f:Lib.TabIs Tryz.prog b "internal/strconv.uint64pow10" .u64 Lib.pow10Tab):
 Calls Tryz.prog 216 #[Xo M a] b λc i=>c=XB (.string ⟨(Lib.itoa a).toArray⟩)/\∃g h,i=grow (b.drewN g) h:=Any.strconv_Itoa Tryz.Ns a d e b f
def Tryz.Dh:Go.Shelf.Ren:=⟨λ|189=>62|125=>107|257=>106|128=>145|129=>146|294=>136|295=>137|296=>138|297=>139|298=>140|299=>141|216=>142|300=>143|301=>144|328=>173|329=>174|330=>175|331=>176|332=>177|215=>178|343=>214|a=>a,λ|28=>61|3=>3|46=>207|0=>0|51=>149|53=>146|4=>4|183=>258|182=>257|131=>229|5=>5|9=>9|218=>299|222=>302|228=>342|229=>343|a=>a,λ|a=>a⟩
theorem Tryz.Ig:Go.Proofs.Lays.n189 Tryz.prog Tryz.Dh:=by constructor<;>intros<;>first|kernel_rfl|decide
theorem Tryz.slices_Sort_int(blk c d:E)(b:Xq Xt)(a:K)(f:Holds (Xn.int M) a blk c b.toArray)(g:blk<a.heap.size)(h:b.length<4611686018427387904):
 Calls Tryz.prog 62 #[Xw (C ⟨blk,c,F⟩) b.length d] a λe l=>e=XB (.tuple #[])/\∃i k,l=grow (putRow (Xn.int M) (Sort.ahead a i) blk c (b.mergeSort λm n=>decide (m<=n)).toArray) k:=Any.slices_Sort_int Tryz.Ig blk c d b a f g h
def Tryz.Dg:Go.Shelf.Ren:=⟨λ|146=>129|221=>167|268=>201|138=>202|143=>203|195=>228|197=>229|218=>230|219=>231|260=>246|217=>247|225=>248|224=>249|267=>250|266=>256|314=>257|a=>a,λ|9=>9|31=>35|3=>3|4=>4|0=>0|105=>359|21=>21|5=>5|46=>207|119=>373|139=>376|138=>375|146=>377|51=>149|a=>a,λ|1=>1|3=>2|4=>3|a=>a⟩
theorem Tryz.PY:Go.Proofs.Lays.n146 Tryz.prog Tryz.Dg:=by constructor<;>intros<;>first|kernel_rfl|decide
theorem Tryz.strings_Split(a b:XM)(d:Xt)(c:K)(h:a.size<4294967281)(g:c.cell? ⟨1,0,F⟩=C (Xo M d))(f:1<=b.size):
 Calls Tryz.prog 129 #[.string a,.string b] c λe i=>e=XB (Xw (C ⟨c.heap.size,0,F⟩) (Lib.countB a b+1) (Lib.countB a b+1))/\i=c.alloc (.cells ((Lib.splitB b 0 (Lib.countB a b) a).map Value.string).toArray 9):=Any.strings_Split Tryz.PY (by kernel_rfl) a b d c h g f
def Tryz.xM:Go.Shelf.Ren:=⟨λ|17=>188|a=>a,λ|24=>35|9=>9|3=>3|4=>4|0=>0|a=>a,λ|a=>a⟩
theorem Tryz.yQ:Go.Proofs.Lays2.n17 Tryz.prog Tryz.xM:=by constructor<;>intros<;>first|kernel_rfl|decide
theorem Tryz.slices_Reverse_string(blk b d:E)(a:Xq (Xq UInt8))(c:K)(f:Holds encStr c blk b a.toArray)(g:a.length<=9223372036854775807):
 Calls Tryz.prog 188 #[Xw (C ⟨blk,b,F⟩) a.length d] c λe i=>e=XB (.tuple #[])/\∃h,i=putRow encStr (Sort.ahead c h) blk b a.reverse.toArray:=Any.slices_Reverse_string Tryz.yQ blk b d a c f g
theorem Tryz.slices_Reverse_string_empty(b:Xz XG)(c:E)(a:K):
 Calls Tryz.prog 188 #[.slice b 0 c] a λd e=>d=XB (.tuple #[])/\e=a:=Any.slices_Reverse_string_empty Tryz.yQ b c a
def Tryz.xN:Go.Shelf.Ren:=⟨λ|20=>181|a=>a,λ|22=>61|3=>3|4=>4|0=>0|a=>a,λ|a=>a⟩
theorem Tryz.yR:Go.Proofs.Lays2.n20 Tryz.prog Tryz.xN:=by constructor<;>intros<;>first|kernel_rfl|decide
theorem Tryz.slices_Compact_int(blk b c:E)(a:Xq Xt)(d:K)(f:Holds (Xn.int M) d blk b a.toArray)(h:a.length<=9223372036854775807)(g:a.length<=c):
 Calls Tryz.prog 181 #[Xw (C ⟨blk,b,F⟩) a.length c] d λe k=>e=XB (Xw (C ⟨blk,b,F⟩) (Lib.compact a).length c)/\∃i,k=putRow (Xn.int M) (Sort.ahead d i) blk b (Lib.compact a++List.replicate (a.length-(Lib.compact a).length) 0).toArray:=Any.slices_Compact_int Tryz.yR blk b c a d f h g
theorem Tryz.slices_Compact_int_empty(a:Xz XG)(b:E)(c:K):
 Calls Tryz.prog 181 #[.slice a 0 b] c λd e=>d=XB (.slice a 0 b)/\e=c:=Any.slices_Compact_int_empty Tryz.yR a b c
def Tryz.xO:Go.Shelf.Ren:=⟨λ|25=>134|31=>142|32=>170|37=>178|a=>a,λ|22=>61|3=>3|4=>4|40=>207|0=>0|a=>a,λ|a=>a⟩
theorem Tryz.yS:Go.Proofs.Lays2.n25 Tryz.prog Tryz.xO:=by constructor<;>intros<;>first|kernel_rfl|decide
theorem Tryz.slices_BinarySearch_int(e f a g:E)(b:Xq Xt)(d:Xt)(c:K)(m:a<=b.length)(i:a<4611686018427387904)(k:∀j,j<b.length->c.cell? ⟨e,f+j,F⟩=C (Xo M (b.getD j 0)))(l:(b.take a).Pairwise (·<=·)):
 Calls Tryz.prog 134 #[Xw (C ⟨e,f,F⟩) a g,Xo M d] c λh o=>h=XB (.tuple #[Xo M ((b.take a).countP (·<d):E),.bool ((b.take a).contains d)])/\∃n,o=c.drewN n:=Any.slices_BinarySearch_int Tryz.yS e f a g b d c m i k l
theorem Tryz.slices_Sort_int_none(c:Xz XG)(b:E)(a:K):
 Calls Tryz.prog 62 #[.slice c 0 b] a λd e=>d=XB (.tuple #[])/\e=a:=Any.slices_Sort_int_none Tryz.Ig c b a
theorem Tryz.slices_BinarySearch_int_empty(b:Xz XG)(c:E)(d:Xt)(a:K):
 Calls Tryz.prog 134 #[.slice b 0 c,Xo M d] a λe f=>e=XB (.tuple #[Xo M 0,.bool Xp])/\f=a:=Any.slices_BinarySearch_int_empty Tryz.yS b c d a
def Tryz.tG:Go.Shelf.Ren:=⟨λ|21=>135|27=>171|28=>172|35=>213|39=>236|a=>a,λ|22=>61|3=>3|4=>4|0=>0|a=>a,λ|a=>a⟩
theorem Tryz.uF:Go.Proofs.Lays2.n21 Tryz.prog Tryz.tG:=by constructor<;>intros<;>first|kernel_rfl|decide
def Tryz.vU:Go.Shelf.Ren:=⟨λ|7=>98|10=>132|a=>a,λ|23=>188|26=>9|3=>187|28=>218|0=>0|27=>217|33=>250|4=>4|a=>a,λ|a=>a⟩
theorem Tryz.Nk:Go.Proofs.SlLaysZ.n7 Tryz.prog Tryz.vU:=by constructor<;>intros<;>first|kernel_rfl|exact vh rfl (by decide) (by kernel_rfl)
def Tryz.rL:Go.Shelf.Ren:=⟨λ|6=>97|8=>130|9=>131|11=>168|13=>107|12=>169|23=>145|24=>146|14=>204|15=>205|16=>206|17=>207|18=>208|19=>209|20=>210|21=>211|22=>212|25=>232|26=>174|27=>175|28=>233|29=>234|30=>235|31=>251|a=>a,λ|26=>9|28=>218|24=>35|0=>0|3=>3|37=>207|48=>149|50=>146|4=>4|40=>258|39=>257|45=>229|5=>5|9=>9|51=>299|55=>302|57=>342|58=>343|33=>250|a=>a,λ|a=>a⟩
theorem Tryz.Oz:Go.Proofs.SlLaysZ.n6 Tryz.prog Tryz.rL:=by constructor<;>intros<;>first|kernel_rfl|exact vh rfl (by decide) (by kernel_rfl)
def Tryz.DZ:Go.Shelf.Ren:=⟨λ|6=>131|8=>107|9=>169|19=>145|20=>146|21=>204|22=>205|23=>206|24=>207|25=>208|26=>209|27=>210|28=>211|29=>212|36=>232|31=>174|32=>175|37=>233|38=>234|39=>235|41=>251|a=>a,λ|27=>35|29=>9|3=>3|32=>207|26=>35|0=>0|44=>149|46=>146|4=>4|36=>258|35=>257|41=>229|5=>5|9=>9|53=>299|57=>302|63=>342|64=>343|a=>a,λ|a=>a⟩
theorem Tryz.II:Go.Proofs.SlLaysM.n6 Tryz.prog Tryz.DZ:=by constructor<;>intros<;>first|kernel_rfl|exact vh rfl (by decide) (by kernel_rfl)
theorem Tryz.QH(f:E):AnyZ.SortsIn Tryz.prog Tryz.rL Fence.wide f:=
 ⟨λblk g b i a c d e=>ZD.2 (AnyM.slices_Sort_string Tryz.II blk g b i a c d e),
  λh b a=>ZD.2 (AnyM.slices_Sort_string_none Tryz.II h b a)⟩
theorem Tryz.Aw(b:Xz E)(a:K):CallsIn Fence.wide 5 Tryz.prog 98 #[.map b] a λc d=>c=XB (.func (.func 132) #[] #[XK (C ⟨a.heap.size,0,F⟩)])/\d=a.alloc (.cells #[.map b] 188):=
 AnyZ.keys_in Tryz.Nk Fence.wide 5 trivial rfl b a
theorem Tryz.kT{e:Type}(b g:E)(D0:DataW e)(k:Xn->Xz (DataW e×Xq MemPlace))(a:K)(f:a.ownsMap Tryz.prog 9 k b g D0)(s:Maps.size D0<=maxLen)(r:Maps.size D0*16<=140737488355328):
 CallsIn Fence.wide 5 Tryz.prog 97 #[.func (.func 132) #[] #[XK (C ⟨a.heap.size,0,F⟩)]] (a.alloc (.cells #[.map (C b)] 188)) λm h=>∃(d:Xn)(c:Xq (Xq UInt8)),m=XB d/\c.Perm (strKeys D0)/\
  h.ownsRow (a.alloc (.cells #[.map (C b)] 188)).heap.size 9 1 d c.length ((c.mergeSort (λv w=>decide (v<=w))).map encStr)/\(d=Xw F 0 0↔c=[])/\Below (a.alloc (.cells #[.map (C b)] 188)).heap.size (a.alloc (.cells #[.map (C b)] 188)) h:=by
 have q:=f.lt
 have u:SeqGives Fence.wide 2 Tryz.prog 132 #[XK (C ⟨a.heap.size,0,F⟩)] encStr (λc=>c.Perm (strKeys D0)) (Maps.size D0) (a.alloc (.cells #[.map (C b)] 188)):=
  AnyZ.keys_gives (ρ:=Tryz.vU) {Tryz.Nk with} Fence.wide _ trivial rfl (by omega) a.heap.size b g D0 _ (by simp) (by simp) (by
   obtain⟨n,l,p,i,t,o⟩:=f
   exact⟨n,l,(Yc _ _ b q).trans p,i,t,o⟩)
 exact AnyZ.sorted_in Tryz.Oz Fence.wide 5 trivial trivial trivial trivial rfl (by omega) (Tryz.QH _) (enters_of Tryz.func131 (by kernel_rfl) A) 132 #[XK (C ⟨a.heap.size,0,F⟩)] trivial (enters_of Tryz.func132 (by kernel_rfl) A) _ _ s r _ u
end Go.Proofs
namespace Wt
abbrev B:=Xq UInt8
abbrev Path:=Xq B
structure Stat where
 made:Xt:=0
 set:Xt:=0
 aE:Xt:=0
 eD:Xt:=0
 own:Xt:=0
 size:Xt:=0
 kids:Xt:=0
 deriving DecidableEq
structure Nd where
 data:B:=[]
 stat:Stat:={}
 next:Xt:=0
 deriving DecidableEq
abbrev Tree:=Xq (Path×Nd)
def vR(a:UInt8):Xy:=(97<=a&&a<=122)||(65<=a&&a<=90)||(48<=a&&a<=57)||a==95
def dH(a:B):Xy:=decide (1<=a.length)&&decide (a.length<=12)&&a.all vR
def pieces:B->Xq B
 |[]=>[[]]
 |a::b=>if a=47 then[]::pieces b else
  match pieces b with
  |[]=>[[a]]
  |d::c=>(a::d)::c
def split:B->Xz Path
 |47::[]=>C []
 |47::a=>if(pieces a).length<=4/\(pieces a).all dH=J then C (pieces a)else F
 |_=>F
def join(a:Path):B:=47::[47].intercalate a
def three(a:Xt):B:=[48+UInt8.ofNat (a.toNat/100),48+UInt8.ofNat (a.toNat/10%10),48+UInt8.ofNat (a.toNat%10)]
def find:Tree->Path->Xz Nd
 |[],_=>F
 |(c,b)::d,a=>if c=a then C b else find d a
def put:Tree->Path->Nd->Tree
 |[],a,b=>[(a,b)]
 |(c,e)::d,a,b=>if c=a then(a,b)::d else if a<c then(a,b)::(c,e)::d else(c,e)::put d a b
def del(c:Tree)(b:Path):Tree:=c.filter λa=>decide (a.1≠b)
def bP(c:Tree)(b:Path):Xq B:=c.filterMap λa=>if a.1≠[]/\a.1.dropLast=b then a.1.getLast? else F
structure Op where
 kind:Xt:=0
 path:B:=[]
 data:B:=[]
 aE:Xt:=0
 flags:Xt:=0
 deriving DecidableEq
abbrev Ev:=Xt×B
inductive Vg where
 |no (a:Xt)
 |yes (d:Tree) (c:B) (b:Xq Ev)
def nameOf(b:Xt)(a:B)(c:Xt):B:=if 2<=b then a++three c else a
def mH(a:Nd)(b:Xt):Nd:={a with stat:={a.stat with eD:=a.stat.eD+1,kids:=a.stat.kids+1},next:=if 2<=b then a.next+1 else a.next}
def vA(a:Nd):Nd:={a with stat:={a.stat with eD:=a.stat.eD+1,kids:=a.stat.kids-1}}
def eW(a:Op)(ak aL:Xt):Nd:={data:=a.data,stat:={made:=aL,set:=aL,size:=a.data.length,own:=if a.flags%2=1 then ak else 0}}
def jS(a:Nd)(b:Op)(aL:Xt):Nd:={a with data:=b.data,stat:={a.stat with set:=aL,aE:=a.stat.aE+1,size:=b.data.length}}
def create(e:Tree)(a:Op)(ak aL:Xt):Vg:=
 match split a.path with
 |none=>.no 4
 |some []=>.no 4
 |some (f::g)=>
  let c:=(f::g).dropLast
  let d:=(f::g).getLast (by simp)
  if 8<d.length then .no 4
  else if 16<a.data.length then .no 5
  else if a.flags<0\/3<a.flags then .no 6
  else match find e c with
  |none=>.no 7
  |some b=>
   if b.stat.own≠0 then .no 11
   else if 2<=a.flags/\b.next=1000 then .no 12
   else if(find e (c++[nameOf a.flags d b.next])).isSome then .no 8
   else if e.length=60 then .no 13
   else .yes (put (put e c (mH b a.flags)) (c++[nameOf a.flags d b.next]) (eW a ak aL)) (join (c++[nameOf a.flags d b.next])) [(1,join (c++[nameOf a.flags d b.next])),(4,join c)]
def drop(b:Tree)(a:Path):Tree:=
 match find b a.dropLast with
 |none=>del b a
 |some c=>del (put b a.dropLast (vA c)) a
def kC(a:Path):Xq Ev:=[(2,join a),(4,join a.dropLast)]
def change(c:Tree)(a:Op)(ak aL:Xt):Vg:=
 if a.kind=3 then create c a ak aL else
 match split a.path with
 |none=>.no 4
 |some b=>
  if a.kind=4/\b=[]then .no 4
  else if a.kind=5/\16<a.data.length then .no 5
  else match find c b with
  |none=>.no 7
  |some d=>
   if a.aE≠-1/\a.aE≠d.stat.aE then .no 9
   else if a.kind=4/\0<d.stat.kids then .no 10
   else if a.kind=4 then .yes (drop c b) a.path (kC b)
   else if a.kind=5 then .yes (put c b (jS d a aL)) a.path [(3,a.path)]
   else .yes c a.path []
structure dA where
 ak:Xt:=0
 op:Op:={}
 watch:Xy:=Xp
 ops:Xq Op:=[]
structure Out where
 ak:Xt:=0
 ev:Xt:=0
 idx:Xt:=0
 err:Xt:=0
 path:B:=[]
 data:B:=[]
 found:Xy:=Xp
 stat:Stat:={}
 names:Xq B:=[]
 results:Xq (Xt×B):=[]
 deriving DecidableEq
structure cz where
 timeout:Xt
 now:Xt:=0
 aL:Xt:=0
 next:Xt:=1
 dG:Xq (Xt×Xt):=[]
 ck:Xy->B->Xq Xt:=λ_ _=>[]
 tree:Tree:=[([],{})]
def known(b:cz)(id:Xt):Xy:=b.dG.any λa=>decide (a.1=id)
def heard(b:cz)(id:Xt):cz:={b with dG:=b.dG.map λa=>if a.1=id then(a.1,b.now)else a}
def dI(a:Xt):Xq Xt->Xq Xt
 |[]=>[a]
 |b::c=>if a<b then a::b::c else if a=b then b::c else b::dI a c
def kD(a:Xt)(b:Xy):Xy:=if b then decide (a=4\/a=2)else decide (a≠4)
def toldOf(b:cz)(a:Ev):Xq Xt:=
 (if kD a.1 J then b.ck J a.2 else[]).foldr dI (if kD a.1 Xp then b.ck Xp a.2 else[])
def gN(e:Xt)(b:cz)(a:Ev):cz×Xq Out:=
 ({b with ck:=λc d=>if kD a.1 c/\d=a.2 then[]else b.ck c d},(toldOf b a).map λf=>{ak:=f,ev:=a.1,idx:=e,path:=a.2})
def tell(b:Xt):cz->Xq Ev->cz×Xq Out
 |a,[]=>(a,[])
 |a,c::d=>
  let (g,e):=gN b a c
  let (h,f):=tell b g d
  (h,e++f)
def Rh:Tree->Xq Path->Tree×Xq Ev
 |a,[]=>(a,[])
 |a,b::d=>
  let (e,c):=Rh (drop a b) d
  (e,kC b++c)
def mine(b:Tree)(id:Xt):Xq Path:=(b.filter λa=>decide (a.2.stat.own=id)).map (·.1)
def MK(d:Xt)(a:cz)(id:Xt):cz×Xq Out:=
 let b:=Rh a.tree (mine a.tree id)
 tell d {a with aL:=a.aL+1,dG:=a.dG.filter λc=>decide (c.1≠id),ck:=λe f=>(a.ck e f).filter λg=>decide (g≠id),tree:=b.1} b.2
def ends(b:Xt):cz->Xq Xt->cz×Xq Out
 |a,[]=>(a,[])
 |a,id::c=>
  let (f,d):=MK b a id
  let (g,e):=ends b f c
  (g,d++e)
def late(a:cz):Xq Xt:=(a.dG.filter λb=>decide (a.timeout<a.now-b.2)).map (·.1)
def Il(ak aL:Xt):Tree->Xq Op->Except (E×Xt) (Tree×Xq B×Xq Ev)
 |b,[]=>.ok (b,[],[])
 |b,g::f=>
  match change b g ak aL with
  |.no a=>.error (0,a)
  |.yes k h c=>
   match Il ak aL k f with
   |.error (e,a)=>.error (e+1,a)
   |.ok (l,i,d)=>.ok (l,h::i,c++d)
def Tl(c a:E)(b:Xt):Xq (Xt×B):=(Xq.range c).map λj=>(if j<a then 14 else if j=a then b else 15,[])
structure Seen where
 data:B
 stat:Stat
 names:Xq B
inductive BP where
 |no (a:Xt)
 |yes (b:Seen)
def look(c:Tree)(d:B):BP:=
 match split d with
 |none=>.no 4
 |some b=>
  match find c b with
  |none=>.no 7
  |some a=>.yes ⟨a.data,a.stat,bP c b⟩
def dD(c:cz)(id:Xt)(d:Xy)(e:B):cz:={c with ck:=λa b=>if a=d/\b=e then dI id (c.ck a b)else c.ck a b}
def dF(e:cz)(c:Xt)(a:dA)(i:BP):cz×Out:=
 if known e a.ak=Xp then(e,{ak:=a.ak,idx:=c,err:=3})else
 let b:=heard e a.ak
 match i with
 |.no g=>
  if g=7/\a.op.kind=9 then(if a.watch then dD b a.ak Xp a.op.path else b,{ak:=a.ak,idx:=c,path:=a.op.path})
  else(b,{ak:=a.ak,idx:=c,err:=g})
 |.yes f=>
  (if a.watch then dD b a.ak (decide (a.op.kind=10)) a.op.path else b,
    {ak:=a.ak,idx:=c,path:=a.op.path,found:=J,stat:=f.stat,data:=if a.op.kind=8 then f.data else[],names:=if a.op.kind=10 then f.names else[]})
def write(f:cz)(a:Xt)(r:dA):cz×Xq Out:=
 if r.op.kind=2 then
  let (b,c):=MK a f r.ak
  (b,c++[{ak:=r.ak,idx:=a}])
 else
  let b:={f with aL:=f.aL+1}
  if r.op.kind=7 then
   match Il r.ak b.aL f.tree r.ops with
   |.error (m,g)=>(b,[{ak:=r.ak,idx:=a,err:=g,results:=Tl r.ops.length m g}])
   |.ok (i,o,k)=>
    let (h,c):=tell a {b with tree:=i} k
    (h,c++[{ak:=r.ak,idx:=a,results:=o.map λe=>(0,e)}])
  else
   match change f.tree r.op r.ak b.aL with
   |.no g=>(b,[{ak:=r.ak,idx:=a,err:=g}])
   |.yes i e k=>
    let (h,c):=tell a {b with tree:=i} k
    match look i e with
    |.no _=>(h,c++[{ak:=r.ak,idx:=a,path:=e}])
    |.yes p=>(h,c++[{ak:=r.ak,idx:=a,path:=e,found:=J,stat:=p.stat}])
inductive Task where
 |read
 |write
 |enter
 |clock
 |IZ (a:Xt)
 deriving DecidableEq
def task(c:Xt)(a:dA):Task:=
 if 64<=c then .IZ 16
 else if a.op.kind=1 then .enter
 else if a.op.kind=11 then .clock
 else if a.op.kind=8\/a.op.kind=9\/a.op.kind=10 then .read
 else if a.op.kind=7 then(if 8<a.ops.length\/(a.ops.any λb=>decide (b.kind<3\/6<b.kind))=J then .IZ 2 else .write)
 else if 2<=a.op.kind/\a.op.kind<=6 then .write
 else .IZ 2
def step(a:cz)(b:Xt)(r:dA):cz×Xq Out:=
 match task b r with
 |.IZ f=>(a,[{ak:=r.ak,idx:=b,err:=f}])
 |.enter=>
  if a.dG.length<8 then({a with aL:=a.aL+1,dG:=a.dG++[(a.next,a.now)],next:=a.next+1},[{ak:=a.next,idx:=b}])
  else(a,[{idx:=b,err:=13}])
 |.clock=>
  let d:={a with now:=a.now+1}
  let (i,g):=ends b d (late d)
  (i,g++[{idx:=b}])
 |.write=>
  if known a r.ak=Xp then(a,[{ak:=r.ak,idx:=b,err:=3}])
  else write (heard a r.ak) b r
 |.read=>
  let (d,h):=dF a b r (look a.tree r.op.path)
  (d,[h])
def handle:cz->Xt->Xq dA->cz×Xq Out
 |a,_,[]=>(a,[])
 |a,b,f::c=>
  let (g,d):=step a b f
  let (h,e):=handle g (b+1) c
  (h,d++e)
variable{c:Path×Nd}{a:Tree}{b:Path}{d:Nd}
theorem lA{a b c:Path}(d:a<b)(e:b<c):a<c:=Xq.lt_trans d e
theorem eX(a:Path):¬a<a:=Xq.lt_irrefl a
theorem Gr{b a:Path}(d:b<a):b≠a:=λc=>eX a (c▸d)
def Ord(a:Tree):Prop:=a.Pairwise λb c=>b.1<c.1
theorem AF:Ord []:=Xq.Pairwise.nil
theorem iG:Ord (c::a)↔(∀b∈a,c.1<b.1)/\Ord a:=YU
theorem Ord.tail(b:Ord (c::a)):Ord a:=(iG.1 b).2
theorem Ord.head(b:Ord (c::a)):∀d∈a,c.1<d.1:=(iG.1 b).1
theorem jG:∀{a:Tree}{b:Path}{d:Nd},find a b=C d->(b,d)∈a
 |(g,f)::a,b,d,e=>by
  unfold find at e;split at e
  .rename_i c;cases e;subst c;exact Zi ..
  exact Yw _ (jG e)
theorem fF:∀{a:Tree}{b:Path},find a b=F↔∀e∈a,e.1≠b
 |[],b=>by simp[find]
 |(d,f)::a,b=>by
  unfold find;by_cases c:d=b
  .simp[c]
  simp_all [fF]
theorem ls:∀{a:Tree}{b:Path}{d:Nd},Ord a->(b,d)∈a->find a b=C d
 |(h,g)::a,b,d,f,e=>by
  unfold find;rcases Yg.1 e with c|e
  .simp_all
  rw[XH (Gr (f.head _ e))];exact ls f.tail e
theorem Ir:∀{a f:Tree},Ord a->Ord f->(∀b,b∈a↔b∈f)->a=f
 |[],[],_,_,_=>rfl
 |[],b::f,_,_,d=>absurd ((d b).2 (Zi ..)) (by simp)
 |b::a,[],_,_,d=>absurd ((d b).1 (Zi ..)) (by simp)
 |b::a,m::f,g,h,d=>by
  have i:=(d b).1 (Zi ..);have k:=(d m).2 (Zi ..);have c:b=m:=by
   rcases Yg.1 i with c|i
   .exact c
   rcases Yg.1 k with c|k
   .exact c.symm
   exact absurd (lA (h.head b i) (g.head m k)) (eX _)
  subst c
  congr 1
  refine Ir g.tail h.tail λn=>?_;constructor
  .intro e;rcases Yg.1 ((d n).1 (Yw _ e))with c|l
   .subst c;exact absurd (g.head _ e) (eX _)
   exact l
  intro e;rcases Yg.1 ((d n).2 (Yw _ e))with c|l
  .subst c;exact absurd (h.head _ e) (eX _)
  exact l
theorem qT:∀{a:Tree}{b:Path}{d:Nd},Ord a->∀f,f∈put a b d↔f=(b,d)\/(f∈a/\f.1≠b)
 |[],b,d,_,f=>by simp[put]
 |(i,l)::a,b,d,g,f=>by
  unfold put;by_cases c:i=b
  .subst c;rw[XN A];simp only[Yg];constructor
   .rintro(rfl|e)
    .exact Xr A
    exact Xs ⟨Xs e,λc=>eX _ (c▸g.head _ e)⟩
   grind
  rw[XH c];by_cases e:b<i
  .rw[XN e];simp only[Yg];constructor
   .rintro(rfl|rfl|h)
    .exact Xr A
    .exact Xs ⟨Xr A,c⟩
    exact Xs ⟨Xs h,λk=>eX _ (k▸lA e (g.head _ h))⟩
   grind
  rw[XH e];rw[Yg,qT g.tail,Yg]
  grind
theorem fi:∀{a:Tree}{b:Path}{d:Nd},Ord a->Ord (put a b d)
 |[],b,d,_=>iG.2 ⟨by simp,AF⟩
 |(i,k)::a,b,d,f=>by
  unfold put;by_cases c:i=b
  .subst c;rw[XN A];grind [iG]
  rw[XH c];by_cases g:b<i
  .rw[XN g];refine iG.2 ⟨λh e=>?_,f⟩;rcases Yg.1 e with rfl|e
   .exact g
   exact lA g (f.head h e)
  rw[XH g];refine iG.2 ⟨λh e=>?_,fi f.tail⟩;rcases(qT f.tail h).1 e with rfl|⟨e,_⟩
  .grind
  exact f.head h e
theorem Ay{c:Path×Nd}:c∈del a b↔c∈a/\c.1≠b:=by simp[del]
theorem Iq(c:Ord a):Ord (del a b):=abh _ c
theorem oH(c:Ord a):find (put a b d) b=C d:=
 ls (fi c) ((qT c _).2 (Xr A))
theorem vL{e:Path}(i:Ord a)(g:e≠b):find (put a b d) e=find a e:=by
 cases h:find a e with
 |none=>
  rw[fF]at h⊢
  intro k f;rcases(qT i k).1 f with rfl|⟨f,_⟩
  .exactλc=>g c.symm
  grind
 |some l=>grind [ls,fi,qT,jG]
theorem cG{c:Path}(e:Ord a):find (put a b d) c=if c=b then C d else find a c:=by grind [oH,vL]
theorem xI:find (del a b) b=F:=fF.2 λd c=>(Ay.1 c).2
theorem vJ{c:Path}(f:Ord a)(d:c≠b):find (del a b) c=find a c:=by
 cases e:find a c with
 |none=>grind [fF,Ay]
 |some g=>grind [ls,Iq,Ay,jG]
theorem vI{c:Path}(d:Ord a):find (del a b) c=if c=b then F else find a c:=by grind [xI,vJ]
theorem dh:∀{a:Tree}{b:Path}{d:Nd},Ord a->(find a b).isSome=J->(put a b d).length=a.length
 |[],_,_,_,e=>by grind [find]
 |(h,k)::a,b,d,g,e=>by
  unfold put;by_cases c:h=b
  .simp_all
  rw[XH c];unfold find at e;rw[XH c]at e;have f:¬b<h:=by
   intro f;cases i:find a b with
   |none=>simp_all
   |some l=>exact eX _ (lA f (g.head _ (jG i)))
  rw[XH f];simp[dh g.tail e]
theorem jJ:∀{a:Tree}{b:Path}{d:Nd},find a b=F->(put a b d).length=a.length+1
 |[],_,_,_=>rfl
 |(g,f)::a,b,d,e=>by
  unfold find at e;split at e
  .cases e
  rename_i c;unfold put;rw[XH c];split
  .rfl
  simp[jJ e]
theorem pH:∀{a:Tree}{b:Path},Ord a->(find a b).isSome=J->(del a b).length+1=a.length
 |[],_,_,e=>by grind [find]
 |(f,h)::a,b,g,e=>by
  unfold find at e;by_cases c:f=b
  .subst c;have:del a f=a:=by
    unfold del;rw[aan];intro l k;have:=Gr (g.head l k);simpa usingλc=>this c.symm
   grind [del]
  rw[XH c]at e;have i:del ((f,h)::a) b=(f,h)::del a b:=by simp_all [del]
  rw[i,Yv,pH g.tail e];rfl
variable{a:Path}{b:Tree}{c:Nd}
theorem ry:∀{b:Tree}{a:Path}{c:Nd},find b a=F->(put b a c).Perm ((a,c)::b)
 |[],_,_,_=>.refl _
 |(g,f)::b,a,c,d=>by
  unfold find at d;split at d
  .cases d
  rename_i e;unfold put;rw[XH e];split
  .exact .refl _
  exact((ry d).cons _).trans (.swap ..)
theorem rA:∀{b:Tree}{a:Path}{c:Nd},Ord b->(find b a).isSome=J->(put b a c).map (·.1)=b.map (·.1)
 |[],_,_,_,d=>by grind [find]
 |(h,k)::b,a,c,g,d=>by
  unfold put;by_cases f:h=a
  .simp_all
  rw[XH f];unfold find at d;rw[XH f]at d;have e:¬a<h:=by
   intro e;cases i:find b a with
   |none=>simp_all
   |some l=>exact eX _ (lA e (g.head _ (jG i)))
  rw[XH e];simp[rA g.tail d]
theorem Cl:∀{b:Tree}{a:Path}{c:Nd},Ord b->find b a=C c->b.Perm ((a,c)::del b a)
 |(f,g)::b,a,c,h,d=>by
  unfold find at d;by_cases e:f=a
  .subst e;rw[XN A]at d;obtain rfl:g=c:=YR d;have:del b f=b:=by
    unfold del;rw[aan];intro l k;have:=Gr (h.head l k);simpa usingλe=>this e.symm
   grind [del]
  rw[XH e]at d;have i:del ((f,g)::b) a=(f,g)::del b a:=by simp_all [del]
  rw[i];exact((Cl h.tail d).cons _).trans (.swap ..)
theorem Cm{c:Type}(a:Xq c)(b:a≠[]):a.dropLast++[a.getLast b]=a:=aal b
def qM(a:Path)(b:Path):Xy:=decide (b≠[]/\b.dropLast=a)
theorem nT{b:Path}:qM a b=J↔∃d,b=a++[d]:=by
 unfold qM;rw[Zn];constructor
 .rintro⟨c,rfl⟩;exact⟨b.getLast c,(Cm b c).symm⟩
 simp_all
theorem eN(b:Tree)(a:Path):(bP b a).length=b.countP λd=>qM a d.1:=by
 unfold bP
 induction b with
 |nil=>rfl
 |cons d b h=>
  obtain⟨f,c⟩:=d;rw[Xq.filterMap_cons,aaI,<-h];by_cases e:f≠[]/\f.dropLast=a
  .have g:qM a f=J:=decide_eq_true e;simp only[e,g,and_self,Ym,O_,ne_eq];rw[q_ e.1];rfl
  simp_all [qM,XH]
theorem ey{e:B}:e∈bP b a↔(find b (a++[e])).isSome=J:=by
 have h:(find b (a++[e])).isSome=J↔∃c,(a++[e],c)∈b:=by
  rw[Xz.isSome_iff_ne_none,ne_eq,fF];constructor
  .intro d;apply Classical.byContradiction;intro i;exact d λn m g=>i ⟨n.2,by rw[<-g];exact m⟩
  rintro⟨c,l⟩ d;exact d _ l A
 rw[h];unfold bP;rw[Xq.mem_filterMap];constructor
 .rintro⟨⟨p,c⟩,k,d⟩;split at d
  .rename_i f;rw[q_ f.1]at d;cases d;obtain⟨o,rfl⟩:=f;refine⟨c,?_⟩;rw[Cm];exact k
  cases d
 grind
theorem RZ{b c:B}:a++[b]<a++[c]↔b<c:=by
 induction a with
 |nil=>simp[w_]
 |cons e a d=>simp_all
theorem im(f:Ord b):(bP b a).Pairwise (·<·):=by
 induction b with
 |nil=>exact Xq.Pairwise.nil
 |cons h b k=>
  obtain⟨g,c⟩:=h;unfold bP;rw[Xq.filterMap_cons];split
  .exact k f.tail
  rename_i q e;refine YU.2 ⟨λo n=>?_,k f.tail⟩;split at e
  .rename_i d;have i:o∈bP b a:=n;rw[ey]at i;obtain⟨p,m⟩:=Yd.1 i;have:=f.head _ (jG m);simp only at this d;rw[q_ d.1]at e;cases e;have h:g=a++[g.getLast d.1]:=by obtain⟨l,rfl⟩:=d;exact(Cm g l).symm
   grind [RZ]
  cases e
theorem lV{d:Path}(h:Ord b)(g:(find b a).isSome=J):(bP (put b a c) d).length=(bP b d).length:=by
 rw[eN,eN];have f:∀e:Tree,e.countP (λf=>qM d f.1)=(e.map (·.1)).countP (qM d):=λe=>by rw[Xq.countP_map];rfl
 grind [rA]
theorem Ao{d:Path}(e:find b a=F):(bP (put b a c) d).length=(bP b d).length+if qM d a then 1 else 0:=by rw[eN,eN,(ry e).countP_eq,aaI]
theorem Nn{d:Path}(f:Ord b)(e:find b a=C c):(bP b d).length=(bP (del b a) d).length+if qM d a then 1 else 0:=by rw[eN,eN,(Cl f e).countP_eq,aaI]
structure WF(b:Tree):Prop where
 ord:Ord b
 root:∃c,find b []=C c/\c.stat.own=0
 up:∀a,a≠[]->(find b a).isSome=J->(find b a.dropLast).isSome=J
 kids:∀a c,find b a=C c->c.stat.kids=(bP b a).length
 leaf:∀a c,find b a=C c->c.stat.own≠0->c.stat.kids=0
 names:∀a c,find b a=C c->a.length<=4/\∀d∈a,dH d=J
 size:∀a c,find b a=C c->c.stat.size=c.data.length
 len:b.length<=60
 next:∀a c,find b a=C c->0<=c.next/\c.next<=1000
theorem IU:WF [([],{})] where
 ord:=iG.2 ⟨by simp,AF⟩
 root:=⟨{},by simp[find],A⟩
 up:=λa e b=>by simp_all [find]
 kids:=λa c b=>by grind [find,bP]
 leaf:=λa c b d=>by
  unfold find at b;split at b
  .cases b;exact absurd A d
  simp_all [find]
 names:=λa c b=>by simp_all [find]
 size:=λa c b=>by grind [find]
 len:=by simp
 next:=λa c b=>by grind [find]
theorem WF.UD(h:WF b)(e:find b a=C c)(g:c.stat.kids=0)(d:B):find b (a++[d])=F:=by
 have:=h.kids a c e;rw[g]at this;have i:bP b a=[]:=Za.1 (by omega);cases f:find b (a++[d])with
 |none=>rfl
 |some k=>
  have:d∈bP b a:=ey.2 (by rw[f];rfl)
  grind
theorem Cq(c:a≠[]):a.dropLast≠a:=λb=>by
 have:=Zc List.length b
 grind [List.length_eq_zero_iff]
theorem WF.jY(e:WF b){g:Nd}(h:find b a=C c)(s:g.stat.own=c.stat.own)(l:g.stat.kids=c.stat.kids)(t:g.stat.size=g.data.length)(u:0<=g.next/\g.next<=1000):WF (put b a g):=by
 have o:(find b a).isSome=J:=by rw[h];rfl
 have q:∀f,(find (put b a g) f).isSome=(find b f).isSome:=λf=>by rw[cG e.ord];grind
 refine⟨fi e.ord,?_,?_,?_,?_,?_,?_,?_,?_⟩
 .obtain⟨r,v,n⟩:=e.root;rw[cG e.ord]
  grind
 .intro f p m;rw[q]at m⊢;exact e.up f p m
 .intro f i d;rw[lV e.ord o];rw[cG e.ord]at d;split at d
  .rename_i k;subst k;cases d;rw[l];exact e.kids _ _ h
  exact e.kids _ _ d
 .intro f i d n;rw[cG e.ord]at d;split at d
  .cases d;rw[l];exact e.leaf _ _ h (by omega)
  exact e.leaf _ _ d n
 .intro f i d;rw[cG e.ord]at d;split at d
  .rename_i k;subst k;exact e.names _ _ h
  exact e.names _ _ d
 .intro f i d;rw[cG e.ord]at d;split at d
  .simp_all
  exact e.size _ _ d
 .rw[dh e.ord o];exact e.len
 intro f i d;rw[cG e.ord]at d;split at d
 .simp_all
 exact e.next _ _ d
theorem WF.add(f:WF b){d:Path}{i:B}{p h:Nd}(l:find b d=C p)(T:p.stat.own=0)(z:find b (d++[i])=F)(R:b.length<60)(hd:d.length<4)(X:dH i=J)
 (N:h.stat.own=0)(w:h.stat.kids=p.stat.kids+1)(O:h.stat.size=h.data.length)(Q:0<=h.next/\h.next<=1000)(Y:c.stat.kids=0)(Z:c.stat.size=c.data.length)(a0:c.next=0):WF (put (put b d h) (d++[i]) c):=by
 have D:d++[i]≠d:=λg=>by simp at g
 have o:(find b d).isSome=J:=by rw[l];rfl
 have t:Ord (put b d h):=fi f.ord;have r:find (put b d h) (d++[i])=F:=by rw[cG f.ord,XH D];exact z
 have k:∀e,find (put (put b d h) (d++[i]) c) e=if e=d++[i]then C c else if e=d then C h else find b e:=λe=>by rw[cG t,cG f.ord]
 have x:∀e,(bP (put (put b d h) (d++[i]) c) e).length=(bP b e).length+if e=d then 1 else 0:=λe=>by
  rw[Ao r,lV f.ord o];by_cases g:e=d
  .simp_all [nT]
  rw[XH g,XH];rw[nT];rintro⟨a3,q⟩;simp_all
 have S:bP b (d++[i])=[]:=by apply Classical.byContradiction;intro H;obtain⟨a4,L⟩:=Xq.exists_mem_of_ne_nil _ H;have:=f.up _ (by simp) (ey.1 L);simp_all
 refine⟨fi t,?_,?_,?_,?_,?_,?_,?_,?_⟩
 .obtain⟨a2,U,W⟩:=f.root
  grind
 .intro e s m;rw[k]at m;rw[k];by_cases g:e=d++[i]
  .simp_all
  rw[XH g]at m;by_cases q:e.dropLast=d++[i]
  .simp_all
  rw[XH q];by_cases u:e.dropLast=d
  .simp_all
  rw[XH u];split at m
  .rename_i v;subst v;exact f.up _ s o
  exact f.up _ s m
 .intro e n a;rw[x];rw[k]at a;split at a
  .simp_all
  split at a
  .rename_i g;subst g;cases a;rw[XN A,w,f.kids _ _ l];rfl
  rename_i g;rw[XH g];exact f.kids _ _ a
 .intro e n a y;rw[k]at a;split at a
  .simp_all
  split at a
  .simp_all
  exact f.leaf _ _ a y
 .intro e n a;rw[k]at a;split at a
  .rename_i g;subst g;obtain⟨q1,a1⟩:=f.names _ _ l
   grind
  split at a
  .rename_i g;subst g;exact f.names _ _ l
  exact f.names _ _ a
 .intro e n a;rw[k]at a;split at a
  .simp_all
  split at a
  .simp_all
  exact f.size _ _ a
 .rw[jJ r,dh f.ord o];omega
 intro e n a;rw[k]at a;split at a
 .simp_all
 split at a
 .simp_all
 exact f.next _ _ a
theorem WF.gone(f:WF b)(m:a≠[])(p:find b a=C c)(N:c.stat.kids=0):WF (Wt.drop b a):=by
 obtain⟨o,k⟩:=Yd.1 (f.up a m (by rw[p];rfl));have R:a≠a.dropLast:=λh=>Cq m h.symm;have x:(find b a.dropLast).isSome=J:=by rw[k];rfl
 have y:a.dropLast++[a.getLast m]=a:=Cm a m;have a4:1<=o.stat.kids:=by
  rw[f.kids _ _ k];have:a.getLast m∈bP b a.dropLast:=ey.2 (by rw[y,p];rfl)
  grind
 have U:o.stat.own=0:=by apply Classical.byContradiction;intro T;have:=f.leaf _ _ k T;omega
 have w:drop b a=del (put b a.dropLast (vA o)) a:=by simp_all [Wt.drop]
 obtain⟨g,w,X,D,Y,W⟩:∃g:Nd,Wt.drop b a=del (put b a.dropLast g) a/\g.stat.own=0/\g.stat.kids=o.stat.kids-1/\g.stat.size=g.data.length/\0<=g.next/\g.next<=1000:=
  ⟨_,w,U,A,f.size a.dropLast o k,f.next a.dropLast o k⟩
 rw[w];have s:Ord (put b a.dropLast g):=fi f.ord;have z:find (put b a.dropLast g) a=C c:=by rw[cG f.ord,XH R];exact p
 have i:∀e,find (del (put b a.dropLast g) a) e=if e=a then F else if e=a.dropLast then C g else find b e:=λe=>by rw[vI s,cG f.ord]
 have O:∀e,(bP b e).length=(bP (del (put b a.dropLast g) a) e).length+if e=a.dropLast then 1 else 0:=λe=>by
  rw[<-lV (c:=g) f.ord x,Nn s z]
  congr 1
  by_cases h:e=a.dropLast
  .subst h;rw[XN A,XN (nT.2 ⟨_,y.symm⟩)]
  rw[XH h,XH];rw[nT];grind
 refine⟨Iq s,?_,?_,?_,?_,?_,?_,?_,?_⟩
 .obtain⟨a5,a2,a3⟩:=f.root
  grind
 .intro e n l;rw[i]at l;split at l
  .cases l
  rename_i h;rw[i];by_cases t:e.dropLast=a
  .have:e=a++[e.getLast n]:=by subst t;exact(Cm e n).symm
   have S:=f.UD p N (e.getLast n);rw[<-this]at S;split at l
   .rename_i u;have H:=Zc List.length t;have L:=Zc List.length u;rw[aad]at H L;have:e.length≠0:=λv=>n (Za.1 v);have:a.length≠0:=λv=>m (Za.1 v);omega
   grind
  rw[XH t];split
  .rfl
  split at l
  .rename_i u;subst u;exact f.up _ n x
  exact f.up _ n l
 .intro e r d;have q:=O e;rw[i]at d;split at d
  .cases d
  split at d
  .rename_i h;subst h;cases d;rw[XN A]at q;rw[D,f.kids _ _ k,q];omega
  rename_i h;rw[XH h]at q;rw[f.kids _ _ d,q];simp
 .intro e r d Q;rw[i]at d;split at d
  .cases d
  split at d
  .simp_all
  exact f.leaf _ _ d Q
 .intro e r d;rw[i]at d;split at d
  .cases d
  split at d
  .rename_i h;subst h;exact f.names _ _ k
  exact f.names _ _ d
 .intro e r d;rw[i]at d;split at d
  .cases d
  split at d
  .simp_all
  exact f.size _ _ d
 .have Z:=pH s (b:=a) (by rw[z];rfl);have a0:=dh (d:=g) f.ord x;have a1:=f.len;omega
 intro e r d;rw[i]at d;split at d
 .cases d
 split at d
 .simp_all
 exact f.next _ _ d
variable{ak:Xt}{R:Xq Ev}
theorem mj{a:B}(c:a≠[]):split (47::a)=if(pieces a).length<=4/\(pieces a).all dH=J then C (pieces a)else F:=by
 cases a with
 |nil=>simp_all
 |cons b a=>rfl
theorem Eb{d:B}(b:split d=C a):(d=[47]/\a=[])\/∃c,c≠[]/\d=47::c/\a=pieces c/\a.length<=4/\a.all dH=J:=by
 match d,b with
 |[],b=>cases b
 |[e],b=>
  by_cases f:e=47
  .subst f;cases b;exact Xr ⟨A,A⟩
  simp_all [split]
 |e::h::c,b=>
  by_cases f:e=47
  .subst f;rw[mj (by simp)]at b;split at b
   .rename_i g;cases b;exact Xs ⟨_,by simp,A,A,g.1,g.2⟩
   cases b
  simp_all [split]
theorem rM{c:B}(b:split c=C a):a.length<=4/\∀d∈a,dH d=J:=by
 rcases Eb b with⟨_,rfl⟩|⟨g,_,_,_,e,f⟩
 .simp
 simp_all
theorem Kq:∀a:B,pieces a≠[]
 |[]=>by simp[pieces]
 |b::a=>by grind [pieces]
theorem xV(a:B)(c:B)(d:∀b∈a,b≠47):pieces (a++47::c)=a::pieces c:=by
 induction a with
 |nil=>simp[pieces]
 |cons b a e=>simp_all [pieces]
theorem Gq(a:B)(c:∀b∈a,b≠47):pieces a=[a]:=by
 induction a with
 |nil=>rfl
 |cons b a d=>simp_all [pieces]
theorem Fy:∀a:E,a<10->vR (48+UInt8.ofNat a)=J:=by decide
theorem GN{a:Xt}(b:0<=a)(c:a<=999):(three a).length=3/\(three a).all vR=J:=by
 refine⟨A,?_⟩;unfold three;simp only[abv,Xq.all_nil,Xy.and_true,Ys]
 grind [Fy]
theorem Kk{b:B}(c:dH b=J)(f:b.length<=8){a:Xt}(d:0<=a)(e:a<=999):dH (b++three a)=J:=by
 obtain⟨g,h⟩:=GN d e;unfold dH at c⊢
 simp only[Ys,Zn,Xq.all_append,YA]at c⊢
 grind
theorem gS{e:Op}{aL:Xt}{i:Tree}{h:B}(a:create b e ak aL=.yes i h R):
 ∃c d f g,split e.path=C (c::d)/\((c::d).getLast (by simp)).length<=8/\e.data.length<=16/\0<=e.flags/\e.flags<=3/\find b (c::d).dropLast=C f/\f.stat.own=0/\(2<=e.flags->f.next≠1000)/\
  g=nameOf e.flags ((c::d).getLast (by simp)) f.next/\find b ((c::d).dropLast++[g])=F/\b.length≠60/\
  i=put (put b (c::d).dropLast (mH f e.flags)) ((c::d).dropLast++[g]) (eW e ak aL)/\
  h=join ((c::d).dropLast++[g])/\R=[(1,join ((c::d).dropLast++[g])),(4,join (c::d).dropLast)]:=by
 unfold create at a;split at a
 .cases a
 .cases a
 rename_i c d p;simp only at a;split at a
 .cases a
 rename_i s;split at a
 .cases a
 rename_i r;split at a
 .cases a
 rename_i t;split at a
 .cases a
 rename_i f q;split at a
 .cases a
 rename_i o;split at a
 .cases a
 rename_i n;split at a
 .cases a
 rename_i u;split at a
 .cases a
 rename_i m;cases a;refine⟨c,d,f,_,p,by omega,by omega,by omega,by omega,q,by simpa using o,λl k=>n ⟨l,k⟩,A,?_,m,A,A,A⟩;simp_all
theorem nO(c:WF b){e:Op}{aL:Xt}{i:Tree}{n:B}(k:create b e ak aL=.yes i n R):WF i:=by
 obtain⟨f,h,a,z,m,q,p,r,s,d,g,w,v,l,u,rfl,_,_⟩:=gS k;obtain⟨D,o⟩:=rM m;obtain⟨x,y⟩:=c.next _ _ d;have t:dH ((f::h).getLast (by simp))=J:=o _ (Xq.getLast_mem _);refine c.add d g l (by have:=c.len;omega) (by grind) ?_ g A (c.size (f::h).dropLast a d) ?_ A rfl rfl
 .grind [nameOf,Kk]
 show 0<=(if 2<=e.flags then a.next+1 else a.next)/\(if 2<=e.flags then a.next+1 else a.next)<=1000;omega
theorem yz(d:WF b){k:Op}{aL:Xt}{f:Tree}{l:B}(c:change b k ak aL=.yes f l R):WF f:=by
 unfold change at c;split at c
 .exact nO d c
 split at c
 .cases c
 rename_i a o;split at c
 .cases c
 rename_i h;split at c
 .cases c
 split at c
 .cases c
 rename_i i e;split at c
 .cases c
 split at c
 .cases c
 rename_i m;split at c
 .rename_i hd;cases c;have n:=d.kids _ _ e
  exact d.gone (λg=>h ⟨hd,g⟩) e (by omega)
 split at c
 .cases c;exact d.jY e A rfl rfl (d.next a i e)
 simp_all
end Wt
namespace Go.Sv
open Go.MapKept Go.Proofs Go.RowKit Go.Lib Go.WideShapes Go.Sort Go.Sim Wt
variable{b:E}{a:E}{j:E}
noncomputable abbrev TP:XI:=Tryz.prog
def bs(a:B):XM:=⟨a.toArray⟩
theorem zK(a:B):(bs a).data.toList=a:=A
theorem Uc(a:XM):bs a.data.toList=a:=A
theorem cT(a:B):(bs a).size=a.length:=by rfl
theorem zL{a b:B}(c:bs a=bs b):a=b:=by have:=Zc (λd=>d.data.toList) c;exact this
theorem CV{c:B}(e:index c [47]=b):c=c.take b++47::c.drop (b+1)/\∀d∈c.take b,d≠47:=by
 rw[index_one]at e;obtain⟨h,i⟩:=indexByte_some e;refine⟨?_,λd f g=>?_⟩
 .grind [List.take_append_drop,List.drop_eq_getElem_cons]
 obtain⟨a,k,rfl⟩:=Zt.1 f
 grind
theorem Nf{d:B}(c:index d [47]=-1):∀b∈d,b≠47:=λb e f=>by rw[index_one]at c;obtain⟨a,g,rfl⟩:=Zt.1 e;exact indexByte_none c a (by simp_all)
theorem oQ:∀(c:E)(a:B),a.length<=c->splitK [47] 0 (count a [47]) a=Wt.pieces a
 |c,a,k=>by
  by_cases e:index a [47]=-1
  .rw[count_miss e,Gq a (Nf e)];rfl
  obtain⟨b,d⟩:∃b:E,index a [47]=b:=⟨(index a [47]).toNat,by have:=index_ge a [47];omega⟩;obtain⟨g,h⟩:=CV d;rw[count_hit (by simp) d,aby,splitK,XH (by grind),d];have i:a.length≠0:=λf=>by grind
  cases c with
  |zero=>omega
  |succ c=>
   have l:=oQ c (a.drop (b+1)) (by rw[aaJ];omega)
   grind [xV]
theorem oP(a:XM):splitB ⟨#[47]⟩ 0 (countB a ⟨#[47]⟩) a=(Wt.pieces a.data.toList).map bs:=by have c:=splitB_data ⟨#[47]⟩ 0 (countB a ⟨#[47]⟩) a;have b:splitK [47] 0 (count a.data.toList [47]) a.data.toList=Wt.pieces a.data.toList:=oQ _ _ (Ye _);have d:=c.trans b;rw[<-d,P_];exact(Xq.map_id _).symm
theorem xE(a:XM):countB a ⟨#[47]⟩+1=(Wt.pieces a.data.toList).length:=by have:=splitB_all ⟨#[47]⟩ (by decide) 0 (countB a ⟨#[47]⟩) a A;simp_all [oP]
def TR(c:Xn)(a:Path)(d:E)(e:K):Prop:=
 (a=[]/\c=Xw F 0 0)\/∃b,c=Xw (C ⟨b,0,F⟩) a.length a.length/\d<=b/\0<a.length/\e.heap[b]?=C (Xx ((a.map bs).map Value.string).toArray 9 (0,0))
def cH(f:XM)(a:K)(b:Ending)(d:K):Prop:=
 Below a.heap.size a d/\match Wt.split f.data.toList with
  |none=>b=XB (.tuple #[Xw F 0 0,.bool Xp])
  |some e=>∃c,b=XB (.tuple #[c,.bool J])/\TR c e a.heap.size d
theorem MZ(a:UInt8):vR a=J↔(97<=a.toNat/\a.toNat<=122)\/(65<=a.toNat/\a.toNat<=90)\/(48<=a.toNat/\a.toNat<=57)\/a.toNat=95:=by have c:a=95↔a.toNat=95:=⟨λb=>by rw[b];rfl,λb=>UInt8.toNat_inj.1 b⟩;simp[vR,UInt8.le_iff_toNat_le,c,or_assoc]
theorem lY(a:B):dH a=J↔1<=a.length/\a.length<=12/\∀j,j<a.length->vR (a.getD j 0)=J:=by
 simp only[dH,Ys,Zn,Zk,and_assoc];refine and_congr Iff.rfl (and_congr Iff.rfl ⟨λb j d=>b _ ?_,λb e c=>?_⟩)
 .simp_all
 obtain⟨j,d,rfl⟩:=Zt.1 c;simp_all
theorem GD{c:B}{b:Xq B}(e:b=Wt.pieces c)(g:a<b.length)(f:¬dH (b.getD a [])=J)(d:c≠[]):Wt.split (47::c)=F:=by
 rw[mj d,XH]
 grind
theorem GF(a:K):Calls TP 95 #[.string ⟨#[47]⟩] a (cH ⟨#[47]⟩ a):=by
 go_enter Tryz.func95,Tryz.ntmps95
 go_wp2
 go_ret2;exact⟨n_ _ _,_,A,Xr ⟨A,A⟩⟩
theorem Ec(a:XM)(b:K)(f:(a.toList==[47])=Xp)(g:hasPrefix a.data.toList [47]=Xp)(d:Wt.split a.data.toList=F):Calls TP 95 #[.string a] b (cH a b):=by
 have c:=Xv d;go_enter Tryz.func95,Tryz.ntmps95
 go_wp2_with (go_at_call 128;refine(Tryz.strings_CutPrefix _ _ _).mono ?_;rintro e h⟨rfl,rfl⟩)
 go_ret2;unfold cH;rw[c.out];simp[n_]
theorem Ht(a:B)(b:K):Calls TP 128 #[.string (bs (47::a)),.string ⟨#[47]⟩] b λc d=>c=XB (.tuple #[.string (bs a),.bool J])/\b=d:=
 (Tryz.strings_CutPrefix (bs (47::a)) ⟨#[47]⟩ b).mono λc d⟨e,f⟩=>by simp_all [hasPrefix,bs,trimPrefix]
theorem zm(a:B)(f:Xt)(b:K)(i:a.length<2^31)(h:b.cell? ⟨1,0,F⟩=C (Xo M f)):
 Calls TP 129 #[.string (bs a),.string ⟨#[47]⟩] b λc g=>c=XB (Xw (C ⟨b.heap.size,0,F⟩) (Wt.pieces a).length (Wt.pieces a).length)/\g=b.alloc (.cells (((Wt.pieces a).map bs).map Value.string).toArray 9):=
 (Tryz.strings_Split (bs a) ⟨#[47]⟩ f b (by grind [cT]) h (by decide)).mono λc g⟨d,e⟩=>by rw[xE]at d;rw[oP]at e;exact⟨d,e⟩
theorem Om(c:K)(b:Xq B)(d:a<b.length):(c.alloc (.cells ((b.map bs).map Value.string).toArray 9)).cell? ⟨c.heap.size,a,F⟩=C (.string (bs (b.getD a []))):=by simp_all
theorem Fh(b:K)(a:XM)(c:E)(d:XA)(e:E×E)(g:j<a.size):(b.alloc (.cells (bytesRow a c) d e)).cell? ⟨b.heap.size,j,F⟩=C (.int .u8 ((a.data.toList.getD j 0).toNat:Xt)):=by
 have f:(b.alloc (.cells (bytesRow a c) d e)).heap[b.heap.size]?=C (Xx (bytesRow a c) d e):=by show(b.heap.push _)[_]?=_;simp
 simp_all [K.cell?,bytesRow,aau]
theorem GC(a:B)(i:Xt)(b:K)(p:((bs (47::a)).toList==[47])=Xp)(g:a.length<2^31)(e:b.cell? ⟨1,0,F⟩=C (Xo M i))(c:Xq B)(d:c=Wt.pieces a)(q:4<(c.length:Xt))(h:a≠[]):
 Calls TP 95 #[.string (bs (47::a))] b (cH (bs (47::a)) b):=by
 have c1:=Ht a b;have c2:=zm a i b g e;rw[<-d]at c2
 have f:cH (bs (47::a)) b (XB (.tuple #[Xw F 0 0,.bool Xp])) (b.alloc (.cells ((c.map bs).map Value.string).toArray 9)):=by refine⟨(n_ _ b).alloc (Ye _) _,?_⟩;rw[zK,mj h,<-d,XH (by omega)]
 have m:=Xv f;have k:=Xv c1;have l:=Xv c2;clear d c1 c2 e g f h;generalize ((c.map bs).map Value.string).toArray=row at*
 go_enter Tryz.func95,Tryz.ntmps95
 go_wp2_with (first|(go_at_call 128;refine k.out.mono ?_;rintro n o⟨rfl,rfl⟩)|(go_at_call 129;refine l.out.mono ?_;rintro n o⟨rfl,rfl⟩))
 go_ret2;exact m.out
theorem GG(f:B)(a2:Xt)(c:K)(h:((bs (47::f)).toList==[47])=Xp)(Y:f.length<2^31)(U:c.cell? ⟨1,0,F⟩=C (Xo M a2))(e:Xq B)(t:e=Wt.pieces f)(c9:¬4<(e.length:Xt))(Z:f≠[]):
 Calls TP 95 #[.string (bs (47::f))] c (cH (bs (47::f)) c):=by
 have c1:=Ht f c;have c2:=zm f a2 c Y U;rw[<-t]at c2
 have W:∀wr,Below (c.heap.size+1) (c.alloc (.cells ((e.map bs).map Value.string).toArray 9)) wr->∀a,a<e.length->¬dH (e.getD a [])=J->cH (bs (47::f)) c (XB (.tuple #[Xw F 0 0,.bool Xp])) wr:=λwr i a x y=>by
  refine⟨((n_ _ c).alloc (Ye _) _).trans (i.mono (c_ _)),?_⟩
  grind [zK,GD]
 have a1:∀wr,Below (c.heap.size+1) (c.alloc (.cells ((e.map bs).map Value.string).toArray 9)) wr->(∀j,j<e.length->dH (e.getD j [])=J)->cH (bs (47::f)) c (XB (.tuple #[Xw (C ⟨c.heap.size,0,F⟩) e.length e.length,.bool J])) wr:=λwr i y=>by
  refine⟨((n_ _ c).alloc (Ye _) _).trans (i.mono (c_ _)),?_⟩
  rw[zK,mj Z,<-t,XN ⟨by omega,Zk.2 λg p=>by
   obtain⟨j,l,rfl⟩:=Zt.1 p
   simp_all⟩]
  refine⟨_,A,Xs ⟨c.heap.size,A,Ye _,?_,?_⟩⟩
  .simp_all [I_,Kq]
  rw[i.block _ (ZI _)];show(c.heap.push _)[_]?=_;simp
 have Q:=λa(x:a<e.length)=>Om c e x;have s:=Xv W;have a7:=Xv a1;have a3:=Xv c1;have a4:=Xv c2;clear t c1 c2 U Y W a1 Z;generalize bs (47::f)=d4 at*
 generalize bs f=d3 at*
 generalize ((e.map bs).map Value.string).toArray=row at*
 go_enter Tryz.func95,Tryz.ntmps95
 go_wp2_with (first|(go_at_call 128;refine a3.out.mono ?_;rintro o b7⟨rfl,rfl⟩)|(go_at_call 129;refine a4.out.mono ?_;rintro o b7⟨rfl,rfl⟩))
 go_loopw [27] (λb wr=>∃a:E,a<=e.length/\b=Xo M a/\(∀j,j<a->dH (e.getD j [])=J)/\Below (c.heap.size+1) (c.alloc (.cells row 9)) wr) (λb _=>e.length-(Lib.intOf b).toNat)
 case atStart=>exact⟨0,YH _,A,λj l=>absurd l (aa5 _),n_ _ _⟩
 case round=>
  obtain⟨a,x,rfl,X,i⟩:=hrel;have L:=Xv X;clear X;have b4:=i.size;have b4:c.heap.size+1<=wr.heap.size:=by simp_all
  by_cases r:a<e.length
  .have v:=Q a r;rw[<-i.cell (p:=⟨c.heap.size,a,F⟩) (by simp)]at v;obtain⟨g,p⟩:∃g,e.getD a []=g:=⟨_,A⟩;rw[p]at v;obtain⟨d,z⟩:∃d,bs g=d:=⟨_,A⟩;rw[z]at v;have a0:d.size=g.length:=by grind [cT]
   have R:d.data.toList=g:=by rw[<-z];rfl
   have q:=Xv p;have m:=Xv a0;have a6:=Xv R;clear z p Q a0 R;by_cases c0:d.size<1
   .go_wp2
    go_ret2;exact s.out _ i a r (λh=>by rw[q.out]at h;have:=((lY g).1 h).1;have:=m.out;omega)
   by_cases c7:12<d.size
   .go_wp2
    go_ret2;exact s.out _ i a r (λh=>by rw[q.out]at h;have:=((lY g).1 h).2.1;have:=m.out;omega)
   have c6:¬(d.size:Xt)<1:=by omega
   have c8:¬(12:Xt)<d.size:=by omega
   have b3:=run_bytes_of_string (P:=TP) wr 9 249 5 d A rfl rfl;generalize grownCap wr d.size 0 5=k at b3;have u:=λj(l:j<d.size)=>Fh wr d k 5 ((bytesRow d k).size,(bytesRow d k).size+1) l;have N:Below (c.heap.size+1) (c.alloc (.cells row 9)) (wr.drew.alloc (.cells (bytesRow d k) 5 ((bytesRow d k).size,(bytesRow d k).size+1))):=i.drew.alloc (by simp_all) _;generalize bytesRow d k=b8 at*
   rw[a6.out]at u
   go_wp2
   go_loop [42] (λb=>∃j:E,j<=d.size/\b=Xo M j/\∀b,b<j->vR (g.getD b 0)=J) (λb=>d.size-(Lib.intOf b).toNat)
   case atStart=>exact⟨0,YH _,A,λj l=>absurd l (aa5 _)⟩
   case round=>
    obtain⟨j,l,rfl,T⟩:=hrel;have H:=Xv T;clear T;by_cases b1:j<d.size
    .have a9:=u j b1;obtain⟨n,w⟩:∃n,g.getD j 0=n:=⟨_,A⟩;rw[w]at a9;have HC:=Xv w;have S:=MZ n;have D:=Xv S;clear w u S;have d0:=n.toNat_lt;generalize n.toNat=b9 at*
     have O:¬vR n=J->¬dH (e.getD a [])=J:=λy h=>by rw[q.out]at h;have:=((lY g).1 h).2.2 j (by have:=m.out;omega);rw[HC.out]at this;exact y this
     have a5:=Xv O;clear O
     go_wp2
     all_goals try simp only[Ys,Xy.not_eq_true',Xy.not_eq_false',decide_eq_false_iff_not,Zn,beq_eq_false_iff_ne,ne_eq,aaW]at*
     all_goals first
      |(go_ret2;refine s.out _ N a r (a5.out λh=>?_);have:=D.out.1 h;omega)
      |(go_round
        case rel=>exact⟨j+1,by omega,by go_num,λb b0=>by
         by_cases o:b=j
         .subst o;rw[HC.out];exact D.out.2 (by omega)
         exact H.out b (by omega)⟩
        case measure=>simp[Lib.intOf];omega)
    go_wp2
    go_roundw
    case rel=>exact⟨a+1,by omega,by go_num,λb b0=>by
     by_cases o:b=a
     .subst o;rw[q.out];exact(lY g).2 ⟨by have:=m.out;omega,by have:=m.out;omega,λb5 d1=>H.out b5 (by have:=m.out;omega)⟩
     exact L.out b (by omega),N⟩
    case measure=>simp[Lib.intOf];omega
  have b2:a=e.length:=by omega
  subst b2
  go_wp2
  go_ret2;exact a7.out _ i L.out
theorem oe(a:XM)(g:Xt)(c:K)(q:a.size<2^31)(k:c.cell? ⟨1,0,F⟩=C (Xo M g)):Calls TP 95 #[.string a] c (cH a c):=by
 by_cases e:a=⟨#[47]⟩
 .subst e;exact GF c
 have f:(a.toList==[47])=Xp:=by rw[Lib.toList_data,beq_eq_false_iff_ne];intro d;exact e (by rw[<-Uc a,d];rfl)
 by_cases l:hasPrefix a.data.toList [47]=J
 .obtain⟨b,o⟩:∃b,a.data.toList=47::b:=by
   cases hd:a.data.toList with
   |nil=>simp_all [hasPrefix]
   |cons h b=>simp_all [hasPrefix]
  have m:a=bs (47::b):=by rw[<-o];rfl
  have n:b≠[]:=λd=>e (by rw[m,d];rfl);subst m;have i:b.length<2^31:=by grind [cT]
  by_cases p:4<(Wt.pieces b).length
  .exact GC b g c f i k _ A (by omega) n
  exact GG b g c f i k _ A (by omega) n
 refine Ec a c f (by simp_all) ?_;cases hd:a.data.toList with
 |nil=>rfl
 |cons h b=>rw[hd]at l;have:h≠47:=λd=>l (by simp[hasPrefix,d]);simp_all [Wt.split]
variable{R:Xu XS}{c:K}{s:E}
abbrev pt(a b:E):Xn:=XK (C ⟨a,b,F⟩)
structure Kids(R:Xu XS)(e:E)(d:B->Xz E):Prop where
 st:Stamped R e
 key:∀f∈R.toList,∃b a,f.key=.string (bs b)/\f.val=pt a 0/\d b=C a
 all:∀b a,d b=C a->∃f∈R.toList,f.key=.string (bs b)
def uj(c:K)(a:E)(b:Obj):K:={c with heap:=c.heap.setIfInBounds a b}
def gW(b:Xz E):Xn:=.pointer (b.map λa=>⟨a,0,F⟩)
section
variable{e:E}{d:B->Xz E}
theorem Kids.isKey(c:Kids R e d):∀b∈R.toList,IsKey .string b.key:=λb g=>by obtain⟨h,a,f,_⟩:=c.key b g;rw[f];trivial
theorem Kids.find(g:Kids R e d)(b:B):(d b=F/\Instr.findNow .string (.string (bs b)) R.toList 0=C F/\∀r∈R.toList,r.key≠.string (bs b))\/
 ∃a j c,d b=C a/\Instr.findNow .string (.string (bs b)) R.toList 0=C (C (j,pt a 0))/\R.toList[j]?=C c/\c.key=.string (bs b):=by
 rcases findNow_spec (d:=.string) (k:=.string (bs b)) trivial R.toList 0 g.isKey with⟨h,f⟩|⟨j,c,h,f,i⟩
 .left;refine⟨?_,h,f⟩;cases m:d b with
  |none=>rfl
  |some a=>obtain⟨c,l,n⟩:=g.all b a m;exact absurd n (f c l)
 right;obtain⟨q,a,k,o,p⟩:=g.key c (Yn f);rw[i]at k;have:b=q:=zL (aaK k);subst this;exact⟨a,j,c,p,by rw[h,o,Zz],f,i⟩
theorem xj:TP.underlying 188=C (.map 9 187):=A
theorem xk:TP.underlying 9=C .string:=A
theorem pV(i:c.heap[s]?=C (.map R e))(k:Kids R e d)(b:B):(Instr.lookup 188 (.map (C s)) (.string (bs b)) Xp).run TP c=.ok (gW (d b)) c:=by
 have l:(zeroValue 187).run TP c=.ok (XK F) c:=A;have h:=N' (P:=TP) (w:=c) xk (k:=.string (bs b)) trivial R.isEmpty 9999;rcases k.find b with⟨f,g,_⟩|⟨a,j,m,f,g,_⟩
 .simp[Instr.lookup,YW xj,YO i,h,aac xk g,Result.andThen,l,f,gW]
 simp[Instr.lookup,YW xj,YO i,h,aac xk g,Result.andThen,f,gW]
theorem QB(o:c.heap[s]?=C (.map R e))(i:Kids R e d){b:B}(p:d b=F)(a:E):
 (Instr.mapUpdate 188 (.map (C s)) (.string (bs b)) (pt a 0)).run TP c=.ok () (uj c s (.map (R.push ⟨.string (bs b),pt a 0,e⟩) (e+1)))/\Kids (R.push ⟨.string (bs b),pt a 0,e⟩) (e+1) λg=>if g=b then C a else d g:=by
 have r:=N' (P:=TP) (w:=c) xk (k:=.string (bs b)) trivial Xp 9999;rcases i.find b with⟨l,m,n⟩|⟨k,j,h,l,m,_⟩
 .refine⟨?_,stamped_push i.st n,λg f=>?_,λg k f=>?_⟩
  .simp[Instr.mapUpdate,YW xj,YO o,r,aac xk m,Result.andThen,ZC _ o,uj]
  .simp only[N_,YC,YS]at f;rcases f with f|rfl
   .obtain⟨x,k,q,v,w⟩:=i.key g f;refine⟨x,k,q,v,?_⟩;rw[XH (λh=>n g f (by rw[q,h]))];exact w
   exact⟨b,a,A,A,XN A⟩
  by_cases h:g=b
  .exact⟨⟨.string (bs b),pt a 0,e⟩,by simp,by rw[h]⟩
  rw[XH h]at f;obtain⟨y,u,t⟩:=i.all g k f;exact⟨y,by simp[u],t⟩
 rw[l]at p;cases p
theorem QA(O:c.heap[s]?=C (.map R e))(k:Kids R e d){h:B}(Q:d h=C a)(a3:XA):
 ∃x,(Builtin.delete_ #[188,9] a3 #[.map (C s),.string (bs h)]).run TP c=.ok (.tuple #[]) (uj c s (.map x e))/\Kids x e λb=>if b=h then F else d b:=by
 have p:=N' (P:=TP) (w:=c) xk (k:=.string (bs h)) trivial R.isEmpty 9999;rcases k.find h with⟨y,z,n⟩|⟨a5,j,w,y,z,n,o⟩
 .rw[y]at Q;cases Q
 have N:j<R.size:=by have:=(YM.1 n).1;simpa using this
 have W:∀b∈(R.eraseIdxIfInBounds j).toList,b∈R.toList/\b.key≠.string (bs h):=λb f=>by
  rw[Xu.eraseIdxIfInBounds,abt N,v_]at f;refine⟨aaF f,λg=>?_⟩;have U:=k.st.2.2;obtain⟨i,q,rfl⟩:=Zt.1 f;rw[Xq.getElem_eraseIdx]at g;obtain⟨v,H⟩:=YM.1 n
  have L:∀(l m:E)(D:l<R.toList.length)(p:m<R.toList.length),R.toList[l].key=R.toList[m].key->l=m:=λl m D p u=>by have:=(Xq.getElem_inj (i:=l) (j:=m) (h₀:=by simpa using D) (h₁:=by simpa using p) U).1 (by simpa using u);exact this
  rw[Xq.length_eraseIdx_of_lt v]at q;split at g
  .have:=L i j (by omega) v (by rw[g,H,o]);omega
  have:=L (i+1) j (by omega) v (by rw[g,H,o]);omega
 refine⟨R.eraseIdxIfInBounds j,?_,stamped_erase k.st j,λb f=>?_,λb r f=>?_⟩
 .simp[Builtin.delete_,YW xj,YO O,p,aac xk z,Result.andThen,ZC _ O,uj]
 .obtain⟨a0,a1⟩:=W b f;obtain⟨a2,r,S,Y,Z⟩:=k.key b a0;refine⟨a2,r,S,Y,?_⟩;rw[XH (λw=>a1 (by rw[S,w]))];exact Z
 by_cases t:b=h
 .rw[XN t]at f;cases f
 rw[XH t]at f;obtain⟨a4,X,g⟩:=k.all b r f;refine⟨a4,?_,g⟩;obtain⟨i,q,rfl⟩:=Zt.1 X
 have T:i≠j:=λu=>by subst u;rw[YN q]at n;cases n;rw[g]at o;exact t (zL (aaK o))
 rw[Xu.eraseIdxIfInBounds,abt N,v_];exact Xq.mem_eraseIdx_iff_getElem.2 ⟨i,q,T,A⟩
theorem Gy(a:c.heap[s]?=C (.map R e))(b:XA):(Builtin.len_ #[188] b #[.map (C s)]).run TP c=.ok (Xo M R.size) c:=by simp[Builtin.len_,YW xj,YO a,Result.andThen];rfl
abbrev oC:Xn->Xz (DataW Unit×Xq MemPlace):=λ_=>C (.nil,[])
theorem Kids.fit(c:Kids R e d)(k:R.size<=maxLen)(i:∀b a,d b=C a->b.length<=maxLen):WideElems.Fit TP 9 oC R e where
 size:=k
 stamped:=c.st
 reads:=λf l=>by
  obtain⟨b,a,g,m,h⟩:=c.key f l
  have:keyOf TP 9 f.key=C (.string b):=by rw[g];exact aaG xk (by rw[cT];exact i b a h)
  exact⟨_,by unfold WideElems.rd;rw[this];rfl⟩
def zB(h:Xn)(b:Xq B)(i:E)(c:K):Prop:=
 (h=Xw F 0 0/\b=[])\/∃a e d,h=Xw (C ⟨a,0,F⟩) b.length e/\i<=a/\b≠[]/\c.heap[a]?=C (Xx d 9 (0,0))/\b.length<=e/\d.size=e/\∀(f:E) g,b[f]?=C g->d[f]?=C (.string (bs g))
theorem Nl(c:K):Calls TP 98 #[.map (C s)] c λa b=>a=XB (.func (.func 132) #[] #[pt c.heap.size 0])/\b=c.alloc (.cells #[.map (C s)] 188):=
 ZD.1 (Tryz.Aw (C s) c)
theorem Kids.strKeys(n:Kids R e d)(v:∀f a,d f=C a->f.length<=maxLen){names:Xq B}(w:∀f,f∈names↔(d f).isSome=J)(y:names.Pairwise (·<·)):
 names.Perm (Go.strKeys (.map ((R.toList.map (WideElems.rg TP 9 oC)).foldr DataW.insert []))):=by
 have t:(Go.strKeys (H:=Unit) (.map ((R.toList.map (WideElems.rg TP 9 oC)).foldr DataW.insert []))).Perm (R.toList.map λb=>strOf (WideElems.rg TP 9 oC b).1):=by show(Xq.map _ _).Perm _;have:=(sorted_perm (R.toList.map (WideElems.rg TP 9 oC))).map λL=>strOf L.1;rwa [P_]at this
 have m:∀b∈R.toList,∃f a,b.key=.string (bs f)/\strOf (WideElems.rg TP 9 oC b).1=f/\d f=C a:=λb g=>by
  obtain⟨f,a,h,i,k⟩:=n.key b g;refine⟨f,a,h,?_,k⟩
  have:keyOf TP 9 b.key=C (.string f):=by rw[h];exact aaG xk (by rw[cT];exact v f a k)
  unfold WideElems.rg WideElems.rd;rw[this];rfl
 refine Xq.Perm.trans ?_ t.symm;refine(aat (y.imp λ{o a} l(b:o=a)=>Xq.lt_irrefl a (b▸l)) ?_).2 λf=>?_
 .refine Xq.pairwise_map.2 ((Xq.pairwise_map.1 n.st.2.2).imp_of_mem λ{o a} u p x b=>x ?_);obtain⟨r,_,h,i,_⟩:=m o u;obtain⟨N,_,k,D,_⟩:=m a p;rw[i,D]at b;rw[h,k,b]
 rw[w f];constructor
 .intro l;obtain⟨a,p⟩:=Yd.1 l;obtain⟨b,g,q⟩:=n.all f a p;obtain⟨r,_,h,i,_⟩:=m b g;rw[h]at q;exact YL.2 ⟨b,g,by rw[i];exact zL (aaK q)⟩
 intro l;obtain⟨b,g,z⟩:=YL.1 l;obtain⟨r,a,_,i,k⟩:=m b g;rw[<-z,i,k];rfl
theorem Ea(S:c.heap[s]?=C (.map R e))(o:Kids R e d)(a4:R.size<=2^20)(u:∀g a,d g=C a->g.length<=maxLen){b:Xq B}(T:∀g,g∈b↔(d g).isSome=J)(w:b.Pairwise (·<·)):
 Calls TP 97 #[.func (.func 132) #[] #[pt c.heap.size 0]] (c.alloc (.cells #[.map (C s)] 188)) λf n=>∃h,f=XB h/\zB h b (c.heap.size+1) n/\Below (c.heap.size+1) (c.alloc (.cells #[.map (C s)] 188)) n:=by
 have v:R.size<=maxLen:=by unfold maxLen;omega
 have q:Maps.size (DataW.map ((R.toList.map (WideElems.rg TP 9 oC)).foldr DataW.insert []))=R.size:=by rw[Maps.size_eq,length_sorted];simp
 have W:c.ownsMap TP 9 oC s R.size (.map ((R.toList.map (WideElems.rg TP 9 oC)).foldr DataW.insert [])):=⟨R,e,S,o.fit v u,Ye _,A⟩;refine(ZD.1 (Tryz.kT s R.size _ oC c W (by rw[q];exact v) (by rw[q];omega))).mono ?_;rintro f n⟨h,m,rfl,X,k,U,r⟩;have Z:(c.alloc (.cells #[.map (C s)] 188)).heap.size=c.heap.size+1:=by show(c.heap.push _).size=_;simp
 rw[Z]at k r;have i:m.Perm b:=X.trans (o.strKeys u T w).symm
 have Y:m.mergeSort (λa0 a1=>decide (a0<=a1))=b:=by rw[mergeSort_of_perm i];exact Xq.mergeSort_of_pairwise (w.imp λz=>by simpa[leB]using Xq.le_of_lt z)
 rw[Y,i.length_eq]at k;refine⟨h,A,?_,r⟩;rcases k.2 with⟨rfl,D⟩|⟨y,x,p,rfl,H,L,N,a2,O,Q⟩
 .exact Xr ⟨A,ZP D⟩
 refine Xs ⟨y,x,p,A,H,λf=>?_,L,N,by simpa using O,λl g t=>?_⟩
 .subst f;have:m=[]:=Xq.Perm.eq_nil i;have:=U.2 this;cases this
 have a3:l<b.length:=(YM.1 t).1;have f:(p.toList.take (b.length*1))[l]?=(b.map encStr)[l]?:=by rw[Q]
 rw[e_,XN (by omega),z_,t]at f;simpa[encStr,bs]using f
end
variable{e:K}{g:E}{h:Xn}{c:Tree}{N:E}{a:Path}{i:K}
def wu(a:Path):B:=a.getLastD []
def cW(a:Path)(b:Nd)(c f:E):Xu Xn:=
 #[.string (bs (wu a)),.string (bs b.data),Xo M b.stat.made,Xo M b.stat.set,Xo M b.stat.aE,Xo M b.stat.eD,Xo M b.stat.own,Xo M b.stat.size,Xo M b.stat.kids,Xo M b.next,
   .pointer (if a=[]then F else C ⟨c,0,F⟩),.map (C f)]
def cd(c:Tree)(d:Path->E)(a:Path)(b:B):Xz E:=if(Wt.find c (a++[b])).isSome then C (d (a++[b]))else F
structure bn(c:Tree)(d f:Path->E)(e:K):Prop where
 nd:∀a k,Wt.find c a=C k->e.heap[d a]?=C (Xx (cW a k (d a.dropLast) (f a)) 192 (0,0))
 kd:∀a k,Wt.find c a=C k->∃m l,e.heap[f a]?=C (.map m l)/\Kids m l (cd c d a)
 inj:∀a b,(Wt.find c a).isSome=J->(Wt.find c b).isSome=J->d a=d b->a=b
 xS:∀a b,(Wt.find c a).isSome=J->(Wt.find c b).isSome=J->f a=f b->a=b
def Row(h:Xn)(a:Path)(e:K):Prop:=
 (h=Xw F 0 0/\a=[])\/∃g b,h=Xw (C ⟨g,0,F⟩) a.length b/\a.length<=b/\g<e.heap.size/\∀(c:E) d,a[c]?=C d->e.cell? ⟨g,c,F⟩=C (.string (bs d))
theorem aa{b:Xu Xn}{c:XA}{k:E×E}(l:e.heap[g]?=C (Xx b c k))(j:E)(m:b[j]?=C h):e.cell? ⟨g,j,F⟩=C h:=by simp_all [K.cell?]
theorem AN{a g:Xn}(b:a=g):Ending.returned a=XB g:=by rw[b]
section
variable{d f:Path->E}
theorem sY(g:∀a,a≠[]->(Wt.find c a).isSome=J->(Wt.find c a.dropLast).isSome=J):∀(b:E)(a:Path),a.length=b->(Wt.find c a).isSome=J->∀d,(Wt.find c (a.take d)).isSome=J
 |b,a,k,e,d=>by
  by_cases h:a.length<=d
  .rw[b_ h];exact e
  cases b with
  |zero=>omega
  |succ b=>
   have i:a≠[]:=by grind
   have f:=sY g b a.dropLast (by simp;omega) (g a i e) d;rw[V_,aav,aa6 (by omega)]at f;exact f
structure my(c:Tree)(d f:Path->E)(e:K):Prop where
 nd:∀a b,Wt.find c a=C b->∃m,e.heap[d a]?=C (Xx (cW a b (d a.dropLast) (f a)) 192 m)
 kd:∀a b,Wt.find c a=C b->∃l k,e.heap[f a]?=C (.map l k)/\Kids l k (cd c d a)
theorem bn.VZ(b:bn c d f e):my c d f e:=⟨λa h g=>⟨_,b.nd a h g⟩,b.kd⟩
theorem my.lt(b:my c d f e)(i:(Wt.find c a).isSome=J):d a<e.heap.size/\f a<e.heap.size:=by
 obtain⟨h,g⟩:=Yd.1 i;obtain⟨l,k,n,_⟩:=b.kd a h g;obtain⟨m,o⟩:=b.nd a h g
 grind
theorem my.old(k:my c d f e)(n:∀l,l<e.heap.size->i.heap[l]?=e.heap[l]?):my c d f i where
 nd:=λa m b=>by rw[n _ (k.lt (by rw[b];rfl)).1];exact k.nd a m b
 kd:=λa m b=>by rw[n _ (k.lt (by rw[b];rfl)).2];exact k.kd a m b
theorem zZ(t:my c d f e)(a6:e.cell? ⟨N,0,F⟩=C (pt (d []) 0))(v:(Wt.find c []).isSome=J)(x:∀a,a≠[]->(Wt.find c a).isSome=J->(Wt.find c a.dropLast).isSome=J)
 (a0:Row h a e)(b1:a.length<2^31):Calls TP 96 #[pt N 0,h] e λS i=>S=XB (gW (if(Wt.find c a).isSome then C (d a)else F))/\e=i:=by
 rcases a0 with⟨rfl,rfl⟩|⟨g,a3,rfl,a8,a7,w⟩
 .generalize d []=a2 at*
  go_enter Tryz.func96,Tryz.ntmps96
  go_wp2
  go_loop [5,14] (λk l=>k=pt a2 0/\l=Xo M 0) (λ_ _=>0)
  case atStart=>simp
  case round=>
   go_wp2
   go_ret;exact⟨A,A⟩
 obtain⟨z,Y⟩:∃z,gW (if(Wt.find c a).isSome then C (d a)else F)=z:=by simp
 have r:=Xv Y;go_enter Tryz.func96,Tryz.ntmps96;have s:=Xv t;have L:=Xv x;have D:=Xv v;have H:=Xv w;clear t x v w
 go_wp2
 go_loop [5,14] (λk l=>∃b:E,b<=a.length/\l=Xo M b/\k=pt (d (a.take b)) 0/\(Wt.find c (a.take b)).isSome=J) (λ_ l=>a.length-(Lib.intOf l).toNat)
 case atStart=>exact⟨0,YH _,A,by simp,by simpa using D.out⟩
 case round=>
  obtain⟨b,a9,rfl,rfl,n⟩:=hrel;have q:=Xv n;by_cases b0:b<a.length
  .obtain⟨m,Z⟩:∃m,a[b]?=C m:=by simp_all
   have c1:=H.out b m Z;obtain⟨k,u⟩:=Yd.1 q.out;have c2:e.cell? ⟨d (a.take b),11,F⟩=C (.map (C (f (a.take b)))):=aa (s.out.nd _ k u).choose_spec 11 A;obtain⟨a5,a4,W,Q⟩:=s.out.kd _ k u;have p:=pV W Q m;have X:a.take b++[m]=a.take (b+1):=by grind [List.take_add_one]
   rw[cd,X]at p;by_cases y:(Wt.find c (a.take (b+1))).isSome=J
   .have o:=Xv y;generalize a1:d (a.take (b+1))=b3 at*
    have O:=Xv a1;unfold gW at p
    go_wp2
    go_round
    case rel=>exact⟨b+1,by omega,by go_num,by rw[O.out],o.out⟩
    case measure=>grind [Lib.intOf]
   have o:=Xv y;unfold gW at p
   go_wp2
   go_ret;exact⟨AN (by rw[<-r.out,XH (λT=>o.out (sY L.out _ a A T (b+1)))];rfl),A⟩
  have U:b=a.length:=by omega
  subst U
  go_wp2
  go_ret
  exact⟨AN (by
   have n:=q.out;rw[F_]at n
   rw[<-r.out,XN n];rfl),A⟩
end
variable{c:K}{f:Xn}{h:E}{d:XA}{i:E}{l:Tree}
theorem Mh(a b:B):bs a++bs b=bs (a++b):=by apply XM.ext;simp[bs,XM.data_append]
def strs(b:Xq B):Xq Xn:=b.map λa=>.string (bs a)
theorem Eh(b:Xq B)(a:E):(strs b)[a]?=(b[a]?).map λc=>.string (bs c):=by simp[strs]
section
variable{b:Xq B}{k:E}
theorem DF{g:E}(i:c.ownsRow k 9 1 (Xw (C ⟨h,0,F⟩) b.length g) b.length (strs b)):∀(a:E) f,b[a]?=C f->c.cell? ⟨h,a,F⟩=C (.string (bs f)):=λa f n=>by
 rcases i.2 with⟨e,_⟩|⟨q,o,p,e,_,l,_,_,_,m⟩
 .cases e
 cases e;simp only[K.cell?,l];have d:=Zc (λb=>b[a]?) m;simp only[Eh,n,ZA]at d;rw[e_]at d;split at d
 .simpa using d
 cases d
theorem KE(g:c.ownsRow k 9 1 f b.length (strs b))(O:b.length<2^31):Calls TP 188 #[f] c λd e=>d=XB (.tuple #[])/\e.ownsRow k 9 1 f b.length (strs b.reverse)/\Below k c e:=by
 rcases g.2 with⟨rfl,s⟩|⟨h,n,o,rfl,z,p,N,x,y,Q⟩
 .have L:b=[]:=ZP s;subst L;exact(Tryz.slices_Reverse_string_empty F 0 c).mono λd e⟨t,u⟩=>by subst u;exact⟨t,g,n_ _ _⟩
 have w:=DF g;refine(Tryz.slices_Reverse_string h 0 n b c (λj D=>⟨?_,?_⟩) (by omega)).mono ?_
 .have q:j<b.length:=by simpa using D
  rw[Zz,w j b[j] (YN q)];simp[encStr,bs,q]
 .simp[K.frozen?,p]
 rintro d e⟨rfl,i,rfl⟩
 have v:(putRow encStr (Sort.ahead c i) h 0 b.reverse.toArray).heap[h]?=C (Xx (putCells encStr 0 b.reverse.toArray o) 9 (0,0)):=by simp[putRow,mapBlock,Zr,Sort.ahead,p,onCells]
 refine⟨A,⟨by simp[strs],Xs ⟨h,n,_,A,z,v,N,x,by simpa[putCells]using y,?_⟩⟩,A,A,A,by simp[putRow,mapBlock,Sort.ahead],λm r=>?_⟩
 .apply Xq.ext_getElem?;intro m;rw[e_,Eh];by_cases r:m<b.length
  .have H:m<o.size:=by omega
   rw[XN (by omega)];simp[putCells,H,r,encStr,bs]
  rw[XH (by omega),Xq.getElem?_eq_none (by simp;omega)];rfl
 simp only[putRow,mapBlock,Zr,Sort.ahead];rw[XH (by omega)]
theorem SL(i:c.ownsRow k 9 1 f b.length (strs b))(v:k<=c.heap.size)(g:([47].intercalate b).length<2^31)(z:b.length<2^31):Calls TP 189 #[f] c λd e=>d=XB (.string (bs (Wt.join b)))/\Below c.heap.size c e:=by
 have l:Calls TP 218 #[f,.string ⟨#[47]⟩] c λd e=>d=XB (.string (bs ([47].intercalate b)))/\Below c.heap.size c e:=by
  rcases i.2 with⟨rfl,s⟩|⟨h,q,N,rfl,S,y,D,Q,R,T⟩
  .have g:b=[]:=ZP s;subst g;have r:([47]:B).intercalate []=[]:=by simp[Xq.intercalate]
   rw[r];exact(Tryz.strings_Join_none F 0 ⟨#[47]⟩ c).mono λd e⟨t,u⟩=>⟨t,by rw[u];exact n_ _ _⟩
  have x:=DF i
  have m:(b.map bs).map (λo:XM=>o.data.toList)=b:=by rw[P_];exact Xq.map_id _
  have a:=Tryz.strings_Join h 0 q (b.map bs) ⟨#[47]⟩ c (λj o n=>by
   rw[z_]at n;obtain⟨L,H,rfl⟩:=YP.1 n;rw[Zz]
   exact x j L H) (XZ.1 y).1 (by simp;omega) (by simpa using D) (by
   rw[m];have:(Lib.join b [47]).length<2^31:=g;show(Lib.join b [47]).length<=_
   omega)
  rw[m,h_]at a;exact a
 have O:¬9223372036854775807<1+(bs ([47].intercalate b)).size:=by rw[cT];omega
 have a:⟨#[47]⟩++bs ([47].intercalate b)=bs (Wt.join b):=Mh [47] _;have HC:=Xv l;have p:=Xv a;clear l i g z v a;generalize bs ([47].intercalate b)=U at*
 generalize bs (Wt.join b)=W at*
 go_enter Tryz.func189,Tryz.ntmps189
 go_wp2_with (go_at_call 218;refine HC.out.mono ?_;rintro d e⟨rfl,w⟩)
 go_ret;exact⟨AN (Zc Value.string p.out),w⟩
end
def Qa:Xn->E
 |.slice _ i _=>i
 |_=>0
theorem tQ{k:E}{e:Xq Xn}(a:c.ownsRow k d 1 f i e):Qa f=i:=by
 rcases a.2 with⟨rfl,b⟩|⟨_,_,_,rfl,_⟩
 .exact b.symm
 rfl
theorem Uu:∃a b,TP.info? 9=C a/\a.zero=C b/\a.size=1/\a.bytes=16/\b.cells.size=1:=⟨_,_,A,A,A,A,A⟩
theorem UY:TP.underlying 35=C (.slice 9):=A
def LD(a:Path)(c:K)(d:Ending)(b:K):Prop:=d=XB (.string (bs (Wt.join a)))/\Below c.heap.size c b
theorem sQ{m d5:Path->E}(N:bn l m d5 c)(a1:∀a,a≠[]->(Wt.find l a).isSome=J->(Wt.find l a.dropLast).isSome=J)(W:(Wt.find l a).isSome=J)
 (e4:a.length<2^30)(c0:([47].intercalate a).length<2^31):Calls TP 156 #[pt (m a) 0] c (LD a c):=by
 obtain⟨d4,d9,b7,d0,d1,d2,d3⟩:=Uu;obtain⟨e9,L⟩:∃n,m a=n:=⟨_,A⟩;rw[L];have b1:=Xv L;have a8:=Xv N;have a9:=Xv a1;have a5:=Xv W;clear N a1 W L;go_enter Tryz.func156,Tryz.ntmps156
 go_wp2
 go_loopw [0,3] (λi f wr=>∃e:E,e<=a.length/\i=pt (m (a.take (a.length-e))) 0/\wr.ownsRow c.heap.size 9 1 f e (strs (a.drop (a.length-e)).reverse)/\Below c.heap.size c wr) (λ_ f _=>a.length-Qa f)
 case atStart=>exact⟨0,YH _,by rw[E.sub_zero,F_,b1.out],by rw[E.sub_zero,Xq.drop_length];exact aaB c _ _ _,n_ _ _⟩
 case round=>
  obtain⟨e,e2,rfl,o,p⟩:=hrel;obtain⟨g,w⟩:∃g,a.take (a.length-e)=g:=⟨_,A⟩;rw[w];have Y:(Wt.find l g).isSome=J:=by rw[<-w];exact sY a9.out _ a A a5.out _
  obtain⟨i,U⟩:=Yd.1 Y;have v:=a8.out.nd g i U;have u:m g<c.heap.size:=(XZ.1 v).1;have b2:wr.cell? ⟨m g,0,F⟩=C (.string (bs (wu g))):=by rw[p.cell (p:=⟨m g,0,F⟩) u];exact aa v 0 A
  have s:wr.cell? ⟨m g,10,F⟩=C (.pointer (if g=[]then F else C ⟨m g.dropLast,0,F⟩)):=by rw[p.cell (p:=⟨m g,10,F⟩) u];exact aa v 10 A
  have D:=p.size;have r:=Xv w;have T:=tQ o;have a4:=Xv T;clear w Y U v T;by_cases q:g=[]
  .have b9:e=a.length:=by have:=Zc List.length r.out;rw[q]at this;simp at this;omega
   rw[XN q]at s;subst b9;rw[E.sub_self,Xq.drop_zero]at o;have z:=KE (b:=a.reverse) (k:=c.heap.size) (c:=wr) (by rw[aao];exact o) (by rw[aao];omega);rw[aao,Xq.reverse_reverse]at z;have a6:=Xv z;clear z q b2 o r;generalize m g=n at*
   go_wp2_with (go_at_call 188;refine a6.out.mono ?_;rintro d e7⟨rfl,c8,x⟩)
   have b8:=SL c8 (Yi D x.size) c0 (by omega);refine b8.mono ?_;rintro d e8⟨rfl,b4⟩
   go_wp2
   go_ret;exact⟨A,(p.trans x).trans (b4.mono (Yi D x.size))⟩
  rw[XH q]at s;have e3:e<a.length:=by
   rcases Q' e a.length with O|O
   .exact O
   exact absurd (by rw[<-r.out,show a.length-e=0 by omega,abi]) q
  have X:g.dropLast=a.take (a.length-(e+1)):=by
   rw[<-r.out,V_,aav,ZJ]
   congr 1;omega
  have S:(a.drop (a.length-(e+1))).reverse=(a.drop (a.length-e)).reverse++[wu g]:=by
   have Q:a.length-(e+1)<a.length:=by omega
   rw[H_ Q,Xq.reverse_cons,show a.length-(e+1)+1=a.length-e by omega]
   congr 2
   unfold wu;rw[<-r.out,Xq.getLastD_eq_getLast?,Xq.getLast?_eq_getElem?,e_,ZJ];have d:min (a.length-e) a.length-1=a.length-(e+1):=by omega
   rw[d,XN (by omega),YN Q];rfl
  rw[X]at s;have a3:=Xv S;clear X S q;obtain⟨d8,H⟩:∃n,m (a.take (a.length-(e+1)))=n:=⟨_,A⟩;rw[H]at s;have b0:=Xv H;clear H;generalize m g=n at*
  generalize Z:bs (wu g)=d6 at*
  have a7:=Xv Z;clear Z;have b3:∀t,Below c.heap.size c (wr.alloc t):=λt=>p.alloc D t;have c9:=λt=>o.alloc (w:=wr) t;have c6:=o.lt;clear o
  go_wp2_with (at_builtin;refine wpList_append_own _ A _ _ 35 A c.heap.size 9 d4 d9 1 16 UY b7 d0 d1 d2 d3 (by decide) _ _ _ A (c9 _) ⟨wr.heap.size,0,F⟩ 1 1 [.string d6] A rfl (cell_one_new _ _ _) (by intro e6 a0;simp at a0;subst a0;rfl) (by unfold maxLen;omega) (by omega) (by simp;omega) ?_;intro d7 a2 y b6 c7;clear c7;have R:Below c.heap.size c a2:=(b3 _).grown b6 (by show _<=(wr.heap.push _).size;simp;omega) (λh b5=>(c6 h b5).1);have e1:a2.cell? ⟨n,10,F⟩=C (XK (C ⟨d8,0,F⟩)):=by(rw[R.cell (p:=⟨n,10,F⟩) u,<-p.cell (p:=⟨n,10,F⟩) u];exact s))
  go_roundw
  case rel=>
   refine⟨e+1,by omega,by rw[b0.out],?_,R⟩;rw[a3.out];unfold strs at y⊢
   rw[ZX,Zj,Zs,a7.out];exact y
  case measure=>show a.length-Qa d7<a.length-Qa _;rw[tQ y,a4.out];omega
variable{a:K}{b:XA}{h:Xn}{d:E}{w':K}{f:E}{D:Xu Oper}{Q:Exit->XF->K->Prop}{l:E}
def bV(i:Xn->Prop)(a:K)(b:XA)(size:E)(h:Xn)(d:E)(k:Xq Xn):Prop:=
 k.length=d*size/\((h=Xw F 0 0/\d=0)\/∃f c e,h=Xw (C ⟨f,0,F⟩) d c/\a.heap[f]?=C (Xx e b (0,0))/\d<=c/\c<=maxLen/\e.size=c*size/\e.toList.take (d*size)=k/\∀g∈e.toList,i g)
section
variable{i:Xn->Prop}{size:E}{k:Xq Xn}
theorem bV.nil(i:Xn->Prop)(a:K)(b:XA)(size:E):bV i a b size (Xw F 0 0) 0 []:=⟨by simp,Xr ⟨A,A⟩⟩
theorem bV.lt(g:bV i a b size h d k):∀c,h.ownBlock=C c->c<a.heap.size:=λc e=>by
 rcases g.2 with⟨rfl,_⟩|⟨f,l,m,rfl,n,_⟩
 .cases e
 cases e;grind
theorem bV.blk(l:bV i a b size h d k):∀e,h.ownBlock=C e->∃c,a.heap[e]?=C (Xx c b (0,0))/\∀m∈c.toList,i m:=λe g=>by
 rcases l.2 with⟨rfl,_⟩|⟨f,n,c,rfl,p,_,_,_,_,o⟩
 .cases g
 cases g;simp_all
theorem bV.stay(e:bV i a b size h d k)(o:∀c,h.ownBlock=C c->w'.heap[c]?=a.heap[c]?):bV i w' b size h d k:=by
 refine⟨e.1,?_⟩;rcases e.2 with p|⟨f,g,m,rfl,n,q⟩
 .exact Xr p
 exact Xs ⟨f,g,m,A,by rw[o f A];exact n,q⟩
theorem bV.slice(e:bV i a b size h d k):∃c s l,h=.slice c s l:=by
 rcases e.2 with⟨rfl,f⟩|⟨_,_,_,rfl,_⟩
 .exact⟨_,_,_,A⟩
 simp
theorem bV.cell(g:bV i a b size h d k)(e:h.ownBlock=C f):∀(j:E) c,k[j]?=C c->a.cell? ⟨f,j,F⟩=C c:=λj c t=>by
 rcases g.2 with⟨rfl,_⟩|⟨q,n,o,rfl,m,_,_,_,r,_⟩
 .cases e
 cases e;exact aa m j (by grind)
theorem nL(f j:E):(⟨f,0,F⟩:XG).add j=⟨f,j,F⟩:=by simp_all [Addr.add]
def jC(a:K)(h b:Xn):Prop:=∀f,b.ownBlock=C f->h.ownBlock=C f\/a.heap.size<=f
theorem mg(v:bV i a b size h d k){r y:XA}{c:TypeInfo}{o:Xn}(O:TP.underlying r=C (.slice b))(z:TP.info? b=C c)(W:c.zero=C o)(b2:c.size=size)(a5:c.bytes<=1000)(a1:o.cells.size=size)(b3:0<size)(c9:∀p∈o.cells.toList,i p)
 (t:XG)(s l:E)(n:Xq Xn)(q:n.length=s*size)(N:∀j e,n[j]?=C e->a.cell? (t.add j)=C e)(Y:∀e∈n,e.oneCell'=J/\i e)(c7:d+s<2^30):
 ∃S w',(Builtin.append_ #[r,r] y #[h,Xw (C t) s l]).run TP a=.ok S w'/\bV i w' b size S (d+s) (k++n)/\a.grownBy w' h.ownBlock/\jC a h S:=by
 subst b2;have L:(k++n).length=(d+s)*c.size:=by rw[YA,v.1,q,aaC]
 have c8:∀m,∀p∈(Builtin.zeroCells o.cells m).toList,i p:=λm p R=>by unfold Builtin.zeroCells at R;simp only[aaL,YL]at R;obtain⟨j,_,rfl⟩:=R;simp_all [abx]
 have X:∀(old:E),(∀p∈k,i p)->∀row:Xz E,
  bV i (a.drew.alloc (.cells (k.toArray++n.toArray++Builtin.zeroCells o.cells (grownCap a (d+s) old b-(d+s))) b)) b c.size (Xw (C ⟨a.heap.size,0,F⟩) (d+s) (grownCap a (d+s) old b)) (d+s) (k++n)/\
  a.grownBy (a.drew.alloc (.cells (k.toArray++n.toArray++Builtin.zeroCells o.cells (grownCap a (d+s) old b-(d+s))) b)) row:=by
  intro old R row;have a8:=aaD a (d+s) old b;have a6:=K_ a (d+s) old b (by unfold maxLen;omega);refine⟨⟨L,Xs ⟨a.heap.size,_,_,A,Yx a.drew _,a8,a6,?_,?_,?_⟩⟩,⟨A,A,A,by simp,λm H _=>aaw a.drew _ H⟩⟩
  .rw[A_,A_,abj,a1,YF,YF,v.1,q,<-aaC,<-aaC]
   congr 1;omega
  .rw[ZY,ZY,aam (by simpa using L)]
  grind
 have a0:∀m,m<2^30->m*c.bytes<=140737488355328:=λm H=>by have:m*c.bytes<=1073741824*1000:=abk (by omega) a5;omega
 rcases v.2 with⟨rfl,rfl⟩|⟨f,u,T,rfl,Z,c0,a2,a3,a4,c6⟩
 .have b5:k=[]:=by simp_all
  subst b5;by_cases a9:s=0
  .subst a9;have b0:=ZP (by rw[q];simp);subst b0;obtain⟨S,w',b7,d0,b8,b9⟩:=run_append_own (P:=TP) a a.heap.size r y b c o c.size c.bytes O z W A rfl a1 b3 (Xw F 0 0) 0 [] (aaB a _ _ _) t 0 l [] (by simp) N (λe x=>(Y e x).1) (by simp) (a0 _ (by omega)) (Ye _);have b4:=b9.2 ⟨A,A⟩;subst b4;exact⟨_,_,b7,⟨by simp,Xr ⟨A,A⟩⟩,b8,λf g=>by cases g⟩
  have w:=run_append_nil (P:=TP) a r y b c o O z W t s l _ q N (by omega) (by omega) (by grind);have g:=X 0 (by simp) (Xn.ownBlock (Xw F 0 0));exact⟨_,_,w,by simp_all,by simp_all,λf g=>by cases g;simp⟩
 have b6:∀p∈k,i p:=by grind
 by_cases U:d+s<=u
 .have a7:d*c.size+n.length<=T.size:=by
   rw[a3,q,<-aaC];exact abk U (Ye _)
  have w:=run_append_room (P:=TP) a r y b c O z f d u T Z t s l _ q N (λe x=>(Y e x).1) U a7;refine⟨_,_,w,⟨L,Xs ⟨f,u,_,A,k_ a f T _ b _ Z,U,a2,?_,?_,?_⟩⟩,⟨A,A,A,by simp,λm _ H=>ZO a f m _ (λb=>H (by simp[Xn.ownBlock,b]))⟩,λf g=>Xr g⟩
  .simp only[YF,YA,ZJ,aaJ,aap];omega
  .rw[a4];exact aam L
  grind
 have b1:∀j e,k[j]?=C e->a.cell? ((⟨f,0,F⟩:XG).add j)=C e:=λj e x=>by rw[nL];exact v.cell A j e x
 have w:=run_append_grow (P:=TP) a r y b c o O z W ⟨f,0,F⟩ d u k v.1 b1 t s l _ q N (by omega) (by omega) (growslice_fits (by omega) (a0 _ (by omega)));have g:=X u b6 (Xn.ownBlock (Xw (C ⟨f,0,F⟩) d u));exact⟨_,_,w,g.1,g.2,λf g=>by cases g;simp⟩
theorem ja{v:Xq Oper}{g:Oper}{o:XF}(O:g.guard=F)(w q:XV)(t:XA)
 (U:g.op=.call {callee:=.builtin .append,args:=#[w,q],argTypes:=#[t,t]})(X:o.eval w=h)(x:bV i a b size h d k){p:TypeInfo}{u:Xn}(Y:TP.underlying t=C (.slice b))(c:TP.info? b=C p/\p.zero=C u/\p.size=size/\p.bytes<=1000/\u.cells.size=size/\0<size)(a0:∀q∈u.cells.toList,i q)
 {r:XG}(Z:o.eval q=Xw (C r) s l)(e:Xq Xn)(R:e.length=s*size)(T:∀j m,e[j]?=C m->a.cell? (r.add j)=C m)(y:∀m∈e,m.oneCell'=J/\i m)(S:d+s<2^30)
 (next:∀n w',bV i w' b size n (d+s) (k++e)->a.grownBy w' h.ownBlock->jC a h n->wpList TP D Q v (o.put g.dst n) w'):wpList TP D Q (g::v) o a:=by
 refine wpList_plain O λa1 N=>?_;obtain⟨n,w',W,z,H,L⟩:=mg (y:=g.type) x Y c.1 c.2.1 c.2.2.1 c.2.2.2.1 c.2.2.2.2.1 c.2.2.2.2.2 a0 r s l e R T y S;unfold Oper.wp execOp;simp only[U,resolve,invoke,builtin,ZB,aaX,B_,Zl,Zj,Zs,X,Z,W];exact N _ _ (next n w' z H L)
end
end Go.Sv
namespace Wt
variable{a:Tree}{ak:Xt}{R:Xq Ev}{y:cz}
theorem sC{c:Op}{aL b:Xt}(d:create a c ak aL=.no b):b≠0:=by grind [create]
theorem Ju{d:Op}{aL c:Xt}(b:change a d ak aL=.no c):c≠0:=by
 unfold change at b;split at b
 .exact sC b
 repeat' split at b
 all_goals first|(cases b;decide)|cases b
theorem py{b:Op}{aL:Xt}{e:Tree}{g:B}(h:b.kind≠3)(d:change a b ak aL=.yes e g R):
 ∃c f,split b.path=C c/\find a c=C f/\g=b.path/\((b.kind=4/\c≠[]/\¬0<f.stat.kids/\e=drop a c/\R=kC c)\/(b.kind=5/\e=put a c (jS f b aL)/\R=[(3,b.path)])\/(b.kind≠4/\b.kind≠5/\e=a/\R=[])):=by
 unfold change at d;rw[XH h]at d;split at d
 .cases d
 grind
theorem lW{id:Xt}:known y id=J↔id∈y.dG.map (·.1):=by simp[known]
def rq(ak b:Xt)(e d:B)(aE a:Xt)(c:Xy):dA:={ak:=ak,op:={kind:=b,path:=e,data:=d,aE:=aE,flags:=a},watch:=c}
def UM:cz:={timeout:=50}
def first:B:=[102,105,114,115,116]
def IL:B:=[116,104,105,114,100]
def pA:B:=[47,97]
def pB:B:=[47,98]
def Ru:B:=[47,97,47,120]
def Qz:Xq dA:=[rq 0 1 [] [] 0 0 Xp,rq 0 1 [] [] 0 0 Xp,rq 0 1 [] [] 0 0 Xp,rq 1 3 pA first 0 0 Xp,rq 2 3 pB [] 0 0 Xp,rq 3 3 Ru IL 0 0 Xp,rq 1 8 Ru [] 0 0 Xp]
def UG:Xq Out:=[{ak:=1},{ak:=2},{ak:=3},
 {ak:=1,path:=pA,found:=J,stat:={made:=4,set:=4,size:=5}},
 {ak:=2,path:=pB,found:=J,stat:={made:=5,set:=5}},
 {ak:=3,path:=Ru,found:=J,stat:={made:=6,set:=6,size:=5}},
 {ak:=1,path:=Ru,data:=IL,found:=J,stat:={made:=6,set:=6,size:=5}}]
def alone:cz->Xq dA->cz
 |a,[]=>a
 |a,c::b=>alone (step a 0 c).1 b
def rN(a:E):cz:=alone UM (Qz.take a)
def sB:cz:=rN 7
theorem Fb:∀a,(b:a<7)->(step (rN a) 0 (Qz[a]'b)).2=[UG[a]'b]:=by
 intro a b
 match a,b with
 |0,_=>rfl
 |1,_=>rfl
 |2,_=>rfl
 |3,_=>rfl
 |4,_=>rfl
 |5,_=>rfl
 |6,_=>rfl
theorem GH:∀a,(b:a<7)->rN (a+1)=(step (rN a) 0 (Qz[a]'b)).1:=by
 intro a b
 match a,b with
 |0,_=>rfl
 |1,_=>rfl
 |2,_=>rfl
 |3,_=>rfl
 |4,_=>rfl
 |5,_=>rfl
 |6,_=>rfl
abbrev rT(a:Xq Xt):Prop:=a.Pairwise (·<·)
theorem Iz:∀{d e:Xq Xt},rT d->rT e->(∀b,b∈d↔b∈e)->d=e
 |[],[],_,_,_=>rfl
 |[],h::e,_,_,a=>absurd ((a h).2 (by simp)) (by simp)
 |b::d,[],_,_,a=>absurd ((a b).1 (by simp)) (by simp)
 |b::d,h::e,n,p,a=>by
  obtain⟨l,o⟩:=YU.1 n;obtain⟨m,q⟩:=YU.1 p;have r:b=h:=by
   have c:=(a b).1 (by simp);have k:=(a h).2 (by simp);rcases Yg.1 c with f|c
   .exact f
   rcases Yg.1 k with f|k
   .exact f.symm
   have:=m b c;have:=l h k;omega
  subst r;rw[Iz o q λi=>?_];constructor
  .intro g;rcases Yg.1 ((a i).1 (Yw _ g))with f|c
   .have:=l i g;omega
   exact c
  intro g;rcases Yg.1 ((a i).2 (Yw _ g))with f|c
  .have:=m i g;omega
  exact c
theorem nf(d b:Xt):∀{c:Xq Xt},b∈dI d c↔b=d\/b∈c
 |[]=>by simp[dI]
 |e::c=>by
  unfold dI;split
  .simp
  split
  .rename_i a;subst a;simp
  rw[Yg,nf d b,Yg];constructor
  .rintro(a|a|a)
   .exact Xs (Xr a)
   .exact Xr a
   exact Xs (Xs a)
  rintro(a|a|a)
  .exact Xs (Xr a)
  .exact Xr a
  exact Xs (Xs a)
theorem rD(e:Xt):∀{d:Xq Xt},rT d->rT (dI e d)
 |[],_=>by simp[dI,rT]
 |k::d,c=>by
  obtain⟨f,h⟩:=YU.1 c;unfold dI;split
  .rename_i i
   exact YU.2 ⟨λb a=>by
    rcases Yg.1 a with g|a
    .omega
    have:=f b a;omega,c⟩
  split
  .exact c
  exact YU.2 ⟨λb a=>by
   rcases(nf e b).1 a with g|a
   .omega
   exact f b a,rD e h⟩
theorem mZ(c:Xt)(d:Xq Xt):∀b:Xq Xt,c∈b.foldr dI d↔c∈b\/c∈d
 |[]=>by simp
 |e::b=>by
  rw[aa7,nf,mZ c d b,Yg];constructor
  .rintro(a|a|a)
   .exact Xr (Xr a)
   .exact Xr (Xs a)
   exact Xs a
  rintro((a|a)|a)
  .exact Xr a
  .exact Xs (Xr a)
  exact Xs (Xs a)
theorem nt{b:Xq Xt}(c:rT b):∀a:Xq Xt,rT (a.foldr dI b)
 |[]=>c
 |d::a=>rD d (nt c a)
theorem Ic{d:Xt}:∀{a:Xq Xt}{b:E},rT a->b<=a.length->(∀c∈a.take b,c<d)->(∀c∈a.drop b,d<c)->dI d a=a.take b++d::a.drop b
 |[],b,_,_,_,_=>by simp[dI]
 |g::a,0,_,_,_,l=>by
  simp_all [dI]
 |g::a,b+1,k,i,e,h=>by have m:=e g (by simp);unfold dI;rw[XH (by omega),XH (by omega),Ic (YU.1 k).2 (by simpa using i) (λc f=>e c (by simp[f])) (λc f=>h c (by simp_all))];rfl
theorem CY{c:Xt}:∀{a:Xq Xt},rT a->c∈a->dI c a=a
 |h::a,f,b=>by
  obtain⟨d,e⟩:=YU.1 f;unfold dI;rcases Yg.1 b with g|b
  .simp_all
  have:=d c b;rw[XH (by omega),XH (by omega),CY e b]
def BX(y:cz):Prop:=∀a b,rT (y.ck a b)
theorem Em(b:BX y)(c:Xt)(a:Ev):BX (gN c y a).1:=λd e=>by
 unfold gN;simp only;split
 .simp
 exact b d e
theorem wY(c:Xt):∀(a:Xq Ev)(y:cz),BX y->BX (tell c y a).1
 |[],y,b=>b
 |d::a,y,b=>by unfold tell;exact wY c a _ (Em b c d)
theorem sZ(b:Xt):∀(a:Xq Ev)(y:cz),(tell b y a).1.tree=y.tree
 |[],y=>rfl
 |c::a,y=>by unfold tell;exact sZ b a _
end Wt
namespace Go.SimW
open Go.Conc
open Go.ConcR (KK wgBlock WgAt stA smA rd wr mk DC0)
open Go.ConcN (WgLive)
variable{c:XD}
def RL(b:XA)(a:E)(c d:K):Prop:=WgLive b a c->WgLive b a d
theorem RL.refl{b:XA}{a:E}(c:K):RL b a c c:=id
theorem RL.trans{b:XA}{a:E}(d e f:K)(g:RL b a d e)(h:RL b a e f):RL b a d f:=λi=>h (g i)
section
variable(P:XI)(b:XA)(a:E)
def Wm(c:XD)(d:K):Prop:=
 c.status=.running/\mayWake P c=J/\(WgAt b a d 0 0->∃e,stepG P Xp c d=.go e (d.setCell (smA a) (.int .u32 1)) (semEvents (smA a))/\∃f,QuitsD P f 1 e)
def Wl(c:XD)(d:K):Prop:=
 c.status=.running/\(WgAt b a d 1 0->∃e,stepG P Xp c d=.go e (d.setCell (stA a) (.int .u64 0)) #[wr (stA a)]/\∃f,Goes P Xp (RL b a) DC0 (Wm P b a) f e (d.setCell (stA a) (.int .u64 0)))
def Wk(c:XD)(d:K):Prop:=
 c.status=.running/\(WgAt b a d 1 0->∃e,stepG P Xp c d=.go e d #[rd (stA a)]/\∃f,Goes P Xp (RL b a) DC0 (Wl P b a) f e d)
def Wj(c:XD)(f:K):Prop:=
 c.status=.running/\∀d e:E,e<=1->d<2147483647->WgAt b a f ((d+1)*KK+e) 0->
  ∃g,stepG P Xp c f=.go g (f.setCell (stA a) (.int .u64 (d*KK+e))) #[rd (stA a),wr (stA a)]/\
   ((d=0/\e=1)->∃h,Goes P Xp (RL b a) DC0 (Wk P b a) h g (f.setCell (stA a) (.int .u64 (d*KK+e))))/\(¬(d=0/\e=1)->∃i,QuitsD P i 1 g)
def Wn(c:XD)(d:K):Prop:=
 c.status=.running/\∃e,stepG P Xp c d=.go e d #[mk .disable]/\∃f,Goes P Xp (RL b a) DC0 (Wj P b a) f e d
def Vh(c:XD)(d:K):Prop:=
 c.status=.running/\∃e,stepG P Xp c d=.go e d #[mk (.releaseMerge (stA a))]/\∃f,Goes P Xp (RL b a) DC0 (Wn P b a) f e d
def QX:E->XD->K->Prop
 |0=>Vh P b a
 |1=>Wn P b a
 |2=>Wj P b a
 |3=>Wk P b a
 |4=>Wl P b a
 |_=>Wm P b a
end
theorem QX.running{P:XI}{b:XA}{a:E}:∀{e:E}{c:XD}{f:K},QX P b a e c f->c.status=.running
 |0,_,_,d=>d.1
 |1,_,_,d=>d.1
 |2,_,_,d=>d.1
 |3,_,_,d=>d.1
 |4,_,_,d=>d.1
 |_+5,_,_,d=>d.1
theorem qJ{P:XI}{b:XA}{a g f:E}{e:K}(d:Goes P Xp (RL b a) DC0 (QX P b a g) f c e):c.status=.running:=by
 cases f with
 |zero=>exact(d e (RL.refl e)).running
 |succ f=>
  rcases d with d|⟨d,_⟩
  .exact(d e (RL.refl e)).running
  exact d
end Go.SimW
namespace Go.SimW
open Go.Conc Go.RowKit Go.Conc.Lib Go.ConcR.Gen Go.ConcN.Gen
open Go.ConcR (KK wgBlock WgAt stA smA rd wr mk DC0)
open Go.ConcN (WgLive)
open Go.ConcN
variable{P:XI}{d:Xq XC}{l:XV}{q:XR}{S:XR}{s:XD}{p:Oper}
section
theorem WgLive.Vt{i:XA}{f:E}{a:K}(b:WgLive i f a):∃c,a.cell? ⟨f,0,F⟩=C c:=let ⟨_,_,q⟩:=b;⟨_,q.cellSt⟩
theorem WgLive.Vp{i:XA}{f:E}{a:K}(b:WgLive i f a):∃c,a.cell? ⟨f,1,F⟩=C c:=let ⟨_,_,q⟩:=b;⟨_,q.cellSm⟩
variable{L:WgLink}
def kS(b:XC)(a:XF)(r:Xq Item):XC:={b.at a r with mode:=.returning}
section
variable{b:XC}{a:XF}{h r:Xq Item}{e k:E}{D:Xu Oper}{m:E}{n:Xq E}
theorem UH(c:QuitsD P e k (G (b.at a (XE D (m::n)::h)) d)):QuitsD P e k (G (b.at a (XE D (m::n)::h)) d):=c
theorem Tf(c:QuitsD P e k (G (b.at a (.code (.cond l q S)::h)) d)):QuitsD P e k (G (b.at a (.code (.cond l q S)::h)) d):=c
theorem Qt{id:E}(c:QuitsD P e k (G (b.at a (.code (.exit id)::h)) d)):QuitsD P e k (G (b.at a (.code (.exit id)::h)) d):=c
theorem Tj(c:QuitsD P e k (G (kS b a r) d)):QuitsD P e k (G (kS b a r) d):=c
theorem Og(c:QuitsD P e k (G (b.at a h) d)):QuitsD P (e+1) k (G (b.at a (XE D []::h)) d):=.ctl A (λ_=>aaM) c
theorem Tk(c:QuitsD P e k (G (b.at a (.code q::.code S::h)) d)):QuitsD P (e+1) k (G (b.at a (.code (.seq q S)::h)) d):=.ctl A (λ_=>stepG_seq) c
theorem Qv(c:QuitsD P e k (G (b.at a h) d)):QuitsD P (e+1) k (G (b.at a (.code .skip::h)) d):=.ctl A (λ_=>stepG_skip) c
theorem Qu(c:QuitsD P e k (G (kS b a (.code .ret::h)) d)):QuitsD P (e+1) k (G (b.at a (.code .ret::h)) d):=.ctl A (λ_=>stepG_ret') c
theorem Oh(c:QuitsD P e k (G (kS b a []) d)):QuitsD P (e+1) k (G (b.at a []) d):=.ctl A (λ_=>stepG_end) c
theorem Th{l:XR}(c:QuitsD P e k (G (b.at a (.code l::.inLoop l::h)) d)):QuitsD P (e+1) k (G (b.at a (.inLoop l::h)) d):=.ctl A (λ_=>stepG_inLoop) c
theorem Tg{id:E}(c:QuitsD P e k (G (b.at a h) d)):QuitsD P (e+1) k (G (b.at a (.inBlock id::h)) d):=.ctl A (λ_=>stepG_inBlock) c
theorem zc{fn:Func}{f:XC}{c:XF}{g:Tmp}(l:b.kind=.normal)(hd:a.defers=[])(i:P.funcs[b.fn]?=C fn)(p:fn.results=#[.tmp g])
 (o:QuitsD P e k (G (f.at (c.put ((D[m]?).bind (·.dst)) (a.tmps.getD g I)) (XE D n::h)) d)):QuitsD P (e+1) k (G (kS b a r) (f.at c (XE D (m::n)::h)::d)):=QuitsD.leave1 l hd i p o
theorem sR{fn:Func}{f:XC}{c:XF}(i:b.kind=.normal)(hd:a.defers=[])(g:P.funcs[b.fn]?=C fn)(o:fn.results=#[])
 (l:QuitsD P e k (G (f.at (c.put ((D[m]?).bind (·.dst)) (.tuple #[])) (XE D n::h)) d)):QuitsD P (e+1) k (G (kS b a r) (f.at c (XE D (m::n)::h)::d)):=QuitsD.leave0 i hd g o l
theorem Kx{L:WgLink}{c:Xq Deferred}(f:WgLib P L)(hd:a.defers=dcall L.enable #[]::c)(g:QuitsD P e 0 (G (kS b ⟨a.tmps,c⟩ r) d)):QuitsD P (e+1) 1 (G (kS b a r) d):=
 QuitsD.unwind_mark .enable A (by simp) hd f.f_enable (x_enable_n L) (x_enable_b L) (x_enable_x L) (x_enable_f L) g
theorem Ti{id:E}(c:QuitsD P e k (G (b.at a (XE D (Xq.range D.size)::h)) d)):QuitsD P (e+1) k (G (b.at a (.code (.region id D Xp)::h)) d):=.ctl A (λ_=>stepG_region) c
def GL(P:XI)(main:Xy)(i:XA)(f:E)(Stop:XD->K->Prop)(b:E)(s:XD):Prop:=∀a,WgLive i f a->Goes P main (RL i f) DC0 Stop b s a
variable{main:Xy}{i:XA}{f:E}{Stop:XD->K->Prop}
theorem ew{g:XD}(x:s.status=.running)(v:∀c,WgLive i f c->stepG P main s c=.go g c)(w:GL P main i f Stop e g):GL P main i f Stop (e+1) s:=
 λc o=>Goes.step x λu t=>by rw[v u (t o)];exact⟨⟨A,A⟩,w u (t o)⟩
theorem lR(b:∀a,WgLive i f a->Stop s a):GL P main i f Stop e s:=λa c=>Goes.stop λg d=>b g (d c)
theorem Ib(c:GL P main i f Stop e (G (b.at a (XE D (m::n)::h)) d)):GL P main i f Stop e (G (b.at a (XE D (m::n)::h)) d):=c
theorem Ad(c:GL P main i f Stop e (G (b.at a (.code (.cond l q S)::h)) d)):GL P main i f Stop e (G (b.at a (.code (.cond l q S)::h)) d):=c
theorem qI(g:a.eval l=.bool J)(c:GL P main i f Stop e (G (b.at a (.code q::h)) d)):GL P main i f Stop (e+1) (G (b.at a (.code (.cond l q S)::h)) d):=ew A (λ_ _=>aaY g) c
theorem qH(g:a.eval l=.bool Xp)(c:GL P main i f Stop e (G (b.at a (.code S::h)) d)):GL P main i f Stop (e+1) (G (b.at a (.code (.cond l q S)::h)) d):=ew A (λ_ _=>aaY g) c
theorem Of(f:a.eval l=.bool J)(c:QuitsD P e k (G (b.at a (.code q::h)) d)):QuitsD P (e+1) k (G (b.at a (.code (.cond l q S)::h)) d):=.ctl A (λ_=>aaY f) c
theorem Oe(f:a.eval l=.bool Xp)(c:QuitsD P e k (G (b.at a (.code S::h)) d)):QuitsD P (e+1) k (G (b.at a (.code (.cond l q S)::h)) d):=.ctl A (λ_=>aaY f) c
theorem FN(c:GL P main i f Stop e (G (kS b a r) d)):GL P main i f Stop e (G (kS b a r) d):=c
theorem vP(c:GL P main i f Stop e (G (b.at a h) d)):GL P main i f Stop (e+1) (G (b.at a (XE D []::h)) d):=ew A (λ_ _=>aaM) c
theorem Ah(c:GL P main i f Stop e (G (b.at a (.code q::.code S::h)) d)):GL P main i f Stop (e+1) (G (b.at a (.code (.seq q S)::h)) d):=ew A (λ_ _=>stepG_seq) c
theorem uE(c:GL P main i f Stop e (G (b.at a h) d)):GL P main i f Stop (e+1) (G (b.at a (.code .skip::h)) d):=ew A (λ_ _=>stepG_skip) c
theorem Ag(c:GL P main i f Stop e (G (kS b a (.code .ret::h)) d)):GL P main i f Stop (e+1) (G (b.at a (.code .ret::h)) d):=ew A (λ_ _=>stepG_ret') c
theorem FL(c:GL P main i f Stop e (G (kS b a []) d)):GL P main i f Stop (e+1) (G (b.at a []) d):=ew A (λ_ _=>stepG_end) c
theorem vO{id:E}{l:XR}(c:GL P main i f Stop e (G (b.at a (.code l::.inBlock id::h)) d)):GL P main i f Stop (e+1) (G (b.at a (.code (.block id l)::h)) d):=ew A (λ_ _=>stepG_block) c
theorem Af{l:XR}(c:GL P main i f Stop e (G (b.at a (.code l::.inLoop l::h)) d)):GL P main i f Stop (e+1) (G (b.at a (.code (.loop l)::h)) d):=ew A (λ_ _=>stepG_loop) c
theorem FM{l:XR}(c:GL P main i f Stop e (G (b.at a (.code l::.inLoop l::h)) d)):GL P main i f Stop (e+1) (G (b.at a (.inLoop l::h)) d):=ew A (λ_ _=>stepG_inLoop) c
theorem Ae{id:E}(c:GL P main i f Stop e (G (b.at a h) d)):GL P main i f Stop (e+1) (G (b.at a (.inBlock id::h)) d):=ew A (λ_ _=>stepG_inBlock) c
theorem vQ{id:E}(c:GL P main i f Stop e (G (b.at a (XE D (Xq.range D.size)::h)) d)):GL P main i f Stop (e+1) (G (b.at a (.code (.region id D Xp)::h)) d):=ew A (λ_ _=>stepG_region) c
theorem lS(k:Xn)(r:D[m]?=C p)(t:Region.wanted p (yielded D a.tmps)=J)(q:b.kind≠.early)
 (s:∀c,WgLive i f c->(execOp a.eval p).run P c=.ok (.value k) c)(o:∀c,WgLive i f c->(execOp a.eval p).events P c #[]=#[])
 (l:GL P main i f Stop e (G (b.at (a.put p.dst k) (XE D n::h)) d)):GL P main i f Stop (e+1) (G (b.at a (XE D (m::n)::h)) d):=
 ew A (λc g=>by rw[stepG_value r t q (s c g)];unfold listed;rw[o c g,seen_none]) l
theorem Ai(g:D[m]?=C p)(k:Region.wanted p (yielded D a.tmps)=Xp)(c:GL P main i f Stop e (G (b.at (a.put p.dst I) (XE D n::h)) d)):GL P main i f Stop (e+1) (G (b.at a (XE D (m::n)::h)) d):=
 ew A (λ_ _=>stepG_unwanted g k) c
theorem eL{fn:Func}{g:XC}{c:XF}{l:Tmp}(p:b.kind=.normal)(hd:a.defers=[])(o:P.funcs[b.fn]?=C fn)(k:fn.results=#[.tmp l])
 (q:GL P main i f Stop e (G (g.at (c.put ((D[m]?).bind (·.dst)) (a.tmps.getD l I)) (XE D n::h)) d)):GL P main i f Stop (e+1) (G (kS b a r) (g.at c (XE D (m::n)::h)::d)):=
 ew A (λs _=>by rw[kS,stepG_leave p hd o (results_tmp k _ P s) (events_results_tmp k _ _),YV]) q
theorem dQ{fn:Func}{g:XC}{c:XF}(o:b.kind=.normal)(hd:a.defers=[])(l:P.funcs[b.fn]?=C fn)(k:fn.results=#[])
 (p:GL P main i f Stop e (G (g.at (c.put ((D[m]?).bind (·.dst)) (.tuple #[])) (XE D n::h)) d)):GL P main i f Stop (e+1) (G (kS b a r) (g.at c (XE D (m::n)::h)::d)):=
 ew A (λq _=>by rw[kS,stepG_leave o hd l (aaZ k _ P q) (events_results_none k _ _),YV]) p
theorem gB{fn:Func}{g:XU}{c:Xu XV}{l:Xu XA}{k:XR}(u:D[m]?=C p)(w:Region.wanted p (yielded D a.tmps)=J)(s:b.kind≠.early)(v:p.op=.call {callee:=.value (.func g),args:=c,argTypes:=l})
 (r:P.funcs[g]?=C fn)(t:(fn.name== "runtime.NumGoroutine")=Xp)(q:fn.body=C k)
 (o:GL P main i f Stop e (G ((base g).at ⟨c.map a.eval++Array.replicate (fn.ntmps-(c.map a.eval).size) I,[]⟩ [.code k]) (b.at a (XE D (m::n)::h)::d))):GL P main i f Stop (e+1) (G (b.at a (XE D (m::n)::h)) d):=
 λQ x=>Goes.step A λz y=>goes_call u w s v r t q ⟨⟨A,A⟩,o z (y x)⟩
theorem CN{g:XU}{c:Xu XV}{k:Xu XA}(q:D[m]?=C p)(s:Region.wanted p (yielded D a.tmps)=J)(o:b.kind≠.early)(r:p.op=.defer {callee:=.value (.func g),args:=c,argTypes:=k})
 (l:GL P main i f Stop e (G (b.at ({a with defers:=dcall g (c.map a.eval)::a.defers}.put p.dst I) (XE D n::h)) d)):GL P main i f Stop (e+1) (G (b.at a (XE D (m::n)::h)) d):=
 ew A (λx _=>stepG_defer q s o r) l
theorem Ac(c:WgLib P L){g:Xu XV}{k:Xu XA}(q:D[m]?=C p)(s:Region.wanted p (yielded D a.tmps)=J)(o:b.kind≠.early)(r:p.op=.call {callee:=.value (.func L.inBubble),args:=g,argTypes:=k})
 (l:GL P main i f Stop e (G (b.at (a.put p.dst (.bool Xp)) (XE D n::h)) d)):GL P main i f Stop (e+1) (G (b.at a (XE D (m::n)::h)) d):=
 ew A (λw _=>stepG_entry_pure (.bool Xp) q s o r c.f_inBubble (x_inBubble_n L) (x_inBubble_b L) (x_inBubble_x L) (x_inBubble_f L)) l
end
theorem Lf{P:XI}(H:WgLib P L){f:E}{q:XC}{p:XF}{o:Xu Oper}{r:E}{t:Xq E}{s:Xq Item}{d:Xq XC}{k:E}
 (y:QuitsD P k 0 (G (q.at (p.put ((o[r]?).bind (·.dst)) (.tuple #[])) (XE o t::s)) d)):
 GL P Xp L.tWg f (Vh P L.tWg f) 20 (G ((base L.add).at ⟨#[XK (C ⟨f,0,F⟩),Xo M (-1),I,I,I,I,I,I,I,I,I,I,I,I,I,I,I,I,I,I,I,I,I,I,I,I,I,I,I,I,I,I,I,I,I,I,I,I,I,I,I,I,I,I,I,I,I,I,I,I,I,I,I,I,I,I,I,I,I,I,I,I,I,I,I,I,I,I,I,I,I,I,I,I,I,I,I,I,I,I,I,I,I,I,I,I,I,I,I,I,I,I,I,I,I,I,I,I,I,I,I,I,I,I,I,I,I,I,I,I,I,I,I,I,I,I,I],[]⟩ [.code (body_add L)]) (q.at p (XE o (r::t)::s)::d)):=by
 lib_facts
 simp only[body_add,addFn,ZK]
 repeat' (first
  |with_reducible (first|refine vP ?_|refine Ah ?_|refine uE ?_|refine Ag ?_|refine FL ?_|refine FM ?_|refine Ae ?_|refine vO ?_|refine Af ?_|refine Og ?_|refine Tk ?_|refine Qv ?_|refine Qu ?_|refine Oh ?_|refine Th ?_|refine Tg ?_)
  |((with_reducible refine Ib ?_);first|(refine Ai rfl rfl ?_;walk_nrm)|(refine lS _ rfl rfl (by k_ne) (λ_ _=>by go_simp;(try w_num);rfl) (λ_ _=>by simp[go_sem, *]) ?_;walk_nrm)|((first|refine Ac H rfl rfl (by k_ne) rfl ?_|refine CN rfl rfl (by k_ne) rfl ?_);walk_nrm)|(refine gB rfl rfl (by k_ne) rfl H.f_uAdd (nm_uAdd L) rfl ?_;walk_nrmf uAddFn)|(refine gB rfl rfl (by k_ne) rfl H.f_uLoad (nm_uLoad L) rfl ?_;walk_nrmf uLoadFn)|(refine gB rfl rfl (by k_ne) rfl H.f_uStore (nm_uStore L) rfl ?_;walk_nrmf uStoreFn)|(refine gB rfl rfl (by k_ne) rfl H.f_uCas (nm_uCas L) rfl ?_;walk_nrmf uCasFn)|(refine lS (XK (C ⟨f,0,F⟩)) rfl rfl (by k_ne) (λW a=>by have Z:=x_ (P:=P) H.underlying_tWgP H.underlying_tUP H.room_tWg (WgLive.Vt a).choose_spec;(first|(go_simp;done)|fail)) (λW a=>by have z:=λx=>o_ (P:=P) H.underlying_tWgP H.underlying_tUP H.room_tWg (WgLive.Vt a).choose_spec x;(first|(simp[go_sem,z];done)|fail)) ?_;walk_nrm))
  |((with_reducible refine UH ?_);(first|refine QuitsD.unwanted rfl rfl ?_|refine QuitsD.value _ rfl rfl (by k_ne) (λ_=>by go_simp;(first|(try w_num);rfl|(simp only[G',aaN,aaO,D,N,O,u,Q,R,S,T,U,Xt.reduceMod,Xt.reduceDiv,Xt.reducePow,abz,abA];rfl))) (λ_=>by simp[go_sem, *]) ?_);walk_nrm)
  |((with_reducible (first|refine vQ ?_|refine Ti ?_));simp only[YF,Yv,Zp,E.reduceAdd,Zz,Xq.range,Xq.range.loop])
  |((with_reducible (first|refine Ad ?_|refine Tf ?_));first|refine qI rfl ?_|refine qH rfl ?_|refine Of rfl ?_|refine Oe rfl ?_)
  |((with_reducible refine Y ?_);refine X rfl ?_)
  |((with_reducible refine Qt ?_);q_exit)
  |((with_reducible refine FN ?_);(first|refine eL rfl rfl H.f_uAdd rfl ?_|refine dQ rfl rfl H.f_uAdd rfl ?_|refine eL rfl rfl H.f_uLoad rfl ?_|refine dQ rfl rfl H.f_uLoad rfl ?_|refine eL rfl rfl H.f_uStore rfl ?_|refine dQ rfl rfl H.f_uStore rfl ?_|refine eL rfl rfl H.f_uCas rfl ?_|refine dQ rfl rfl H.f_uCas rfl ?_);walk_nrm)
  |((with_reducible refine Tj ?_);first|(refine Kx H rfl ?_)|((first|refine zc rfl rfl H.f_uAdd rfl ?_|refine sR rfl rfl H.f_uAdd rfl ?_|refine zc rfl rfl H.f_uStore rfl ?_|refine sR rfl rfl H.f_uStore rfl ?_);walk_nrm)|(refine sR rfl rfl H.f_add rfl ?_;exact y))
  |(refine lR λl e=>?_
    first
    |(first|refine⟨rfl,_,aa0 .releaseMerge (by simp) rfl rfl (by k_ne) rfl H.f_relMerge (x_relMerge_n L) (x_relMerge_b L) (x_relMerge_x L) (x_relMerge_f L) (by first|(simp[Act.eval,stA];done)|fail),10,?_⟩|refine⟨rfl,_,abl .disable (by simp) rfl rfl (by k_ne) rfl H.f_disable (x_disable_n L) (x_disable_b L) (x_disable_x L) (x_disable_f L),90,?_⟩|refine⟨rfl,λa=>⟨_,Q_ (v:=1) A rfl (by k_ne) A H.f_loadU64 (x_loadU64_n L) (x_loadU64_b L) (x_loadU64_x L) .u64 (x_loadU64_f L) A a.cellSt,120,?_⟩⟩
      walk_nrm
      refine(?_:GL _ _ _ _ _ _ _) _ e)
    |(refine⟨rfl,λa=>⟨_,stepG_store_atomic A rfl (by k_ne) A H.f_storeU64 (x_storeU64_n L) (x_storeU64_b L) (x_storeU64_x L) (x_storeU64_f L) A rfl a.cellSt (a.thaw 0),50,?_⟩⟩
      have e:WgLive L.tWg f (l.setCell (stA f) (.int .u64 0)):=⟨_,_,a.setSt 0⟩;clear a;walk_nrm
      refine(?_:GL _ _ _ _ _ _ _) _ e)
    |(refine⟨rfl,mayWake_entry rfl rfl H.f_semrelease (x_semrelease_b L),λa=>⟨_,(stepG_semrelease A rfl (by k_ne) A H.f_semrelease (x_semrelease_n L) (x_semrelease_b L) (x_semrelease_x L) (x_semrelease_f L) (by simp[Act.eval,smA]) a.cellSm (a.thaw 1)).trans (by rfl),k+19,?_⟩⟩
      clear a
      walk_nrm)
    |(clear e
      refine⟨rfl,λb c a2 a0 a=>?_⟩;rcases Yp b with rfl|a1
      rw[show((0:E):Xt)*KK+(c:Xt)=c by simp];have v:IntKind.u64.wrap (KK+18446744069414584320)=0:=by decide
      have w:IntKind.u64.wrap (KK+1+18446744069414584320)=1:=by decide
      obtain rfl|rfl:c=0\/c=1:=by omega
      replace a:WgAt L.tWg f l KK 0:=by simpa using a
      refine⟨_,(G_ A rfl (by k_ne) A H.f_addU64 (x_addU64_n L) (x_addU64_b L) (x_addU64_x L) .u64 (x_addU64_f L) A rfl a.cellSt (a.thaw 0)).trans (by rw[v];rfl),λi=>absurd i.2 (by decide),λ_=>⟨k+89,?_⟩⟩;clear a;walk_nrm
      rotate_left
      replace a:WgAt L.tWg f l (KK+1) 0:=by simpa using a
      refine⟨_,(G_ A rfl (by k_ne) A H.f_addU64 (x_addU64_n L) (x_addU64_b L) (x_addU64_x L) .u64 (x_addU64_f L) A rfl a.cellSt (a.thaw 0)).trans (by rw[w];rfl),λ_=>⟨120,?_⟩,λi=>absurd ⟨A,A⟩ i⟩;have e:WgLive L.tWg f (l.setCell (stA f) (.int .u64 1)):=⟨_,_,a.setSt 1⟩;clear a;walk_nrm;refine(?_:GL _ _ _ _ _ _ _) _ e
      rotate_left
      have m:IntKind.u64.wrap (((b:E)+1)*KK+c+18446744069414584320)=(b:Xt)*KK+c:=by rw[G'];simp only[KK];omega
      obtain⟨g,h⟩:∃g:Xt,g=(b:Xt)*KK+c:=⟨_,A⟩;rw[<-h]at m⊢
      have D:g/4294967296=(b:Xt):=by rw[h];simp only[KK];omega
      have N:(b:Xt)%4294967296=b:=by omega
      have O:bits .and .u64 g 2147483648=0:=by rw[h];have:=st_flag b c (by omega) (by omega);simpa[KK]using this
      have u:bits .and .u64 g 2147483647=c:=by rw[h];have:=st_waiters b c (by omega) (by omega);simpa[KK]using this
      have Q:decide ((b:Xt)<0)=Xp:=by simp
      have R:decide (0<(b:Xt))=J:=by simp;omega
      have S:(b:Xt)-0=b:=by omega
      have T:(b:Xt)≠0:=by omega
      have U:((b:Xt)+2147483648)%4294967296-2147483648=b:=by omega
      clear h;refine⟨_,(G_ A rfl (by k_ne) A H.f_addU64 (x_addU64_n L) (x_addU64_b L) (x_addU64_x L) .u64 (x_addU64_f L) A rfl a.cellSt (a.thaw 0)).trans (by rw[m];rfl),λi=>absurd i.1 (by omega),λ_=>⟨k+89,?_⟩⟩;clear a m
      rcases(by omega:(c:Xt)=0\/(c:Xt)=1)with n|n<;>(rw[n]at u;clear n;walk_nrm))))
theorem QM(H:WgLib P L){f:E}{l:XC}{g:E}(t:l.mode=.returning)(o:QuitsD P g 0 (G l d)):
 GL P Xp L.tWg f (Vh P L.tWg f) 23 (G ((baseD L.done).at ⟨#[XK (C ⟨f,0,F⟩),I,I,I],[]⟩ [.code (body_done L)]) (l::d)):=by
 lib_facts
 have c:=@Lf L P H f;simp only[body_done,body_add,doneFn,addFn,ZK]at c⊢
 refine vQ ?_;simp only[YF,Yv,Zp,E.reduceAdd,Zz,Xq.range,Xq.range.loop];refine lS _ A rfl (by k_ne) (λ_ _=>by go_simp;rfl) (λ_ _=>by simp[go_sem, *]) ?_;walk_nrm;refine gB A rfl (by k_ne) A H.f_add (nm_add L) A ?_
 walk_nrmf addFn
 refine c (?_:QuitsD P (g+3) 0 _);refine Og ?_;refine Oh ?_;exact QuitsD.leaveD A rfl H.f_done A t o
end
section
variable{L:WgLink}
def GT(P:XI)(main:Xy)(Stop:XD->K->Prop)(b:E)(a:XD):Prop:=∀c,Goes P main (λ_ _=>True) DC0 Stop b a c
section
variable(P:XI)(b:XA)(a:E)(c:XD)(e:XD->K->Prop)
def Vv(a:XD)(b:K):Prop:=a=c
def Vu(e:XD)(d:K):Prop:=e.status=.running/\∃f,stepG P J e d=.go f d #[mk .enable]/\∃g,Goes P J (RL b a) DC0 (Vv c) g f d
def WU(e:XD)(d:K):Prop:=e.status=.running/\∃f,stepG P J e d=.go f d #[mk (.read (smA a))]/\∃g,Goes P J (RL b a) DC0 (Vu P b a c) g f d
def WT(h:XD)(e:K):Prop:=
 h.status=.running/\∀d:E,d<2147483647->WgAt b a e (d*KK) 0->∃f,stepG P J h e=.go f (e.setCell (stA a) (.int .u64 ((d+1)*KK))) #[rd (stA a),wr (stA a)]/\
  (d=0->∃g,Goes P J (RL b a) DC0 (WU P b a c) g f (e.setCell (stA a) (.int .u64 ((d+1)*KK))))/\(d≠0->∃g,Goes P J (RL b a) DC0 (Vu P b a c) g f (e.setCell (stA a) (.int .u64 ((d+1)*KK))))
def Wi(e:XD)(d:K):Prop:=e.status=.running/\∃f,stepG P J e d=.go f d #[mk .disable]/\∃g,Goes P J (RL b a) DC0 (WT P b a c) g f d
def Ww(b:XD)(e:K):Prop:=b.status=.running/\∃d,stepG P J b e=.go d e #[mk (.acquire (stA a))]/\∃f,GT P J (Vv c) f d
def Vz(e:XD)(d:K):Prop:=e.status=.running/\∃f,stepG P J e d=.go f d #[mk .enable]/\∃g,Goes P J (RL b a) DC0 (Ww P a c) g f d
def Wv(e:XD)(d:K):Prop:=e.status=.running/\(WgAt b a d 0 0->∃f,stepG P J e d=.go f d #[rd (stA a)]/\∃g,Goes P J (RL b a) DC0 (Vz P b a c) g f d)
def Vy(e:XD)(d:K):Prop:=
 e.status=.running/\e.offers=F/\((∃h,WgAt b a d h 0)->stepG P J e d=.go {e with status:=.blocked} d #[])/\
  (WgAt b a d 0 1->∃f,stepG P J e d=.go f (d.setCell (smA a) (.int .u32 0)) (semEvents (smA a))/\∃g,Goes P J (RL b a) DC0 (Wv P b a c) g f (d.setCell (smA a) (.int .u32 0)))
def Xa(e:XD)(d:K):Prop:=e.status=.running/\∃f,stepG P J e d=.go f d #[mk (.write (smA a))]/\∃g,Goes P J (RL b a) DC0 (λe d=>∀d,WgLive b a d->Vy P b a c e d) g f d
def WZ(k:E)(h:XD)(d:K):Prop:=
 h.status=.running/\∀f:E,f<2147483648->WgAt b a d (f*KK) 0->
  (f=k->∃g,stepG P J h d=.go g (d.setCell (stA a) (.int .u64 (f*KK+1))) #[rd (stA a),wr (stA a)]/\∃i,Goes P J (RL b a) DC0 (Xa P b a c) i g (d.setCell (stA a) (.int .u64 (f*KK+1))))/\
  (f≠k->∃g,stepG P J h d=.go g d #[rd (stA a)]/\∃i,Goes P J (RL b a) DC0 e i g d)
def Wu(i:XD)(f:K):Prop:=
 i.status=.running/\∀d:E,d<2147483648->WgAt b a f (d*KK) 0->∃g,stepG P J i f=.go g f #[rd (stA a)]/\
  (d=0->∃h,Goes P J (RL b a) DC0 (Vz P b a c) h g f)/\(d≠0->∃h,Goes P J (RL b a) DC0 (WZ P b a c e d) h g f)
def Ws(d:XD)(c:K):Prop:=d.status=.running/\∃f,stepG P J d c=.go f c #[mk .disable]/\∃g,Goes P J (RL b a) DC0 e g f c
end
variable{P:XI}{a:E}{h:XC}{g:XF}{f:Xu Oper}{i:E}{l:Xq E}{k:Xq Item}{c:XD}
theorem Lb{main:Xy}(h:WgLib P L){b:XC}{a:XF}{f:Xq Item}{c:Xq Deferred}(hd:a.defers=dcall L.enable #[]::c)(g:K):
 stepG P main (G (kS b a f) d) g=.go (G (kS b ⟨a.tmps,c⟩ f) d) g #[mk .enable]:=
 stepG_unwind_entry (v:=.tuple #[]) hd h.f_enable (x_enable_n L) (x_enable_b L) (x_enable_x L) (x_enable_f L) (by simp[Extern.Race.none_]) (by simp[mk]) (by
  intro m e;simp[mk]at e;subst e
  exact⟨A,λk i=>by cases i⟩)
theorem TF(H:WgLib P L)(y:G (h.at (g.put ((f[i]?).bind (·.dst)) (.tuple #[])) (XE f l::k)) d=c):
 GL P J L.tWg a (Wi P L.tWg a c) 20 (G ((base L.add).at ⟨#[XK (C ⟨a,0,F⟩),Xo M (1),I,I,I,I,I,I,I,I,I,I,I,I,I,I,I,I,I,I,I,I,I,I,I,I,I,I,I,I,I,I,I,I,I,I,I,I,I,I,I,I,I,I,I,I,I,I,I,I,I,I,I,I,I,I,I,I,I,I,I,I,I,I,I,I,I,I,I,I,I,I,I,I,I,I,I,I,I,I,I,I,I,I,I,I,I,I,I,I,I,I,I,I,I,I,I,I,I,I,I,I,I,I,I,I,I,I,I,I,I,I,I,I,I,I,I],[]⟩ [.code (body_add L)]) (h.at g (XE f (i::l)::k)::d)):=by
 lib_facts
 simp only[body_add,addFn,ZK]
 repeat' (first
  |with_reducible (first|refine vP ?_|refine Ah ?_|refine uE ?_|refine Ag ?_|refine FL ?_|refine FM ?_|refine Ae ?_|refine vO ?_|refine Af ?_)
  |((with_reducible refine Ib ?_);first|(refine gB rfl rfl (by k_ne) rfl H.f_uAdd (nm_uAdd L) rfl ?_;walk_nrmf uAddFn)|(refine gB rfl rfl (by k_ne) rfl H.f_uLoad (nm_uLoad L) rfl ?_;walk_nrmf uLoadFn)|(refine gB rfl rfl (by k_ne) rfl H.f_uStore (nm_uStore L) rfl ?_;walk_nrmf uStoreFn)|(refine gB rfl rfl (by k_ne) rfl H.f_uCas (nm_uCas L) rfl ?_;walk_nrmf uCasFn)|((first|refine Ai rfl rfl ?_|refine Ac H rfl rfl (by k_ne) rfl ?_|refine CN rfl rfl (by k_ne) rfl ?_|refine lS _ rfl rfl (by k_ne) (λ_ _=>by go_simp;(first|(try w_num);rfl|(simp only[G',aaN,aaO,z,D,N,O,Q,R,S,T,U,Xt.reduceMod,Xt.reduceDiv,Xt.reducePow,abz,abA];rfl))) (λ_ _=>by simp[go_sem, *]) ?_|refine lS (XK (C ⟨a,1,F⟩)) rfl rfl (by k_ne) (λu n=>by have Z:=x_ (P:=P) H.underlying_tPU32 H.underlying_tUP H.room_tU32 (WgLive.Vp n).choose_spec;(first|(go_simp;done)|fail)) (λu n=>by have x:=λw=>o_ (P:=P) H.underlying_tPU32 H.underlying_tUP H.room_tU32 (WgLive.Vp n).choose_spec w;(first|(simp[go_sem,x];done)|fail)) ?_);walk_nrm))
  |((with_reducible refine vQ ?_);simp only[YF,Yv,Zp,E.reduceAdd,Zz,Xq.range,Xq.range.loop])
  |((with_reducible refine Ad ?_);first|refine qI rfl ?_|refine qH rfl ?_)
  |((with_reducible refine Y ?_);refine X rfl ?_)
  |((with_reducible refine FN ?_);(first|refine eL rfl rfl H.f_uAdd rfl ?_|refine dQ rfl rfl H.f_uAdd rfl ?_|refine eL rfl rfl H.f_uLoad rfl ?_|refine dQ rfl rfl H.f_uLoad rfl ?_|refine eL rfl rfl H.f_uStore rfl ?_|refine dQ rfl rfl H.f_uStore rfl ?_|refine eL rfl rfl H.f_uCas rfl ?_|refine dQ rfl rfl H.f_uCas rfl ?_);walk_nrm)
  |(refine lR λt o=>?_
    first
    |((first|refine⟨rfl,_,abl .disable (by simp) rfl rfl (by k_ne) rfl H.f_disable (x_disable_n L) (x_disable_b L) (x_disable_x L) (x_disable_f L),90,?_⟩|refine⟨rfl,_,aa0 .read (by simp) rfl rfl (by k_ne) rfl H.f_raceRead (x_raceRead_n L) (x_raceRead_b L) (x_raceRead_x L) (x_raceRead_f L) (by first|(simp[Act.eval,smA];done)|fail),100,?_⟩)
      walk_nrm
      refine(?_:GL _ _ _ _ _ _ _) _ o)
    |(refine⟨rfl,_,Lb H rfl _,5,?_⟩
      refine(?_:GL _ _ _ _ _ _ _) _ o;refine dQ rfl rfl H.f_add rfl ?_
      exact lR λu o=>y)
    |(refine⟨rfl,λm a0 n=>?_⟩
      rcases Yp m with rfl|a1
      replace n:WgAt L.tWg a t 0 0:=by simpa using n
      have W:(((0:E):Xt)+1)*KK=KK:=by simp
      rw[W];have v:IntKind.u64.wrap (0+4294967296)=KK:=by decide
      refine⟨_,(G_ A rfl (by k_ne) A H.f_addU64 (x_addU64_n L) (x_addU64_b L) (x_addU64_x L) .u64 (x_addU64_f L) A rfl n.cellSt (n.thaw 0)).trans (by rw[v];rfl),λ_=>⟨110,?_⟩,λs=>absurd A s⟩;have o:WgLive L.tWg a (t.setCell (stA a) (.int .u64 KK)):=⟨_,_,n.setSt _⟩;clear n;refine(?_:GL _ _ _ _ _ _ _) _ o;simp only[KK];walk_nrm
      rotate_left
      have r:IntKind.u64.wrap ((m:Xt)*KK+4294967296)=((m:Xt)+1)*KK:=by rw[G'];simp only[KK];omega
      obtain⟨p,q⟩:∃p:Xt,((m:Xt)+1)*KK=p:=⟨_,A⟩;rw[q]at r⊢
      have z:p/4294967296=(m:Xt)+1:=by rw[<-q];simp only[KK];omega
      have D:((m:Xt)+1)%4294967296=m+1:=by omega
      have N:bits .and .u64 p 2147483648=0:=by rw[<-q];have:=st_flag (m+1) 0 (by omega) (by omega);simpa[KK]using this
      have O:bits .and .u64 p 2147483647=0:=by rw[<-q];have:=st_waiters (m+1) 0 (by omega) (by omega);simpa[KK]using this
      have Q:decide ((m:Xt)+1<0)=Xp:=by first|(simp;done)|(simp;omega)
      have R:decide (0<(m:Xt)+1)=J:=by first|(simp;done)|(simp;omega)
      have S:decide ((m:Xt)+1=1)=Xp:=by first|(simp;done)|(simp;omega)
      have T:(((m:Xt)+1)==1)=Xp:=by first|(simp;done)|(simp;omega)
      have U:((m:Xt)+1+2147483648)%4294967296-2147483648=m+1:=by omega
      refine⟨_,(G_ A rfl (by k_ne) A H.f_addU64 (x_addU64_n L) (x_addU64_b L) (x_addU64_x L) .u64 (x_addU64_f L) A rfl n.cellSt (n.thaw 0)).trans (by rw[r];rfl),λs=>absurd s (by omega),λ_=>⟨110,?_⟩⟩;have o:WgLive L.tWg a (t.setCell (stA a) (.int .u64 p)):=⟨_,_,n.setSt _⟩;clear n r q;refine(?_:GL _ _ _ _ _ _ _) _ o
      walk_nrm)))
end
variable{a:Xq XC}{i:XD}{v:XR}{q:XV}{n:Oper}
section
variable{L:WgLink}
def Ha(L:WgLink)(h:E)(q:XC)(a:Xq XC)(i:XD)(c:K):Prop:=
 ∃b:Xu Xn,i=G ((base L.wait).at ⟨b,[]⟩ [.code (L7 L),.inLoop (L7 L),.inBlock 0]) (q::a)/\b.size=84/\b[0]?=C (XK (C ⟨h,0,F⟩))
section
variable{e:XC}{d:XF}{f y:Xq Item}{b:E}{D:Xu Oper}{m:E}{p:Xq E}{main:Xy}{Stop:XD->K->Prop}
theorem lT{c:XD}(g:i.status=.running)(e:∀a,stepG P main i a=.go c a)(f:GT P main Stop b c):GT P main Stop (b+1) i:=
 λa=>Goes.step g λd _=>by rw[e d];exact⟨⟨A,A⟩,f d⟩
theorem PT(c:∀a,Stop i a):GT P main Stop b i:=λa=>Goes.stop λd _=>c d
theorem SA(c:GT P main Stop b (G (e.at d f) a)):GT P main Stop (b+1) (G (e.at d (XE D []::f)) a):=lT A (λ_=>aaM) c
theorem SC(c:GT P main Stop b (G (e.at d (.code v::.code S::f)) a)):GT P main Stop (b+1) (G (e.at d (.code (.seq v S)::f)) a):=lT A (λ_=>stepG_seq) c
theorem PS(c:GT P main Stop b (G (e.at d f) a)):GT P main Stop (b+1) (G (e.at d (.code .skip::f)) a):=lT A (λ_=>stepG_skip) c
theorem PR(c:GT P main Stop b (G (kS e d (.code .ret::f)) a)):GT P main Stop (b+1) (G (e.at d (.code .ret::f)) a):=lT A (λ_=>stepG_ret') c
theorem Ur(c:GT P main Stop b (G (e.at d (XE D (m::p)::f)) a)):GT P main Stop b (G (e.at d (XE D (m::p)::f)) a):=c
theorem Sz(c:GT P main Stop b (G (e.at d (.code (.cond q v S)::f)) a)):GT P main Stop b (G (e.at d (.code (.cond q v S)::f)) a):=c
theorem Na(g:d.eval q=.bool Xp)(c:GT P main Stop b (G (e.at d (.code S::f)) a)):GT P main Stop (b+1) (G (e.at d (.code (.cond q v S)::f)) a):=lT A (λ_=>aaY g) c
theorem SB{id:E}(c:GT P main Stop b (G (e.at d (XE D (Xq.range D.size)::f)) a)):GT P main Stop (b+1) (G (e.at d (.code (.region id D Xp)::f)) a):=lT A (λ_=>stepG_region) c
theorem SE(g:Xn)(l:D[m]?=C n)(q:Region.wanted n (yielded D d.tmps)=J)(k:e.kind≠.early)
 (o:∀c,(execOp d.eval n).run P c=.ok (.value g) c)(i:∀c,(execOp d.eval n).events P c #[]=#[])
 (h:GT P main Stop b (G (e.at (d.put n.dst g) (XE D p::f)) a)):GT P main Stop (b+1) (G (e.at d (XE D (m::p)::f)) a):=
 lT A (λc=>by rw[stepG_value l q k (o c)];unfold listed;rw[i c,seen_none]) h
theorem SD(g:D[m]?=C n)(h:Region.wanted n (yielded D d.tmps)=Xp)(c:GT P main Stop b (G (e.at (d.put n.dst I) (XE D p::f)) a)):GT P main Stop (b+1) (G (e.at d (XE D (m::p)::f)) a):=
 lT A (λ_=>stepG_unwanted g h) c
theorem JP{fn:Func}{l:XC}{k:XF}(h:e.kind=.normal)(hd:d.defers=[])(g:P.funcs[e.fn]?=C fn)(c:fn.results=#[])
 (i:GT P main Stop b (G (l.at (k.put ((D[m]?).bind (·.dst)) (.tuple #[])) (XE D p::f)) a)):GT P main Stop (b+1) (G (kS e d y) (l.at k (XE D (m::p)::f)::a)):=
 lT A (λn=>by rw[kS,stepG_leave h hd g (aaZ c _ P n) (events_results_none c _ _),YV]) i
end
variable{h:E}{l:XC}{k:XF}{r:Xu Oper}{s:E}{u:Xq E}{t:Xq Item}{w:XD}
theorem QN(H:WgLib P L):GL P J L.tWg h (Ws P L.tWg h (Ha L h (l.at k (XE r (s::u)::t)) a)) 6 (G ((base L.wait).at ⟨#[XK (C ⟨h,0,F⟩),I,I,I,I,I,I,I,I,I,I,I,I,I,I,I,I,I,I,I,I,I,I,I,I,I,I,I,I,I,I,I,I,I,I,I,I,I,I,I,I,I,I,I,I,I,I,I,I,I,I,I,I,I,I,I,I,I,I,I,I,I,I,I,I,I,I,I,I,I,I,I,I,I,I,I,I,I,I,I,I,I,I,I],[]⟩ [.code (body_wait L)]) (l.at k (XE r (s::u)::t)::a)):=by
 lib_facts
 simp only[body_wait,waitFn,ZK]
 repeat (first|with_reducible (first|refine vP ?_|refine Ah ?_|refine uE ?_|refine Ae ?_|refine vO ?_)|((with_reducible refine Ib ?_);(first|refine Ai rfl rfl ?_|refine lS _ rfl rfl (by k_ne) (λ_ _=>by go_simp;(try w_num);rfl) (λ_ _=>by simp[go_sem, *]) ?_|refine Ac H rfl rfl (by k_ne) rfl ?_);walk_nrm)|((with_reducible refine Ad ?_);first|refine qI rfl ?_|refine qH rfl ?_)|((with_reducible refine vQ ?_);simp only[YF,Yv,Zp,E.reduceAdd,Zz,Xq.range,Xq.range.loop]))
 refine lR λg c=>?_;refine⟨A,_,abl .disable (by simp) A rfl (by k_ne) A H.f_disable (x_disable_n L) (x_disable_b L) (x_disable_x L) (x_disable_f L),9,?_⟩;walk_nrm;refine(?_:GL _ _ _ _ _ _ _) _ c;refine vP ?_;refine vO ?_;refine Af ?_;exact lR λg c=>⟨_,A,A,A⟩
theorem OO(H:WgLib P L)(a2:G (l.at (k.put ((r[s]?).bind (·.dst)) (.tuple #[])) (XE r u::t)) a=w){z:K}(R:Ha L h (l.at k (XE r (s::u)::t)) a i z):
 GL P J L.tWg h (Wu P L.tWg h w (Ha L h (l.at k (XE r (s::u)::t)) a)) 30 i:=by
 lib_facts
 obtain⟨Y,rfl,a0,W⟩:=R;obtain⟨d0,d1,e2,f3,g4,h5,i6,j7,k8,l3,d2,d3,d4,d5,d6,d7,d8,d9,e0,e1,e3,e4,e5,e6,e7,e8,e9,f0,f1,f2,f4,f5,f6,f7,f8,f9,g0,g1,g2,g3,g5,g6,g7,g8,g9,h0,h1,h2,h3,h4,h6,h7,h8,h9,i0,i1,i2,i3,i4,i5,i7,i8,i9,j0,j1,j2,j3,j4,j5,j6,j8,j9,k0,k1,k2,k3,k4,k5,k6,k7,k9,l0,l1,l2,rfl⟩:=array84 Y a0;simp only[Yy,YB,Yr]at W;subst W;simp only[L7,body_wait,waitFn,ZK]
 repeat' (first
  |with_reducible (first|refine vP ?_|refine Ah ?_|refine uE ?_|refine Ag ?_|refine FL ?_|refine Ae ?_|refine vO ?_|refine SA ?_|refine SC ?_|refine PS ?_|refine PR ?_|refine b9 ?_|refine c0 ?_|refine b5 ?_)
  |((with_reducible refine Ib ?_);first|((first|refine Ai rfl rfl ?_|refine lS _ rfl rfl (by k_ne) (λ_ _=>by go_simp;(first|(try w_num);rfl|(simp only[G',aaN,aaO,a3,a4,a5,a6,a7,a8,a9,b0,b1,Xt.reduceMod,Xt.reduceDiv,Xt.reducePow,abz,abA];rfl))) (λ_ _=>by simp[go_sem, *]) ?_|refine Ac H rfl rfl (by k_ne) rfl ?_|refine lS (XK (C ⟨h,0,F⟩)) rfl rfl (by k_ne) (λz c=>by have a1:=x_ (P:=P) H.underlying_tWgP H.underlying_tUP H.room_tWg (WgLive.Vt c).choose_spec;(first|(go_simp;done)|fail)) (λz c=>by have T:=λQ=>o_ (P:=P) H.underlying_tWgP H.underlying_tUP H.room_tWg (WgLive.Vt c).choose_spec Q;(first|(simp[go_sem,T];done)|fail)) ?_|refine lS (XK (C ⟨h,1,F⟩)) rfl rfl (by k_ne) (λz c=>by have a1:=x_ (P:=P) H.underlying_tPU32 H.underlying_tUP H.room_tU32 (WgLive.Vp c).choose_spec;(first|(go_simp;done)|fail)) (λz c=>by have T:=λQ=>o_ (P:=P) H.underlying_tPU32 H.underlying_tUP H.room_tU32 (WgLive.Vp c).choose_spec Q;(first|(simp[go_sem,T];done)|fail)) ?_);walk_nrm)|(refine gB rfl rfl (by k_ne) rfl H.f_uLoad (nm_uLoad L) rfl ?_;walk_nrmf uLoadFn)|(refine gB rfl rfl (by k_ne) rfl H.f_uCas (nm_uCas L) rfl ?_;walk_nrmf uCasFn))
  |((with_reducible refine Ur ?_);(first|refine SD rfl rfl ?_|refine SE _ rfl rfl (by k_ne) (λ_=>by go_simp;(try w_num);rfl) (λ_=>by simp[go_sem, *]) ?_);walk_nrm)
  |((with_reducible (first|refine vQ ?_|refine SB ?_));simp only[YF,Yv,Zp,E.reduceAdd,Zz,Xq.range,Xq.range.loop])
  |((with_reducible (first|refine Ad ?_|refine Sz ?_));first|refine qI rfl ?_|refine qH rfl ?_|refine b6 rfl ?_|refine Na rfl ?_)
  |((with_reducible refine b4 ?_);refine b3 rfl ?_)
  |((with_reducible refine b8 ?_);refine b7 rfl ?_)
  |((with_reducible refine FN ?_);(first|refine eL rfl rfl H.f_uLoad rfl ?_|refine dQ rfl rfl H.f_uLoad rfl ?_|refine eL rfl rfl H.f_uCas rfl ?_|refine dQ rfl rfl H.f_uCas rfl ?_);walk_nrm)
  |(refine JP rfl rfl H.f_wait rfl ?_;exact PT λz=>a2)
  |((with_reducible refine FM ?_);exact lR λz x=>⟨_,A,A,A⟩)
  |(refine lR λX x=>?_
    first
    |((first|refine⟨rfl,_,abl .enable (by simp) rfl rfl (by k_ne) rfl H.f_enable (x_enable_n L) (x_enable_b L) (x_enable_x L) (x_enable_f L),20,?_⟩|refine⟨rfl,_,aa0 .write (by simp) rfl rfl (by k_ne) rfl H.f_raceWrite (x_raceWrite_n L) (x_raceWrite_b L) (x_raceWrite_x L) (x_raceWrite_f L) (by first|(simp[Act.eval,smA];done)|fail),100,?_⟩|refine⟨rfl,λc=>⟨_,Q_ (v:=0) A rfl (by k_ne) A H.f_loadU64 (x_loadU64_n L) (x_loadU64_b L) (x_loadU64_x L) .u64 (x_loadU64_f L) A c.cellSt,120,?_⟩⟩)
      walk_nrm
      refine(?_:GL _ _ _ _ _ _ _) _ x)
    |(refine⟨rfl,_,aa0 .acquire (by simp) rfl rfl (by k_ne) rfl H.f_acquire (x_acquire_n L) (x_acquire_b L) (x_acquire_x L) (x_acquire_f L) (by first|(simp[Act.eval,stA];done)|fail),20,?_⟩
      walk_nrm)
    |(intro z x
      refine⟨A,A,λ⟨c9,c⟩=>stepG_semacquire_wait A rfl rfl H.f_semacquire (x_semacquire_n L) (x_semacquire_b L) (x_semacquire_x L) (x_semacquire_f L) (by simp[Act.eval,smA]) c.cellSm,λO=>?_⟩;refine⟨_,(stepG_semacquire (n:=1) A rfl (by k_ne) A H.f_semacquire (x_semacquire_n L) (x_semacquire_b L) (x_semacquire_x L) (x_semacquire_f L) (by simp[Act.eval,smA]) O.cellSm (by k_ne) (O.thaw 1)).trans (by rfl),120,?_⟩;have x:WgLive L.tWg h (z.setCell (smA h) (.int .u32 0)):=⟨_,_,O.setSm 0⟩;clear O;walk_nrm
      refine(?_:GL _ _ _ _ _ _ _) _ x)
    |(refine⟨rfl,λb2 c7 c=>⟨λU=>?_,λU=>?_⟩⟩
      subst U;rw[N]at c⊢
      refine⟨_,(stepG_cas_hit (v:=o) (n:=o+1) rfl rfl (by k_ne) rfl H.f_casU64 (x_casU64_n L) (x_casU64_b L) (x_casU64_x L) .u64 (x_casU64_f L) rfl rfl rfl c.cellSt (c.thaw 0)).trans (by rfl),120,?_⟩;have x:WgLive L.tWg h (X.setCell (stA h) (.int .u64 (o+1))):=⟨_,_,c.setSt _⟩;clear c N;walk_nrm;refine(?_:GL _ _ _ _ _ _ _) _ x
      rotate_left
      refine⟨_,stepG_cas_miss (v:=(b2:Xt)*KK) (old:=o) (n:=o+1) rfl rfl (by k_ne) rfl H.f_casU64 (x_casU64_n L) (x_casU64_b L) (x_casU64_x L) .u64 (x_casU64_f L) rfl rfl rfl c.cellSt (c.thaw 0) (by rw[<-N];simp only[KK];omega),120,?_⟩;clear c;walk_nrm
      refine(?_:GL _ _ _ _ _ _ _) _ x)
    |(refine⟨rfl,λg c6 c=>?_⟩
      rcases Yp g with rfl|c8
      replace c:WgAt L.tWg h X 0 0:=by simpa using c
      refine⟨_,Q_ (v:=0) A rfl (by k_ne) A H.f_loadU64 (x_loadU64_n L) (x_loadU64_b L) (x_loadU64_x L) .u64 (x_loadU64_f L) A c.cellSt,λ_=>⟨120,?_⟩,λR=>absurd A R⟩;clear c;walk_nrm;refine(?_:GL _ _ _ _ _ _ _) _ x
      rotate_left
      obtain⟨o,N⟩:∃o:Xt,(g:Xt)*KK=o:=⟨_,A⟩;have a3:o/4294967296=(g:Xt):=by rw[<-N];simp only[KK];omega
      have a4:(g:Xt)%4294967296=g:=by omega
      have a5:bits .and .u64 o 2147483648=0:=by rw[<-N];have:=st_flag g 0 (by omega) (by omega);simpa[KK]using this
      have a6:bits .and .u64 o 2147483647=0:=by rw[<-N];have:=st_waiters g 0 (by omega) (by omega);simpa[KK]using this
      have a7:decide ((g:Xt)=0)=Xp:=by first|(simp;done)|(simp;omega)
      have a8:((g:Xt)==0)=Xp:=by first|(simp;done)|(simp;omega)
      have a9:(o+1)%18446744073709551616=o+1:=by rw[<-N];simp only[KK];omega
      have b0:(g:Xt)≠0:=by omega
      have b1:((g:Xt)+2147483648)%4294967296-2147483648=g:=by omega
      rw[N]at c;refine⟨_,Q_ (v:=o) A rfl (by k_ne) A H.f_loadU64 (x_loadU64_n L) (x_loadU64_b L) (x_loadU64_x L) .u64 (x_loadU64_f L) A c.cellSt,λZ=>absurd Z (by omega),λ_=>⟨120,?_⟩⟩;clear c;walk_nrm
      refine(?_:GL _ _ _ _ _ _ _) _ x)))
end
end Go.SimW
namespace Go.Sim
open Go.Conc Go.Proofs Go.RowKit
open Go.ConcN (PermW PermW.app PermW.of fork_knows WgLive RelBy sumTo)
open Go.ConcR (KK wgBlock WgAt stA smA rd wr mk DC0)
variable{v:Xn}{c:Xu Xn}{i:E}
abbrev Ren:=E->E->Prop
def Ren.le(d e:Ren):Prop:=∀a b,d a b->e a b
theorem Ren.le_refl(a:Ren):a.le a:=λ_ _ b=>b
theorem Ren.le_trans{a b c:Ren}(f:a.le b)(g:b.le c):a.le c:=λd e h=>g d e (f d e h)
def bA(d:Ren)(a b:XG):Prop:=d a.block b.block/\a.off=b.off/\a.spot=b.spot
theorem bA.mono{e f:Ren}(g:e.le f){a b:XG}(d:bA e a b):bA f a b:=⟨g _ _ d.1,d.2⟩
theorem bA.add{g:Ren}{a b:XG}(k:bA g a b)(f:E):bA g (a.add f) (b.add f):=by
 obtain⟨d,e,h⟩:=k;unfold Addr.add;split
 .exact⟨d,e,h⟩
 exact⟨d,by simp[e],A⟩
def bN:Xn->Prop
 |XK (C _)|Xw (C _) _ _|.map (C _)|.chan (C _)|.func (.func _) _ _|.func (.yield _) _ _|.int .u8 _=>True
 |_=>False
structure Set where
 fn:XU->Xy
 fr:XU->Xy
 code:XR->Xy
 bi:Builtin->Xu XA->Xy
 cj:Xy
inductive uP(a:Set)(d:Ren):Fn->Fn->Prop
 |func (b:XU) (g:a.fn b=J):uP a d (.func b) (.func b)
 |yield {e f:E} (g:d e f):uP a d (.yield e) (.yield f)
inductive an(b:Set)(a:Ren):Xn->Xn->Prop
 |bS {v:Xn} (g:bN v):an b a (.tuple #[]) v
 |bool (p:Xy):an b a (.bool p) (.bool p)
 |int (s:IntKind) (f:Xt):an b a (.int s f) (.int s f)
 |string (u:XM):an b a (.string u) (.string u)
 |cJ:an b a (XK F) (XK F)
 |ptr {h k:XG} (g:bA a h k):an b a (XK (C h)) (XK (C k))
 |aO (f c:E):an b a (Xw F f c) (Xw F f c)
 |slice {h k:XG} (g:bA a h k) (f c:E):an b a (Xw (C h) f c) (Xw (C k) f c)
 |fw:an b a (.map F) (.map F)
 |map {l m:E} (g:a l m):an b a (.map (C l)) (.map (C m))
 |eg:an b a (.chan F) (.chan F)
 |chan {l m:E} (g:a l m):an b a (.chan (C l)) (.chan (C m))
 |func {fn q:Fn} {n o c c':Xu Xn} (g:uP b a fn q) (y:n.size=o.size) (r:c.size=c'.size)
   (z:∀(i:E)(d e:Xn),n[i]?=C d->o[i]?=C e->an b a d e)
   (t:∀(i:E)(d e:Xn),c[i]?=C d->c'[i]?=C e->an b a d e):an b a (.func fn n c) (.func q o c')
 |nilFunc:an b a .nilFunc .nilFunc
 |iface (w:XA) {v x:Xn} (g:an b a v x):an b a (.iface w v) (.iface w x)
 |nilIface:an b a .nilIface .nilIface
 |agg {c c':Xu Xn} (r:c.size=c'.size) (t:∀(i:E)(d e:Xn),c[i]?=C d->c'[i]?=C e->an b a d e):an b a (.agg c) (.agg c')
 |tuple {c c':Xu Xn} (r:c.size=c'.size) (t:∀(i:E)(d e:Xn),c[i]?=C d->c'[i]?=C e->an b a d e):an b a (.tuple c) (.tuple c')
def kj(P:XI):Prop:=∀b a,P.underlying b≠C (.float a)/\P.underlying b≠C (.complex a)
def aw(e:Set)(f:Ren)(c a:Xu Xn):Prop:=c.size=a.size/\∀(i:E)(b d:Xn),c[i]?=C b->a[i]?=C d->an e f b d
theorem uP.mono{d:Set}{f g:Ren}(b:f.le g){a e:Fn}(k:uP d f a e):uP d g a e:=by
 cases k with
 |func a b=>exact .func a b
 |yield h=>exact .yield (b _ _ h)
theorem an.mono{g:Set}{k l:Ren}(b:k.le l){h:Xn}(a:an g k v h):an g l v h:=by
 induction a with
 |bS b=>exact .bS b
 |bool m=>exact .bool m
 |int r f=>exact .int r f
 |string s=>exact .string s
 |cJ=>exact .cJ
 |ptr a=>exact .ptr (a.mono b)
 |aO f c=>exact .aO f c
 |slice a f c=>exact .slice (a.mono b) f c
 |fw=>exact .fw
 |map a=>exact .map (b _ _ a)
 |eg=>exact .eg
 |chan a=>exact .chan (b _ _ a)
 |func n o d _ _ q p=>exact .func (n.mono b) o d q p
 |nilFunc=>exact .nilFunc
 |iface t _ e=>exact .iface t e
 |nilIface=>exact .nilIface
 |agg d _ e=>exact .agg d e
 |tuple d _ e=>exact .tuple d e
theorem aw.mono{a:Set}{e f:Ren}(g:e.le f){b:Xu Xn}(d:aw a e c b):aw a f c b:=
 ⟨d.1,λi l m h k=>(d.2 i l m h k).mono g⟩
inductive lJ(a:Set)(b:Ren):Target->Target->Prop
 |fn {g h:Fn} {c f:Xu Xn} (k:uP a b g h) (p:aw a b c f):lJ a b (.fn g c) (.fn h f)
 |nil:lJ a b .nil .nil
 |builtin (d:Builtin) (e:Xu XA) (o:XA) (l:Xu Xy) (k:a.bi d e=J):lJ a b (.builtin d e o l) (.builtin d e o l)
 |collected {m n:E} (k:b m n):lJ a b (.collected m) (.collected n)
def rZ(a:Set)(e:Ren)(b d:Deferred):Prop:=lJ a e b.target d.target/\aw a e b.args d.args
inductive aY{d e:Type}(b:d->e->Prop):Xq d->Xq e->Prop
 |nil:aY b [] []
 |cons {a:d} {a':e} {f:Xq d} {g:Xq e} (h:b a a') (k:aY b f g):aY b (a::f) (a'::g)
theorem aY.mono{h k:Type}{b a:h->k->Prop}(l:∀d e,b d e->a d e){f:Xq h}{g:Xq k}(n:aY b f g):aY a f g:=by
 induction n with
 |nil=>exact .nil
 |cons o _ m=>exact .cons (l _ _ o) m
theorem aY.append{g h:Type}{a:g->h->Prop}{b e:Xq g}{d f:Xq h}(l:aY a b d)(m:aY a e f):aY a (b++e) (d++f):=by
 induction l with
 |nil=>exact m
 |cons n _ k=>exact .cons n k
theorem aY.length{d e:Type}{f:d->e->Prop}{a:Xq d}{b:Xq e}(h:aY f a b):a.length=b.length:=by
 induction h with
 |nil=>rfl
 |cons _ _ g=>simp[g]
theorem aY.get{d l:Type}{e:d->l->Prop}{g:Xq d}{h:Xq l}(p:aY e g h){f:d}(a:g[i]?=C f):∃b,h[i]?=C b/\e f b:=by
 induction p generalizing i with
 |nil=>simp at a
 |cons x _ o=>
  cases i with
  |zero=>simp at a;subst a;exact⟨_,by simp,x⟩
  |succ i=>simp at a;obtain⟨b,m,n⟩:=o a;exact⟨b,by simpa using m,n⟩
theorem lJ.mono{e:Set}{g h:Ren}(a:g.le h){b f:Target}(d:lJ e g b f):lJ e h b f:=by
 cases d with
 |fn m l=>exact .fn (m.mono a) (l.mono a)
 |nil=>exact .nil
 |builtin k o b n a=>exact .builtin k o b n a
 |collected d=>exact .collected (a _ _ d)
theorem rZ.mono{a:Set}{g h:Ren}(e:g.le h){b d:Deferred}(f:rZ a g b d):rZ a h b d:=⟨f.1.mono e,f.2.mono e⟩
def ji(d:Set)(e:Ren)(a b:XS):Prop:=an d e a.key b.key/\an d e a.val b.val/\a.born=b.born
def cM:XR->Xy
 |.seq a b=>cM a&&cM b
 |.cond _ a b=>cM a&&cM b
 |.block _ a|.loop a|.scope a=>cM a
 |.rangeFunc _ _ a b=>cM a&&cM b
 |.region _ e _=>e.toList.all λd=>match d.op with|.defer _=>Xp|_=>J
 |_=>J
def zA(d:Set)(e:Ren)(a b:Loop):Prop:=
 a.state=b.state/\a.pending=b.pending/\a.fn=b.fn/\aw d e a.tmps b.tmps/\a.params=b.params/\a.assign=b.assign/\a.body=b.body/\e a.defers b.defers/\
  d.code a.assign=J/\d.code a.body=J/\(∀c,a.pending=C c->d.code c=J/\cM c=J)/\d.fr a.fn=J/\cM a.assign=J/\cM a.body=J
def kX(a b:E×E):Prop:=b.1=b.2\/(a.1≠a.2/\a.1<=b.1/\b.2<=a.2)
theorem kX.refl(a:E×E):kX a a:=by
 unfold kX;by_cases b:a.1=a.2
 .exact Xr b
 exact Xs ⟨b,Ye _,Ye _⟩
def aS(c:Xu Xn):Prop:=∃(a:E)(b:Xt),c[a]?=C (.int .u8 b)
inductive gQ(b:Set)(a:Ren):Obj->Obj->Prop
 |cells {c o:Xu Xn} (D:XA) {s t:E×E} (e:aw b a c o) (Q:kX s t):gQ b a (.cells c D s) (.cells o D t)
 |map {q r:Xu XS} (u:E) (e:aY (ji b a) q.toList r.toList):gQ b a (.map q u) (.map r u)
 |view {f g:XG} (e:bA a f g) (L:XA):gQ b a (.view f L) (.view g L)
 |number {f g:XG} (e:bA a f g) (d:Xy):gQ b a (.number f d) (.number g d)
 |stringIter (z:XM) (y:E):gQ b a (.stringIter z y) (.stringIter z y)
 |pK (k:E) (seen:Xu E) (l:E):gQ b a (.mapIter F k seen l) (.mapIter F k seen l)
 |mapIter {w x:E} (e:a w x) (k:E) (seen:Xu E) (l:E):gQ b a (.mapIter (C w) k seen l) (.mapIter (C x) k seen l)
 |loop {d h:Loop} (e:zA b a d h):gQ b a (.loop d) (.loop h)
 |chan {m n:Xu Xn} (p:E) (cl:Xy) (N O:E) (H:Xy) (e:aw b a m n):gQ b a (.chan p m cl N O H) (.chan p n cl N O H)
 |lO:gQ b a (.deferred F) (.deferred F)
 |deferred {d h:Xq Deferred} (e:aY (rZ b a) d h):gQ b a (.deferred (C d)) (.deferred (C h))
theorem ji.mono{b:Set}{g h:Ren}(f:g.le h){d e:XS}(a:ji b g d e):ji b h d e:=⟨a.1.mono f,a.2.1.mono f,a.2.2⟩
theorem gQ.mono{h:Set}{m n:Ren}(b:m.le n){k l:Obj}(a:gQ h m k l):gQ h n k l:=by
 cases a with
 |cells u a q=>exact .cells u (a.mono b) q
 |map r a=>exact .map r (a.mono λ_ _ g=>g.mono b)
 |view a f=>exact .view (a.mono b) f
 |number a f=>exact .number (a.mono b) f
 |stringIter t s=>exact .stringIter t s
 |pK d e c=>exact .pK d e c
 |mapIter a d e c=>exact .mapIter (b _ _ a) d e c
 |loop a=>exact .loop ⟨a.1,a.2.1,a.2.2.1,a.2.2.2.1.mono b,a.2.2.2.2.1,a.2.2.2.2.2.1,a.2.2.2.2.2.2.1,b _ _ a.2.2.2.2.2.2.2.1,a.2.2.2.2.2.2.2.2⟩
 |chan d e c o p a=>exact .chan d e c o p (a.mono b)
 |lO=>exact .lO
 |deferred a=>exact .deferred (a.mono λ_ _ g=>g.mono b)
structure aU(m:Set)(d:Ren)(l e:K):Prop where
 inj:∀a f b g,d a b->d f g->(a=f↔b=g)
 obj:∀a b,d a b->∃h k,l.heap[a]?=C h/\e.heap[b]?=C k/\gQ m d h k
 os:l.os=e.os
variable{f:Set}{m:Ren}{P:XI}{w:K}{q:K}{d:Xu Xn}{b:Xn}{w':K}
def Ax(f:Set):Mark->Xy
 |.extern a=>f.fn a
 |.noRoom=>J
 |_=>Xp
def ed(f:Set)(m:Ren):Loc->Loc->Prop
 |.cell b,.cell c=>bA m b c
 |.obj e,.obj g=>m e g
 |.mark a,.mark d=>a=d/\Ax f a=J
 |.output,.output=>True
 |_,_=>False
def mq(f:Set)(m:Ren)(a b:XQ):Prop:=ed f m a.loc b.loc/\a.write=b.write/\a.sync=b.sync
theorem ed.mono{l:Ren}(k:m.le l){c g:Loc}(a:ed f m c g):ed f l c g:=by
 cases c<;>cases g<;>simp only[ed]at a⊢
 .exact a.mono k
 .exact k _ _ a
 exact a
theorem mq.mono{k:Ren}(l:m.le k){a c:XQ}(g:mq f m a c):mq f k a c:=⟨g.1.mono l,g.2⟩
def lH(f:Set)(m:Ren):Halt->Halt->Prop
 |.panic v,.panic a=>an f m v a
 |.goexit,.goexit=>True
 |_,_=>False
def Halt.lost:Halt->Xy
 |.stuck _=>J
 |.unsupported (.initOrder _)=>Xp
 |.unsupported _=>J
 |_=>Xp
inductive gx{e:Type}:XJ e->Prop
 |lost {c:Halt} (p:Halt.lost c=J):gx (.halt c)
 |shape {o:E} {a:Xz (XA×E)->XJ e} (c:∀g,gx (a g)):gx (.shape o a)
 |frozen {k:XG} {a:Xy->XJ e} (c:∀g,gx (a g)):gx (.frozen k a)
 |mark {l:Mark} {a:XJ e} (c:gx a):gx (.mark l a)
 |program {a:XI->XJ e} (c:∀P,gx (a P)):gx (.program a)
theorem gx.bind{e n:Type}{b:XJ e}(d:gx b)(c:e->XJ n):gx (b >>= c):=by
 induction d with
 |lost f=>exact .lost f
 |shape _ a=>exact .shape a
 |frozen _ a=>exact .frozen a
 |mark _ a=>exact .mark a
 |program _ a=>exact .program a
theorem gx.run{e:Type}{f:XJ e}(k:gx f)(P:XI):∀(w:K)(a:Xu XQ),∃c h,(∀g,f.runT P {w with tape:=g} a=(.halt c {w with tape:=g},h))/\Halt.lost c=J:=by
 induction k with
 |lost m=>simp_all
 |@shape l d _ b=>intro w a;exact b (w.shape? l) w a
 |@frozen i d _ b=>intro w a;exact b (w.frozen? i) w a
 |mark _ b=>intro w a;exact b w _
 |@program d _ b=>intro w a;exact b P w a
theorem lQ{e:Type}(c:Xu e)(b:E)(d:e->e)(f:e)(g:c[b]?=C f)(a:E):(c.modify b d)[a]?=if a=b then C (d f)else c[a]?:=by grind
theorem bind_assoc'{e n k:Type}(f:XJ e)(g:e->XJ n)(h:n->XJ k):(f.bind g).bind h=f.bind λc=>(g c).bind h:=by
 induction f with
 |pure=>rfl
 |halt=>rfl
 |store i c v d a|freeze c l d a|setObj o m d a|mark i d a=>simp only[Sem.bind,a]
 |_=>simp only[Sem.bind];congr 1;funext b;apply_assumption
def lX{e:Type}(c:Obj)(b:E->XJ e):XJ e:=.new c λa=>(markStringish ⟨a,0,F⟩).bind λ_=>b a
theorem qR{e n:Type}(c:Obj)(b:E->XJ e)(a:e->XJ n):(lX c b).bind a=lX c λd=>(b d).bind a:=by simp[lX,Sem.bind,bind_assoc']
theorem tJ{e:Type}(P:XI)(d:Xu Xn)(a:XA)(c:E->XJ e)(w:K)(b:Xu XQ):
 (lX (.cells d a) c).runT P w b=(XJ.new (.cells d a (d.size,d.size+1)) c).runT P w b:=by
 have h:(w.heap.push (Obj.cells d a))[w.heap.size]?=C (Obj.cells d a):=by simp
 have f:K.shape? {w with heap:=w.heap.push (Obj.cells d a)} w.heap.size=C (a,d.size):=by simp[K.shape?]
 have g:K.freeze {w with heap:=w.heap.push (Obj.cells d a)} {block:=w.heap.size,off:=d.size} 1={w with heap:=w.heap.push (.cells d a (d.size,d.size+1))}:=by
  unfold K.freeze;rw[XH (by simp)]
  congr 1
  grind
 unfold lX markStringish;simp only[XJ.runT,shape,Bind.bind,Sem.bind,f,freeze,g]
def iD{e:Type}(a:XG)(b:E)(c:XM->XJ e):XJ e:=(loadBytes a .empty b).bind λd=>.freeze a b (c d)
theorem oI{e n:Type}(a:XG)(d:E)(c:XM->XJ e)(b:e->XJ n):(iD a d c).bind b=iD a d λf=>(c f).bind b:=by simp[iD,bind_assoc',Sem.bind]
def kR:Obj->Xy
 |.map .. =>Xp
 |_=>J
inductive ae(P:XI)(f:Set){e i:Type}(h:Ren->e->i->Prop):Ren->XJ e->XJ i->Prop
 |pure {m:Ren} {p:e} {r:i} (l:h m p r):ae P f h m (.pure p) (.pure r)
 |load {m:Ren} (x:Mode) {p r:XG} {c:Xn->XJ e} {a:Xn->XJ i} (l:bA m p r) (g:∀v O,an f m v O->ae P f h m (c v) (a O)):ae P f h m (.load x p c) (.load x r a)
 |store {m:Ren} (x:Mode) {p r:XG} {v O:Xn} {c:XJ e} {a:XJ i} (l:bA m p r) (a2:an f m v O) (g:ae P f h m c a):ae P f h m (.store x p v c) (.store x r O a)
 |new {m:Ren} {y z:Obj} {c:E->XJ e} {a:E->XJ i} (l:gQ f m y z) (g:∀t N D,m.le D->D t N->ae P f h D (c t) (a N)):ae P f h m (.new y c) (.new z a)
 |shape {m:Ren} {u o:E} {c:Xz (XA×E)->XJ e} {a:Xz (XA×E)->XJ i} (l:m u o) (g:∀k,ae P f h m (c k) (a k)):ae P f h m (.shape u c) (.shape o a)
 |nZ {m:Ren} {d U:Xu Xn} (R:XA) {c:E->XJ e} {a:E->XJ i} (l:aw f m d U) (g:∀t N D,m.le D->D t N->ae P f h D (c t) (a N)):ae P f h m (lX (.cells d R) c) (lX (.cells U R) a)
 |jX {m:Ren} {p r:XG} (t:E) {c:XM->XJ e} {a:XM->XJ i} (l:bA m p r) (g:∀b,ae P f h m (c b) (a b)):ae P f h m (iD p t c) (iD r t a)
 |frozen {m:Ren} {p r:XG} {c:Xy->XJ e} {a:Xy->XJ i} (l:bA m p r) (g:∀S T,(T=J->S=J)->ae P f h m (c S) (a T)):ae P f h m (.frozen p c) (.frozen r a)
 |getObj {m:Ren} {u o:E} {c:Obj->XJ e} {a:Obj->XJ i} (l:m u o) (g:∀y z,gQ f m y z->ae P f h m (c y) (a z)):ae P f h m (.getObj u c) (.getObj o a)
 |setObj {m:Ren} {u o:E} {y z:Obj} {c:XJ e} {a:XJ i} (l:m u o) (a1:gQ f m y z) (X:f.cj=J\/kR y=J) (g:ae P f h m c a):ae P f h m (.setObj u y c) (.setObj o z a)
 |choose {m:Ren} (H:Question) {c:E->XJ e} {a:E->XJ i} (g:∀t,ae P f h m (c t) (a t)):ae P f h m (.choose H c) (.choose H a)
 |kA {m:Ren} (H:Question) {c:E->XJ e} {L:XJ i} (Y:H.forced=Xp) (R:E) (g:ae P f h m (c (H.cut R)) L):ae P f h m (.choose H c) L
 |sV {m:Ren} {o:E} {k:XJ e} {a:Xz (XA×E)->XJ i} (g:∀b,ae P f h m k (a b)):ae P f h m k (.shape o a)
 |wV {m:Ren} {o:E} {k:XJ i} {a:Xz (XA×E)->XJ e} (g:∀b,ae P f h m (a b) k):ae P f h m (.shape o a) k
 |nQ {m:Ren} {o:XG} {k:XJ e} {a:Xy->XJ i} (g:∀b,ae P f h m k (a b)):ae P f h m k (.frozen o a)
 |qE {m:Ren} {o:XG} {k:XJ i} {a:Xy->XJ e} (g:∀b,ae P f h m (a b) k):ae P f h m (.frozen o a) k
 |env {m:Ren} {c:SysRet->XJ e} {a:SysRet->XJ i} (g:∀u,ae P f h m (c u) (a u)):ae P f h m (.sys .env c) (.sys .env a)
 |program {m:Ren} {c:XI->XJ e} {a:XI->XJ i} (g:ae P f h m (c P) (a P)):ae P f h m (.program c) (.program a)
 |mark {m:Ren} (x:Mark) (X:Ax f x=J) {c:XJ e} {a:XJ i} (g:ae P f h m c a):ae P f h m (.mark x c) (.mark x a)
 |halt {m:Ren} {l W:Halt} (Z:lH f m l W):ae P f h m (.halt l) (.halt W)
 |lost {m:Ren} {l:Halt} {L:XJ i} (a0:Halt.lost l=J):ae P f h m (.halt l) L
 |dead {m:Ren} {k:XJ e} {L:XJ i} (l:gx k):ae P f h m k L
section
variable{e i n s:Type}{h:Ren->e->i->Prop}{Q:Ren->n->s->Prop}
theorem ae.bind{t:XJ e}{T:XJ i}(c:ae P f h m t T){R:e->XJ n}{S:i->XJ s}
 (d:∀o p q,m.le o->h o p q->ae P f Q o (R p) (S q)):ae P f Q m (t.bind R) (T.bind S):=by
 induction c with
 |pure c=>exact d _ _ _ (Ren.le_refl _) c
 |load r c g a=>exact .load r c λv a3 D=>a v a3 D d
 |store r c D g a=>exact .store r c D (a d)
 |new c g a=>exact .new c λl H o k y=>a l H o k y λO p q u=>d O p q (Ren.le_trans k u)
 |shape c g a=>exact .shape c λt=>a t d
 |nZ N c g a=>rw[qR,qR];exact .nZ N c λl H o k y=>a l H o k y λO p q u=>d O p q (Ren.le_trans k u)
 |jX l c g a=>rw[oI,oI];exact .jX l c λb=>a b d
 |frozen c g a=>exact .frozen c λU W k=>a U W k d
 |getObj c g a=>exact .getObj c λa0 a1 z=>a a0 a1 z d
 |setObj c z x g a=>exact .setObj c z x (a d)
 |choose L g a=>exact .choose L λl=>a l d
 |kA L Z N g a=>exact .kA L Z N (a d)
 |sV g a=>exact .sV λb=>a b d
 |wV g a=>exact .wV λb=>a b d
 |nQ g a=>exact .nQ λb=>a b d
 |qE g a=>exact .qE λb=>a b d
 |env g a=>exact .env λa2=>a a2 d
 |program g a=>exact .program (a d)
 |mark r x g a=>exact .mark r x (a d)
 |halt X=>exact .halt X
 |lost Y=>exact .lost Y
 |dead c=>exact .dead (c.bind _)
theorem ae.mono{x:XJ e}{y:XJ i}{r:Ren->e->i->Prop}(c:ae P f h m x y)(N:∀m t u,h m t u->r m t u):ae P f r m x y:=by
 induction c with
 |pure c=>exact .pure (N _ _ _ c)
 |load k c g a=>exact .load k c a
 |store k c O g a=>exact .store k c O a
 |new c g a=>exact .new c a
 |shape c g a=>exact .shape c a
 |nZ p c g a=>exact .nZ p c a
 |jX R c g a=>exact .jX R c a
 |frozen c g a=>exact .frozen c a
 |getObj c g a=>exact .getObj c a
 |setObj c H l g a=>exact .setObj c H l a
 |choose o g a=>exact .choose o a
 |kA o L p g a=>exact .kA o L p a
 |sV g a=>exact .sV a
 |wV g a=>exact .wV a
 |nQ g a=>exact .nQ a
 |qE g a=>exact .qE a
 |env g a=>exact .env a
 |program g a=>exact .program a
 |mark k l g a=>exact .mark k l a
 |halt z=>exact .halt z
 |lost D=>exact .lost D
 |dead c=>exact .dead c
end
theorem Kd{e i:Type}{h:e->i->Prop}{a:Xq e}{c:Xq i}(d:aY h a c){b:e}(f:b∈a):∃g∈c,h b g:=by
 induction d with
 |nil=>cases f
 |cons k _ l=>grind
def EP(w:K)(a:E):Prop:=a<w.heap.size->∃d c b,w.heap[a]?=C (Obj.cells d c b)/\aS d
structure bB(f:Set)(m x:Ren)(w o q p:K)(r z:Xq XQ):Prop where
 le:m.le x
 rel:aU f x o p
 lE:aY (mq f x) r z
 size:w.heap.size<=o.heap.size
 uW:q.heap.size<=p.heap.size
 os:p.os=q.os
 out:p.output=q.output
 tape:p.tape=q.tape
 same:∀c,c<q.heap.size->(∀g∈z,g.write=J->g.loc≠.obj c/\∀a,g.loc=.cell a->a.block≠c)->
  p.heap[c]?=q.heap[c]?\/((∃a,m a c/\EP w a)/\∃d t k u,aS d/\q.heap[c]?=C (Xx d t k)/\p.heap[c]?=C (Xx d t u))
 wr:∀g∈r,g.write=J->∀a,g.loc=.cell a->a.block<w.heap.size->w.frozen? a=Xp
 fresh:∀a c,x a c->m a c\/(w.heap.size<=a/\q.heap.size<=c)
 iK:∀c,c<w.heap.size->(∀g∈r,g.write=J->g.loc≠.obj c/\∀a,g.loc=.cell a->a.block≠c)->
  o.heap[c]?=w.heap[c]?\/∃d t k u,w.heap[c]?=C (Xx d t k)/\o.heap[c]?=C (Xx d t u)
 ou:f.cj=Xp->∀c,(∃g∈r,g.write=J/\g.loc=.obj c)->∃D,o.heap[c]?=C D/\kR D=J
 qz:∀(c:E) d t k,w.heap[c]?=C (Obj.cells d t k)->∃y u,o.heap[c]?=C (Obj.cells y t u)/\y.size=d.size
 iz:∀g∈r,g.write=J->∀a,g.loc=.cell a->∃d t k,o.heap[a.block]?=C (Obj.cells d t k)/\a.off<d.size
 rf:∀g∈r,g.write=J->∀c,g.loc=.obj c->∀d t k,w.heap[c]?≠C (Obj.cells d t k)
 jX:∀a,w.frozen? a=J->o.frozen? a=J
theorem bB.refl(a:aU f m w q):bB f m m w w q q [] [] where
 le:=Ren.le_refl _
 rel:=a
 lE:=.nil
 size:=Ye _
 uW:=Ye _
 os:=A
 out:=A
 tape:=A
 same:=λ_ _ _=>Xr A
 wr:=by simp
 fresh:=λ_ _ a=>Xr a
 iK:=λ_ _ _=>Xr A
 ou:=by simp
 qz:=λc d i b a=>⟨d,b,a,A⟩
 iz:=by simp
 rf:=by simp
 jX:=λ_ a=>a
theorem bB.trans{β₁ b5:Ren}{w₁ b4 a2 a3:K}{Y a4 U a5:Xq XQ}(l:bB f m β₁ w w₁ q a2 Y a4)(o:bB f β₁ b5 w₁ b4 a2 a3 U a5):
 bB f m b5 w b4 q a3 (Y++U) (a4++a5) where
 le:=Ren.le_trans l.le o.le
 rel:=o.rel
 lE:=(l.lE.mono λ_ _ b=>b.mono o.le).append o.lE
 size:=Yi l.size o.size
 uW:=Yi l.uW o.uW
 os:=o.os.trans l.os
 out:=o.out.trans l.out
 tape:=o.tape.trans l.tape
 same:=by
  intro g y S;have r:=l.same g y λk c=>S k (ZQ _ c);have O:=o.same g (Yk y l.uW) λk c=>S k (y_ _ c)
  have T:(∃a,β₁ a g/\EP w₁ a)->∃a,m a g/\EP w a:=by
   rintro⟨a,p,c6⟩;rcases l.fresh a g p with T|⟨_,T⟩
   .refine⟨a,T,λN=>?_⟩;obtain⟨d,u,x,a9,a8⟩:=c6 (Yk N l.size)
    have c8:∀k∈Y,k.write=J->k.loc≠.obj a/\∀b,k.loc=.cell b->b.block≠a:=λk c t=>by
     obtain⟨H,R,z,d1,_⟩:=Kd l.lE c;have b0:=S H (ZQ _ R) (by rw[<-d1];exact t);constructor
     .intro D;rw[D]at z;cases L:H.loc with
      |obj b2=>rw[L]at z;have:g=b2:=(l.rel.inj a a g b2 p z).1 A;exact b0.1 (by rw[L,this])
      |_=>rw[L]at z;exact z.elim
     intro b D c9;rw[D]at z;cases L:H.loc with
     |cell X=>rw[L]at z;have b3:β₁ b.block X.block:=z.1;rw[c9]at b3;have:g=X.block:=(l.rel.inj a a g X.block p b3).1 A;exact b0.2 X L this.symm
     |_=>rw[L]at z;exact z.elim
    rcases l.iK a N c8 with d0|⟨d4,e0,b6,d5,q1,b1⟩
    .exact⟨d,u,x,by rw[<-d0];exact a9,a8⟩
    rw[a9]at b1;cases b1;exact⟨_,_,_,q1,a8⟩
   omega
  grind
 wr:=by
  intro k c t a p N;rcases YC.1 c with c|c
  .exact l.wr k c t a p N
  have:=o.wr k c t a p (Yk N l.size);cases c7:w.frozen? a with
  |false=>rfl
  |true=>rw[l.jX a c7]at this;cases this
 fresh:=by
  intro a g a0;rcases o.fresh a g a0 with r|⟨r,O⟩
  .exact l.fresh a g r
  exact Xs ⟨Yi l.size r,Yi l.uW O⟩
 jX:=λa p=>o.jX a (l.jX a p)
 iK:=by
  intro g y S;have r:=l.iK g y λk c=>S k (ZQ _ c);have O:=o.iK g (Yk y l.size) λk c=>S k (y_ _ c)
  grind
 qz:=by intro g d u x y;obtain⟨c1,Z,r,d2⟩:=l.qz g d u x y;obtain⟨c2,b7,O,d3⟩:=o.qz g c1 u Z r;simp_all
 rf:=by
  intro k c t g D d u x y;rcases YC.1 c with c|c
  .exact l.rf k c t g D d u x y
  obtain⟨c1,Z,r,_⟩:=l.qz g d u x y;exact o.rf k c t g D c1 u Z r
 iz:=by
  intro k c t a p;rcases YC.1 c with c|c
  .obtain⟨d,u,x,r,d2⟩:=l.iz k c t a p;obtain⟨c2,b7,O,d3⟩:=o.qz _ d u x r;simp_all
  exact o.iz k c t a p
 ou:=by
  rintro a1 g⟨k,c,t,D⟩;rcases YC.1 c with c|c
  .obtain⟨d7,r,O⟩:=l.ou a1 g ⟨k,c,t,D⟩;by_cases a6:∃k∈U,k.write=J/\k.loc=.obj g
   .exact o.ou a1 g a6
   by_cases a7:∃k∈U,k.write=J/\∃a,k.loc=.cell a/\a.block=g
   .obtain⟨H,R,W,a,p,rfl⟩:=a7;obtain⟨d,u,x,b8,_⟩:=o.iz H R W a p;exact⟨_,b8,A⟩
   have N:g<w₁.heap.size:=(XZ.1 r).1;rcases o.iK g N (λH R W=>⟨λT=>a6 ⟨H,R,W,T⟩,λa p a0=>a7 ⟨H,R,W,a,p,a0⟩⟩)with b9|⟨d,u,x,b6,b9,c0⟩
   .simp_all
   exact⟨_,c0,A⟩
  exact o.ou a1 g ⟨k,c,t,D⟩
section
theorem aU.cell(o:aU f m w q){g k:XG}(c:bA m g k)(a:w.cell? g=C v):∃l,q.cell? k=C l/\an f m v l:=by
 obtain⟨L,N,t,u,y⟩:=o.obj _ _ c.1;unfold K.cell? at a⊢
 rw[t]at a;rw[u];cases y with
 |cells O r z=>
  simp only at a⊢
  rw[<-c.2.2,<-c.2.1];split at a
  .cases a
  rename_i x;rw[XH x];obtain⟨H,D⟩:=r
  grind
 |_=>cases a
theorem aU.left(c:aU f m w q){a b:E}(d:m a b):a<w.heap.size:=by
 obtain⟨g,_,e,_⟩:=c.obj _ _ d
 grind
theorem aU.right(c:aU f m w q){b a:E}(d:m b a):a<q.heap.size:=by
 obtain⟨_,g,_,e,_⟩:=c.obj _ _ d
 grind
theorem aU.put(c:aU f m w q){l t:E}(R:m l t){o o':Obj}(S:gQ f m o o'){u p:K}
 (D:∀a,u.heap[a]?=if a=l then C o else w.heap[a]?)(H:∀a,p.heap[a]?=if a=t then C o' else q.heap[a]?)(N:u.os=w.os)(L:p.os=q.os):aU f m u p where
 os:=by rw[N,L];exact c.os
 inj:=c.inj
 obj:=by
  intro r x y;have O:=c.inj r l x t y R;rw[D,H];by_cases z:r=l
  .simp_all
  rw[XH z,XH (λb=>z (O.2 b))];exact c.obj r x y
theorem yv{a:Xn}(c:an f m v a){bs:Xq UInt8}(b:v.bytes?=C bs):a=v:=by cases c<;>first|rfl|cases b
theorem getElem?_set{e:Type}(c:Xu e)(b:E)(d:e)(f:b<c.size)(a:E):(c.setIfInBounds b d)[a]?=if a=b then C d else c[a]?:=by grind
theorem xH{e n:Type}{a:e->Xz n}{f:Xu e}{d:n}(c:f.findSome? a=C d):∃b,a b=C d:=by
 rw[<-Xu.findSome?_toList]at c;obtain⟨b,_,g⟩:=Xq.exists_of_findSome?_eq_some c
 grind
theorem iq(e:kj P):∀(d:E)(c:XA)(i:E){v:Xn},plainCell P d c i=C v->(∃k,v=.bool k)\/∃b h,v=.int b h
 |0,_,_,_,a=>by grind [plainCell]
 |d+1,c,i,v,a=>by
  unfold plainCell at a;cases g:P.underlying c with
  |none=>simp_all
  |some l=>
   rw[g]at a;cases l with
   |struct o=>
    obtain⟨n,f⟩:=xH a;split at f
    .exact iq e d _ _ f
    cases f
   |array h m=>
    dsimp only at a;split at a
    .cases a
    exact iq e d _ _ a
   |bool=>simp_all
   |int b=>grind
   |float b=>exact absurd g (e c b).1
   |complex b=>exact absurd g (e c b).2
   |_=>cases a
theorem nj{b:Xn}{bs:Xq UInt8}(g:(∃c,b=.bool c)\/∃d e,b=.int d e)(a:b.ofBytes bs=C v):an f m v v:=by
 rcases g with⟨c,rfl⟩|⟨d,e,rfl⟩
 .simp only[Xn.ofBytes]at a;split at a<;>first|(cases a;exact .bool _)|cases a
 simp only[Xn.ofBytes]at a;split at a<;>first|(cases a;exact .int _ _)|cases a
theorem tM{old b:Xn}{bs:Xq UInt8}(c:an f m old b)(a:old.ofBytes bs=C v):an f m v v:=by cases c<;>first|exact nj (Xr ⟨_,rfl⟩) a|exact nj (Xs ⟨_,_,rfl⟩) a|cases a
theorem oO(P:XI){g:Xu Xn}(i:aw f m d g)(a:XA):∀(e b stop:E){n:Xq (E×E×Xq UInt8)},seenCells P d a e b stop=.ok n->seenCells P g a e b stop=.ok n
 |0,_,_,_,c=>by grind [seenCells]
 |e+1,b,stop,n,c=>by
  unfold seenCells at c⊢
  by_cases q:b>=stop
  .simp_all
  rw[XH q]at c⊢
  simp only at c⊢
  by_cases r:P.bytesOf a=0
  .simp_all
  simp only[r,Yq]at c⊢
  cases s:cellHolding P P.depth a (b%P.bytesOf a)with
  |none=>simp_all
  |some h=>
   simp only[s,ZA]at c⊢
   cases l:d[b/P.bytesOf a*P.cellsOf a+h.1]? with
   |none=>simp_all
   |some v=>
    simp only[l]at c;cases o:v.bytes? with
    |none=>simp_all
    |some bs=>
     cases bs with
     |nil=>simp_all
     |cons p bs=>
      simp only[o]at c;have t:=(XZ.1 l).1;have u:b/P.bytesOf a*P.cellsOf a+h.1<g.size:=by rw[<-i.1];exact t
      have y:=i.2 _ _ _ l (XZ.2 ⟨u,A⟩);have x:g[b/P.bytesOf a*P.cellsOf a+h.1]?=C v:=by grind [yv]
      simp only[x,o];cases k:seenCells P d a e (b/P.bytesOf a*P.bytesOf a+h.2+(p::bs).length) stop with
      |error D=>rw[k]at c;cases c
      |ok z=>rw[k]at c;rw[oO P i a e _ stop k];exact c
theorem lP{g e n:Type}{b:Except g e}{c:e->Except g n}{f:n}(d:(b >>= c)=.ok f):∃a,b=.ok a/\c a=.ok f:=by
 cases b with
 |error h=>cases d
 |ok a=>exact⟨a,A,d⟩
theorem DR(W:aU f m w q)(N:kj P){c y:XG}(u:bA m c y)(k:XA){b x:XG}(Z:b.off=x.off)(a0:b.spot=x.spot)(l:Xy)
 {g:XA}{o:E×E}{first:E}{i:Xn}{R:Xq (E×E×Xq UInt8)}(a:w.seen P c k b l=.ok (d,g,o,first,i,R)):
 ((∃S,i=.bool S)\/∃b a6,i=.int b a6)/\∃n p,q.seen P y k x l=.ok (n,g,p,first,i,R)/\aw f m d n/\kX o p/\w.heap[c.block]?=C (Xx d g o)/\q.heap[y.block]?=C (Xx n g p):=by
 unfold K.seen at a⊢
 rw[<-Z,<-a0,<-u.2.2,<-u.2.1];by_cases Q:(b.spot.isSome||c.spot.isSome)=J
 .simp only[Q,Ym]at a;obtain⟨_,r,_⟩:=lP a;cases r
 simp only[Q]at a⊢
 cases h:plainCell P P.depth k b.off with
 |none=>simp only[h]at a;cases a
 |some lk=>
  simp only[h]at a⊢
  cases X:lk.bytes?.map (·.length)with
  |none=>simp_all
  |some size=>
   simp only[X]at a⊢
   cases H:byteOfCell P P.depth k b.off with
   |none=>simp only[H]at a;cases a
   |some U=>
    simp only[H]at a⊢
    obtain⟨b3,b4,a2,a3,a8⟩:=W.obj _ _ u.1;rw[a2]at a⊢
    rw[a3];cases a8 with
    |cells e s O=>
     rename_i b0 z b1 D;simp only at a⊢
     by_cases L:P.cellsOf e=0
     .simp only[L,Ym]at a;cases a
     simp only[L,Yq]at a⊢
     cases Y:byteOfCell P P.depth e (c.off%P.cellsOf e)with
     |none=>simp_all
     |some T=>
      simp only[Y]at a⊢
      obtain⟨a4,a1,a⟩:=lP a;rw[oO P s e _ _ _ a1];cases l with
      |false=>
       simp only[Yt,Yq]at a⊢
       cases a;exact⟨iq N _ _ _ h,z,D,A,s,O,A,A⟩
      |true=>
       simp only[Ym]at a⊢
       cases a4 with
       |nil=>cases a
       |cons a7 a5=>
        obtain⟨b2,a9,bs⟩:=a7;cases a5 with
        |cons _ _=>cases a
        |nil=>
         simp only at a⊢
         by_cases t:(decide (a9≠c.off/P.cellsOf e*P.bytesOf e+T+U)||decide (bs.length≠size))=J
         .simp only[t,Ym]at a;obtain⟨_,r,_⟩:=lP a;cases r
         simp only[t]at a;cases a;refine⟨iq N _ _ _ h,z,D,?_,s,O,A,A⟩;simp only[Yt,Yq,bind,Except.bind,t];rfl
    |_=>cases a
theorem aU.Ui(t:aU f m w q)(Q:kj P){e g:XG}(o:bA m e g)(Z:w.cell? e=F)(a:Xy):
 (∃u,(∀c,({w with tape:=c}:K).farLoad P e a=.error u)/\Halt.lost u=J)\/
 ∃v tl H,(∀c,({w with tape:=c}:K).farLoad P e a=.ok (v,tl))/\q.farLoad P g a=.ok (v,H)/\an f m v v/\aY (bA m) tl H/\q.cell? g=F:=by
 obtain⟨a3,a4,S,a2,i⟩:=t.obj _ _ o.1;have L:∀c,({w with tape:=c}:K).farLoad P e a=w.farLoad P e a:=λc=>rfl;cases i with
 |view y n=>
  rename_i c D
  have N:w.farLoad P e a=(match w.viewLoad P c n e a with|.ok i=>.ok i|.error k=>.error (.unsupported (.unsafePointer k))):=by grind [World.farLoad]
  have O:q.farLoad P g a=(match q.viewLoad P D n g a with|.ok i=>.ok i|.error k=>.error (.unsupported (.unsafePointer k))):=by grind [World.farLoad]
  cases r:w.viewLoad P c n e a with
  |error k=>exact Xr ⟨.unsupported (.unsafePointer k),λc=>by simp_all,A⟩
  |ok b=>
   obtain⟨v,tl⟩:=b;right;unfold K.viewLoad at r;obtain⟨⟨d,W,X,first,z,l⟩,p,s⟩:=lP r;obtain⟨R,U,Y,x,a0,a1,_,_⟩:=DR t Q y n o.2.1 o.2.2 a p;simp only at s;cases h:z.ofBytes (l.flatMap λb=>(b.2.2.drop (first-b.2.1)).take (first+(z.bytes?.map (·.length)).getD 0-max first b.2.1))with
   |none=>simp_all
   |some a7=>
    simp only[h]at s;cases s;refine⟨v,_,l.map (λb=>{block:=D.block,off:=b.1}),λa6=>by rw[L,N];unfold K.viewLoad;rw[p];simp only[bind,Except.bind,h];rfl,?_,nj R h,?_,?_⟩
    .rw[O];unfold K.viewLoad;rw[x];simp only[bind,Except.bind,h];rfl
    .clear h p x r
     induction l with
     |nil=>exact .nil
     |cons b l T=>exact .cons ⟨y.1,A,A⟩ T
    simp_all [K.cell?]
 |_=>left;unfold K.farLoad K.noCell;simp only[S];exact⟨_,λ_=>rfl,A⟩
def pZ(b:E×E)(first:E)(bytes:Xq UInt8)(d:Xu Xn)(a:E×E×Xq UInt8):Except String (Xu Xn):=do
 if a.2.1<first||a.2.1+a.2.2.length>first+bytes.length then MonadExcept.throw "memory seen as another type: a part of a cell written"
 if b.1<=a.1&&a.1<b.2 then MonadExcept.throw "a write to bytes that a string shares"
 let C old:=d[a.1]?|MonadExcept.throw "memory seen as another type: no such cell"
 let C new:=old.ofBytes ((bytes.drop (a.2.1-first)).take a.2.2.length)|MonadExcept.throw "memory seen as another type: a bool from a byte other than 0 or 1"
 pure (d.setIfInBounds a.1 new)
theorem AA{old c:Xn}(d:an f m old c){bs:Xq UInt8}(a:old.ofBytes bs=C b):c.ofBytes bs=C b:=by cases d<;>first|exact a|cases a
theorem GV{h l:E×E}(y:kX h l)(first:E)(bytes:Xq UInt8){g c1:Xu Xn}(k:aw f m d g){a:E×E×Xq UInt8}(c:pZ h first bytes d a=.ok c1):
 ∃t,pZ l first bytes g a=.ok t/\aw f m c1 t/\¬(h.1<=a.1/\a.1<h.2)/\a.1<d.size/\c1.size=d.size:=by
 unfold pZ at c⊢
 by_cases u:(decide (a.2.1<first)||decide (a.2.1+a.2.2.length>first+bytes.length))=J
 .simp only[u,Ym]at c;obtain⟨_,o,_⟩:=lP c;cases o
 simp only[u]at c⊢
 by_cases p:(decide (h.1<=a.1)&&decide (a.1<h.2))=J
 .simp only[p,Ym]at c;simp only[Yt,Yq]at c;obtain⟨_,o,_⟩:=lP c;cases o
 have L:¬(decide (l.1<=a.1)&&decide (a.1<l.2))=J:=by
  simp only[Ys,Zn]at p⊢
  rcases y with y|⟨_,b,D⟩<;>omega
 simp only[p]at c;cases q:d[a.1]? with
 |none=>simp_all
 |some old=>
  simp only[q]at c;have s:=(XZ.1 q).1;have O:a.1<g.size:=by rw[<-k.1];exact s
  have x:g[a.1]?=C g[a.1]:=by simp
  have z:=k.2 _ _ _ q x;cases r:old.ofBytes ((bytes.drop (a.2.1-first)).take a.2.2.length)with
  |none=>simp_all
  |some b=>
   simp only[r]at c;simp only[Yt,Yq]at c;cases c;refine⟨g.setIfInBounds a.1 b,?_,?_,by simp_all,s,by simp⟩
   .simp only[L,x,AA z r,Yt,Yq];rfl
   refine⟨by simp[k.1],λj D N i e=>?_⟩;rw[Zb]at i e;rw[<-k.1]at e;split at i
   .rename_i n;rw[XN n]at e
    first
    |(split at i
      .rename_i H;rw[XN H]at e;cases i;cases e;exact tM z r
      cases i)
    |(simp only[s,Ym]at e;grind [tM])
   rename_i n;rw[XH n]at e;exact k.2 _ D N i e
theorem zt{g n:E×E}(o:kX g n)(first:E)(bytes:Xq UInt8):∀(c:Xq (E×E×Xq UInt8)){d a c1:Xu Xn},aw f m d a->c.foldlM (pZ g first bytes) d=.ok c1->
 ∃e,c.foldlM (pZ n first bytes) a=.ok e/\aw f m c1 e/\(∀k∈c,¬(g.1<=k.1/\k.1<g.2)/\k.1<d.size)/\(c=[]->e=a/\c1=d)/\c1.size=d.size
 |[],d,a,c1,l,h=>by cases h;exact⟨a,A,l,by simp,λ_=>⟨A,A⟩,A⟩
 |k::c,d,a,c1,l,h=>by
  rw[X_]at h;obtain⟨c2,t,u⟩:=lP h;obtain⟨L,r,z,x,y,q⟩:=GV o first bytes l t
  obtain⟨e,s,D,p,_,H⟩:=zt o first bytes c z u
  refine⟨e,by rw[X_,r];exact s,D,?_,by simp,H.trans q⟩;intro b i;rcases Yg.1 i with rfl|i
  .exact⟨x,y⟩
  exact⟨(p b i).1,q▸(p b i).2⟩
theorem BF(P:XI)(w:K)(a:XG)(b:XA)(e:XG)(v:Xn)(c:Xy):w.viewStore P a b e v c=(do
 if !tight P P.depth b then MonadExcept.throw "memory seen as another type: a store through a type with padding"
 let (d,f,frozen,first,h,cells)<-w.seen P a b e c
 let C bytes:=v.bytes?|MonadExcept.throw "memory seen as another type: a value that is no plain data"
 if C bytes.length≠h.bytes?.map (·.length)then MonadExcept.throw "memory seen as another type: a value of another size"
 let d<-cells.foldlM (pZ frozen first bytes) d
 pure ({w with heap:=w.heap.setIfInBounds a.block (.cells d f frozen)},cells.map λ(g,_,_)=>{block:=a.block,off:=g})):=A
theorem aU.VF(i:aU f m w q)(a7:kj P){h r:XG}(L:bA m h r){D:Xn}(b5:an f m v D)(d0:w.cell? h=F)(e:Xy):
 (∃Z,(∀g,({w with tape:=g}:K).farStore P h v e=.error Z)/\Halt.lost Z=J)\/
 ∃T U tl a5,(∀g,({w with tape:=g}:K).farStore P h v e=.ok ({w with tape:=g,heap:=T},tl))/\q.farStore P r D e=.ok (U,a5)/\q.cell? r=F/\
  ∀x,bB f m m w {w with heap:=T} q U (tl.map (⟨.cell ·,J,x⟩)) (a5.map (⟨.cell ·,J,x⟩)):=by
 obtain⟨d6,d7,b4,d2,u⟩:=i.obj _ _ L.1;have d3:=i;cases u with
 |view t o=>
  rename_i g S
  have c:∀a,({w with tape:=a}:K).farStore P h v e=(match({w with tape:=a}:K).viewStore P g o h v e with|.ok u=>.ok u|.error p=>.error (.unsupported (.unsafePointer p))):=by grind [World.farStore]
  have l:q.farStore P r D e=(match q.viewStore P S o r D e with|.ok u=>.ok u|.error p=>.error (.unsupported (.unsafePointer p))):=by grind [World.farStore]
  have c0:∀a,({w with tape:=a}:K).seen P g o h e=w.seen P g o h e:=λa=>rfl;simp only[BF]at c l;simp only[c0]at c;by_cases a2:(!tight P P.depth o)=J
  .left;refine⟨.unsupported (.unsafePointer "memory seen as another type: a store through a type with padding"),λa=>?_,A⟩;rw[c];simp only[a2,Ym];rfl
  simp only[a2,Yt,Yq]at c l;cases z:w.seen P g o h e with
  |error p=>left;refine⟨.unsupported (.unsafePointer p),λa=>?_,A⟩;rw[c,z];rfl
  |ok b=>
   obtain⟨d,s,a6,first,b8,k⟩:=b;obtain⟨d1,c6,c9,a1,b2,X,a9,b0⟩:=DR i a7 t o L.2.1 L.2.2 e z;simp only[z,bind,Except.bind]at c;simp only[a1,bind,Except.bind]at l;cases R:v.bytes? with
   |none=>left;refine⟨.unsupported (.unsafePointer "memory seen as another type: a value that is no plain data"),λa=>by rw[c,R];rfl,A⟩
   |some bytes=>
    have b6:=yv b5 R;subst b6;simp only[R]at c l;by_cases a0:C bytes.length≠b8.bytes?.map (·.length)
    .left;refine⟨.unsupported (.unsafePointer "memory seen as another type: a value of another size"),λa=>by rw[c,XN a0];rfl,A⟩
    simp only[a0,Yq]at c l;cases N:k.foldlM (pZ a6 first bytes) d with
    |error p=>left;refine⟨.unsupported (.unsafePointer p),λa=>?_,A⟩;simp_all
    |ok c1=>
     obtain⟨c7,Y,b1,b3,Q,d4⟩:=zt X first bytes k b2 N
     right;have a3:=i.left t.1;have a4:=i.right t.1;refine⟨_,_,_,_,λa=>by rw[c];simp only[N];rfl,by rw[l];simp only[Y];rfl,by simp_all [K.cell?],λx=>?_⟩;refine⟨Ren.le_refl _,i.put t.1 (.cells s b1 X) (getElem?_set _ _ _ a3) (getElem?_set _ _ _ a4) A rfl,?_,by simp,by simp,A,A,A,?_,?_,λ_ _ i=>Xr i,?_,?_,?_,?_,?_,?_⟩
     .clear c l z a1 N Y b3 Q
      induction k with
      |nil=>exact .nil
      |cons b k b7=>exact .cons ⟨⟨t.1,A,A⟩,A,A⟩ b7
     .intro H a8 O;left;simp only;rw[getElem?_set _ _ _ a4];by_cases n:H=S.block
      .rw[XN n,n,b0];cases k with
       |nil=>rw[(Q A).1]
       |cons b k=>exact absurd n (λs=>(O ⟨.cell {block:=S.block,off:=b.1},J,x⟩ (by simp) A).2 _ A s.symm)
      simp_all
     .intro c8 W _ a y _;simp only[P_,YL]at W;obtain⟨b,d5,rfl⟩:=W;simp only[Function.comp]at y;cases y;unfold K.frozen?
      grind
     .intro H a8 O;left;simp only;rw[getElem?_set _ _ _ a3];by_cases n:H=g.block
      .rw[XN n,n,a9];cases k with
       |nil=>rw[(Q A).2]
       |cons b k=>exact absurd n (λs=>(O ⟨.cell {block:=g.block,off:=b.1},J,x⟩ (by simp) A).2 _ A s.symm)
      simp_all
     .grind
     .grind
     .grind
     .grind
     intro a y;unfold K.frozen? at y⊢
     grind
 |_=>left;unfold K.farStore K.noCell;simp only[b4];exact⟨_,λ_=>rfl,A⟩
theorem aU.frozen(g:aU f m w q){b c:XG}(d:bA m b c)(a:q.frozen? c=J):w.frozen? b=J:=by
 obtain⟨p,r,h,i,k⟩:=g.obj _ _ d.1;unfold K.frozen? at a⊢
 rw[h];rw[i]at a;cases k with
 |cells s o e=>
  simp only[Ys,Zn]at a⊢
  rw[<-d.2.1]at a;rcases e with e|⟨_,l,n⟩<;>omega
 |_=>cases a
theorem aU.shape(d:aU f m w q){a c:E}(i:m a c):w.shape? a=q.shape? c:=by
 obtain⟨l,n,g,h,b⟩:=d.obj _ _ i;unfold K.shape?;rw[g,h];cases b with
 |cells o e k=>simp[e.1]
 |_=>rfl
end
section
theorem ED(r:aU f m w q){a g:XG}(o:bA m a g){L:Xn}(a0:an f m v L)(k:w.cell? a=C b)(b3:w.frozen? a=Xp)(T:Xy)(a5:E->Question->E):
 bB f m m w (({w with tape:=a5}:K).setCell a v) q (q.setCell g L) [⟨.cell a,J,T⟩] [⟨.cell g,J,T⟩]:=by
 obtain⟨a1,a2,y,b1,a4⟩:=r.obj _ _ o.1;have D:a.spot.isSome=Xp:=by grind [World.cell?]
 have b2:g.spot.isSome=Xp:=by rw[<-o.2.2];exact D
 cases a4 with
 |cells H O Z=>
  rename_i d U W X;refine⟨Ren.le_refl _,?_,.cons ⟨o,A,A⟩ .nil,by simp[K.setCell],by simp[K.setCell],A,A,A,?_,?_,λ_ _ r=>Xr r,?_,?_,?_,?_,?_,?_⟩
  .refine r.put o.1 (o:=.cells (d.setIfInBounds a.off v) H W) (o':=.cells (U.setIfInBounds g.off L) H X) (.cells H ⟨by simp[O.1],?_⟩ Z) ?_ ?_ A rfl
   .intro S b a6 l c;rw[Zb]at l c;rw[<-o.2.1]at c;split at l
    .rename_i u;subst u;simp only[Ym]at l c;split at l<;>simp at l;split at c<;>simp at c;subst l;subst c;exact a0
    rename_i u;rw[XH u]at c;exact O.2 S b a6 l c
   .intro S;simp only[K.setCell];rw[lQ _ _ _ _ y];simp[D]
   simp_all [K.setCell,lQ]
  .intro p N x;left;have Y:p≠g.block:=λt=>(x _ (YS.2 A) A).2 g A t.symm;simp only[K.setCell]
   grind
  .simp_all
  .intro p N x;left;have Y:p≠a.block:=λt=>(x _ (YS.2 A) A).2 a A t.symm;simp only[K.setCell]
   grind
  .simp
  .intro p a7 b4 a9 N;simp only[K.setCell]
   grind
  .intro a8 R _ a3 z;simp only[YS]at R;subst R;cases z;have b0:a.off<d.size:=by
    unfold K.cell? at k;rw[y]at k;simp only[D,Yt,Yq]at k;exact(XZ.1 k).1
   simp_all [K.setCell,lQ]
  .simp
  intro a3 z;unfold K.frozen? at z⊢
  simp only[K.setCell]
  grind
 |_=>unfold K.cell? at k;rw[y]at k;cases k
theorem EC(a:aU f m w q){i k:Obj}(o:gQ f m i k)(r:E->Question->E):
 bB f m (λc d=>m c d\/(c=w.heap.size/\d=q.heap.size)) w {w with tape:=r,heap:=w.heap.push i} q {q with heap:=q.heap.push k} [] []:=by
 have h:m.le (λc d=>m c d\/(c=w.heap.size/\d=q.heap.size)):=λ_ _ a=>Xr a;refine⟨h,⟨?_,?_,a.os⟩,.nil,by simp,by simp,A,A,A,?_,by simp,?_,?_,by simp,?_,by simp,by simp,?_⟩
 .rintro c t d u(e|⟨rfl,rfl⟩)(g|⟨rfl,rfl⟩)
  .exact a.inj _ _ _ _ e g
  .have:=a.left e;have:=a.right e;omega
  .have:=a.left g;have:=a.right g;omega
  simp
 .rintro c d(e|⟨rfl,rfl⟩)
  .obtain⟨b,s,l,x,p⟩:=a.obj c d e;have:=a.left e;have:=a.right e;refine⟨b,s,?_,?_,p.mono h⟩
   .simp only;rw[Zq,XH (by omega)];exact l
   grind
  exact⟨i,k,by simp,by simp,o.mono h⟩
 .grind
 .grind
 .grind
 .grind
 intro c n;unfold K.frozen? at n⊢
 grind
theorem EB(a:aU f m w q){g c:XG}(p:bA m g c)(e:E)(i:E->Question->E)
 (x:e≠0->(∀d i n,q.heap[c.block]?=C (Xx d i n)->aS d)/\∀d i n,w.heap[g.block]?=C (Xx d i n)->aS d):
 bB f m m w (({w with tape:=i}:K).freeze g e) q (q.freeze c e) [] []:=by
 by_cases b:e=0
 .subst b;have:=bB.refl a;refine⟨this.le,⟨a.inj,a.obj,a.os⟩,this.lE,Ye _,Ye _,A,A,A,λ_ _ _=>Xr A,by simp,this.fresh,λ_ _ _=>Xr A,by simp,λt d i n a=>⟨d,n,a,A⟩,by simp,by simp,λ_ a=>a⟩
 obtain⟨o,T,D,H,s⟩:=a.obj _ _ p.1
 have N:∀h,(({w with tape:=i}:K).freeze g e).heap[h]?=if h=g.block then C ((λ
  |.cells d r (l,k)=>.cells d r (if l==k then(g.off,g.off+e)else(min l g.off,max k (g.off+e)))
  |o=>o:Obj->Obj) o)else w.heap[h]?:=by
  intro h;simp only[K.freeze,XH b];grind
 have u:∀h,(q.freeze c e).heap[h]?=if h=c.block then C ((λ
  |.cells d r (l,k)=>.cells d r (if l==k then(c.off,c.off+e)else(min l c.off,max k (c.off+e)))
  |o=>o:Obj->Obj) T)else q.heap[h]?:=by
  intro h;simp only[K.freeze,XH b];grind
 refine⟨Ren.le_refl _,a.put p.1 ?_ N u (by simp[K.freeze,XH b]) (by simp[K.freeze,XH b]),.nil,by simp[K.freeze,XH b],by simp[K.freeze,XH b],by simp[K.freeze,XH b],by simp[K.freeze,XH b],by simp[K.freeze,XH b],?_,by simp,λ_ _ a=>Xr a,?_,by simp,?_,by simp,by simp,?_⟩
 .have U:=s;cases s with
  |cells L y z=>
   rename_i d W O Q;obtain⟨l,k⟩:=O;obtain⟨Z,Y⟩:=Q;refine .cells L y ?_;unfold kX at z⊢
   rw[p.2.1]
   grind
  |_=>exact U
 .intro t X _;rw[u];by_cases R:t=c.block
  .subst R;rw[XN A,H];cases s with
   |cells L y z=>exact Xs ⟨⟨_,p.1,λ_=>⟨_,_,_,D,(x b).2 _ _ _ D⟩⟩,_,_,_,_,(x b).1 _ _ _ H,A,A⟩
   |_=>exact Xr A
  simp_all
 .grind
 .grind
 intro a0 S;unfold K.frozen? at S⊢
 grind
theorem OJ(a:aU f m w q){e g:E}(c:m e g){h k b t:Obj}(o:gQ f m h k)(x:f.cj=J\/kR h=J)(y:w.heap[e]?=C b)(z:q.heap[g]?=C t)(u:∀d i n,b≠.cells d i n)(l:Xy)(i:E->Question->E):
 bB f m m w {w with tape:=i,heap:=w.heap.setIfInBounds e h} q {q with heap:=q.heap.setIfInBounds g k} [⟨.obj e,J,l⟩] [⟨.obj g,J,l⟩]:=by
 have r:=a.left c;have s:=a.right c;refine⟨Ren.le_refl _,a.put c o (getElem?_set _ _ _ r) (getElem?_set _ _ _ s) A rfl,.cons ⟨c,A,A⟩ .nil,by simp,by simp,A,A,A,?_,?_,λ_ _ a=>Xr a,?_,?_,?_,?_,?_,?_⟩
 .simp_all
 .simp
 .simp_all
 .grind
 .grind
 .simp
 .simp_all
 intro D p;unfold K.frozen? at p⊢
 grind
end
def Out{e i:Type}(f:Set)(h:Ren->e->i->Prop)(m:Ren)(w q:K)(n o:Xu XQ)(b:Result e×Xu XQ)(s:Result i×Xu XQ):Prop:=
 match b with
 |(.ok t k,g)=>∃d l a new c,s=(.ok l a,o++Xq.toArray c)/\g=n++Xq.toArray new/\h d t l/\bB f m d w k q a new c
 |(.halt p k,g)=>Halt.lost p=J\/∃d r a new c,s=(.halt r a,o++Xq.toArray c)/\g=n++Xq.toArray new/\lH f d p r/\bB f m d w k q a new c
theorem Out.step{e i:Type}{f:Set}{h:Ren->e->i->Prop}{m R:Ren}{w N q z:K}{D H:Xu XQ}{a c:Xq XQ}{b:Result e×Xu XQ}{O:Result i×Xu XQ}
 (L:bB f m R w N q z a c)(g:Out f h R N z (D++a.toArray) (H++c.toArray) b O):Out f h m w q D H b O:=by
 obtain⟨r,S⟩:=b;cases r with
 |ok T w₂=>obtain⟨y,l,k,new,u,o,p,t,x⟩:=g;exact⟨y,l,k,a++new,c++u,by rw[o];simp,by rw[p];simp,t,L.trans x⟩
 |halt U w₂=>
  rcases g with g|⟨y,l,k,new,u,o,p,t,x⟩
  .exact Xr g
  exact Xs ⟨y,l,k,a++new,c++u,by rw[o];simp,by rw[p];simp,t,L.trans x⟩
theorem aU.PZ{a:K}(b:aU f m w q)(c:w'.heap=w.heap)(d:a.heap=q.heap)(e:w'.os=w.os)(g:a.os=q.os):aU f m w' a:=
 ⟨b.inj,by rw[c,d];exact b.obj,by rw[e,g];exact b.os⟩
theorem bB.of_heap{W':K}(a:aU f m w q)(g:w'.heap=w.heap)(k:W'.heap=q.heap)(c:W'.os=q.os)(p:W'.output=q.output)(r:W'.tape=q.tape)(o:w'.os=w.os:=by rfl):bB f m m w w' q W' [] [] where
 le:=Ren.le_refl _
 rel:=a.PZ g k o c
 lE:=.nil
 size:=by simp_all
 uW:=by simp_all
 os:=c
 out:=p
 tape:=r
 same:=λ_ _ _=>by simp_all
 wr:=by simp
 fresh:=λ_ _ a=>Xr a
 iK:=λ_ _ _=>by simp_all
 ou:=by simp
 qz:=λu d D l a=>⟨d,l,by simp_all,A⟩
 iz:=by simp
 rf:=by simp
 jX:=λt a=>by simp_all [K.frozen?]
theorem fW{e:Type}(b:Xu e)(a:e):b.push a=b++[a].toArray:=by simp
theorem Hh{e:Type}(a:Xu e):a++([]:Xq e).toArray=a:=by simp
def dr{e:Type}:Result e×Xu XQ->E
 |(.ok _ w,_)=>w.drawn
 |(.halt _ w,_)=>w.drawn
def iX{e:Type}(b:E->Question->E):Result e×Xu XQ->Result e×Xu XQ
 |(.ok c w,a)=>(.ok c {w with tape:=b},a)
 |(.halt d w,a)=>(.halt d {w with tape:=b},a)
def Goes{e:Type}(P:XI)(h:XJ e)(w:K)(f:Xu XQ)(g:E->Question->E)(b:Result e×Xu XQ):Prop:=
 w.drawn<=dr b/\∀c:E->Question->E,(∀a d,w.drawn<=a->a<dr b->c a d=g a d)->h.runT P {w with tape:=c} f=iX c b
theorem oK(N:kj P):∀(g:E){c i:XG}(u:bA m c i){w q:K}(o:aU f m w q)(acc:XM)(h l:Xu XQ),
 (∃t L,Halt.lost t=J/\∀a,(loadBytes c acc g).runT P {w with tape:=a} h=(.halt t {w with tape:=a},L))\/
 ∃s new k,(∀a,(loadBytes c acc g).runT P {w with tape:=a} h=(.ok s {w with tape:=a},h++Xq.toArray new))/\(loadBytes i acc g).runT P q l=(.ok s q,l++Xq.toArray k)/\
  bB f m m w w q q new k/\(g≠0->(∀d a e,q.heap[i.block]?=C (Xx d a e)->aS d)/\∀d a e,w.heap[c.block]?=C (Xx d a e)->aS d)
 |0,c,i,u,w,q,o,acc,h,l=>Xs ⟨acc,[],[],λa=>by rfl,by rfl,bB.refl o,λD=>absurd A D⟩
 |g+1,c,i,u,w,q,o,acc,h,l=>by
  have Q:∀(v x:Xn)(new k:Xq XQ),an f m v x->bB f m m w w q q new k->
   (∀a,(loadBytes c acc (g+1)).runT P {w with tape:=a} h=(match v with|.int .u8 p=>loadBytes (c.add 1) (acc.push p.toNat.toUInt8) g|_=>stuck "a byte variable that holds no byte").runT P {w with tape:=a} (h++new.toArray))->
   ((loadBytes i acc (g+1)).runT P q l=(match x with|.int .u8 p=>loadBytes (i.add 1) (acc.push p.toNat.toUInt8) g|_=>stuck "a byte variable that holds no byte").runT P q (l++k.toArray))->
   ((∀d a e,q.heap[i.block]?=C (Xx d a e)->d[i.off]?=C x)/\∀d a e,w.heap[c.block]?=C (Xx d a e)->d[c.off]?=C v)->
   ((∃t L,Halt.lost t=J/\∀a,(loadBytes c acc (g+1)).runT P {w with tape:=a} h=(.halt t {w with tape:=a},L))\/
   ∃s new k,(∀a,(loadBytes c acc (g+1)).runT P {w with tape:=a} h=(.ok s {w with tape:=a},h++Xq.toArray new))/\(loadBytes i acc (g+1)).runT P q l=(.ok s q,l++Xq.toArray k)/\
    bB f m m w w q q new k/\(g+1≠0->(∀d a e,q.heap[i.block]?=C (Xx d a e)->aS d)/\∀d a e,w.heap[c.block]?=C (Xx d a e)->aS d)):=by
   intro v x new k H a4 r y n;by_cases S:∃p,v=.int .u8 p
   .obtain⟨p,rfl⟩:=S;cases H;rcases oK N g (u.add 1) o (acc.push p.toNat.toUInt8) (h++new.toArray) (l++k.toArray)with⟨t,L,O,z⟩|⟨s,a0,a1,z,R,a2,_⟩
    .simp_all
    refine Xs ⟨s,new++a0,k++a1,λa=>?_,?_,a4.trans a2,λ_=>⟨λd a e D=>⟨_,_,n.1 d a e D⟩,λd a e D=>⟨_,_,n.2 d a e D⟩⟩⟩
    .rw[r];refine(z a).trans ?_;simp
    simp_all
   refine Xr ⟨.stuck "a byte variable that holds no byte",h++new.toArray,A,λa=>?_⟩;simp_all
  cases n:w.cell? c with
  |none=>
   rcases o.Ui N u n Xp with⟨W,y,O⟩|⟨v,tl,a3,y,z,H,X,T⟩
   .refine Xr ⟨W,h,O,λa=>?_⟩;have r:({w with tape:=a}:K).cell? c=F:=n;unfold loadBytes;show XJ.runT P _ _ _=_;simp only[load,Bind.bind,Sem.bind,XJ.runT,r]
    grind
   refine Q v v (tl.map (⟨.cell ·,Xp,Xp⟩)) (a3.map (⟨.cell ·,Xp,Xp⟩)) H ?_ ?_ ?_ ?_
   .have:=bB.refl o;refine{this with lE:= ?_,wr:=by simp,same:=λ_ _ _=>Xr A,iK:=λ_ _ _=>Xr A,ou:=by simp,iz:=by simp,rf:=by simp};clear y z
    induction X with
    |nil=>exact .nil
    |cons b _ Z=>exact .cons ⟨b,A,A⟩ Z
   .intro a;have r:({w with tape:=a}:K).cell? c=F:=n;rw[loadBytes];simp only[load,Bind.bind,Sem.bind,XJ.runT,r];rw[show(Mode.plain==Mode.atomic)=Xp from A,y a,<-Zl];rfl
   .rw[loadBytes];simp only[load,Bind.bind,Sem.bind,XJ.runT,T];rw[show(Mode.plain==Mode.atomic)=Xp from A,z,<-Zl];rfl
   refine⟨λd a e U=>?_,λd a e U=>?_⟩
   .grind [World.farLoad]
   exfalso;have R:=y w.tape
   grind [World.farLoad]
  |some v=>
   obtain⟨x,Y,H⟩:=o.cell u n;refine Q v x [⟨.cell c,Xp,Xp⟩] [⟨.cell i,Xp,Xp⟩] H ?_ ?_ ?_ ?_
   .have:=bB.refl o;exact{this with lE:=.cons ⟨u,A,A⟩ .nil,wr:=by simp,same:=λ_ _ _=>Xr A,iK:=λ_ _ _=>Xr A,ou:=by simp,iz:=by simp,rf:=by simp}
   .intro a;have r:({w with tape:=a}:K).cell? c=C v:=n;rw[loadBytes];simp only[load,Bind.bind,Sem.bind,XJ.runT,r];rw[show(Mode.plain==Mode.atomic)=Xp from A,fW]
    first|rfl|(split<;>rfl)
   .rw[loadBytes];simp only[load,Bind.bind,Sem.bind,XJ.runT,Y];rw[show(Mode.plain==Mode.atomic)=Xp from A,fW]
    first|rfl|(split<;>rfl)
   grind [World.cell?]
theorem sound(c9:kj P){e i:Type}{h:Ren->e->i->Prop}{a6:XJ e}{d4:XJ i}(Z:ae P f h m a6 d4):
 ∀(w q:K)(c l:Xu XQ),aU f m w q->
  ∃n b,Goes P a6 w c n b/\Out f h m w q c l b (d4.runT P q l):=by
 induction Z with
 |pure a1=>intro w q c l g;exact⟨λ_ _=>0,(.ok _ w,c),⟨Ye _,λa _=>rfl⟩,⟨_,_,q,[],[],by rfl,by simp,a1,bB.of_heap g A rfl rfl rfl rfl⟩⟩
 |load s T O p=>
  rename_i m r z D u;intro w q c l g;cases U:w.cell? r with
  |none=>
   rcases g.Ui c9 T U (s==.atomic)with⟨a9,Q,W⟩|⟨v,tl,b9,Q,c7,b0,e4,d6⟩
   .refine⟨λ_ _=>0,(.halt a9 w,c),⟨Ye _,λa _=>?_⟩,Xr W⟩;have y:({w with tape:=a}:K).cell? r=F:=U
    grind [Sem.runT,iX]
   obtain⟨n,b,k,t⟩:=p v v b0 w q (c++tl.toArray.map (⟨.cell ·,Xp,s==.atomic⟩)) (l++b9.toArray.map (⟨.cell ·,Xp,s==.atomic⟩)) g;refine⟨n,b,⟨k.1,λa o=>?_⟩,?_⟩
   .have y:({w with tape:=a}:K).cell? r=F:=U;simp only[XJ.runT,y,Q a];exact k.2 a o
   simp only[XJ.runT,d6,c7]
   have S:bB f m m w w q q (tl.map (⟨.cell ·,Xp,s==.atomic⟩)) (b9.map (⟨.cell ·,Xp,s==.atomic⟩)):=by
    have:=bB.refl g;refine{this with lE:= ?_,wr:=by simp,same:=λ_ _ _=>Xr A,iK:=λ_ _ _=>Xr A,ou:=by simp,iz:=by simp,rf:=by simp};clear Q c7 t k
    induction e4 with
    |nil=>exact .nil
    |cons b _ p=>exact .cons ⟨b,A,A⟩ p
   grind [Out.step]
  |some v=>
   obtain⟨a0,e5,b0⟩:=g.cell T U;obtain⟨n,b,k,t⟩:=p v a0 b0 w q (c.push ⟨.cell r,Xp,s==.atomic⟩) (l.push ⟨.cell z,Xp,s==.atomic⟩) g;refine⟨n,b,⟨k.1,λa o=>?_⟩,?_⟩
   .have y:({w with tape:=a}:K).cell? r=C v:=U;simp only[XJ.runT,y];exact k.2 a o
   simp only[XJ.runT,e5];have S:bB f m m w w q q [⟨.cell r,Xp,s==.atomic⟩] [⟨.cell z,Xp,s==.atomic⟩]:=by have:=bB.refl g;exact{this with lE:=.cons ⟨T,A,A⟩ .nil,wr:=by simp,same:=λ_ _ _=>Xr A,iK:=λ_ _ _=>Xr A,ou:=by simp,iz:=by simp,rf:=by simp}
   grind [Out.step,fW]
 |store s T b0 O p=>
  rename_i m r z v a0 D u;intro w q c l g
  have e8:(∀d,v≠.agg d)->(∀d,v≠.tuple d)->(∀d,a0≠.agg d)->(∀d,a0≠.tuple d)->
   ∃n b,Goes P (.store s r v D) w c n b/\Out f h m w q c l b ((XJ.store s z a0 u).runT P q l):=by
   intro f4 f6 f5 f7
   have d7:∀(w:K)(c:Xu XQ),(XJ.store s r v D).runT P w c=match w.cell? r with
    |some _=>if w.frozen? r then(.halt (.unsupported (.unsafePointer "a write to bytes that a string shares")) w,c)else D.runT P (w.setCell r v) (c.push ⟨.cell r,J,s==.atomic⟩)
    |none=>match w.farStore P r v (s==.atomic)with
     |.ok (w,d5)=>D.runT P w (c++d5.toArray.map (⟨.cell ·,J,s==.atomic⟩))
     |.error Z=>(.halt Z w,c):=by
    intro w c;cases v<;>first|rfl|simp_all|simp_all
   have f0:∀(w:K)(c:Xu XQ),(XJ.store s z a0 u).runT P w c=match w.cell? z with
    |some _=>if w.frozen? z then(.halt (.unsupported (.unsafePointer "a write to bytes that a string shares")) w,c)else u.runT P (w.setCell z a0) (c.push ⟨.cell z,J,s==.atomic⟩)
    |none=>match w.farStore P z a0 (s==.atomic)with
     |.ok (w,d5)=>u.runT P w (c++d5.toArray.map (⟨.cell ·,J,s==.atomic⟩))
     |.error Z=>(.halt Z w,c):=by
    intro w c;cases a0<;>first|rfl|simp_all|simp_all
   cases U:w.cell? r with
   |none=>
    rcases g.VF c9 T b0 U (s==.atomic)with⟨a9,Q,W⟩|⟨c6,d9,tl,b9,Q,c7,d6,S⟩
    .refine⟨λ_ _=>0,(.halt a9 w,c),⟨Ye _,λa _=>?_⟩,Xr W⟩;have y:({w with tape:=a}:K).cell? r=F:=U;simp_all [iX]
    have L:=S (s==.atomic);obtain⟨n,b,k,t⟩:=p {w with heap:=c6} d9 (c++tl.toArray.map (⟨.cell ·,J,s==.atomic⟩)) (l++b9.toArray.map (⟨.cell ·,J,s==.atomic⟩)) L.rel;refine⟨n,b,⟨k.1,λa o=>?_⟩,?_⟩
    .have y:({w with tape:=a}:K).cell? r=F:=U;rw[d7];simp only[y,Q a];exact k.2 a o
    grind [Out.step]
   |some b=>
    obtain⟨f2,b8,_⟩:=g.cell T U;cases b6:w.frozen? r with
    |true=>refine⟨λ_ _=>0,(.halt (.unsupported (.unsafePointer "a write to bytes that a string shares")) w,c),⟨Ye _,λa _=>?_⟩,Xr A⟩;have y:({w with tape:=a}:K).cell? r=C b:=U;have Q:({w with tape:=a}:K).frozen? r=J:=b6;simp_all [iX]
    |false=>
     have e7:q.frozen? z=Xp:=by
      cases b5:q.frozen? z with
      |false=>rfl
      |true=>rw[g.frozen T b5]at b6;cases b6
     have L:=ED g T b0 U b6 (s==.atomic) w.tape;have L:bB f m m w (w.setCell r v) q (q.setCell z a0) [⟨.cell r,J,s==.atomic⟩] [⟨.cell z,J,s==.atomic⟩]:=L;obtain⟨n,b7,a5,t⟩:=p (w.setCell r v) (q.setCell z a0) (c.push ⟨.cell r,J,s==.atomic⟩) (l.push ⟨.cell z,J,s==.atomic⟩) L.rel;have hd:(w.setCell r v).drawn=w.drawn:=by unfold K.setCell;split<;>rfl
     have d1:∀a,({w with tape:=a}:K).setCell r v={w.setCell r v with tape:=a}:=by intro a;unfold K.setCell;split<;>rfl
     refine⟨n,b7,⟨by rw[<-hd];exact a5.1,λa o=>?_⟩,?_⟩
     .have y:({w with tape:=a}:K).cell? r=C b:=U;have Q:({w with tape:=a}:K).frozen? r=Xp:=b6;rw[d7];simp only[y,Q,Yt,Yq];rw[d1];exact a5.2 a (λR Y a3=>o R Y (by rw[<-hd];exact a3))
     rw[f0];simp only[b8,e7,Yt,Yq]
     grind [Out.step,fW]
  cases b0 with
  |bS Z=>exact⟨λ_ _=>0,(.halt (.stuck "store: not the value of one cell") w,c),⟨Ye _,λa _=>rfl⟩,Xr A⟩
  |agg Z e0=>exact⟨λ_ _=>0,(.halt (.stuck "store: not the value of one cell") w,c),⟨Ye _,λa _=>rfl⟩,Xr A⟩
  |tuple Z e0=>exact⟨λ_ _=>0,(.halt (.stuck "store: not the value of one cell") w,c),⟨Ye _,λa _=>rfl⟩,Xr A⟩
  |_=>exact e8 (by simp) (by simp) (by simp) (by simp)
 |new a4 O p=>
  rename_i m H X D u;intro w q c l g;have L:=EC g a4 w.tape;obtain⟨n,b,k,t⟩:=p w.heap.size q.heap.size _ L.le (Xs ⟨A,A⟩) {w with heap:=w.heap.push H} {q with heap:=q.heap.push X} c l L.rel;refine⟨n,b,⟨k.1,λa o=>k.2 a o⟩,?_⟩
  grind [Sem.runT,Out.step]
 |shape a1 O p=>rename_i m x N D u;intro w q c l g;obtain⟨n,b,k,t⟩:=p (w.shape? x) w q c l g;refine⟨n,b,⟨k.1,λa o=>k.2 a o⟩,?_⟩;simp only[XJ.runT];rw[<-g.shape a1];exact t
 |nZ S b3 O p=>
  rename_i m d b2 D u;intro w q c l g
  have a4:gQ f m (.cells d S (d.size,d.size+1)) (.cells b2 S (b2.size,b2.size+1)):=.cells S b3 (by
   have:=b3.1
   unfold kX;simp only;omega)
  have L:=EC g a4 w.tape;obtain⟨n,b,k,t⟩:=p w.heap.size q.heap.size _ L.le (Xs ⟨A,A⟩) {w with heap:=w.heap.push (.cells d S (d.size,d.size+1))} {q with heap:=q.heap.push (.cells b2 S (b2.size,b2.size+1))} c l L.rel;refine⟨n,b,⟨k.1,λa o=>by rw[tJ];exact k.2 a o⟩,?_⟩
  grind [tJ,Sem.runT,Out.step]
 |jX b1 T O p=>
  rename_i m r z D u;intro w q c l g;rcases oK c9 b1 T g .empty c l with⟨c6,c0,W,y⟩|⟨a6,new,e9,y,Q,f1,e1⟩
  .refine⟨λ_ _=>0,(.halt c6 w,c0),⟨Ye _,λa _=>?_⟩,Xr W⟩;unfold iD;rw[Go.Sem.runT_bind',y];rfl
  have L:=EB g T b1 w.tape e1;obtain⟨n,b,k,t⟩:=p a6 (w.freeze r b1) (q.freeze z b1) (c++new.toArray) (l++e9.toArray) L.rel;have hd:(w.freeze r b1).drawn=w.drawn:=by grind [World.freeze]
  have d1:∀a,({w with tape:=a}:K).freeze r b1={w.freeze r b1 with tape:=a}:=by grind [World.freeze]
  refine⟨n,b,⟨by rw[<-hd];exact k.1,λa o=>?_⟩,?_⟩
  .unfold iD;rw[Go.Sem.runT_bind',y];simp only[XJ.runT];rw[d1];exact k.2 a (λR Y a3=>o R Y (by omega))
  unfold iD;rw[Go.Sem.runT_bind',Q];simp only[XJ.runT];refine Out.step f1 (Out.step L ?_);rw[Hh,Hh];exact t
 |frozen T O p=>rename_i m r z D u;intro w q c l g;obtain⟨n,b,k,t⟩:=p (w.frozen? r) (q.frozen? z) (λZ=>g.frozen T Z) w q c l g;refine⟨n,b,⟨k.1,λa o=>k.2 a o⟩,?_⟩;simp_all [XJ.runT]
 |getObj a1 O p=>
  rename_i m x N D u;intro w q c l g;obtain⟨H,X,a4,e2,b⟩:=g.obj _ _ a1;by_cases a2:∃d a a8,H=.cells d a a8
  .obtain⟨d,a,a8,rfl⟩:=a2;refine⟨λ_ _=>0,(.halt (.stuck "getObj: a row of cells") w,c),⟨Ye _,λa _=>?_⟩,Xr A⟩
   grind [Sem.runT,iX]
  obtain⟨n,b7,a5,t⟩:=p H X b w q (c.push ⟨.obj x,Xp,H.isChan⟩) (l.push ⟨.obj N,Xp,X.isChan⟩) g;have d0:H.isChan=X.isChan:=by cases b<;>rfl
  have y:∀a,(XJ.getObj x D).runT P {w with tape:=a} c=(D H).runT P {w with tape:=a} (c.push ⟨.obj x,Xp,H.isChan⟩):=by intro a;have y:({w with tape:=a}:K).heap[x]?=_:=a4;simp only[XJ.runT,y];cases H<;>first|rfl|exact absurd ⟨_,_,_,rfl⟩ a2
  have Q:(XJ.getObj N u).runT P q l=(u X).runT P q (l.push ⟨.obj N,Xp,X.isChan⟩):=by simp only[XJ.runT,e2];cases b<;>first|rfl|exact absurd ⟨_,_,_,rfl⟩ a2
  refine⟨n,b7,⟨a5.1,λa o=>by rw[y];exact a5.2 a o⟩,?_⟩;rw[Q];have S:bB f m m w w q q [⟨.obj x,Xp,H.isChan⟩] [⟨.obj N,Xp,X.isChan⟩]:=by have:=bB.refl g;exact{this with lE:=.cons ⟨a1,A,d0⟩ .nil,wr:=by simp,same:=λ_ _ _=>Xr A,iK:=λ_ _ _=>Xr A,ou:=by simp,iz:=by simp,rf:=by simp}
  grind [Out.step,fW]
 |setObj a1 a4 d2 O p=>
  rename_i m x N H X D u;intro w q c l g;obtain⟨b,f2,k,b8,f3⟩:=g.obj _ _ a1;by_cases a2:∃d a a8,b=.cells d a a8
  .obtain⟨d,a,a8,rfl⟩:=a2;refine⟨λ_ _=>0,(.halt (.stuck "setObj: a row of cells") w,c),⟨Ye _,λa _=>?_⟩,Xr A⟩;simp_all [XJ.runT,iX]
  have d0:H.isChan=X.isChan:=by cases a4<;>rfl
  have L:=OJ g a1 a4 d2 k b8 (λd a a8 a7=>a2 ⟨d,a,a8,a7⟩) H.isChan w.tape;obtain⟨n,b7,a5,t⟩:=p {w with heap:=w.heap.setIfInBounds x H} {q with heap:=q.heap.setIfInBounds N X} (c.push ⟨.obj x,J,H.isChan⟩) (l.push ⟨.obj N,J,H.isChan⟩) L.rel
  have y:∀a,(XJ.setObj x H D).runT P {w with tape:=a} c=D.runT P {w with tape:=a,heap:=w.heap.setIfInBounds x H} (c.push ⟨.obj x,J,H.isChan⟩):=by intro a;have y:({w with tape:=a}:K).heap[x]?=_:=k;simp only[XJ.runT,y];cases b<;>first|rfl|exact absurd ⟨_,_,_,rfl⟩ a2
  have Q:(XJ.setObj N X u).runT P q l=u.runT P {q with heap:=q.heap.setIfInBounds N X} (l.push ⟨.obj N,J,H.isChan⟩):=by simp only[XJ.runT,b8,<-d0];cases f3<;>first|rfl|exact absurd ⟨_,_,_,rfl⟩ a2
  refine⟨n,b7,⟨a5.1,λa o=>by rw[y];exact a5.2 a o⟩,?_⟩
  grind [Out.step,fW]
 |choose Y O p=>
  rename_i m D u;intro w q c l g;cases b5:Y.forced with
  |true=>
   obtain⟨n,b,k,t⟩:=p 0 w q c l g;refine⟨n,b,⟨k.1,λa o=>?_⟩,?_⟩
   .simp only[XJ.runT,b5,Ym];exact k.2 a o
   simp_all [XJ.runT]
  |false=>
   have L:=bB.of_heap (w':={w with drawn:=w.drawn+1}) (W':={q with drawn:=q.drawn+1}) g A rfl rfl rfl rfl;obtain⟨n,b,k,t⟩:=p (Y.cut (q.tape q.drawn Y)) {w with drawn:=w.drawn+1} {q with drawn:=q.drawn+1} c l L.rel;have e6:w.drawn+1<=dr b:=k.1;refine⟨λR x=>if R=w.drawn then q.tape q.drawn x else n R x,b,⟨by omega,λa o=>?_⟩,?_⟩
   .have b3:a w.drawn Y=q.tape q.drawn Y:=by have:=o w.drawn Y (Ye _) (by omega);simpa using this
    have:=k.2 a (λR x a3 W=>by
     have c8:=o R x (Yi (c_ _) a3) W;have d3:R≠w.drawn:=by intro a7;subst a7;exact absurd a3 (by simp)
     simpa only[XH d3]using c8)
    simp only[XJ.runT,b5,Yt,Yq,b3];exact this
   simp only[XJ.runT,b5,Yt,Yq]
   grind [Out.step]
 |kA Y e3 S O p=>
  rename_i m D d4;intro w q c l g;have L:=bB.of_heap (w':={w with drawn:=w.drawn+1}) (W':=q) g A rfl rfl rfl rfl;obtain⟨n,b,k,t⟩:=p {w with drawn:=w.drawn+1} q c l L.rel;have e6:w.drawn+1<=dr b:=k.1;refine⟨λR x=>if R=w.drawn then S else n R x,b,⟨by omega,λa o=>?_⟩,?_⟩
  .have b3:a w.drawn Y=S:=by have:=o w.drawn Y (Ye _) (by omega);simpa using this
   have:=k.2 a (λR x a3 W=>by
    have c8:=o R x (Yi (c_ _) a3) W;have d3:R≠w.drawn:=by intro a7;subst a7;exact absurd a3 (by simp)
    simpa only[XH d3]using c8)
   simp only[XJ.runT,e3,Yt,Yq,b3];exact this
  grind [Out.step]
 |sV O p=>rename_i m N a6 u;intro w q c l g;obtain⟨n,b,k,t⟩:=p (q.shape? N) w q c l g;exact⟨n,b,⟨k.1,λa o=>k.2 a o⟩,t⟩
 |wV O p=>rename_i m N a6 u;intro w q c l g;obtain⟨n,b,k,t⟩:=p (w.shape? N) w q c l g;exact⟨n,b,⟨k.1,λa o=>k.2 a o⟩,t⟩
 |nQ O p=>rename_i m N a6 u;intro w q c l g;obtain⟨n,b,k,t⟩:=p (q.frozen? N) w q c l g;exact⟨n,b,⟨k.1,λa o=>k.2 a o⟩,t⟩
 |qE O p=>rename_i m N a6 u;intro w q c l g;obtain⟨n,b,k,t⟩:=p (w.frozen? N) w q c l g;exact⟨n,b,⟨k.1,λa o=>k.2 a o⟩,t⟩
 |env O p=>
  rename_i m D u;intro w q c l g;obtain⟨n,b,k,t⟩:=p (.strings w.os.env) w q (c.push ⟨.output,J,Xp⟩) (l.push ⟨.output,J,Xp⟩) g;refine⟨n,b,⟨k.1,λa o=>k.2 a o⟩,?_⟩;have Q:q.sys .env=(.strings w.os.env,q):=by rw[g.os];rfl
  have S:bB f m m w w q q [⟨.output,J,Xp⟩] [⟨.output,J,Xp⟩]:=by have:=bB.refl g;exact{this with lE:=.cons ⟨trivial,A,A⟩ .nil,wr:=by simp,same:=λ_ _ _=>Xr A,iK:=λ_ _ _=>Xr A,ou:=by simp,iz:=by simp,rf:=by simp}
  grind [Sem.runT,Out.step,fW]
 |program O p=>intro w q c l g;obtain⟨n,b,k,t⟩:=p w q c l g;exact⟨n,b,⟨k.1,λa o=>k.2 a o⟩,by simp_all [XJ.runT]⟩
 |mark s d2 O p=>
  rename_i m D u;intro w q c l g;obtain⟨n,b,k,t⟩:=p w q (c.push ⟨.mark s,Xp,J⟩) (l.push ⟨.mark s,Xp,J⟩) g;refine⟨n,b,⟨k.1,λa o=>k.2 a o⟩,?_⟩;have S:bB f m m w w q q [⟨.mark s,Xp,J⟩] [⟨.mark s,Xp,J⟩]:=by have:=bB.refl g;exact{this with lE:=.cons ⟨⟨A,d2⟩,A,A⟩ .nil,wr:=by simp,same:=λ_ _ _=>Xr A,iK:=λ_ _ _=>Xr A,ou:=by simp,iz:=by simp,rf:=by simp}
  grind [Sem.runT,Out.step,fW]
 |halt a9=>intro w q c l g;exact⟨λ_ _=>0,(.halt _ w,c),⟨Ye _,λa _=>rfl⟩,Xs ⟨_,_,q,[],[],by rfl,by simp,a9,bB.of_heap g A rfl rfl rfl rfl⟩⟩
 |lost W=>intro w q c l g;exact⟨λ_ _=>0,(.halt _ w,c),⟨Ye _,λa _=>rfl⟩,Xr W⟩
 |dead Z=>intro w q c l g;obtain⟨a9,c0,a7,W⟩:=Z.run P w c;exact⟨λ_ _=>0,(.halt a9 w,c0),⟨Ye _,λa _=>a7 a⟩,Xr W⟩
variable{a:Xu Xn}{x:Xn}
def St(m:Ren){d e:Type}(Q:d->e->Prop):Ren->d->e->Prop:=λc a b=>c=m/\Q a b
def V(f:Set):Ren->Xn->Xn->Prop:=λm b a=>an f m b a
def iP(P:XI):Prop:=∀b i a,P.info? b=C i->i.zero=C a->∀f m,an f m a a
def Base(P:XI)(m:Ren):Prop:=(∀a,(0<a\/a=P.globals.size)->a<=P.globals.size->m a a)/\∀b c,m b c->(b<P.globals.size↔c<P.globals.size)
theorem Base.at(b:Base P m){a:E}(c:0<a)(d:a<=P.globals.size):m a a:=b.1 a (Xr c) d
theorem Base.types(a:Base P m):m P.globals.size P.globals.size:=a.1 _ (Xs A) (Ye _)
section
variable{d e h l:Type}{g:Ren->d->e->Prop}{Q:Ren->h->l->Prop}
theorem bindM{o:XJ d}{p:XJ e}(q:ae P f g m o p){k:d->XJ h}{n:e->XJ l}
 (r:∀a b c,m.le a->g a b c->ae P f Q a (k b) (n c)):ae P f Q m (o >>= k) (p >>= n):=q.bind r
theorem ax{n:d->e->Prop}{q:XJ d}{r:XJ e}(s:ae P f (St m n) m q r){o:d->XJ h}{p:e->XJ l}
 (w:∀c k,n c k->ae P f Q m (o c) (p k)):ae P f Q m (q >>= o) (r >>= p):=
 s.bind λy c k _ t=>by obtain⟨u,v⟩:=t;simp_all
theorem au{e g:XJ d}(k:ae P f (St m Eq) m e g){b:d->XJ h}{c:d->XJ l}
 (p:∀a,ae P f Q m (b a) (c a)):ae P f Q m (e >>= b) (g >>= c):=
 ax k λa n o=>by simp_all
theorem aB{a:d}{b:e}(c:g m a b):ae P f g m (pure a) (pure b):=.pure c
theorem aq{a:d->e->Prop}{b:d}{c:e}(g:a b c):ae P f (St m a) m (pure b) (pure c):=.pure ⟨A,g⟩
theorem ah{b:String}{a:XJ e}:ae P f g m (stuck b:XJ d) a:=.lost A
theorem fq{a:Unsupported}{c:XJ e}(b:Halt.lost (.unsupported a)=J:=by rfl):ae P f g m (unsupported a:XJ d) c:=.lost b
theorem bH{a:XI->XJ h}{b:XI->XJ l}(c:ae P f Q m (a P) (b P)):ae P f Q m (program >>= a) (program >>= b):=.program c
theorem dW{a:Xn}(c:an f m b a):ae P f g m (goPanic b:XJ d) (goPanic a:XJ e):=.halt c
theorem bL(a:XA):ae P f (St m λi b=>i=b/\P.info? a=C i) m (typeInfo a) (typeInfo a):=by
 unfold typeInfo;refine bH ?_;cases c:P.info? a with
 |none=>exact ah
 |some i=>simp[aq]
theorem ay(a:XA):ae P f (St m Eq) m (underlying a) (underlying a):=by
 unfold underlying;refine bH ?_;cases b:P.underlying a with
 |none=>exact ah
 |some i=>exact aq A
theorem aT(a:XA):ae P f (St m Eq) m (Go.sizeOf a) (Go.sizeOf a):=by unfold Go.sizeOf;exact ax (bL a) λc d⟨b,_⟩=>by subst b;exact aq A
theorem yP(a:XA):ae P f (St m Eq) m (isAgg a) (isAgg a):=by unfold isAgg;refine au (ay a) λb=>?_;cases b<;>exact aq A
theorem cL(g:iP P)(a:XA):ae P f (St m (an f m)) m (zeroValue a) (zeroValue a):=by
 unfold zeroValue;refine ax (bL a) λb h⟨c,e⟩=>?_;subst c;cases d:b.zero with
 |none=>exact fq
 |some k=>exact aq (g _ _ _ e d _ _)
theorem qP{c d:XG}(e:bA m c d)(a:Mode:=.plain):ae P f (St m (an f m)) m (load c a) (load d a):=
 .load a e λb h g=>.pure ⟨A,g⟩
theorem KT{c d:XG}(g:bA m c d){e:Xn}(h:an f m b e)(a:Mode:=.plain):ae P f (St m λ_ _=>True) m (store c b a) (store d e a):=
 .store a g h (.pure ⟨A,trivial⟩)
theorem aw.push{o:Xu Xn}(k:aw f m a o){p:Xn}(s:an f m b p):aw f m (a.push b) (o.push p):=by
 refine⟨by simp[k.1],λi x r n c=>?_⟩;rw[Zq]at n c;rw[<-k.1]at c;split at n
 .simp_all
 rename_i q;rw[XH q]at c;exact k.2 i x r n c
theorem aw.nil:aw f m #[] #[]:=⟨A,λi x b a=>by simp at a⟩
theorem aw.append{g h k:Xu Xn}(e:aw f m a g)(l:aw f m h k):aw f m (a++h) (g++k):=by
 refine⟨by simp[e.1,l.1],λi x n c b=>?_⟩;rw[abf]at c b;rw[<-e.1]at b;split at c
 .rename_i d;rw[XN d]at b;exact e.2 i x n c b
 rename_i d;rw[XH d]at b;exact l.2 _ x n c b
theorem aw.get{c:Xu Xn}(n:aw f m a c)(p:a[i]?=C x):∃q,c[i]?=C q/\an f m x q:=by
 obtain⟨r,_⟩:=XZ.1 p;have o:i<c.size:=by rw[<-n.1];exact r
 exact⟨c[i],by simp[o],n.2 i _ _ p (by simp[o])⟩
theorem aw.none{b:Xu Xn}(d:aw f m a b)(c:a[i]?=F):b[i]?=F:=by
 rw[Xu.getElem?_eq_none_iff]at c⊢
 rw[<-d.1];exact c
theorem aw.getD{b:Xu Xn}(e:aw f m a b)(i:E){c d:Xn}(hd:an f m c d):an f m (a.getD i c) (b.getD i d):=by
 rw[YG,YG];cases g:a[i]? with
 |none=>rw[e.none g];exact hd
 |some x=>obtain⟨l,h,k⟩:=e.get g;simp_all
theorem aX:an f m I I:=.tuple A λi x k c=>by simp at c
theorem aw.extract{h:Xu Xn}(d:aw f m a h)(e g:E):aw f m (a.extract e g) (h.extract e g):=by
 refine⟨by simp[d.1],λi x l b c=>?_⟩;rw[aa1]at b c;rw[<-d.1]at c;split at b
 .rename_i k;rw[XN k]at c;exact d.2 _ x l b c
 cases b
theorem aw.set{g:Xu Xn}(d:aw f m a g)(i:E){h:Xn}(n:an f m b h):aw f m (a.setIfInBounds i b) (g.setIfInBounds i h):=by
 refine⟨by simp[d.1],λj x l e c=>?_⟩;rw[Zb]at e c;rw[<-d.1]at c;split at e
 .simp_all
 rename_i k;rw[XH k]at c;exact d.2 _ x l e c
theorem aw.list{b:Xu Xn}(e:aw f m a b):aY (an f m) a.toList b.toList:=by
 obtain⟨a⟩:=a;obtain⟨b⟩:=b;obtain⟨c,d⟩:=e;simp only[YF,Yy]at c d⊢
 induction a generalizing b with
 |nil=>cases b with
  |nil=>exact .nil
  |cons=>simp at c
 |cons x q g=>cases b with
  |nil=>simp at c
  |cons k h=>refine .cons (d 0 x k (by simp) (by simp)) (g h (by simp_all) λi l n o p=>d (i+1) l n (by simp_all) (by simp_all))
theorem aY.arr{c d:Xq Xn}(a:aY (an f m) c d):aw f m c.toArray d.toArray:=by refine⟨by simp[a.length],λi x k b e=>?_⟩;simp only[Yy]at b e;obtain⟨l,g,h⟩:=a.get b;simp_all
theorem dP{e:Xn}(c:an f m b e):aw f m b.cells e.cells:=by
 have one:∀{x n:Xn},an f m x n->aw f m #[x] #[n]:=λc=>aw.push aw.nil c;cases c with
 |bS l=>
  have:e.cells=#[e]:=by cases e<;>first|rfl|cases l
  rw[this];exact one (.bS l)
 |agg h k=>exact⟨h,k⟩
 |bool g=>exact one (.bool g)
 |int r d=>exact one (.int r d)
 |string s=>exact one (.string s)
 |cJ=>exact one .cJ
 |ptr c=>exact one (.ptr c)
 |aO d a=>exact one (.aO d a)
 |slice c d a=>exact one (.slice c d a)
 |fw=>exact one .fw
 |map c=>exact one (.map c)
 |eg=>exact one .eg
 |chan c=>exact one (.chan c)
 |func o g a p q=>exact one (.func o g a p q)
 |nilFunc=>exact one .nilFunc
 |iface t c=>exact one (.iface t c)
 |nilIface=>exact one .nilIface
 |tuple h k=>exact one (.tuple h k)
theorem kG{e g:XG}(h:bA m e g):∀(a i:E)(acc c:Xu Xn),aw f m acc c->
 ae P f (St m (aw f m)) m (loadCellsFrom e i a acc) (loadCellsFrom g i a c)
 |0,_,_,_,d=>aq d
 |a+1,i,acc,c,d=>by unfold loadCellsFrom;exact ax (qP (h.add i)) λb l k=>kG h a (i+1) _ _ (d.push k)
theorem kQ{b c:XG}(d:bA m b c)(a:E):ae P f (St m (aw f m)) m (loadCells b a) (loadCells c a):=kG d a 0 _ _ aw.nil
theorem gE{a b:XG}(e:bA m a b){c d:Xq Xn}(g:aY (an f m) c d):∀i,ae P f (St m λ_ _=>True) m (storeCells a c i) (storeCells b d i):=by
 induction g with
 |nil=>simp[storeCells,aq]
 |cons h _ k=>intro i;unfold storeCells;exact ax (KT (e.add i) h) λ_ _ _=>k (i+1)
theorem tH{c d:XG}(e:bA m c d)(b:XA):ae P f (St m (an f m)) m (loadVar b c) (loadVar b d):=by
 unfold loadVar;refine au (yP b) λh=>?_;cases h
 .exact qP e
 refine au (aT b) λk=>?_;exact ax (kQ e k) λa l g=>aq (.agg g.1 g.2)
theorem AX{e g:XG}(l:bA m e g){d:Xn}(o:an f m b d)(c:XA):ae P f (St m λ_ _=>True) m (storeVar c e b) (storeVar c g d):=by
 have h:=dP o;unfold storeVar;refine au (aT c) λk=>?_;by_cases a:b.cells.size=k
 .have n:d.cells.size=k:=by rw[<-h.1];exact a
  simp only[a,n,ne_eq,not_true_eq_false,Yq];exact gE l h.list 0
 simp only[ne_eq,a,O_,Ym];exact ah
theorem gY{d:Xu Xn}(h:aw f m a d)(b:XA):ae P f (λc e g=>m.le c/\bA c e g) m (newRow b a) (newRow b d):=by unfold newRow;exact .new (.cells b h (kX.refl _)) λn o c k l=>.pure ⟨k,l,A,A⟩
theorem pL{c:Xn}(h:an f m b c)(a:XA):ae P f (λd e g=>m.le d/\bA d e g) m (newVar a b) (newVar a c):=gY (dP h) a
theorem pz(a:XA):ae P f (St m Eq) m (elemOf a) (elemOf a):=by unfold elemOf;refine au (ay a) λb=>?_;cases b<;>first|exact aq rfl|exact ah
theorem iH{e:Xu Xn}(c:aw f m a e)(b:XA)(d:E):ae P f (St m (an f m)) m (part b a d) (part b e d):=by
 unfold part;refine au (yP b) λg=>?_;cases g
 .cases h:a[d]? with
  |none=>exact ah
  |some x=>obtain⟨o,k,n⟩:=c.get h;simp_all [aq]
 refine au (aT b) λl=>?_;exact aq (.agg (c.extract _ _).1 (c.extract _ _).2)
theorem mL{b:Xu Xn}(c:aw f m a b):an f m (.agg a) (.agg b):=.agg c.1 c.2
theorem gH{b:Xu Xn}(c:aw f m a b):an f m (.tuple a) (.tuple b):=.tuple c.1 c.2
theorem xi(b:Base P m)(a:XA):an f m (typeHandle P a) (typeHandle P a):=.ptr ⟨b.types,A,A⟩
theorem bw(r:Base P m){c:RuntimeError}(u:∀k o a p,c≠.typeAssertion k o a p):ae P f g m (runtimePanic c:XJ d) (runtimePanic c:XJ e):=by
 unfold runtimePanic;refine bH ?_;cases c with
 |bounds x w v a=>exact dW (.iface _ (mL ((((aw.nil.push (.int _ _)).push (.int _ _)).push (.bool _)).push (.int _ _))))
 |error s=>exact dW (.iface _ (.string _))
 |plain s=>exact dW (.iface _ (.string _))
 |nilDeref=>exact dW (.iface _ (.string _))
 |typeAssertion k o a p=>grind
 |panicNil=>refine au (pz _) λn=>?_;exact bindM (pL (mL aw.nil) n) λy k t _⟨_,q⟩=>dW (.iface _ (.ptr q))
 |unhashable n=>exact dW (.iface _ (mL (aw.nil.push (xi r n))))
theorem cr(a:Question):ae P f (St m Eq) m (choose a) (choose a):=.choose a λb=>.pure ⟨A,A⟩
theorem eC(k:Base P m)(b:IntKind)(x h:Xt)(a:BoundsCode):ae P f g m (boundsPanic b x h a:XJ d) (boundsPanic b x h a:XJ e):=by
 unfold boundsPanic;by_cases c:(b !=.u64&&decide (0<=x)&&decide (x<=31))=J
 .simp only[c,Ym];simp_all [au,cr,bw]
 simp only[c];simp_all [bw]
theorem kx{a:Xn}(c:an f m b a):ae P f (St m Eq) m (asIntOf b) (asIntOf a):=by cases c<;>first|exact aq rfl|exact ah|exact fq
theorem dO{a:Xn}(d:an f m b a):ae P f (St m Eq) m (asInt b) (asInt a):=by unfold asInt;exact ax (kx d) λe g c=>by subst c;exact aq A
theorem vd{a:Xn}(c:an f m b a):ae P f (St m Eq) m (asBool b) (asBool a):=by cases c<;>first|exact aq rfl|exact ah
theorem Jn{a:Xn}(c:an f m b a):ae P f (St m (aw f m)) m (asAgg b) (asAgg a):=by cases c<;>first|exact aq ⟨‹_›,‹_›⟩|exact ah
theorem vc(g:Base P m){d:Xn}(e:an f m b d):ae P f (St m (bA m)) m (asAddr b) (asAddr d):=by cases e<;>first|exact aq ‹_›|exact ah|exact bw (c:=.nilDeref) g (λh k a l c=>by cases c)
theorem cZ{a b:E}(c:m a b):ae P f (St m Eq) m (shape a) (shape b):=.shape c λd=>.pure ⟨A,A⟩
theorem bI{a b:E}(c:m a b):ae P f (St m (gQ f m)) m (getObj a) (getObj b):=.getObj c λe g d=>.pure ⟨A,d⟩
inductive LN(m:Ren):Xz (XG×XA)->Xz (XG×XA)->Prop
 |none:LN m F F
 |some {c k:XG} (o:bA m c k) (n:XA):LN m (C (c,n)) (C (k,n))
theorem jU{b c:E}(a:m b c):ae P f (St m (LN m)) m (viewAt b) (viewAt c):=by
 unfold viewAt;refine au (cZ a) λe=>?_;cases e with
 |some x=>exact aq .none
 |none=>refine ax (bI a) λg h d=>?_;cases d<;>first|exact aq .none|exact aq (.some ‹_› _)
inductive Ly(m:Ren):Xz (XG×Xy)->Xz (XG×Xy)->Prop
 |none:Ly m F F
 |some {c k:XG} (o:bA m c k) (n:Xy):Ly m (C (c,n)) (C (k,n))
theorem ra{b c:E}(a:m b c):ae P f (St m (Ly m)) m (numberAt b) (numberAt c):=by
 unfold numberAt;refine au (cZ a) λe=>?_;cases e with
 |some x=>exact aq .none
 |none=>refine ax (bI a) λg h d=>?_;cases d<;>first|exact aq .none|exact aq (.some ‹_› _)
theorem jK{c k:XG}(n:bA m c k):ae P f (St m λ_ _=>True) m (noView c) (noView k):=by
 unfold noView;refine ax (jU n.1) λx p o=>?_;cases o
 .exact aq trivial
 exact fq
theorem eV{a b:XG}(e:bA m a b):ae P f (St m λc d=>d=J->c=J) m (frozen a) (frozen b):=.frozen e λc d g=>.pure ⟨A,g⟩
theorem oU{c d:XG}(e:bA m c d):ae P f (St m λa b=>b=J->a=J) m (stringish c) (stringish d):=by
 unfold stringish;refine ax (eV e) λa b l=>?_
 have tail:ae P f (St m λa b=>b=J->a=J) m
  (do match<-shape c.block with|some (_,g)=>frozen {block:=c.block,off:=g}|none=>pure Xp:XJ Xy)
  (do match<-shape d.block with|some (_,g)=>frozen {block:=d.block,off:=g}|none=>pure Xp:XJ Xy):=by
  refine au (cZ e.1) λk=>?_;cases k with
  |some x=>exact eV ⟨e.1,A,A⟩
  |none=>simp[aq]
 cases a
 .grind
 cases b
 .refine .sV λx=>?_;cases x with
  |none=>exact aq (by simp)
  |some x=>exact .nQ λn=>aq (by simp)
 simp[aq]
theorem qS{a b c d:XG}(g:bA m a b)(e:bA m c d):ae P f (St m λx h=>h=J->x=J) m (mayBeOne a c) (mayBeOne b d):=by
 unfold mayBeOne;refine ax (oU g) λx h l=>?_;refine ax (oU e) λq r n=>?_;refine au (au (cZ g.1) λk=>aq A) λo=>?_;refine au (au (cZ e.1) λk=>aq A) λp=>?_;refine aq ?_
 grind
def qc(m:Ren):Prop:=∀a b c d,m a c->m b d->(a=b↔c=d)
theorem rG(s:qc m){e g h k:XG}(d:bA m e g)(c:bA m h k):ae P f (St m Eq) m (sameAddr e h) (sameAddr g k):=by
 unfold sameAddr;have n:=s _ _ _ _ d.1 c.1;by_cases a:e.block=h.block
 .have l:=n.1 a;simp only[a,l,beq_self_eq_true,Ym];refine aq ?_;obtain⟨x,q,R⟩:=e;obtain⟨p,r,S⟩:=g;obtain⟨N,b,H⟩:=h;obtain⟨O,Q,L⟩:=k;simp only[bA]at d c a l
  grind
 have l:¬g.block=k.block:=λx=>a (n.2 x);simp only[aaW,a,l,Yq];refine ax (eV d) λx p y=>?_;refine ax (eV c) λq r z=>?_;by_cases o:(x&&q)=J
 .simp only[o,Ym];exact fq
 have t:¬(p&&r)=J:=by grind
 simp only[o,t];refine ax (jK d) λ_ _ _=>?_;refine ax (jK c) λ_ _ _=>?_;refine ax (qS d c) λu v w=>?_;cases u
 .simp_all [aq]
 cases v
 .exact .kA _ (by decide) 0 (aq (by decide))
 exact au (cr _) λD=>aq A
end
section
variable{a b c d:Type}{e:Ren->a->b->Prop}{Q:Ren->c->d->Prop}
theorem forIn_list{d k:Type}{g h:k->d->XJ (ForInStep d)}(i:∀c a,ae P f (St m Eq) m (g c a) (h c a)):∀(b:Xq k)(a:d),ae P f (St m Eq) m (forIn b a g) (forIn b a h)
 |[],a=>by simp[aq]
 |c::b,a=>by
  simp only[aa8];refine au (i c a) λl=>?_;cases l with
  |done e=>exact aq A
  |yield e=>exact forIn_list i b e
theorem sG{b h:Type}{c d:h->b->XJ (ForInStep b)}(i:∀g a,ae P f (St m Eq) m (c g a) (d g a))(e:Xu h)(a:b):ae P f (St m Eq) m (forIn e a c) (forIn e a d):=by
 rw[<-r_,<-r_]
 grind [forIn_list]
theorem forIn_range{b:Type}{c d:E->b->XJ (ForInStep b)}(h:∀g a,ae P f (St m Eq) m (c g a) (d g a))(e:Std.Legacy.Range)(a:b):ae P f (St m Eq) m (forIn e a c) (forIn e a d):=by simp_all [forIn_list]
theorem ef{b c:XG}(d:bA m b c):ae P f (St m λa e=>bA m a.1 e.1/\a.2=e.2) m (behindNumber b) (behindNumber c):=by
 unfold behindNumber;refine ax (ra d.1) λa k h=>?_;cases h with
 |none=>exact aq ⟨d,A⟩
 |some g i=>exact aq ⟨g,A⟩
theorem ua(a:XA):ae P f (St m Eq) m (typeStr a) (typeStr a):=by
 unfold typeStr;refine ax (bL a) λd e⟨b,_⟩=>?_;subst b;dsimp only;by_cases c:d.str.isEmpty=J
 .simp only[c,Ym];exact fq
 simp_all [aq]
theorem fN{a b:XG}(k:bA m a b):ae P f (St m Eq) m (byteOf a) (byteOf b):=by
 unfold byteOf;obtain⟨n,g,p⟩:=a;obtain⟨o,s,t⟩:=b;obtain⟨e,h,i⟩:=k;simp only at e h i;subst h;subst i;cases p with
 |some c=>exact aq A
 |none=>
  refine bH ?_;refine ax (jK (c:=⟨n,g,Option.none⟩) (k:=⟨o,g,Option.none⟩) ⟨e,A,A⟩) λ_ _ _=>?_;refine au (cZ e) λc=>?_;cases c with
  |none=>exact ah
  |some c=>
   obtain⟨d,r⟩:=c;dsimp only;by_cases l:P.cellsOf d=0
   .simp_all [aq]
   simp only[l,Yq];cases byteOfCell P P.depth d (g%P.cellsOf d)with
   |none=>exact ah
   |some q=>exact aq A
theorem Gn{a b c d:E}(g:qc m)(f:m a b)(e:m c d):(C a==C c)=(C b==C d):=by
 have:=g _ _ _ _ f e
 grind
theorem addr_eq(h:qc m){a b c d:XG}(f:bA m a b)(e:bA m c d):(a==c)=(b==d):=by
 have g:=h _ _ _ _ f.1 e.1;obtain⟨q,s,u⟩:=a;obtain⟨r,t,v⟩:=b;obtain⟨l,o,i⟩:=c;obtain⟨n,p,k⟩:=d;simp only[bA]at f e g
 grind
theorem mS(Y:Base P m)(w:qc m):∀(l:E)(p:XA)(y S z T:Xn),an f m y S->an f m z T->ae P f (St m Eq) m (Op.equalIn l p y z) (Op.equalIn l p S T)
 |0,_,_,_,_,_,_,_=>fq
 |l+1,p,y,S,z,T,b,c=>by
  unfold Op.equalIn;refine au (ay p) λa6=>?_
  have a1:∀(d:XA){k q a r:Xu Xn}(g:E),aw f m k q->aw f m a r->ae P f (St m Eq) m
   (do if(!(<-Op.equalIn l d (<-part d k g) (<-part d a g)))=J then pure (ForInStep.done (C Xp,()))else pure (ForInStep.yield ((F:Xz Xy),())):XJ (ForInStep (Xz Xy×Unit)))
   (do if(!(<-Op.equalIn l d (<-part d q g) (<-part d r g)))=J then pure (ForInStep.done (C Xp,()))else pure (ForInStep.yield ((F:Xz Xy),()))):=by
   intro d k q a r g s t;refine ax (iH s d g) λb4 b5 b1=>?_;refine ax (iH t d g) λR b3 b0=>?_;simp_all [au,mS,aq]
  cases a6 with
  |struct a7=>
   cases b<;>try exact ah
   cases c<;>try exact ah
   rename_i k q s N a r t O;simp only;refine bH ?_;by_cases Z:P.stoodInHeld p=J
   .simp only[Z,Ym];exact .lost A
   simp only[Z];refine au (sG (λb6 a3=>?_) a7 _) λi=>?_
   .split
    .exact a1 _ _ ⟨s,N⟩ ⟨t,O⟩
    exact aq A
   obtain⟨i,R⟩:=i;cases i<;>exact aq A
  |array o d=>
   cases b<;>try exact ah
   cases c<;>try exact ah
   rename_i k q s N a r t O;simp only;refine au (aT d) λb8=>?_;refine au (forIn_range (λa0 a3=>a1 d _ ⟨s,N⟩ ⟨t,O⟩) _ _) λi=>?_;obtain⟨i,R⟩:=i;cases i<;>exact aq A
  |bool=>
   cases b<;>try exact ah
   cases c<;>first|exact ah|exact aq rfl
  |int a2=>
   cases b<;>cases c<;>try first|exact ah|exact fq
   .dsimp only;split<;>first|exact aq rfl|exact ah
   .rename_i o _ _ _;cases o with
    |ofNat u=>cases u<;>first|exact aq rfl|exact fq
    |negSucc u=>exact fq
   .rename_i o;cases o with
    |ofNat u=>cases u<;>first|exact aq rfl|exact fq
    |negSucc u=>exact fq
   rename_i U a4 D W a5 H;dsimp only;refine ax (ef D) λh v e=>?_;refine ax (ef H) λx L n=>?_;obtain⟨h,_⟩:=h;obtain⟨v,_⟩:=v;obtain⟨x,_⟩:=x;obtain⟨L,_⟩:=L;obtain⟨e,_⟩:=e;obtain⟨n,_⟩:=n;dsimp only at e n⊢
   refine bH ?_;have b7:=w _ _ _ _ e.1 n.1;have BK:h.block<P.globals.size↔v.block<P.globals.size:=Y.2 _ _ e.1
   have a8:(h.block==x.block&&decide (h.block<P.globals.size))=(v.block==L.block&&decide (v.block<P.globals.size)):=by grind
   rw[<-a8];by_cases X:(h.block==x.block&&decide (h.block<P.globals.size))=J
   .simp only[X,Ym];exact au (fN e) λy=>au (fN n) λz=>aq A
   simp only[X];refine ax (bL p) λa0 b2⟨a,_⟩=>?_;subst a;have a9:=addr_eq w e n;rw[<-a9];split
   .split<;>first|exact aq rfl|exact fq
   exact fq
  |string=>
   cases b<;>try exact ah
   cases c<;>first|exact ah|exact aq rfl
  |unsafePointer=>
   cases b<;>try exact ah
   all_goals (cases c<;>try first|exact ah|exact aq rfl)
   all_goals exact rG w ‹_› ‹_›
  |pointer a=>
   cases b<;>try exact ah
   all_goals (cases c<;>try first|exact ah|exact aq rfl)
   rename_i U a4 D W a5 H;simp only;refine au (aT a) λo=>?_;split
   .simp_all [rG]
   rw[addr_eq w D H];split
   .exact aq A
   exact au (cr _) λo=>aq A
  |chan _ _=>
   cases b<;>try exact ah
   all_goals (cases c<;>try first|exact ah|exact aq rfl)
   grind [aq,Gn]
  |interface ms=>
   cases b<;>try exact ah
   all_goals (cases c<;>try first|exact ah|exact aq rfl)
   rename_i Q b4 b5 b1 b9 R b3 b0;simp only;split
   .exact aq A
   refine ax (bL Q) λa0 b2⟨a,_⟩=>?_;subst a;split
   .refine bH (bH ?_);by_cases e:P.holdsPacked P.depth Q=J
    .simp only[e,Ym];exact .lost A
    simp only[e];exact au (ua Q) λa3=>bw Y (λU W k l a=>by cases a)
   simp_all [mS]
  |slice a=>
   cases b<;>try exact ah
   all_goals (cases c<;>first|exact ah|exact aq rfl)
  |map _ _=>
   cases b<;>try exact ah
   all_goals (cases c<;>first|exact ah|exact aq rfl)
  |func _ _ _=>
   cases b<;>try exact ah
   all_goals (cases c<;>first|exact ah|exact aq rfl)
  |float a2=>cases b<;>exact ah
  |complex a2=>cases b<;>exact ah
  |_=>exact ah
end
variable{a:Xn}{W:Xn}{S:Xn}
section
variable{b c d e:Type}{g:Ren->b->c->Prop}{Q:Ren->d->e->Prop}
theorem sF(d:Base P m)(e:qc m)(b:XA){c:Xn}(g:an f m a W)(h:an f m S c):ae P f (St m Eq) m (Op.equal b a S) (Op.equal b W c):=
 mS d e _ b a W S c g h
theorem qL(b:BinOp)(c:IntKind)(a S:Xt):ae P f (St m (an f m)) m (Op.intArith b c a S) (Op.intArith b c a S):=by unfold Op.intArith;cases b<;>first|exact aq (.int _ _)|exact ah
theorem FU(d:Base P m)(b:BinOp)(c:IntKind)(a S:Xt):ae P f (St m (an f m)) m (Op.intDiv b c a S) (Op.intDiv b c a S):=by
 unfold Op.intDiv;split
 .simp_all [bw]
 cases b<;>first|exact aq (.int _ _)|exact ah
theorem tD(b:BinOp)(c:IntKind)(a S:Xt):ae P f (St m (an f m)) m (Op.intBits b c a S) (Op.intBits b c a S):=by unfold Op.intBits;cases b<;>first|exact aq (.int _ _)|exact ah
theorem FT(b:BinOp)(a S:Xt):ae P f (St m (an f m)) m (Op.intCmp b a S) (Op.intCmp b a S):=by unfold Op.intCmp;cases b<;>first|exact aq (.bool _)|exact ah
theorem zl(e:Base P m)(b:BinOp)(c d:IntKind)(a S:Xt):ae P f (St m (an f m)) m (Op.shift b c a d S) (Op.shift b c a d S):=by
 unfold Op.shift;split
 .simp_all [bw]
 cases b<;>first|exact aq (.int _ _)|exact ah
theorem rP(b:BinOp)(a S:XM):ae P f (St m (an f m)) m (Op.stringOp b a S) (Op.stringOp b a S):=by
 unfold Op.stringOp;cases b<;>try first|exact aq (.bool _)|exact ah
 dsimp only;split
 .exact fq
 exact aq (.string _)
theorem kP:∀(k:E)(q:XA)(a W S g:Xn),an f m a W->an f m S g->ae P f (St m Eq) m (Op.eqGuardIn k q a S) (Op.eqGuardIn k q W g)
 |0,_,_,_,_,_,_,_=>fq
 |k+1,q,a,W,S,g,r,s=>by
  unfold Op.eqGuardIn;refine au (ay q) λx=>?_
  have v:∀(b:XA){h i l n:Xu Xn}(d:E),aw f m h i->aw f m l n->ae P f (St m Eq) m
   (do if(<-Op.eqGuardIn k b (<-part b h d) (<-part b l d))=J then pure (ForInStep.done (C J,()))else pure (ForInStep.yield ((F:Xz Xy),())):XJ (ForInStep (Xz Xy×Unit)))
   (do if(<-Op.eqGuardIn k b (<-part b i d) (<-part b n d))=J then pure (ForInStep.done (C J,()))else pure (ForInStep.yield ((F:Xz Xy),()))):=by
   intro b h i l n d o p;refine ax (iH o b d) λT U L=>?_;refine ax (iH p b d) λw R H=>?_;simp_all [au,kP,aq]
  cases x with
  |struct y=>
   cases r<;>try exact aq A
   .rename_i c;cases W<;>first|exact aq rfl|exact c.elim
   cases s<;>try exact aq A
   .rename_i c;cases g<;>first|exact aq rfl|exact c.elim
   rename_i h i o t l n p u;simp only;refine au (sG (λD z=>?_) y _) λe=>?_
   .split
    .exact v _ _ ⟨o,t⟩ ⟨p,u⟩
    exact aq A
   obtain⟨e,w⟩:=e;cases e<;>exact aq A
  |array O b=>
   cases r<;>try exact aq A
   .rename_i c;cases W<;>first|exact aq rfl|exact c.elim
   cases s<;>try exact aq A
   .rename_i c;cases g<;>first|exact aq rfl|exact c.elim
   rename_i h i o t l n p u;simp only;refine au (aT b) λQ=>?_;refine au (forIn_range (λN z=>v b _ ⟨o,t⟩ ⟨p,u⟩) _ _) λe=>?_;obtain⟨e,w⟩:=e;cases e<;>exact aq A
  |interface ms=>
   cases r<;>try exact aq A
   .rename_i c;cases W<;>first|exact aq rfl|exact c.elim
   cases s<;>try exact aq A
   rename_i c;cases g<;>first|exact aq rfl|exact c.elim
  |_=>exact aq A
theorem pe(s:Xu XA)(r:XA){p q n o:Xn}(u:an f m p q)(k:an f m n o):ae P f (St m (an f m)) m (Builtin.unsafeAdd_ s r #[p,n]) (Builtin.unsafeAdd_ s r #[q,o]):=by
 unfold Builtin.unsafeAdd_;cases u<;>try exact ah
 .dsimp only;refine au (dO k) λl=>?_;split
  .exact .lost A
  split<;>exact .lost A
 rename_i t w h;dsimp only;refine au (dO k) λl=>?_;split
 .refine ax (jU h.1) λy z v=>?_;cases v
  .exact aq (.ptr h)
  exact .lost A
 split
 .exact .lost A
 refine au (cZ h.1) λi=>?_;cases i with
 |none=>exact .lost A
 |some i=>
  refine bH ?_;rw[<-h.2.1];cases cellAtBytes P P.depth i.1 (i.2/P.cellsOf i.1) t.off l with
  |none=>exact .lost A
  |some x=>exact aq (.ptr ⟨h.1,A,h.2.2⟩)
def Vr(f:Set):Ren->Xn->Xn->Prop:=λm a b=>an f m a b
theorem ml{b c:XJ Xn}(e:ae P f (St m (an f m)) m b c):ae P f (Vr f) m b c:=e.mono λi g h⟨d,a⟩=>by subst d;exact a
theorem zI{b c:XG}(d:bA m b c)(a:Xy):ae P f (Vr f) m (asNumber b a) (asNumber c a):=by unfold asNumber;exact .new (.number d a) λh i k g e=>.pure (.ptr ⟨e,A,A⟩)
theorem yi(l:Xu XA)(k:XA){c d:XG}(a:bA m c d){h i:Xn}(p:an f m h i):
 ae P f (St m λn o=>∃e g,n=XK (C e)/\o=XK (C g)/\bA m e g) m (Builtin.unsafeAdd_ l k #[XK (C c),h]) (Builtin.unsafeAdd_ l k #[XK (C d),i]):=by
 unfold Builtin.unsafeAdd_;dsimp only;refine au (dO p) λr=>?_;split
 .refine ax (jU a.1) λn o q=>?_;cases q
  .simp_all [aq]
  exact .lost A
 split
 .exact .lost A
 refine au (cZ a.1) λb=>?_;cases b with
 |none=>exact .lost A
 |some b=>
  refine bH ?_;rw[<-a.2.1];cases cellAtBytes P P.depth b.1 (b.2/P.cellsOf b.1) c.off r with
  |none=>exact .lost A
  |some s=>exact aq ⟨_,_,A,A,a.1,A,a.2.2⟩
theorem eI(b:XA){i:Xn}(l:an f m a W)(n:an f m S i):ae P f (Vr f) m (movedNumber b a S) (movedNumber b W i):=by
 unfold movedNumber;refine au (ay b) λh=>?_;have s:=ml (pe (P:=P) #[] b l n);by_cases hd:h=.unsafePointer
 .subst hd;exact .lost A
 cases l with
 |ptr t=>
  rename_i q r
  have fin:ae P f (Vr f) m (do let (g,lost)<-behindNumber q;match<-Builtin.unsafeAdd_ #[] b #[XK (C g),S]with|XK (C c)=>asNumber c lost|e=>pure e:XJ Xn)
   (do let (g,lost)<-behindNumber r;match<-Builtin.unsafeAdd_ #[] b #[XK (C g),i]with|XK (C c)=>asNumber c lost|e=>pure e:XJ Xn):=by
   refine ax (ef t) λo p d=>?_;obtain⟨o,w⟩:=o;obtain⟨p,z⟩:=p;obtain⟨d,k⟩:=d;dsimp only at k d⊢
   subst k;refine ax (yi #[] b d n) λe D v=>?_;obtain⟨c,x,rfl,rfl,u⟩:=v;exact zI u w
  grind
 |bS y=>cases h<;>first|exact absurd rfl hd|exact .lost rfl
 |_=>cases h<;>first|exact absurd rfl hd|exact s
theorem sO(b:XA){e:Xn}(d:an f m a W)(i:an f m S e):ae P f (Vr f) m (movedPointer b a S) (movedPointer b W e):=by
 unfold movedPointer;have c:=ml (pe (P:=P) #[] b d i);cases d with
 |ptr g=>
  refine ax (ra g.1) λl n h=>?_;cases h with
  |none=>exact c
  |some _ _=>exact .lost A
 |bS k=>exact .lost A
 |_=>exact c
theorem MY(d:Base P m)(e:qc m){a b:E}(c:m a b):a<P.globals.size↔b<P.globals.size:=by exact d.2 _ _ c
theorem oY(l:Base P m)(k:qc m){b c d e:XG}(g:bA m b c)(i:bA m d e):ae P f (St m Eq) m (Op.twoPlaces b d) (Op.twoPlaces c e):=by
 unfold Op.twoPlaces;refine bH ?_;have o:=k _ _ _ _ g.1 i.1;have p:=MY l k g.1
 have n:(b.block !=d.block||decide (b.block>=P.globals.size))=(c.block !=e.block||decide (c.block>=P.globals.size)):=by grind
 rw[<-n];by_cases h:(b.block !=d.block||decide (b.block>=P.globals.size))=J
 .simp only[h,Ym];exact .lost A
 simp only[h];exact au (fN g) λa=>au (fN i) λS=>aq A
theorem Ca(h:Base P m)(k:qc m)(e:IntKind){a b c d:XG}(g:bA m a b)(i:bA m c d):ae P f (St m (an f m)) m (Op.addrSub e a c) (Op.addrSub e b d):=by unfold Op.addrSub;exact au (oY h k g i) λl=>aq (.int _ _)
theorem BZ(h:Base P m)(k:qc m)(a:BinOp){b c d e:XG}(g:bA m b c)(i:bA m d e):ae P f (St m (an f m)) m (Op.addrCmp a b d) (Op.addrCmp a c e):=by unfold Op.addrCmp;refine au (oY h k g i) λl=>?_;cases a<;>first|exact aq (.bool _)|exact .lost rfl
theorem tr(k:IntKind){d e:XG}(g:bA m d e)(b:Xt):ae P f (St m (an f m)) m (Op.addrMod k d b) (Op.addrMod k e b):=by
 unfold Op.addrMod;refine au (cZ g.1) λc=>?_;cases c with
 |none=>exact .lost A
 |some c=>
  dsimp only;refine ax (bL c.1) λi n⟨l,_⟩=>?_;subst l;by_cases h:(decide (b<1)||decide (b.toNat>i.align)||i.align%b.toNat !=0)=J
  .simp only[h,Ym];exact .lost A
  simp only[h];exact au (fN g) λa=>aq (.int _ _)
theorem Cu(e:BinOp)(b:XA)(a S:XV){i g k d:Xn}(u:an f m i g)(n:an f m k d):
 ae P f (St m λ_ _=>True) m (eqGuard e b a S i k) (eqGuard e b a S g d):=by
 unfold eqGuard;by_cases w:e=.eql\/e=.neq
 .rcases w with rfl|rfl
  all_goals simp only[Xy.not_true,Yt,Yq]
  all_goals cases u<;>try exact aq trivial
  case inl.bS c|inr.bS c=>cases g<;>first|exact aq trivial|exact c.elim
  case inl.nilIface|inr.nilIface=>
   cases n<;>try exact aq trivial
   .rename_i c;cases d<;>first|exact aq trivial|exact c.elim
   have fin:ae P f (St m λ_ _=>True) m
    (do if<-Op.eqGuardIn Op.maxDepth b .nilIface .nilIface then unsupported (.noEntry "binop/eql: two nil values of an interface type with methods, neither of them the literal nil"):XJ Unit)
    (do if<-Op.eqGuardIn Op.maxDepth b .nilIface .nilIface then unsupported (.noEntry "binop/eql: two nil values of an interface type with methods, neither of them the literal nil")):=by
    refine au (kP _ b _ _ _ _ .nilIface .nilIface) λh=>?_;cases h
    .exact aq trivial
    exact .lost A
   cases a<;>cases S<;>first|exact aq trivial|exact fin
  case inl.agg s t o r|inr.agg s t o r=>
   cases n<;>try exact aq trivial
   .rename_i c;cases d<;>first|exact aq trivial|exact c.elim
   rename_i y z v x;refine bH (bH ?_);by_cases l:(!P.eqGuardType P.depth b)=J
   .simp only[l,Ym];exact aq trivial
   simp only[l,Yt,Yq];refine au (kP _ b _ _ _ _ (mL ⟨o,r⟩) (mL ⟨v,x⟩)) λh=>?_;cases h
   .exact aq trivial
   exact .lost A
 simp_all [aq]
theorem NJ(d:Base P m)(e:qc m)(b:XA){c:Xn}(g:an f m a W)(h:an f m S c):
 ae P f (Vr f) m (do pure (.bool (!(<-Op.equal b a S))):XJ Xn) (do pure (.bool (!(<-Op.equal b W c)))):=
 au (sF d e b g h) λi=>aB (.bool _)
theorem Ob(d:Base P m)(e:qc m)(b:XA){c:Xn}(g:an f m a W)(h:an f m S c):
 ae P f (Vr f) m (do pure (.bool (<-Op.equal b a S)):XJ Xn) (do pure (.bool (<-Op.equal b W c))):=
 au (sF d e b g h) λi=>aB (.bool _)
end
section
variable{b c d e:Type}{g:Ren->b->c->Prop}{Q:Ren->d->e->Prop}
def alike:Xn->Xn->Xy
 |.int ..,.int .. =>J
 |.string _,.string _=>J
 |_,_=>Xp
theorem Ff(c:Base P m)(b:BinOp)(e:XA)(g:alike a S=J):ae P f (Vr f) m (binOp b e a S) (binOp b e a S):=by
 cases a<;>cases S<;>first|(cases g;done)|skip
 .rename_i h k i l;by_cases d:h=i
  .subst d;cases b<;>simp only[binOp,ne_eq,not_true_eq_false,Yq]<;>
    first|exact ml (qL _ _ _ _)|exact ml (FU c _ _ _ _)|exact ml (tD _ _ _ _)|exact ml (FT _ _ _)|exact ml (zl c _ _ _ _ _)
  cases b<;>simp only[binOp,ne_eq,d,O_,Ym]<;>first|exact ah|exact ml (zl c _ _ _ _ _)
 grind [binOp,ml,rP]
theorem binOp_eql{d:XA}(e:alike a S=Xp)(g:∀b c,a≠.float b c)(f:∀b c h,a≠.complex b c h):binOp .eql d a S=(do pure (.bool (<-Op.equal d a S))):=by cases a<;>first|exact absurd rfl (g _ _)|exact absurd rfl (f _ _ _)|rfl|(cases S<;>first|rfl|cases e)
theorem binOp_neq{d:XA}(e:alike a S=Xp)(g:∀b c,a≠.float b c)(f:∀b c h,a≠.complex b c h):binOp .neq d a S=(do pure (.bool (!(<-Op.equal d a S)))):=by cases a<;>first|exact absurd rfl (g _ _)|exact absurd rfl (f _ _ _)|rfl|(cases S<;>first|rfl|cases e)
def mA:Xn->Xy
 |.pointer _=>Xp
 |_=>J
theorem vj{h:BinOp}{v:XA}(n:alike a S=Xp)(o:h≠.eql)(p:h≠.neq)(s:mA a=J)(t:mA S=J)(r:∀i k,a≠.float i k)(q:∀i k u,a≠.complex i k u):
 ∃l,binOp h v a S=.halt l/\Halt.lost l=J:=by
 cases h<;>first|exact absurd rfl o|exact absurd rfl p|skip
 all_goals (cases a<;>first|(cases s;done)|exact absurd rfl (r _ _)|exact absurd rfl (q _ _ _)|exact⟨_,rfl,rfl⟩|(cases S<;>first|exact⟨_,rfl,rfl⟩|(cases n;done)|(cases t;done)))
theorem Jl{b:Xn}(d:an f m a W)(e:an f m S b):alike a S=J->W=a/\b=S:=by intro c;cases d<;>cases e<;>first|exact⟨rfl,rfl⟩|cases c
theorem VJ(g:an f m a W):(∀b c,a≠.float b c)/\(∀b c d,a≠.complex b c d)/\(∀b c,W≠.float b c)/\(∀b c d,W≠.complex b c d):=by
 cases g with
 |bS h=>grind [bN]
 |_=>refine⟨?_,?_,?_,?_⟩<;>intros<;>intro e<;>cases e
theorem pC(d:XA)(e:a=.tuple #[]\/S=.tuple #[])(f:mA a=J)(g:mA S=J):gx (Op.equal d a S):=by
 unfold Op.equal;cases hd:Op.maxDepth with
 |zero=>exact .lost A
 |succ i=>
  refine .program λP=>?_;simp only[program,Bind.bind,Sem.bind];cases k:P.underlying d with
  |none=>exact .lost A
  |some b=>
   rcases e with rfl|rfl
   .cases S<;>first|(cases g;done)|(cases b<;>exact .lost rfl)
   cases a with
   |slice c l h=>cases c<;>cases b<;>exact .lost A
   |map c=>cases c<;>cases b<;>exact .lost A
   |_=>first|(cases f;done)|(cases b<;>exact .lost rfl)
theorem Jk{b:Xn}(e:an f m a W)(g:an f m S b)(d:alike a S=Xp):alike W b=Xp\/((a=.tuple #[]\/S=.tuple #[])/\mA a=J/\mA S=J):=by
 cases c:alike W b with
 |false=>simp
 |true=>right;cases e<;>cases g<;>first|(cases c;done)|(cases d;done)|exact⟨Xr rfl,rfl,rfl⟩|exact⟨Xs rfl,rfl,rfl⟩|(cases W<;>cases c;done)|(cases b<;>cases c;done)
theorem Fe{k:BinOp}{b:XA}(l:a=.tuple #[]\/S=.tuple #[])(c:alike a S=Xp)(f:mA a=J)(g:mA S=J)(e:∀h i,a≠.float h i)(d:∀h i q,a≠.complex h i q):gx (binOp k b a S):=by
 by_cases m:k=.eql
 .subst m;rw[binOp_eql c e d];exact(pC b l f g).bind _
 by_cases n:k=.neq
 .subst n;rw[binOp_neq c e d];exact(pC b l f g).bind _
 obtain⟨r,o,p⟩:=vj (v:=b) c m n f g e d;rw[o];exact .lost p
theorem uY(b:XA)(e:an f m a W)(c:IntKind)(d:Xt):
 ae P f (Vr f) m (do if(<-underlying b) matches .unsafePointer then movedPointer b a (.int c d)else movedNumber b a (.int c d):XJ Xn) (do if(<-underlying b) matches .unsafePointer then movedPointer b W (.int c d)else movedNumber b W (.int c d)):=by
 refine au (ay b) λg=>?_;cases g<;>first|exact eI b e (.int c d)|(exact sO b e (.int c d))
theorem Jr(s:Base P m)(t:qc m)(c:BinOp)(i:XA){u:Xn}(p:an f m a W)(h:an f m S u):ae P f (Vr f) m (binOp c i a S) (binOp c i W u):=by
 cases n:alike a S with
 |true=>grind [Jl,Ff]
 |false=>
  obtain⟨k,l,w,x⟩:=VJ p;rcases Jk p h n with y|⟨z,q1,N⟩
  rotate_left
  .exact .dead (Fe z n q1 N k l)
  by_cases e:c=.eql
  .grind [binOp_eql,Ob]
  by_cases g:c=.neq
  .grind [binOp_neq,NJ]
  by_cases b:mA a=J/\mA S=J
  .obtain⟨R,v,D⟩:=vj (v:=i) n e g b.1 b.2 k l;rw[v];exact .lost D
  clear y k l w x;cases p with
  |int T U=>
   cases h<;>first|(exact absurd ⟨rfl,rfl⟩ b)|skip
   .cases c<;>first|exact absurd rfl e|exact absurd rfl g|exact .lost rfl|exact eI _ .cJ (.int _ _)
   rename_i O Q d;cases c<;>first|exact absurd rfl e|exact absurd rfl g|exact .lost rfl|exact eI _ (.ptr d) (.int _ _)|exact ax (ef d) λq r b=>ml (tr _ b.1 _)
  |cJ=>cases h<;>cases c<;>first|exact absurd rfl e|exact absurd rfl g|exact .lost rfl|exact eI _ .cJ (.int _ _)|exact uY _ .cJ _ _
  |ptr d=>
   cases h<;>cases c<;>first
    |exact absurd rfl e|exact absurd rfl g|exact .lost rfl|exact eI _ (.ptr d) (.int _ _)
    |exact uY _ (.ptr d) _ _
    |exact ax (ef d) λq r b=>ml (tr _ b.1 _)
    |exact ax (ef d) λq r b=>ax (ef ‹_›) λH L o=>ml (Ca s t _ b.1 o.1)
    |exact ax (ef d) λq r b=>ax (ef ‹_›) λH L o=>ml (BZ s t _ b.1 o.1)
  |_=>
   cases h<;>first|(exact absurd ⟨rfl,rfl⟩ b)|skip
   all_goals (cases c<;>first|exact absurd rfl e|exact absurd rfl g|exact .lost rfl)
end
variable{n:E}
section
variable{b c d e:Type}{g:Ren->b->c->Prop}{Q:Ren->d->e->Prop}
theorem Ld(c:UnOp)(d:an f m a W):ae P f (Vr f) m (Op.unary c a) (Op.unary c W):=by
 cases d<;>cases c<;>first|exact ah|exact fq|exact aB (.bool _)|skip
 .rename_i b n;show ae P f (Vr f) m (Op.intArith .sub b 0 n) (Op.intArith .sub b 0 n);simp[ml,qL]
 rename_i b n;show ae P f (Vr f) m (Op.intBits .xor b (if b.signed then-1 else b.max) n) (Op.intBits .xor b (if b.signed then-1 else b.max) n);simp[ml,tD]
theorem gG(b:an f m a W):ae P f (St m (bA m)) m (Instr.sureAddr a) (Instr.sureAddr W):=by cases b<;>first|exact ah|exact aq ‹_›
theorem Gp{b c:XG}(e:bA m b c)(d g:E):ae P f (St m (bA m)) m (partAt b d g) (partAt c d g):=by
 refine au (fN e) λa=>?_;have h:bA m {block:=b.block,off:=b.off+d} {block:=c.block,off:=c.off+d}:=⟨e.1,by simp[e.2.1],A⟩;refine au (fN h) λS=>?_;by_cases i:S=a+g
 .simp_all [aq]
 simp only[i,Yq];exact aq ⟨e.1,h.2.1,A⟩
theorem vF{a b:XG}(d:bA m a b)(c:Field):ae P f (St m (bA m)) m (fieldPlace a c) (fieldPlace b c):=by
 refine au (aT _) λn=>?_;split
 .grind [Gp]
 exact aq (d.add _)
theorem Cy(c:XA)(k:an f m a W)(b:E):ae P f (Vr f) m (Instr.fieldAt c a b) (Instr.fieldAt c W b):=by
 refine au (ay c) λd=>?_;cases d<;>try exact ah
 rename_i g;dsimp only;cases g[b]? with
 |none=>exact ah
 |some e=>refine ax (gG k) λl o h=>?_;exact ax (vF h e) λp q i=>aB (.ptr i)
theorem Gc(b:XA)(d:an f m a W):ae P f (Vr f) m (Instr.loadAt b a) (Instr.loadAt b W):=by exact ax (gG d) λe g c=>ml (tH c b)
theorem Eg(b:XA){c:Xn}(e:an f m a W)(g:an f m S c):ae P f (St m λ_ _=>True) m (Instr.storeAt b a S) (Instr.storeAt b W c):=by exact ax (gG e) λh i d=>AX d g b
theorem CU(v:Base P m)(e:XA){q:Xn}(p:an f m a W)(t:an f m S q):ae P f (Vr f) m (Instr.indexAt e a S) (Instr.indexAt e W q):=by
 refine au (kx t) λu=>?_;obtain⟨i,b⟩:=u;refine au (ay e) λr=>?_
 have fin:∀(k:Xy)(base h:Xz XG)(len:E)(d:XA),(base=F/\h=F\/∃c g,base=C c/\h=C g/\bA m c g)->
  ae P f (Vr f) m
   (match base with
     |some c=>(do
      if 0<=b/\b<len then pure (XK (C (c.add (b.toNat*(<-Go.sizeOf d)))))
      else if k then unsupported (.noEntry "op/indexAddr.an index out of range at an array of length 0 or 1 (ledger 616)")
      else boundsPanic i b len .index:XJ Xn)
     |none=>boundsPanic i b 0 .index)
   (match h with
     |some c=>(do
      if 0<=b/\b<len then pure (XK (C (c.add (b.toNat*(<-Go.sizeOf d)))))
      else if k then unsupported (.noEntry "op/indexAddr.an index out of range at an array of length 0 or 1 (ledger 616)")
      else boundsPanic i b len .index:XJ Xn)
     |none=>boundsPanic i b 0 .index):=by
  intro k base h len d s;rcases s with⟨rfl,rfl⟩|⟨c,g,rfl,rfl,l⟩
  .simp_all [eC]
  dsimp only;split
  .exact au (aT d) λn=>aB (.ptr (l.add _))
  cases k
  .simp_all [eC]
  exact .lost A
 cases r with
 |array len d=>refine ax (gG p) λc g l=>?_;refine au (ay e) λo=>?_;exact fin _ _ _ _ _ (Xs ⟨c,g,A,A,l⟩)
 |slice d=>
  cases p<;>try exact ah
  .refine au (ay e) λo=>?_;exact fin Xp _ _ 0 d (Xr ⟨A,A⟩)
  refine au (ay e) λo=>?_;exact fin _ _ _ _ _ (Xs ⟨_,_,A,A,‹_›⟩)
 |_=>exact ah
def mr(f:Set)(m:Ren):Xz Xn->Xz Xn->Prop
 |F,F=>True
 |C a,C b=>an f m a b
 |_,_=>False
theorem dT(d:Base P m)(c:an f m a W)(S:E)(b:BoundsCode):ae P f (St m Eq) m (Instr.sliceBound a S b) (Instr.sliceBound W S b):=by
 refine au (kx c) λe=>?_;dsimp only;split
 .exact aq A
 simp_all [eC]
theorem eK(b:Base P m)(sl:Xy)(len l:E){c d g h i k:Xz Xn}(a:mr f m c d)(e:mr f m g h)(o:mr f m i k):
 ae P f (St m Eq) m (Instr.sliceBounds sl len l c g i) (Instr.sliceBounds sl len l d h k):=by
 cases i<;>cases k<;>first|(exact o.elim)|skip
 .cases g<;>cases h<;>first|(exact e.elim)|skip
  .cases c<;>cases d<;>first|(exact a.elim)|skip
   .exact aq A
   exact au (dT b a _ _) λp=>aq A
  refine au (dT b e _ _) λq=>?_;cases c<;>cases d<;>first|(exact a.elim)|skip
  .exact aq A
  exact au (dT b a _ _) λp=>aq A
 refine au (dT b o _ _) λr=>?_;cases g<;>cases h<;>first|(exact e.elim)|skip
 .exact ah
 refine au (dT b e _ _) λq=>?_;cases c<;>cases d<;>first|(exact a.elim)|skip
 .exact aq A
 exact au (dT b a _ _) λp=>aq A
theorem KM(o:Base P m)(N:XA)(z:an f m a W){D H x y l p:Xz Xn}(r:mr f m D H)(s:mr f m x y)(t:mr f m l p):
 ae P f (Vr f) m (Instr.slice N a D x l) (Instr.slice N W H y p):=by
 refine au (ay N) λv=>?_;have U:mr f m F F:=trivial;cases v with
 |string=>
  cases z<;>try exact ah
  have T:l.isSome=p.isSome:=by cases l<;>cases p<;>first|rfl|exact t.elim
  rw[<-T];cases l.isSome
  .exact au (eK o _ _ _ r s U) λu=>aB (.string _)
  exact .lost A
 |slice O=>
  cases z<;>try exact ah
  .refine au (eK o _ _ _ r s t) λu=>?_;obtain⟨h,q,i⟩:=u;refine au (aT O) λL=>?_;have:(if i=h then(F:Xz XG)else Xz.map (λa:XG=>a.add (h*L)) F)=F:=by split<;>rfl
   rw[this];exact aB (.aO _ _)
  refine au (eK o _ _ _ r s t) λu=>?_;refine au (aT O) λL=>?_;split
  .exact aB (.slice ‹bA m _ _› _ _)
  exact aB (.slice (bA.add ‹bA m _ _› _) _ _)
 |pointer arr=>
  have main:ae P f (Vr f) m
   (do
     let k<-asAddr a
     let .array n w<-underlying arr|stuck "Slice: array type expected"
     let (h,q,i)<-Instr.sliceBounds Xp n n D x l
     let size<-Go.sizeOf w
     pure (Xw (C (if i=h then k else k.add (h*size))) (q-h) (i-h)):XJ Xn)
   (do
     let k<-asAddr W
     let .array n w<-underlying arr|stuck "Slice: array type expected"
     let (h,q,i)<-Instr.sliceBounds Xp n n H y p
     let size<-Go.sizeOf w
     pure (Xw (C (if i=h then k else k.add (h*size))) (q-h) (i-h))):=by
   refine ax (vc o z) λk X R=>?_;refine au (ay arr) λv=>?_;cases v<;>try exact ah
   refine au (eK o _ _ _ r s t) λu=>?_;refine au (aT _) λL=>?_;split
   .exact aB (.slice R _ _)
   exact aB (.slice (R.add _) _ _)
  omega
 |_=>exact ah
theorem DY(h:Base P m)(b:XA)(l:an f m a W){o p i k q r:Xz Xn}(c:mr f m o p)(d:mr f m i k)(e:mr f m q r):
 ae P f (Vr f) m (Instr.sliceAt b a o i q) (Instr.sliceAt b W p k r):=by
 refine au (ay b) λs=>?_;have other:=KM (P:=P) h b l c d e;cases s with
 |array n v=>
  refine ax (gG l) λt u g=>?_;refine au (eK h _ _ _ c d e) λw=>?_;refine au (aT _) λx=>?_;split
  .exact aB (.slice g _ _)
  exact aB (.slice (g.add _) _ _)
 |_=>exact other
theorem JV(p:Base P m)(b:XA){d:Xn}(c:an f m a W)(i:an f m S d):ae P f (Vr f) m (Instr.index b a S) (Instr.index b W d):=by
 refine au (kx i) λq=>?_;refine au (ay b) λe=>?_;cases e with
 |array n g=>
  cases c<;>try exact ah
  rename_i l o h k;dsimp only;split
  .exact au (aT g) λr=>ml (iH ⟨h,k⟩ _ _)
  simp_all [eC]
 |string=>
  cases c<;>try exact ah
  dsimp only;split
  .exact aB (.int _ _)
  simp_all [eC]
 |_=>exact ah
theorem JD(c:XA)(h:an f m a W)(b:E):ae P f (Vr f) m (Instr.field c a b) (Instr.field c W b):=by
 refine au (ay c) λd=>?_;cases d<;>try exact ah
 rename_i e;dsimp only;cases e[b]? with
 |none=>exact ah
 |some l=>exact ax (Jn h) λi k g=>ml (iH g _ _)
theorem Cx(h:an f m a W)(b:E):ae P f (Vr f) m (Instr.extract a b) (Instr.extract W b):=by
 cases h<;>try exact ah
 rename_i c l g k;unfold Instr.extract;dsimp only;cases e:c[b]? with
 |none=>exact ah
 |some o=>obtain⟨p,d,i⟩:=aw.get ⟨g,k⟩ e;rw[d];exact aB i
theorem qQ(b:XA)(d:an f m a W):ae P f (Vr f) m (Instr.makeInterface b a) (Instr.makeInterface b W):=by refine au (ay b) λc=>?_;cases c<;>first|exact ah|exact aB (.iface _ d)
theorem Jm(b:iP P)(a:XA):ae P f (Vr f) m (Instr.alloc a J (.tuple #[])) (Instr.alloc a J (.tuple #[])):=by refine ax (cL b a) λg h b=>?_;exact bindM (pL b a) λi d e _⟨_,c⟩=>aB (.ptr c)
theorem Pn(b:XA)(d:an f m a W):ae P f (Vr f) m (Instr.box b a) (Instr.box b W):=by exact bindM (pL d b) λh e g _⟨_,c⟩=>aB (.ptr c)
theorem Dm(c:XA){a b:Xz Xn}(d:mr f m a b):ae P f (Vr f) m (Instr.makeMap c a) (Instr.makeMap c b):=by
 have fin:ae P f (Vr f) m (do pure (.map (C (<-newObj (.map #[] 0)))):XJ Xn) (do pure (.map (C (<-newObj (.map #[] 0))))):=
  .new (.map 0 .nil) λn i k h g=>.pure (.map g)
 cases a<;>cases b<;>first|(exact d.elim)|skip
 .exact fin
 refine au (ay c) λe=>?_;cases e<;>try exact ah
 exact au (dO d) λ_=>fin
theorem aw.const{i o:Xu Xn}(l:aw f m i o)(hd:an f m (default:Xn) (default:Xn)):aw f m ((Xu.range n).map (i[·%i.size]!)) ((Xu.range n).map (o[·%o.size]!)):=by
 refine⟨by simp,λr a W k h=>?_⟩;rw[Yu]at k h;rw[<-l.1]at h;cases q:(Xu.range n)[r]? with
 |none=>simp_all
 |some s=>
  rw[q]at k h;simp only[ZA,Yr]at k h;subst k;subst h;rw[getElem!_def,getElem!_def];cases p:i[s%i.size]? with
  |none=>rw[l.none p];exact hd
  |some v=>obtain⟨w,t,u⟩:=l.get p;simp_all
end
section
variable{b c e g:Type}{d:Ren->b->c->Prop}{Q:Ren->e->g->Prop}
theorem kB:an f m (default:Xn) (default:Xn):=.bool _
theorem mM(a:E):ae P f (St m λ_ _=>True) m (askRoom a) (askRoom a):=by
 unfold askRoom;split
 .exact .mark .noRoom A (.pure ⟨A,trivial⟩)
 exact aq trivial
theorem Gx(p:Base P m){h:RuntimeError}(o:∀i k l n,h≠.typeAssertion i k l n):ae P f d m (runtimePanic h:XJ b) (runtimePanic h:XJ c):=bw p o
theorem jQ(o:Base P m){a:RuntimeError}(h:∀i k l n,a≠.typeAssertion i k l n){p:b->XJ e}{q:c->XJ g}:ae P f Q m (runtimePanic a >>= p) (runtimePanic a >>= q):=
 bindM (bw (g:=λ_ _ _=>False) o h) (λ_ _ _ _ h=>h.elim)
theorem xQ(r:iP P)(h:Base P m)(i:XA){n:Xn}(p:an f m a W)(q:an f m S n):ae P f (Vr f) m (Instr.makeSlice i a S) (Instr.makeSlice i W n):=by
 unfold Instr.makeSlice;refine au (ay i) λe=>?_;cases e<;>try exact ah
 rename_i c;refine au (dO p) λlen=>?_;refine au (dO q) λu=>?_;refine ax (bL c) λv w⟨b,_⟩=>?_;subst b;dsimp only;split
 .split
  .exact jQ h (λd k l e b=>by cases b)
  split
  .exact jQ h (λd k l e b=>by cases b)
  exact au (cr _) λx=>jQ h (λd k l e b=>by cases b)
 refine ax (mM _) λ_ _ _=>?_;refine au (aT c) λy=>?_;split
 .refine bindM (gY (aw.const aw.nil kB) c) λt d o _⟨_,g⟩=>aB (.slice g _ _)
 refine ax (cL r c) λz D s=>?_;refine bindM (gY (aw.const (dP s) kB) c) λt d o _⟨_,g⟩=>aB (.slice g _ _)
theorem Cz{b c:Xu Xn}(g:aw f m b c)(i:E):∀(d e:Xq (Xn×E)),aY (λa W=>an f m a.1 W.1/\a.2=W.2) d e->
 aw f m (d.foldl (λb a=>b.setIfInBounds (i+a.2) a.1) b) (e.foldl (λb a=>b.setIfInBounds (i+a.2) a.1) c):=by
 intro d e k
 induction k generalizing b c with
 |nil=>exact g
 |cons h _ l=>simp only[i_];rw[<-h.2];exact l (g.set _ h.1)
theorem GZ{c d:Xq Xn}(e:aY (an f m) c d):∀b,aY (λa W=>an f m a.1 W.1/\a.2=W.2) (c.zipIdx b) (d.zipIdx b):=by
 induction e with
 |nil=>intro b;exact .nil
 |cons g _ h=>intro b;simp only[Xq.zipIdx_cons];exact .cons ⟨g,A⟩ (h _)
def LC(f:Set)(m:Ren)(a b:E×Xn):Prop:=a.1=b.1/\an f m a.2 b.2
theorem vG(c:E->Xz (E×E)){e g:Xq (E×Xn)}(o:aY (LC f m) e g):∀{a b:Xu Xn},aw f m a b->
 (Instr.fill c a e=F/\Instr.fill c b g=F)\/∃h i,Instr.fill c a e=C h/\Instr.fill c b g=C i/\aw f m h i:=by
 induction o with
 |nil=>intro a b d;exact Xs ⟨a,b,A,A,d⟩
 |cons p _ r=>
  rename_i t u e g _;intro a b d;obtain⟨q,x⟩:=t;obtain⟨w,y⟩:=u;obtain⟨k,n⟩:=p;simp only at k n;subst k;unfold Instr.fill;cases c q with
  |none=>exact Xr ⟨A,A⟩
  |some v=>
   obtain⟨s,size⟩:=v;have l:=dP n;dsimp only;rw[<-l.1,<-d.1];split
   .exact Xr ⟨A,A⟩
   refine r ?_;rw[<-Xu.foldl_toList,<-Xu.foldl_toList,Xu.toList_zipIdx,Xu.toList_zipIdx];exact Cz d s _ _ (GZ l.list 0)
theorem ND{e h:Type}{b:e->XJ h}(k:∀a,ae P f (St m Eq) m (b a) (b a))(g:Xu e):ae P f (St m Eq) m (g.mapM b) (g.mapM b):=by
 rw[aae];rw[<-aaq]
 have:∀(c:Xq e)(acc:Xu h),ae P f (St m Eq) m (c.foldlM (λbs d=>Functor.map bs.push (b d)) acc) (c.foldlM (λbs d=>Functor.map bs.push (b d)) acc):=by
  intro c
  induction c with
  |nil=>intro acc;exact aq A
  |cons a c l=>intro acc;simp only[X_];exact au (au (k a) λd=>aq A) λi=>l i
 exact this _ _
theorem Js(r:iP P)(c:XA){h i:Xu (E×Xn)}(e:aY (LC f m) h.toList i.toList):ae P f (Vr f) m (Instr.build c h) (Instr.build c i):=by
 unfold Instr.build;refine ax (cL r c) λw x s=>?_;have g:=dP s;dsimp only;refine au (ay c) λn=>?_;cases n with
 |struct q=>
  dsimp only;refine au (ND (λp=>au (aT p.type) λu=>aq A) q) λv=>?_;rcases vG (v[·]?) e g with⟨a,b⟩|⟨k,l,a,b,d⟩
  .rw[a];exact ah
  rw[a,b];exact aB (mL d)
 |array u o=>
  dsimp only;refine au (aT o) λsize=>?_;rcases vG (λt=>C (t*size,size)) e g with⟨a,b⟩|⟨k,l,a,b,d⟩
  .rw[a];exact ah
  rw[a,b];exact aB (mL d)
 |_=>exact ah
theorem vn(r:iP P)(o:XA)(len:E){l n:Xu (E×Xn)}(i:aY (LC f m) l.toList n.toList):ae P f (Vr f) m (Instr.buildSlice o len l) (Instr.buildSlice o len n):=by
 unfold Instr.buildSlice;refine au (ay o) λq=>?_;cases q<;>try exact ah
 rename_i a;refine au (aT a) λsize=>?_
 have fin:∀{c d:Xu Xn},aw f m c d->ae P f (Vr f) m
  (do
    let C cells:=Instr.fill (λb=>C (b*size,size)) ((Xu.range (len*size)).map (c[·%c.size]!)) l.toList|stuck "buildSlice: a part of the wrong size"
    pure (Xw (C (<-newRow a cells)) len len):XJ Xn)
  (do
    let C cells:=Instr.fill (λb=>C (b*size,size)) ((Xu.range (len*size)).map (d[·%d.size]!)) n.toList|stuck "buildSlice: a part of the wrong size"
    pure (Xw (C (<-newRow a cells)) len len)):=by
  intro c d k;rcases vG (λb=>C (b*size,size)) i (aw.const (n:=len*size) k kB)with⟨h,p⟩|⟨v,w,h,p,s⟩
  .rw[h];exact ah
  rw[h,p];exact bindM (gY s a) λy t u _⟨_,i⟩=>aB (.slice i _ _)
 dsimp only;by_cases e:len*size>2^24
 .rw[XN e,XN e];exact .lost A
 rw[XH e,XH e];by_cases g:len*size=0
 .rw[XN g,XN g];exact fin aw.nil
 rw[XH g,XH g];exact ax (cL r a) λc d k=>fin (dP k)
theorem sM(b:an f m a W):ae P f (St m Eq) m (Builtin.lenOf a) (Builtin.lenOf W):=by cases b<;>first|exact ah|exact aq rfl
theorem AY(d:Xq UInt8):aw f m (d.toArray.map λc=>Xn.int .u8 c.toNat) (d.toArray.map λc=>Xn.int .u8 c.toNat):=by
 refine⟨A,λh a W b g=>?_⟩;rw[b]at g;cases g;rw[Yu]at b;cases e:d.toArray[h]? with
 |none=>rw[e]at b;cases b
 |some c=>rw[e]at b;cases b;exact .int _ _
theorem oT(a:Xu UInt8):aw f m (a.map λb=>Xn.int .u8 b.toNat) (a.map λb=>Xn.int .u8 b.toNat):=by obtain⟨c⟩:=a;exact AY c
theorem gA(size b:E)(c:an f m a W):ae P f (St m (aw f m)) m (Builtin.firstCells size b a) (Builtin.firstCells size b W):=by cases c<;>first|exact ah|exact aq aw.nil|exact aq (oT _)|exact kQ ‹_› _
theorem kV{c d:Xu Xn}(b:aw f m c d)(a:E):aw f m (Builtin.zeroCells c a) (Builtin.zeroCells d a):=by unfold Builtin.zeroCells;rw[<-b.1];have:=aw.const (n:=a*c.size) b kB;rw[<-b.1]at this;exact this
end
section
variable{c d e g:Type}{b:Ren->c->d->Prop}{Q:Ren->e->g->Prop}
theorem cB(a:XA):ae P f (St m λb c=>b=c/\P.underlying a=C b) m (underlying a) (underlying a):=by
 refine bH ?_;cases d:P.underlying a with
 |none=>exact ah
 |some e=>simp[aq]
theorem xR(size p i:E)(g:Xz XG)(a:Xn){c:Xy->XJ e}(d:∀b,gx (c b)):gx (Builtin.mayShare size p i g a >>= c):=by
 have l:∀(f:XG)(h:E){c:Xy->XJ e},(∀b,gx (c b))->gx (Builtin.holdsCells f h >>= c):=by intro f h c d;refine gx.shape λo=>?_;cases o<;>exact d _
 have n:∀b:Xy,gx ((do
  if !b then return J
  match a with
  |Xw (C k) _ _=>do pure (!(<-Builtin.holdsCells k (i*size))||g.any (·.block==k.block))
  |_=>pure Xp:XJ Xy) >>= c):=by
  intro b;cases b
  .exact d J
  cases a<;>first|exact d Xp|skip
  rename_i m _ _;cases m
  .exact d Xp
  simp only[Xy.not_true,Yt,Yq,bind_assoc,pure_bind]
  grind
 unfold Builtin.mayShare;cases g with
 |none=>grind
 |some f=>rw[bind_assoc];exact l f _ λb=>(gx.frozen λq=>n _)
def Vw(m:Ren)(c d:Xz XG):Prop:=c=F/\d=F\/∃a b,c=C a/\d=C b/\bA m a b
theorem nU{c d:Type}{b:Ren->c->d->Prop}{e:Prop}[Decidable e]{a S:XJ c}{W g:XJ d}(h:e->ae P f b m a W)(i:¬e->ae P f b m S g):ae P f b m (if e then a else S) (if e then W else g):=by grind
theorem Fa(a2:iP P)(x:Base P m)(N:Xu XA)(a4:XA){w X:Xu Xn}(Y:aw f m w X):
 ae P f (Vr f) m (Builtin.append_ N a4 w) (Builtin.append_ N a4 X):=by
 unfold Builtin.append_;cases c7:N[0]? with
 |none=>exact ah
 |some c6=>
  cases b1:w[0]? with
  |none=>exact ah
  |some d2=>
   obtain⟨d3,a9,a1⟩:=Y.get b1;rw[a9];cases b2:w[1]? with
   |none=>exact ah
   |some a=>
    obtain⟨W,b0,y⟩:=Y.get b2;rw[b0];dsimp only;refine au (ay c6) λl=>?_;cases l<;>try exact ah
    rename_i c
    have main:∀(r:Xy)(T U:XJ E)(s t:E->XJ (Xu Xn)),ae P f (St m Eq) m T U->(∀b,ae P f (St m (aw f m)) m (s b) (t b))->∀(size:E)(base n:Xz XG)(d g:E),Vw m base n->an f m (.slice base d g) (.slice n d g)->
     ae P f (Vr f) m
      (do
        let b<-T
        let h:=d+b
        if h<=g then
         let new<-s b
         if let C k:=base then storeCells (k.add (d*size)) new.toList
         pure (.slice base h g)
        else
         if(h:Xt)>IntKind.i64.max/\(r=J\/(<-typeInfo c).bytes=0)then runtimePanic (.error "growslice: len out of range")
         if Builtin.nextslicecap h g*(<-typeInfo c).bytes>2^48 then(if r=J then runtimePanic (.error "growslice: len out of range")else do
          if !(<-Builtin.mayShare size d b base a)then mark .noRoom
          unsupported (.resourceLimit "append: a slice or a string whose bytes no memory bears"))
         let i<-choose (.appendCap h g c)
         askRoom (i*(<-typeInfo c).bytes)
         let old<-Builtin.firstCells size d (.slice base d g)
         let new<-s b
         let o:=Builtin.zeroCells (<-zeroValue c).cells (i-h)
         pure (Xw (C (<-newRow c (old++new++o))) h i):XJ Xn)
      (do
        let b<-U
        let h:=d+b
        if h<=g then
         let new<-t b
         if let C k:=n then storeCells (k.add (d*size)) new.toList
         pure (.slice n h g)
        else
         if(h:Xt)>IntKind.i64.max/\(r=J\/(<-typeInfo c).bytes=0)then runtimePanic (.error "growslice: len out of range")
         if Builtin.nextslicecap h g*(<-typeInfo c).bytes>2^48 then(if r=J then runtimePanic (.error "growslice: len out of range")else do
          if !(<-Builtin.mayShare size d b n W)then mark .noRoom
          unsupported (.resourceLimit "append: a slice or a string whose bytes no memory bears"))
         let i<-choose (.appendCap h g c)
         askRoom (i*(<-typeInfo c).bytes)
         let old<-Builtin.firstCells size d (.slice n d g)
         let new<-t b
         let o:=Builtin.zeroCells (<-zeroValue c).cells (i-h)
         pure (Xw (C (<-newRow c (old++new++o))) h i)):=by
     intro r T U s t b4 a0 size base n d g b3 b6;refine au b4 λb=>?_;dsimp only;split
     .refine ax (a0 b) λu a7 Q=>?_;rcases b3 with⟨rfl,rfl⟩|⟨k,a6,rfl,rfl,Z⟩
      .exact aB (.aO _ _)
      exact ax (gE (Z.add _) Q.list 0) λ_ _ _=>aB (.slice Z _ _)
     have tail:ae P f (Vr f) m
      (do
        let i<-choose (.appendCap (d+b) g c)
        askRoom (i*(<-typeInfo c).bytes)
        let old<-Builtin.firstCells size d (.slice base d g)
        let new<-s b
        let o:=Builtin.zeroCells (<-zeroValue c).cells (i-(d+b))
        pure (Xw (C (<-newRow c (old++new++o))) (d+b) i):XJ Xn)
      (do
        let i<-choose (.appendCap (d+b) g c)
        askRoom (i*(<-typeInfo c).bytes)
        let old<-Builtin.firstCells size d (.slice n d g)
        let new<-t b
        let o:=Builtin.zeroCells (<-zeroValue c).cells (i-(d+b))
        pure (Xw (C (<-newRow c (old++new++o))) (d+b) i)):=by
      refine au (cr _) λc9=>?_;refine ax (bL c) λz D⟨e,_⟩=>?_;subst e;refine ax (mM _) λ_ _ _=>?_;refine ax (gA size d b6) λd0 d1 b5=>?_;exact ax (a0 b) λu a7 Q=>(ax (cL a2 c) λp q R=>(bindM (gY ((b5.append Q).append (kV (dP R) _)) c) λd4 k a6 _⟨_,v⟩=>aB (.slice v _ _)))
     refine ax (bL c) λz D⟨e,_⟩=>?_;subst e;split
     .simp_all [jQ]
     refine ax (bL c) λz D⟨e,_⟩=>?_;subst e;split
     .cases r
      rotate_left
      .simp_all [jQ]
      refine .dead (gx.bind ?_ _);refine xR _ _ _ _ _ λc0=>?_;cases c0
      .exact .mark (.lost A)
      exact .lost A
     exact tail
    have b7:∀size b:E,ae P f (St m (aw f m)) m (if b*size=0 then pure #[]else do pure (Builtin.zeroCells (<-zeroValue c).cells b)) (if b*size=0 then pure #[]else do pure (Builtin.zeroCells (<-zeroValue c).cells b)):=by
     intro size b;split
     .exact aq aw.nil
     exact ax (cL a2 c) λp q R=>aq (kV (dP R) _)
    have L:=λsize=>main Xp _ _ (λb=>Builtin.firstCells size b a) (λb=>Builtin.firstCells size b W) (sM y) (λb=>gA size b y) size;have a3:=λsize(H:Xt)=>main J (pure H.toNat) (pure H.toNat) _ _ (aq A) (b7 size) size;cases c8:N[1]? with
    |none=>
     cases a1<;>try exact ah
     .exact au (aT c) λsize=>L size F F _ _ (Xr ⟨A,A⟩) (.aO _ _)
     exact au (aT c) λsize=>L size _ _ _ _ (Xs ⟨_,_,A,A,‹_›⟩) (.slice ‹_› _ _)
    |some a5=>
     cases a1<;>try exact ah
     .refine au (aT c) λsize=>ax (cB a5) λl a8 hd=>?_;obtain⟨e,hd⟩:=hd;subst e;cases l
      case int b8=>refine ax (show ae P f (St m λp q:Xy=>p=J/\q=J) m _ _ from aq ⟨A,A⟩) λp q S=>?_;obtain⟨rfl,rfl⟩:=S;refine nU (λ_=>?_) λv=>absurd A v;refine au (dO y) λH=>?_;refine nU (λ_=>(jQ x (λk O u l e=>by cases e))) λ_=>?_;refine ax (bL c) λz D⟨e,_⟩=>?_;subst e;exact nU (λ_=>(au (cr _) λb9=>(jQ x (λk O u l e=>by cases e)))) λ_=>(a3 size _ F F _ _ (Xr ⟨A,A⟩) (.aO _ _))
      all_goals exact L size F F _ _ (Xr ⟨A,A⟩) (.aO _ _)
     refine au (aT c) λsize=>ax (cB a5) λl a8 hd=>?_;obtain⟨e,hd⟩:=hd;subst e;cases l
     case int b8=>refine ax (show ae P f (St m λp q:Xy=>p=J/\q=J) m _ _ from aq ⟨A,A⟩) λp q S=>?_;obtain⟨rfl,rfl⟩:=S;refine nU (λ_=>?_) λv=>absurd A v;refine au (dO y) λH=>?_;refine nU (λ_=>(jQ x (λk O u l e=>by cases e))) λ_=>?_;refine ax (bL c) λz D⟨e,_⟩=>?_;subst e;exact nU (λ_=>(au (cr _) λb9=>(jQ x (λk O u l e=>by cases e)))) λ_=>(a3 size _ _ _ _ _ (Xs ⟨_,_,A,A,‹_›⟩) (.slice ‹_› _ _))
     all_goals exact L size _ _ _ _ (Xs ⟨_,_,A,A,‹_›⟩) (.slice ‹_› _ _)
theorem Pp(c:Xu XA)(h:XA){a d:Xu Xn}(l:aw f m a d):ae P f (Vr f) m (Builtin.cap_ c h a) (Builtin.cap_ c h d):=by
 unfold Builtin.cap_;cases q:c[0]? with
 |none=>exact ah
 |some o=>
  cases k:a[0]? with
  |none=>exact ah
  |some u=>
   obtain⟨v,i,g⟩:=l.get k;rw[i];refine au (ay o) λb=>?_;cases b with
   |array r e=>exact aB (.int _ _)
   |pointer arr=>refine au (ay arr) λb=>?_;cases b<;>first|exact ah|exact aB (.int _ _)
   |slice e=>cases g<;>first|exact ah|exact aB (.int _ _)
   |chan p e=>
    cases g<;>first|exact ah|exact aB (.int _ _)|skip
    refine ax (bI ‹_›) λs t n=>?_;cases n<;>first|exact ah|exact aB (.int _ _)
   |_=>exact ah
theorem Qb(i:Xu XA)(l:XA){c k:Xu Xn}(r:aw f m c k):ae P f (Vr f) m (Builtin.len_ i l c) (Builtin.len_ i l k):=by
 unfold Builtin.len_;cases D:i[0]? with
 |none=>exact ah
 |some v=>
  cases q:c[0]? with
  |none=>exact ah
  |some L=>
   obtain⟨N,n,b⟩:=r.get q;rw[n];refine au (ay v) λd=>?_;cases d with
   |array H e=>exact aB (.int _ _)
   |pointer arr=>refine au (ay arr) λd=>?_;cases d<;>first|exact ah|exact aB (.int _ _)
   |string=>cases b<;>first|exact ah|exact aB (.int _ _)
   |slice e=>cases b<;>first|exact ah|exact aB (.int _ _)
   |map s e=>
    cases b<;>first|exact ah|exact aB (.int _ _)|skip
    refine ax (bI ‹_›) λt u h=>?_;cases h<;>first|exact ah|skip
    rename_i o p s g;have:o.size=p.size:=by have:=g.length;omega
    dsimp only;rw[this];exact aB (.int _ _)
   |chan z e=>
    cases b<;>first|exact ah|exact aB (.int _ _)|skip
    refine ax (bI ‹_›) λt u h=>?_;cases h<;>first|exact ah|skip
    rename_i w x y cl a S O g;dsimp only;rw[g.1];exact aB (.int _ _)
   |_=>exact ah
theorem My(d:Xu XA)(k:XA){b e:Xu Xn}(h:aw f m b e):ae P f (Vr f) m (Builtin.copy_ d k b) (Builtin.copy_ d k e):=by
 unfold Builtin.copy_;cases w:d[0]? with
 |none=>exact ah
 |some v=>
  cases r:b[0]? with
  |none=>exact ah
  |some x=>
   obtain⟨y,p,t⟩:=h.get r;rw[p];cases s:b[1]? with
   |none=>exact ah
   |some a=>
    obtain⟨W,q,c⟩:=h.get s;rw[q];refine au (ay v) λo=>?_;cases o<;>try exact ah
    rename_i g;cases t<;>try exact ah
    .exact au (sM c) λu=>(au (aT g) λsize=>(ax (gA size _ c) λl n i=>aB (.int _ _)))
    refine au (sM c) λu=>?_;exact au (aT g) λsize=>(ax (gA size _ c) λl n i=>(ax (gE ‹_› i.list 0) λ_ _ _=>aB (.int _ _)))
theorem iN:an f m (.tuple #[]) (.tuple #[]):=aX
theorem Jw(q:f.cj=J)(s:iP P)(c:Xu XA)(g:XA){a d:Xu Xn}(n:aw f m a d):ae P f (Vr f) m (Builtin.clear_ c g a) (Builtin.clear_ c g d):=by
 unfold Builtin.clear_;cases v:c[0]? with
 |none=>exact ah
 |some u=>
  cases l:a[0]? with
  |none=>exact ah
  |some y=>
   obtain⟨z,k,r⟩:=n.get l;rw[k];refine au (ay u) λi=>?_;cases r with
   |fw=>exact aB iN
   |aO b h=>exact aB iN
   |map e=>
    refine ax (bI e) λw x p=>?_;cases p<;>first|exact ah|skip
    exact .setObj e (.map _ .nil) (Xr q) (.pure iN)
   |slice o b h=>
    cases b with
    |zero=>exact aB iN
    |succ b=>
     cases i<;>try exact ah
     exact ax (cL s _) λD H t=>(ax (gE o (kV (dP t) _).list 0) λ_ _ _=>aB iN)
   |_=>exact ah
theorem NF{b:Xn}(d:an f m a W)(e:an f m S b):ae P f (St m (an f m)) m (Builtin.min2 a S) (Builtin.min2 W b):=by
 cases d<;>cases e<;>first|exact ah|exact fq|exact aq (.int _ _)|skip
 rename_i g h;exact ax (rP .leq g h) λk l c=>(au (vd c) λi=>aq (.string _))
theorem Dp:∀(b c:Xq Xn),aY (an f m) b c->∀{a W:Xn},an f m a W->ae P f (St m (an f m)) m (b.foldlM Builtin.min2 a) (c.foldlM Builtin.min2 W):=by
 intro b c d
 induction d with
 |nil=>simp_all [aq]
 |cons e _ g=>grind [ax,NF]
theorem Qf(e:Xu XA)(d:XA){a b:Xu Xn}(g:aw f m a b):ae P f (Vr f) m (Builtin.min_ e d a) (Builtin.min_ e d b):=by
 unfold Builtin.min_;have c:=g.list;generalize a.toList=k at c;generalize b.toList=l at c;cases c with
 |nil=>exact ah
 |cons i h=>simp_all [ml,Dp]
end
section
variable{b c d e:Type}{g:Ren->b->c->Prop}{Q:Ren->d->e->Prop}
theorem eh(d:Base P m)(em:Xy):∀(b:E)(e:XA)(r s:Xn),an f m r s->ae P f (St m λ_ _=>True) m (Instr.checkKey em b e r) (Instr.checkKey em b e s)
 |0,_,_,_,_=>fq
 |b+1,e,r,s,l=>by
  refine au (ay e) λh=>?_;cases h with
  |interface ms=>
   cases l<;>first|exact ah|exact aq trivial|skip
   rename_i q a W y;refine ax (bL q) λz L⟨c,_⟩=>?_;subst c;split
   .cases em
    .exact au (ua q) λN=>jQ d (λu v g h c=>by cases c)
    exact jQ d (λu v g h c=>by cases c)
   exact eh d em b q a W y
  |array len t=>
   cases l<;>try exact ah
   rename_i g w i p;refine au (forIn_range (λz D=>?_) _ _) λ_=>aq trivial;exact au (aT t) λO=>ax (iH ⟨i,p⟩ _ _) λn o k=>ax (eh d em b t n o k) λ_ _ _=>aq A
  |struct H=>
   cases l<;>try exact ah
   rename_i g w i p;refine au (sG (λx D=>?_) _ _) λ_=>aq trivial;split
   .exact ax (iH ⟨i,p⟩ _ _) λn o k=>ax (eh d em b x.type n o k) λ_ _ _=>aq A
   exact aq A
  |_=>exact aq trivial
def Lu(f:Set)(m:Ren):Xz (E×Xn)->Xz (E×Xn)->Prop
 |F,F=>True
 |C (a,b),C (j,c)=>a=j/\an f m b c
 |_,_=>False
theorem vH(l:Base P m)(n:qc m)(b:XA){g h:Xn}(o:an f m g h){c d:Xq XS}(k:aY (ji f m) c d):∀a,ae P f (St m (Lu f m)) m (Instr.findAsking b g c a) (Instr.findAsking b h d a):=by
 induction k with
 |nil=>intro a;exact aq trivial
 |cons e _ p=>
  intro a;refine au (sF l n b o e.1) λi=>?_;cases i
  .exact p _
  exact aq ⟨A,e.2.1⟩
theorem Cv{k:TypeDesc}{n:XA}{h:Xn}(f:Instr.sameNow k h a=C Xp){b:Type}{l:Xy->XJ b}(g:gx (l Xp)):gx (Op.equal n h a >>= l):=by
 unfold Op.equal;cases hd:Op.maxDepth with
 |zero=>exact .lost A
 |succ r=>
  unfold Op.equalIn;refine .program λP=>?_;simp only[program,Bind.bind,Sem.bind];cases q:P.underlying n with
  |none=>exact .lost A
  |some i=>
   cases k<;>cases h<;>first|(cases f;done)|skip
   all_goals (cases a<;>first|(cases f;done)|skip)
   .rename_i c d;have e:(c==d)=Xp:=by simp_all [Instr.sameNow]
    cases i<;>first|exact .lost rfl|(simp only[Sem.bind,Pure.pure,e];exact g)
   .rename_i o c p d;by_cases m:o=p
    .have e:(c==d)=Xp:=by simpa[Instr.sameNow,m]using f
     cases i<;>first|exact .lost rfl|(simp only[Sem.bind,m,Ym,Pure.pure,e];exact g)
    simp_all [Instr.sameNow]
   rename_i c d;have e:(c==d)=Xp:=by simp_all [Instr.sameNow]
   cases i<;>first|exact .lost rfl|(simp only[Sem.bind,Pure.pure,e];exact g)
theorem DQ(e:TypeDesc){c d:Xn}(h:an f m c d)(g:an f m a W):Instr.sameNow e c a=Instr.sameNow e d W\/(Instr.sameNow e c a=F/\(c=.tuple #[]\/a=.tuple #[])/\mA c=J/\mA a=J):=by
 cases e with
 |int l=>
  cases h with
  |bS b=>
   cases d<;>first|exact Xr rfl|skip
   cases g<;>first|exact Xr rfl|exact Xs ⟨rfl,Xr rfl,rfl,rfl⟩
  |int i k=>
   cases g with
   |bS b=>cases W<;>first|exact Xr rfl|exact Xs ⟨rfl,Xs rfl,rfl,rfl⟩
   |_=>exact Xr A
  |_=>exact Xr A
 |string=>
  cases h with
  |bS b=>cases d<;>first|exact Xr rfl|simp_all [bN]
  |string i=>
   cases g with
   |bS b=>cases W<;>first|exact Xr rfl|simp_all [bN]
   |_=>exact Xr A
  |_=>exact Xr A
 |bool=>
  cases h with
  |bS b=>cases d<;>first|exact Xr rfl|simp_all [bN]
  |bool i=>
   cases g with
   |bS b=>cases W<;>first|exact Xr rfl|simp_all [bN]
   |_=>exact Xr A
  |_=>exact Xr A
 |_=>exact Xr A
theorem CF(b:TypeDesc){c h:Xn}(s:an f m c h){d e:Xq XS}(q:aY (ji f m) d e):∀a,
 (Instr.findNow b c d a=F/\Instr.findNow b h e a=F)\/(∃l n,Instr.findNow b c d a=C l/\Instr.findNow b h e a=C n/\Lu f m l n)\/(Instr.findNow b c d a=F/\∀i,gx (Instr.findAsking i c d a)):=by
 induction q with
 |nil=>intro a;exact Xs (Xr ⟨F,F,A,A,trivial⟩)
 |cons k _ w=>
  rename_i p u _ _ _;intro a;unfold Instr.findNow Instr.findAsking;rcases DQ b s k.1 with g|⟨g,r,q1,t⟩
  .rw[<-g];cases v:Instr.sameNow b c p.key with
   |none=>simp
   |some o=>
    cases o
    .grind [Cv]
    exact Xs (Xr ⟨_,_,A,A,A,k.2.1⟩)
  rw[g];exact Xs (Xs ⟨A,λi=>(pC i r q1 t).bind _⟩)
theorem mT(n:Base P m)(o:qc m)(a:XA){e g:Xn}(l:an f m e g){c d:Xq XS}(k:aY (ji f m) c d):ae P f (St m (Lu f m)) m (Instr.findKey a e c) (Instr.findKey a g d):=by
 refine au (ay a) λh=>?_;rcases CF h l k 0 with⟨b,i⟩|⟨q,r,b,i,p⟩|⟨b,hd⟩
 .simp_all [vH]
 .simp_all [aq]
 rw[b];exact .dead (hd a)
theorem Gf(n:iP P)(s:Base P m)(x:qc m)(q:XA){h:Xn}(D:an f m a W)(u:an f m S h)(ok:Xy):ae P f (Vr f) m (Instr.lookup q a S ok) (Instr.lookup q W h ok):=by
 refine au (ay q) λw=>?_;cases w<;>try exact ah
 rename_i c l
 have main:∀{d e:Xu XS},aY (ji f m) d.toList e.toList->ae P f (Vr f) m
  (do
    Instr.checkKey d.isEmpty 10000 c S
    let (b,o)<-match<-Instr.findKey c S d.toList with
     |some (_,b)=>pure (b,J)
     |none=>pure (<-zeroValue l,Xp)
    pure (if ok then .tuple #[b,.bool o]else b):XJ Xn)
  (do
    Instr.checkKey e.isEmpty 10000 c h
    let (b,o)<-match<-Instr.findKey c h e.toList with
     |some (_,b)=>pure (b,J)
     |none=>pure (<-zeroValue l,Xp)
    pure (if ok then .tuple #[b,.bool o]else b)):=by
  intro d e r;have z:d.isEmpty=e.isEmpty:=by have:=r.length;simp_all [Xu.isEmpty]
  rw[<-z];refine ax (eh s _ _ c S h u) λ_ _ _=>?_;refine ax (mT s x c u r) λv p g=>?_
  have fin:∀{b k:Xn}(i:Xy),an f m b k->an f m (if ok=J then .tuple #[b,.bool i]else b) (if ok=J then .tuple #[k,.bool i]else k):=by
   intro b k i t;cases ok
   .exact t
   exact gH ((aw.nil.push t).push (.bool i))
  cases v with
  |none=>
   cases p with
   |none=>exact ax (cL n l) λQ R n=>aB (fin Xp n)
   |some H=>exact g.elim
  |some O=>
   cases p with
   |none=>exact g.elim
   |some H=>exact aB (fin J g.2)
 cases D<;>try exact ah
 .exact main .nil
 rename_i v p g;refine ax (bI g) λL N y=>?_;cases y<;>try exact ah
 grind
theorem aY.mod{d e:Xq XS}(k:aY (ji f m) d e)(a:E){g h:XS->XS}(l:∀b c,ji f m b c->ji f m (g b) (h c)):aY (ji f m) (d.modify a g) (e.modify a h):=by
 induction k generalizing a with
 |nil=>cases a<;>exact .nil
 |cons i n o=>
  cases a with
  |zero=>exact .cons (l _ _ i) n
  |succ a=>exact .cons i (o a)
theorem aY.erase{b c:Xq XS}(d:aY (ji f m) b c)(a:E):aY (ji f m) (b.eraseIdx a) (c.eraseIdx a):=by
 induction d generalizing a with
 |nil=>cases a<;>exact .nil
 |cons g e h=>
  cases a with
  |zero=>exact e
  |succ a=>exact .cons g (h a)
theorem QU{g h d e:Xq Xn}(l:aY (an f m) g h)(k:aY (an f m) d e){c:Xn->Xn->Xy}(o:∀a W S i,an f m a W->an f m S i->c a S=J->c W i=J):
 ((g.zip d).all λb=>c b.1 b.2)=J->((h.zip e).all λb=>c b.1 b.2)=J:=by
 induction l generalizing d e with
 |nil=>intro _;rfl
 |cons r p t=>
  intro n;cases k with
  |nil=>rfl
  |cons s q=>
   simp only[Xq.zip_cons_cons,abv,Ys]at n⊢
   grind
theorem mi(d:qc m):∀(c:E)(e g h i:Xn),an f m e g->an f m h i->Instr.sameBits c e h=J->Instr.sameBits c g i=J
 |0,e,g,h,i,n,o,b=>by
  cases n<;>cases o<;>first|exact b|(unfold Instr.sameBits at b;cases b;done)|skip
  .rename_i q r k s t l;simp only[Instr.sameBits,aaW,Yr]at b⊢
   have:=addr_eq d k l;rw[aa9]at this;simpa using this.1 (by simpa using b)
  grind [Instr.sameBits,Gn]
 |c+1,e,g,h,i,n,o,b=>by
  cases n<;>cases o<;>first|exact b|(unfold Instr.sameBits at b;cases b;done)|skip
  .rename_i q r k s t l;simp only[Instr.sameBits,aaW,Yr]at b⊢
   have:=addr_eq d k l;simp_all
  .grind [Instr.sameBits,Gn]
  .rename_i T D H w U a W p;simp only[Instr.sameBits,Ys]at b⊢
   exact⟨b.1,mi d c D H a W w p b.2⟩
  rename_i N O u y Q R v z;simp only[Instr.sameBits,Ys]at b⊢
  refine⟨?_,QU (aw.list ⟨u,y⟩) (aw.list ⟨v,z⟩) (λa W S L p x=>mi d c a W S L p x) b.2⟩;simp_all
theorem An(g:qc m){c d a b:Xn}(h:an f m c d)(e:an f m a b):ae P f (St m (an f m)) m (Instr.keyThatStays c a) (Instr.keyThatStays d b):=by
 unfold Instr.keyThatStays;have i:=mi g 10000 c d a b h e;cases k:Instr.sameBits 10000 c a with
 |true=>simp_all [aq]
 |false=>
  cases l:Instr.sameBits 10000 d b with
  |true=>exact .kA _ A 0 (aq e)
  |false=>grind [au,cr,aq]
theorem oL(s:f.cj=J)(q:Base P m)(r:qc m)(p:XA){v w i k:Xn}(S:an f m v w)(h:an f m i k)(t:an f m a W):ae P f (St m λ_ _=>True) m (Instr.mapUpdate p v i a) (Instr.mapUpdate p w k W):=by
 refine au (ay p) λz=>?_;cases z<;>try exact ah
 rename_i u Z;cases S<;>try exact ah
 .simp_all [Gx]
 rename_i a2 a3 o;refine ax (bI o) λa0 a1 T=>?_;cases T<;>try exact ah
 rename_i d e cl c;refine ax (eh q _ _ u i k h) λ_ _ _=>?_;refine ax (mT q r u h c) λY y n=>?_;cases Y with
 |none=>
  cases y with
  |none=>exact .setObj o (.map _ (by rw[N_,N_];exact c.append (.cons ⟨h,t,A⟩ .nil))) (Xr s) (.pure ⟨A,trivial⟩)
  |some x=>exact n.elim
 |some x=>
  cases y with
  |none=>exact n.elim
  |some X=>
   obtain⟨b,a4⟩:=x;obtain⟨j,a5⟩:=X;obtain⟨l,_⟩:=n;subst l
   have R:an f m (((d[b]?).map (·.key)).getD i) (((e[b]?).map (·.key)).getD k):=by
    have H:d[b]?=d.toList[b]?:=by simp
    have L:e[b]?=e.toList[b]?:=by simp
    cases g:d.toList[b]? with
    |none=>
     have:e.toList[b]?=F:=by rw[Xq.getElem?_eq_none_iff]at g⊢;rw[<-c.length];exact g
     simp_all
    |some l=>obtain⟨D,N,O⟩:=c.get g;rw[H,L,g,N];exact O.1
   refine ax (An r R h) λa6 a7 U=>?_;refine .setObj o (.map _ ?_) (Xr s) (.pure ⟨A,trivial⟩);rw[Xu.toList_modify,Xu.toList_modify];exact aY.mod c b λl D Q=>⟨U,t,Q.2.2⟩
theorem Fx(n:f.cj=J)(c:Base P m)(z:qc m)(i:Xu XA)(r:XA){a k:Xu Xn}(l:aw f m a k):ae P f (Vr f) m (Builtin.delete_ i r a) (Builtin.delete_ i r k):=by
 unfold Builtin.delete_;cases T:i[0]? with
 |none=>exact ah
 |some Q=>
  cases x:a[0]? with
  |none=>exact ah
  |some U=>
   obtain⟨W,t,D⟩:=l.get x;rw[t];cases y:a[1]? with
   |none=>exact ah
   |some o=>
    obtain⟨p,u,d⟩:=l.get y;rw[u];refine au (ay Q) λs=>?_;cases s<;>try exact ah
    rename_i h S;cases D<;>try exact ah
    .exact ax (eh c _ _ h o p d) λ_ _ _=>aB iN
    rename_i a0 a1 g;refine ax (bI g) λX Y H=>?_;cases H<;>try exact ah
    rename_i v w cl b;have L:v.isEmpty=w.isEmpty:=by have:=b.length;rw[aa9];grind
    dsimp only;rw[<-L];refine ax (eh c _ _ h o p d) λ_ _ _=>?_;refine ax (mT c z h d b) λO q e=>?_;cases O with
    |none=>
     cases q with
     |none=>exact .setObj g (.map _ b) (Xr n) (.pure iN)
     |some N=>exact e.elim
    |some N=>
     cases q with
     |none=>exact e.elim
     |some Z=>obtain⟨R,_⟩:=e;refine .setObj g (.map _ ?_) (Xr n) (.pure iN);simp_all [aY.erase]
end
end Go.Sim
