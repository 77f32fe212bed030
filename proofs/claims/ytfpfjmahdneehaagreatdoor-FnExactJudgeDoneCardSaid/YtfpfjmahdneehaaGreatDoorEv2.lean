/- A verified evaluator of the machine's code, part 2: no program in sight. -/
import Derived.Test.YtfpfjmahdneehaaGreatDoorEv1
import Derived.Laws.IdiomStrings
import Derived.Laws.Tables
open Nat renaming eq_of_beq_eq_true->À,le_of_ble_eq_true->Ê,mul_le_mul_right->Ë,le_refl->Ô,min_eq_left->à,zero_mul->å,add_mul->ê,succ_mul->ì,add_assoc->ð,beq->ò,zero_le->ø,le_of_eq->Ĉ,beq_refl->ĉ,ble->Ė,zero_add->Ę,mul_one->ĝ
open List renaming append_assoc->Á,nil_append->Â,mem_append->Ã,nodup_append->Ä,eq_nil_of_length_eq_zero->Æ,nodup_nil->Ç,length_take->Ì,map_cons->Í,length_cons->Ï,replicate->Ñ,nodup_cons->Ó,cons_append->Ö,getElem?_eq_getElem->ß,take_take->â,take_of_length_le->ã,flatMap_cons->ä,take_append_drop->æ,mem_cons->é,append_nil->ë,length_append->í,getElem?_eq_some_iff->î,sublist_append_left->ñ,drop_of_length_le->õ,take_left'->ö,drop_drop->ù,flatten_append->û,getElem?_take->ÿ,map_replicate->Ā,extract->Ă,map_nil->ă,map_map->Ą,getElem?_map->ą,flatten_cons->Ć,size_toArray->ć,take_append->Ċ,range'_succ->ċ,length_map->đ,drop_take->Ĕ,take_left->ĕ,mem_map->ė,flatMap->ę,range'->ě,map->Ĝ
open Option renaming map_eq_some_iff->Å,isSome_iff_exists->Ú,map_some->Đ
open Go.Builtin renaming firstCells->È,append_->Î,lenOf->Þ,zeroCells->ï,len_->ó,nextslicecap->ğ,min_->Ģ,min2->ģ,max_->Ĥ,max2->ĥ
open Option.some renaming injEq->É,inj->Ġ
open Go.IntKind renaming signed->Ð,bits->Ø,min->Û,max->Ü,wrap->Ě,i64->Ğ
open Go.Instr renaming sliceBounds->Ò,sliceBound->ç,fill->è,sliceAt->ý,buildSlice->Č,slice->Ď,makeSlice->Ē,sureAddr->ē
open Bool renaming and_eq_true->Õ,or_eq_true->Ý,false_eq_true->þ
open Array renaming toArray_toList->Ù,ext'->á,length_toList->ü,toList_range->ā,toList_map->č,range->ď
open Go.Addr renaming add_lit->ô,add->ġ
open Go.Value renaming int->ú
namespace Go.Ev
section
variable {P:Program} {T:TypeId→Option TyI} {w0 w:World} {F R:Nat→Prop} {st st':St} {θ:Asg} {a:Act} {o:Oper} {v:TV} {l:Log}
theorem My (d:Inv w0 F R st θ w) (f:Tm (hp w) R st θ a) {x:Operand} (b:o.op=.move x\/o.op=.assign x)
  (h:(M.ret (bE st x)).run st=some (v,st',l)):aY P w0 F R st θ w o a v st':=by
 obtain⟨rfl,rfl⟩:=M.gI h;exact aY.pure d (u:=a.eval x) (by rcases b with b|b<;>simp [execOp,b]) (gH f x)
theorem Yb (g:Inv w0 F R st θ w) (f:Tm (hp w) R st θ a) {c x y:Operand} (i:o.op=.pick c x y) {b:Bool} (j:bE st c=.one (.b b))
  (h:(M.br b (.ret (bE st x)) (.ret (bE st y))).run st=some (v,st',l)):aY P w0 F R st θ w o a v st':=by
 have d:=rL f j;cases b<;>simp only [M.run]at h<;>obtain⟨rfl,rfl⟩:=M.gI (by simpa only [M.run]using h)
 .exact aY.pure g (u:=a.eval y) (by simp [execOp,i,d,asBool]) (gH f y)
 .exact aY.pure g (u:=a.eval x) (by simp [execOp,i,d,asBool]) (gH f x)
theorem Mz (t:TypeId) (u:Value):(newVar t u).run P w=.ok ⟨w.heap.size,0,none⟩ (w.alloc (.cells u.cells t)):=by
 simp [newVar,newRow]
theorem MA (d:Inv w0 F R st θ w) {b:Nat} {cs:List Cell} {t:TypeId} {u:Value} (f:aI (hp w) R st θ cs u.cells.toList)
  (he:(execOp a.eval o).run P w=.ok (.value (.pointer (some ⟨w.heap.size,0,none⟩))) (w.alloc (.cells u.cells t)))
  (h:(M.nb b cs (c1 (.pb b 0))).run st=some (v,st',l)):aY P w0 F R st θ w o a v st':=by
 obtain⟨g,k,h⟩:=M.Mp h;obtain⟨rfl,rfl⟩:=cO h;obtain⟨i,j⟩:=d.XJ g (ty:=t) f;refine⟨_,_,_,.inl he,i,j,ff ?_ rfl⟩
 simp [az,bC]
theorem Yc (d:Ok P T) (f:Inv w0 F R st θ w) {t:TypeId} (g:o.op=.alloc t) {i:TyI} (hi:T t=some i) {b:Nat}
  (h:(M.nb b i.zero (c1 (.pb b 0))).run st=some (v,st',l)):aY P w0 F R st θ w o a v st':=by
 obtain⟨z,j,k, -⟩:=XZ (w:=w) (d.eO t i hi);refine MA (u:=z) (t:=t) f (DD k) ?_ h
 simp only [execOp,g];refine eP ?_
 simp [Instr.alloc,j,Mz]
theorem xX {α:Type} {x:TV} {k:List Cell->M α} {r:α×St×Log} (h:(oa x k).run st=some r):
  ∃cs,(k cs).run st=some r/\ ∀(H:Heap) (u:Value),aV H R st θ x u->aI H R st θ cs u.cells.toList:=by
 unfold oa at h;split at h
 .simp [M.run]at h
 .rename_i c d
  refine⟨_,h,fun H u b=> ?_⟩
  simp only [aV]at b;have f:cC u=true:=b.2.resolve_left (fun e=>d (by rw [e]))
  have:u.cells.toList=[u]:=by cases u<;>simp_all [cC,Value.cells]
  rw [this];simp only [aI];exact⟨u,[],rfl,⟨b.1,f⟩,rfl⟩
 .refine⟨_,h,fun H u b=> ?_⟩
  simp only [aV]at b;obtain⟨arr,rfl,b⟩:=b;exact b
 .simp [M.run]at h
theorem Yd (d:Inv w0 F R st θ w) (f:Tm (hp w) R st θ a) {t:TypeId} {x:Operand} (g:o.op=.box t x) {n b:Nat}
  (h:(oa (bE st x) fun cs=>.gd (ò cs.length n) (.nb b cs (c1 (.pb b 0)))).run st=some (v,st',l)):aY P w0 F R st θ w o a v st':=by
 obtain⟨cs,h,i⟩:=xX (R:=R) (θ:=θ) h;obtain⟨-,h⟩:=M.aM h;refine MA (u:=a.eval x) (t:=t) d (i _ _ (gH f x)) ?_ h
 simp only [execOp,g];refine eP ?_
 simp [Instr.box,Mz]
theorem Ye (j:Inv w0 F R st θ w) (m:Tm (hp w) R st θ a) {x:Operand} (i:o.op=.nilCheck x) {c:Cell} (r:bE st x=.one c)
  (s:match c with|.pb _ _|.pe _ _ _ _|.pr _ _ _|.pg _ _ _ _ _ _|.fn _ _ _=>True|_=>False)
  (h:(c1 c).run st=some (v,st',l)):aY P w0 F R st θ w o a v st':=by
 obtain⟨rfl,rfl⟩:=cO h;have d:=gH m x;rw [r]at d;refine aY.pure j (u:=a.eval x) ?_ d
 simp only [aV]at d;have d:=d.1;cases c<;>simp only at s<;>simp only [az]at d
 case pb b off=>simp [execOp,i,d.2]
 case pe k aG t off=>obtain⟨⟨g,o,e⟩, -⟩:=d;simp [execOp,i,e]
 case pr ts e off=>obtain⟨g,o,cur,ty,frz,e, -⟩:=d;simp [execOp,i,e]
 case pg k aG wv ts e off=>obtain⟨⟨g,o,e⟩, -⟩:=d;simp [execOp,i,e]
 case fn f p q=>obtain⟨z,vb,e, -⟩:=d;simp [execOp,i,e]
theorem Yf (d:Inv w0 F R st θ w) (f:Tm (hp w) R st θ a) {t:TypeId} {x:Operand} (g:o.op=.unOp .not t x) {b:Bool} (i:bE st x=.one (.b b))
  (h:(c1 (.b (!b))).run st=some (v,st',l)):aY P w0 F R st θ w o a v st':=by
 obtain⟨rfl,rfl⟩:=cO h;refine aY.pure d (u:=.bool (!b)) ?_ eX
 simp only [execOp,g];refine eP ?_
 simp [Op.unary,rL f i]
theorem Yg (b:Inv w0 F R st θ w) (d:Tm (hp w) R st θ a) {t:TypeId} {x:Operand} (f:o.op=.unOp .neg t x) {k:IntKind} {n:Int} (g:bE st x=.one (.i k n))
  (h:(c1 (.i k (k.wrap (0-n)))).run st=some (v,st',l)):aY P w0 F R st θ w o a v st':=by
 obtain⟨rfl,rfl⟩:=cO h;refine aY.pure b (u:=.int k (k.wrap (0-n))) ?_ (gJ (oB _ _))
 simp only [execOp,f];refine eP ?_
 simp [Op.unary,(fv d g).1,Op.intArith]
theorem xY (b:Ok P T) {t:TypeId} (h:pV (T t)=true):P.underlying t=some .string:=by
 unfold pV at h;split at h
 .rename_i e
  exact(b.eO t _ e).u
 .cases h
theorem rM (d:Ok P T) {t:TypeId} {c:CT} (h:fe T t=some c):bN c=true/\ ∃e,P.underlying t=some (.slice e)/\ ∃inf z,P.info? e=some inf/\inf.size=(ak c).size/\inf.bytes<=1024/\inf.zero=some z/\kQ (ak c) z.cells.toList=true/\
  (match ak c with|.one (.int .u8)=>P.underlying e=some (.int .u8)|_=>True):=by
 unfold fe at h;split at h
 .rename_i e sz g j f q i
  cases b:bN f with
  |false=>simp [b]at h
  |true=>
   simp only [b,Y,É]at h;subst h;have k:=d.eO t _ i;exact⟨b,e,k.u,k.sl f rfl b e rfl⟩
 .cases h
theorem lT {b:Option CT} {c:CT} (h:jZ b c=true):b=some c:=by
 unfold jZ at h;split at h
 .rw [CT.eq_of_beq _ _ h]
 .cases h
theorem Yh (b:Ok P T) (g:Inv w0 F R st θ w) (j:Tm (hp w) R st θ a) {s t:TypeId} {x:Operand} (m:o.op=.convert s t x) {k p k':IntKind} {n:Int}
  (q:iZ T s=some (.int p)) (r:iZ T t=some (.int k)) (z:bE st x=.one (.i k' n))
  (h:(c1 (.i k (k.wrap n))).run st=some (v,st',l)):aY P w0 F R st θ w o a v st':=by
 obtain⟨rfl,rfl⟩:=cO h;refine aY.pure g (u:=.int k (k.wrap n)) ?_ (gJ (oB _ _))
 have hu: ∀ {t:TypeId} {u:U},iZ T t=some u->lR P t u:=fun {t u} h=>by
  simp only [iZ,Å]at h;obtain⟨i,hi,rfl⟩:=h;exact(b.eO t i hi).u
 have d:=hu q;have f:=hu r;simp only [lR]at d f;simp only [execOp,m];refine eP ?_
 simp [convert,run_underlying d,run_underlying f,(fv j z).1,Conv.intToInt]
theorem Yi (b:Ok P T) (j:Inv w0 F R st θ w) (k:Tm (hp w) R st θ a) {s t:TypeId} {x:Operand} (m:o.op=.convert s t x) {n:O}
  (p:iZ T s=some .str) (q:iZ T t=some .str) (r:bE st x=.one (.s n))
  (h:(c1 (.s n)).run st=some (v,st',l)):aY P w0 F R st θ w o a v st':=by
 obtain⟨rfl,rfl⟩:=cO h;have d:=qj k r;refine aY.pure j (u:=.string ⟨n.toArray⟩) ?_ (ql d.2)
 have hu: ∀ {t:TypeId} {u:U},iZ T t=some u->lR P t u:=fun {t u} h=>by
  simp only [iZ,Å]at h;obtain⟨i,hi,rfl⟩:=h;exact(b.eO t i hi).u
 have f:=hu p;have g:=hu q;simp only [lR]at f g;simp only [execOp,m];refine eP ?_
 simp [convert,run_underlying f,run_underlying g,d.1]
theorem Yj (g:Ok P T) (q:Inv w0 F R st θ w) (p:Tm (hp w) R st θ a) {t:TypeId} {x i:Operand} (r:o.op=.index t x i)
  (h:(Ds (T t) (bE st x) (bE st i)).run st=some (v,st',l)):aY P w0 F R st θ w o a v st':=by
 unfold Ds at h;split at h
 .rename_i s k n j hi
  obtain⟨hu,h⟩:=M.aM h;obtain⟨b,f,h⟩:=M.eI h;obtain⟨rfl,rfl⟩:=cO h;have j:=qj p j;have hi:=fv p hi;have hu:=xY g hu;refine aY.pure q (u:=.int .u8 (b.toNat:Int)) ?_ (gJ ?_)
  .simp only [execOp,r]
   refine eP ?_
   simp only [bG,nth]at f;cases d:decide (0<=n)with
   |false=>simp [d]at f
   |true=>
    simp only [d,Y]at f;have d:=of_decide_eq_true d;have m:(⟨s.toArray⟩:ByteArray)[n.toNat]? =some b:=by
     obtain⟨z,h2⟩:=î.1 f
     have:n.toNat<(⟨s.toArray⟩:ByteArray).size:=by simpa [ByteArray.size]using z
     rw [getElem?_pos (⟨s.toArray⟩:ByteArray) n.toNat this]
     simp [<-h2,ByteArray.getElem_eq_getElem_data]
    simp [Instr.index,j.1,hi.1,asIntOf,run_underlying hu,d,m]
  .have:=b.toNat_lt
   simp only [Û,Ü,Ð,Ø];simp
   omega
 .simp [M.run]at h
theorem Yk (f:Ok P T) (hI:Inv w0 F R st θ w) (hT:Tm (hp w) R st θ a) {cl:Call} {x:Operand} {t:TypeId} {ts:List TypeId} (ho:o.op=.call cl) (m:cl.callee=.builtin .len) (ha:cl.args.toList=[x]) (q:cl.argTypes.toList=t::ts)
  (h:(M.iv (bE st x) (Dq (T t))).run st=some (v,st',l)):aY P w0 F R st θ w o a v st':=by
 have r:cl.args= #[x]:=by rw [<-Ù (xs:=cl.args),ha]
 have d:cl.argTypes[0]? =some t:=by rw [<-Array.getElem?_toList,q];rfl
 have fin: ∀(n:Nat),n<=maxLen->(ó cl.argTypes o.type #[a.eval x]).run P w=.ok (.int .i64 (n:Int)) w->v=.one (.i .i64 (n:Int))->st'=st->aY P w0 F R st θ w o a v st':=by
  intro n z g j e2;subst j;subst e2;refine aY.pure hI (u:=.int .i64 (n:Int)) ?_ (gJ ?_)
  .simp [execOp,ho,resolve,m,r,invoke,builtin,g]
  .simp only [maxLen]at z
   simp only [Û,Ü,Ð,Ø];simp
   omega
 have gi: ∀n:Nat,n<=maxLen->goInt n=.int .i64 (n:Int):=by
  intro n z;simp only [maxLen]at z;simp only [goInt]
 cases k:bE st x with
 |agg _=>rw [k]at h;simp [M.iv,M.run]at h
 |aP _=>rw [k]at h;simp [M.iv,M.run]at h
 |one p=>
  rw [k]at h;simp only [M.iv,Dq]at h;split at h
  .rename_i s
   obtain⟨hu,h⟩:=M.aM h;have b:=cO h;have hx:=qj hT k;exact fin s.length hx.2 (by simp [ó,d,run_underlying (xY f hu),hx.1,goInt,show(⟨s.toArray⟩:ByteArray).size=s.length from rfl]) b.1 b.2
  .obtain⟨hu,h⟩:=M.aM h
   obtain⟨e,hu⟩:=xU f hu;have g:=gH hT x;rw [k]at g;simp only [aV]at g;rcases xR hI g.1 h with⟨⟨ad,j⟩,h⟩|⟨c,y,l1,R',h,hc,hy, -⟩
   .have b:=cO h
    exact fin 0 (by simp [maxLen]) (by simp [ó,d,run_underlying hu,j,goInt]) b.1 b.2
   .have b:=cO h
    obtain⟨ad,cap,j,h1,h2⟩:=hy.gG hc;exact fin (aE c y) (by omega) (by simp [ó,d,run_underlying hu,j,goInt]) b.1 b.2
end
end Go.Ev
namespace Go.Ev
section
variable {P:Program} {T:TypeId→Option TyI} {w0 w:World} {F R:Nat→Prop} {st st':St} {θ:Asg} {a:Act} {o:Oper} {v:TV} {l:Log}
theorem MB (b:Ok P T) {s:TypeId} {fs:List (Nat×TypeId)} {i:TyI} (hi:T s=some i) (hu:i.u=.struct fs) {f off:Nat} {t:TypeId} (d:fs[f]? =some (off,t)):
  ∃fields,P.underlying s=some (.struct fields)/\ ∃fd:Field,fields[f]? =some fd/\fd.offset=off/\fd.type=t/\ ∃inf,P.info? t=some inf/\inf.size≠0:=by
 have k:=(b.eO s _ hi).u;rw [hu]at k;simp only [lR]at k;obtain⟨fields,g,h⟩:=k;exact⟨fields,g,h.at_ f off t d⟩
theorem Yl (ah:Ok P T) (hI:Inv w0 F R st θ w) (hT:Tm (hp w) R st θ a) {s:TypeId} {x:Operand} {f:Nat} (ho:o.op=.fieldAddr s x f) {fs:List (Nat×TypeId)} {i:TyI} (hi:T s=some i) (hu:i.u=.struct fs) {off:Nat} {t:TypeId} (hf:fs[f]? =some (off,t))
  (h:(tU off (bE st x)).run st=some (v,st',l)):aY P w0 F R st θ w o a v st':=by
 obtain⟨fields,h1,fd,h2,h3,h4,inf,h5,h6⟩:=MB ah hi hu hf;have j: ∀g q,a.eval x=.pointer (some ⟨g,q,none⟩)->(execOp a.eval o).run P w=.ok (.value (.pointer (some ⟨g,q+off,none⟩))) w:=by
  intro g q e;simp only [execOp,ho];refine eP ?_
  simp [Instr.fieldAt,run_underlying h1,h2,ē,e,fieldPlace,sizeOf,typeInfo,h4,h5,h6,h3,ô]
 cases z:bE st x with
 |agg _=>rw [z]at h;simp [tU,M.run]at h
 |aP _=>rw [z]at h;simp [tU,M.run]at h
 |one p=>
  rw [z]at h;cases p<;>simp only [tU]at h
  case pb b of=>
   obtain⟨rfl,rfl⟩:=cO h;have r:=(dK hT z (by simp)).1
   simp only [az]at r;refine aY.pure hI (j _ _ r.2) (ff ?_ rfl)
   simp [az,r.1]
  case pe k aG ix of=>
   obtain⟨rfl,rfl⟩:=cO h;have r:=(dK hT z (by simp)).1
   simp only [az]at r;obtain⟨⟨g,q,e⟩,r1,m⟩:=r;refine aY.pure hI (j _ _ e) (ff ?_ rfl)
   simp only [az];refine⟨⟨_,_,rfl⟩,r1,fun hv d hd=> ?_⟩
   obtain⟨g',len,cap,k1,k2,k3⟩:=m hv d hd;rw [e]at k3;simp only [Value.pointer.injEq,É,Addr.mk.injEq,and_true]at k3;obtain⟨rfl,rfl⟩:=k3;exact⟨g,len,cap,k1,k2,by simp [ð]⟩
  case pr ts e of=>
   obtain⟨rfl,rfl⟩:=cO h;have r:=(dK hT z (by simp)).1
   simp only [az]at r;obtain⟨g,q,cur,ty,frz,e1,m,r3,r4,r5⟩:=r;refine aY.pure hI (j _ _ e1) (ff ?_ rfl)
   simp only [az];exact⟨g,q,cur,ty,frz,by simp [ð],m,r3,r4,r5⟩
  case pg k aG wv ts e of=>
   obtain⟨rfl,rfl⟩:=cO h;have r:=(dK hT z (by simp)).1
   simp only [az]at r;obtain⟨⟨g,q,e1⟩,r1,m⟩:=r;refine aY.pure hI (j _ _ e1) (ff ?_ rfl)
   simp only [az];refine⟨⟨_,_,rfl⟩,r1,fun hv=>⟨(m hv).1,fun hw hd=> ?_⟩⟩
   obtain⟨g',q',cur,ty,frz,e2,m,r3,r4,r5⟩:=(m hv).2 hw hd;rw [e1]at e2;simp only [Value.pointer.injEq,É,Addr.mk.injEq,and_true]at e2;obtain⟨rfl,rfl⟩:=e2;exact⟨g,q',cur,ty,frz,by simp [ð],m,r3,r4,r5⟩
  all_goals simp [M.run]at h
theorem Ym (j:Ok P T) (hI:Inv w0 F R st θ w) (hT:Tm (hp w) R st θ a) {s:TypeId} {x:Operand} {f:Nat} (ho:o.op=.field s x f) {fs:List (Nat×TypeId)} {i:TyI} (hi:T s=some i) (hu:i.u=.struct fs) {off:Nat} {t:TypeId} (hf:fs[f]? =some (off,t)) {b:TyI} (p:T t=some b)
  {cs:List Cell} (hx:bE st x=.agg cs) (h:(M.gd (Ė (off+b.size) cs.length) (.ret (kO (jE b) (sub cs off b.size)))).run st=some (v,st',l)):aY P w0 F R st θ w o a v st':=by
 obtain⟨fields,q,fd,h2,h3,h4,inf,h5,h6⟩:=MB j hi hu hf;obtain⟨hg,h⟩:=M.aM h;obtain⟨rfl,rfl⟩:=M.gI h;have hg:=Ê hg;have g:=gH hT x;rw [hx]at g;simp only [aV]at g;obtain⟨arr,e,g⟩:=g;have hl:=g.length;have r:=(g.drop off).take b.size;have d:=j.eO t b p;have k: ∃u,(part t arr off).run P w=.ok u w/\(if jE b=true then u=.agg ((arr.toList.drop off).take b.size).toArray else ∃v,(arr.toList.drop off).take b.size=[v]/\u=v):=by
  cases z:jE b with
  |true=>
   refine⟨.agg ((arr.toList.drop off).take b.size).toArray, ?_,by simp⟩
   simp only [part,Sem.run_bind,xW d,Result.andThen_ok,z,if_true,DE d,Sem.run_pure];congr 2
   apply á
   simp [Ă]
  |false=>
   have q:b.size=1:=by
    have:=d.one;unfold jE at z;cases e:b.u<;>simp_all
   have m:off<arr.toList.length:=by omega
   refine⟨arr.toList[off], ?_, ?_⟩
   .have:arr[off]? =some arr.toList[off]:=by simp at m |-
    simp only [part,Sem.run_bind,xW d,Result.andThen_ok,z,þ,if_false,this,Sem.run_pure]
   .simp only [þ,if_false]
    refine⟨_, ?_,rfl⟩
    rw [List.drop_eq_getElem_cons m,q];simp
 obtain⟨u,k1,k2⟩:=k;refine aY.pure hI (u:=u) ?_ (DC r k2)
 simp only [execOp,ho];refine eP ?_
 simp [Instr.field,run_underlying q,h2,asAgg,e,h4,h3,k1]
theorem bW.get {H:Heap}: ∀ {vs:List TV} {us:List Value} {i:Nat} {x:TV},bW H R st θ vs us->vs[i]? =some x-> ∃u,us[i]? =some u/\aV H R st θ x u
 | [],us,i,x,h,b=>by simp at b
 |c::cs,us,i,x,h,b=>by
  simp only [bW]at h;obtain⟨u,d,rfl,f,g⟩:=h;cases i with
  |zero=>simp at b;subst b;exact⟨u,rfl,f⟩
  |succ i=>
   obtain⟨j,k1,k2⟩:=bW.get g (by simpa using b)
   exact⟨j,by simpa using k1,k2⟩
theorem Yn (d:Inv w0 F R st θ w) (f:Tm (hp w) R st θ a) {x:Operand} {i:Nat} (g:o.op=.extract x i) {vs:List TV} (j:bE st x=.aP vs) {y:TV} (hy:vs[i]? =some y)
  (h:(M.ret y).run st=some (v,st',l)):aY P w0 F R st θ w o a v st':=by
 obtain⟨rfl,rfl⟩:=M.gI h;have b:=gH f x;rw [j]at b;simp only [aV]at b;obtain⟨arr,e,b⟩:=b;obtain⟨u,k,m⟩:=b.get hy;refine aY.pure d (u:=u) ?_ m
 simp only [execOp,g];refine eP ?_
 have:arr[i]? =some u:=by simpa using k
 simp [Instr.extract,e,this]
theorem DF (b:Ok P T) {t:TypeId} {c:CT} (h:fe T t=some c): ∃e,P.underlying t=some (.slice e)/\ ∀w:World,(sizeOf e).run P w=.ok (ak c).size w:=by
 obtain⟨-,e,d,inf,z,f,g, -⟩:=rM b h;exact⟨e,d,fun w=>by simp [sizeOf,typeInfo,f,g]⟩
theorem uk (s:Inv w0 F R st θ w) {n aG:Nat} {vw:Option Nat} {d:DV} {v:Value} (r:az (hp w) R st θ (.ob n aG vw) v) (hd:(st.aj n).bp=some d) (t:aG=(st.aj n).aG) (k:jB d.c vw d.x=true):
  bN d.c=true/\aD (hp w) (fun b=>b∈θ.fp n) false (enc d.c (cD d.c vw d.x)) v []/\aE d.c (cD d.c vw d.x)<=aE d.c d.x/\ ∃a len cap,θ.ob n=.slice a len cap/\v=.slice a (aE d.c (cD d.c vw d.x)) cap:=by
 simp only [az]at r;have k3:=r.2 t (by simp [hd])
 obtain⟨q1,q2,q3⟩:=s.aj n d hd;have i:=q2.share (R':=fun b=>b∈θ.fp n) (fun b u=>u)
 obtain⟨g,f,j,e4,e5⟩:=q2.gG q1;cases vw with
 |none=>
  simp only at k3;subst k3;exact⟨q1,i,Ô _,g,_,f,j,j⟩
 |some m=>
  simp only at k3;obtain⟨ad,len,cap,p,e2⟩:=k3;subst e2;rw [p]at j;cases j;have hm:m<=aE d.c d.x:=by simpa [jB]using k
  have q:aE d.c (cD d.c (some m) d.x)=m:=by simp only [cD,tS];omega
  rw [p]at i;have:=aD.cut (l:=0) (h:=m) (m:=f) q1 i (ø _) hm (by omega) e5 g (fun _=>by
   cases g with
   |none=>rfl
   |some z=>simp [ġ])
  have hz:gp d.c 0 d.x=d.x:=by
   cases d with
   |mk c x=>cases c<;>simp [gp]
  rw [hz]at this;exact⟨q1,this,by omega,g,_,f,p,by rw [q]⟩
theorem xZ {H:Heap} {n aG wv:Nat} {pl:Option (Nat×Nat)} {c:CT} {x:Interp c} {d:DV} {v:Value} (f:az H R st θ (.gs n aG wv pl c x) v) (hd:(st.aj n).bp=some d) (g:aG=(st.aj n).aG) (hw:wv=(st.aj n).wv):
  bN c=true/\aD H (fun b=>b∈θ.fp n) false (enc c x) v []:=by
 simp only [az]at f;exact⟨f.1,((f.2.2 g).2 hw d hd).1⟩
theorem MC {c:CT} {x:Interp c} {n:Int} {e:bg (ak c)} (h:pT c x n=some e):0<=n/\jV c x n.toNat=some e:=by
 unfold pT at h;cases b:decide (0<=n)with
 |false=>simp [b]at h
 |true=>simp only [b,Y]at h;exact⟨of_decide_eq_true b,h⟩
theorem DG {α:Type} {n aG wv:Nat} {pl:Option (Nat×Nat)} {c:CT} {x:Interp c} {k:(c:CT)->Interp c->M α} {y:α} (h:(fc (.gs n aG wv pl c x) .fail k).run st=some (y,st',l)):
  ∃d b,(st.aj n).bp=some d/\aG=(st.aj n).aG/\wv=(st.aj n).wv/\(k c x).run st=some (y,st',b):=by
 simp only [fc]at h;obtain⟨b,h⟩:=M.fK h;cases hd:(st.aj n).bp with
 |none=>simp [hd,M.run]at h
 |some d=>
  simp only [hd]at h;obtain⟨f,h⟩:=M.aM h;obtain⟨hw,h⟩:=M.aM h;exact⟨d,b,rfl,À f,À hw,h⟩
theorem Yo (ar:Ok P T) (hI:Inv w0 F R st θ w) (s:Tm (hp w) R st θ a) {t:TypeId} {x i:Operand} (ho:o.op=.indexAddr t x i)
  (h:(Dt (fe T t) (bE st x) (bE st i)).run st=some (v,st',l)):aY P w0 F R st θ w o a v st':=by
 have f: ∀(c:CT) (k:IntKind) (n:Int) (g q len cap:Nat),fe T t=some c->a.eval i=.int k n->0<=n->n<len->a.eval x=.slice (some ⟨g,q,none⟩) len cap->
   (execOp a.eval o).run P w=.ok (.value (.pointer (some ⟨g,q+n.toNat*(ak c).size,none⟩))) w:=by
  intro c k n g q len cap j hi h0 h1 p;obtain⟨e,k1,k2⟩:=DF ar j;simp only [execOp,ho];refine eP ?_
  simp [Instr.indexAt,hi,asIntOf,run_underlying k1,p,h0,h1,k2,ô]
 have ag: ∀(c:CT) (y:Interp c) (k:IntKind) (n:Int) (e:bg (ak c)),fe T t=some c->bN c=true->aD (hp w) R false (enc c y) (a.eval x) []->a.eval i=.int k n->pT c y n=some e->v=.one (.pr (ak c) e 0)->st'=st->aY P w0 F R st θ w o a v st':=by
  intro c y k n e j hs u hi b e1 e2;subst e1;subst e2;obtain⟨h0,b⟩:=MC b;obtain⟨ad,cap,ex, -, -⟩:=u.gG hs;rw [ex]at u;obtain⟨g,off,rfl,z⟩:=u.elem hs b;have:=uj b;refine aY.pure hI (f c k n g off _ cap j hi h0 (by omega) ex) (ff ?_ rfl)
  simpa only [az]using z
 unfold Dt at h;split at h
 .rename_i c y k n p hi
  obtain⟨j,h⟩:=M.aM h;obtain⟨e,b,h⟩:=M.eI h;have m:=cO h;have r:=(dK s p (by simp)).1
  simp only [az]at r;exact ag c y k n e (lT j) r.1 r.2 (fv s hi).1 b m.1 m.2
 .rename_i c y k n p hi
  obtain⟨j,h⟩:=M.aM h;obtain⟨e,b,h⟩:=M.eI h;have m:=cO h;have r:=(dK s p (by simp)).1
  simp only [az]at r;exact ag c y k n e (lT j) r.1 r.2.1 (fv s hi).1 b m.1 m.2
 .rename_i k aG vw ik n p hi
  obtain⟨l1,h⟩:=M.fK h;cases hd:(st.aj k).bp with
  |none=>simp [hd,M.run]at h
  |some d=>
   simp only [hd]at h;obtain⟨hv,h⟩:=M.aM h;obtain⟨aw,h⟩:=M.aM h;obtain⟨j,h⟩:=M.aM h;obtain⟨hn,h⟩:=M.aM h;obtain⟨rfl,rfl⟩:=cO h;have hn:=of_decide_eq_true hn;have hv:=À hv;have r:=(dK s p (by simp)).1
   obtain⟨q1,q2,q3,ad,len,cap,e1,e2⟩:=uk hI r hd hv aw;obtain⟨p1,p2,p3⟩:=hI.aj k d hd;obtain⟨bj,ay,e3,p4,p5,p6⟩:=p2.rK p1;rw [e1]at e3;cases e3;rcases p6 with⟨p6, -⟩|⟨g,cur,ty,frz,fps,rfl,p7, -⟩
   .omega
   .refine aY.pure hI (f d.c ik n g 0 _ cap (lT j) (fv s hi).1 hn.1 hn.2 e2) (ff ?_ rfl)
    simp only [az];refine⟨⟨_,_,rfl⟩,by omega,fun _ d' al=> ?_⟩
    rw [hd]at al;cases al;exact⟨g,_,cap,e1,by omega,by simp⟩
 .rename_i k aG wv pl c y ik n p hi
  obtain⟨j,h⟩:=M.aM h;obtain⟨d,l1,hd,hv,hw,h⟩:=DG h;obtain⟨e,b,h⟩:=M.eI h;obtain⟨rfl,rfl⟩:=cO h;have r:=(dK s p (by simp)).1
  obtain⟨hs,u⟩:=xZ r hd hv hw;obtain⟨h0,b⟩:=MC b;obtain⟨ad,cap,ex, -, -⟩:=u.gG hs;rw [ex]at u;obtain⟨g,off,rfl,z⟩:=u.elem hs b;have:=uj b;refine aY.pure hI (f c ik n g off _ cap (lT j) (fv s hi).1 h0 (by omega) ex) (ff ?_ rfl)
  simp only [az];exact⟨⟨_,_,rfl⟩,by omega,fun _=>⟨by omega,fun _ _=>z⟩⟩
 .simp [M.run]at h
end
end Go.Ev
namespace Go.Ev
section
variable {P:Program} {T:TypeId→Option TyI} {w0 w:World} {F R:Nat→Prop} {st st':St} {θ:Asg} {a:Act} {o:Oper} {v:TV} {l:Log}
theorem rN {u:Value} {k:IntKind} {n:Int} {y:Nat} (hu:u=.int k n) (b:0<=n) (d:n<=y) (code:BoundsCode):(ç u y code).run P w=.ok n.toNat w:=by
 subst hu;simp [ç,asIntOf,b,d]
theorem oD {H:Heap} (p:Tm H R st θ a) {len cap:Nat} (z:len<=cap) {lo hi:Option Operand} {k:Nat->Nat->M TV} {r:TV×St×Log} (h:(lN len (lo.map (bE st)) (hi.map (bE st)) k).run st=some r):
  ∃x y,x<=y/\y<=len/\(k x y).run st=some r/\(lo=none->x=0)/\ ∀b,(Ò b len cap (lo.map a.eval) (hi.map a.eval) none).run P w=.ok (x,y,cap) w:=by
 unfold lN at h;split at h
 .rename_i i j
  have f:lo=none:=by cases lo<;>simp_all
  have g:hi=none:=by cases hi<;>simp_all
  subst f g;exact⟨0,len,ø _,Ô _,h,fun _=>rfl,fun b=>by simp [Ò]⟩
 .rename_i k n i j
  have f:lo=none:=by cases lo<;>simp_all
  subst f;obtain⟨c,rfl,q⟩:=Å.1 j;obtain⟨d,h⟩:=M.aM h;have d:=of_decide_eq_true d;have m:=(fv p q).1;exact⟨0,n.toNat,ø _,by omega,h,fun _=>rfl,fun b=>by simp [Ò,rN (P:=P) (w:=w) (y:=cap) m d.1 (by omega)]⟩
 .rename_i k n i j
  have g:hi=none:=by cases hi<;>simp_all
  subst g;obtain⟨c,rfl,s⟩:=Å.1 i;obtain⟨d,h⟩:=M.aM h;have d:=of_decide_eq_true d;have m:=(fv p s).1;exact⟨n.toNat,len,by omega,Ô _,h,by simp,fun b=>by simp [Ò,rN (P:=P) (w:=w) (y:=len) m d.1 d.2]⟩
 .rename_i k n k' u i j
  obtain⟨c,rfl,s⟩:=Å.1 i;obtain⟨c',rfl,q⟩:=Å.1 j;obtain⟨d,h⟩:=M.aM h;have d:=of_decide_eq_true d;have m:=(fv p s).1;have t:=(fv p q).1;exact⟨n.toNat,u.toNat,by omega,by omega,h,by simp,fun b=>by simp [Ò,rN (P:=P) (w:=w) (y:=cap) t (by omega) (by omega),rN (P:=P) (w:=w) (y:=u.toNat) m d.1 (by omega)]⟩
 .simp [M.run]at h
theorem extract_mk (s:O) (x y:Nat):(⟨s.toArray⟩:ByteArray).extract x y=⟨((s.drop x).take (y-x)).toArray⟩:=by
 apply ByteArray.ext
 rw [ByteArray.data_extract];apply á
 simp [Ă]
theorem Yp (al:Ok P T) (hI:Inv w0 F R st θ w) (j:Tm (hp w) R st θ a) {t:TypeId} {x:Operand} {lo hi:Option Operand} (ho:o.op=.slice t x lo hi none)
  (h:(Dr (T t) (fe T t) (bE st x) (lo.map (bE st)) (hi.map (bE st))).run st=some (v,st',l)):aY P w0 F R st θ w o a v st':=by
 have f: ∀(c:CT) (b:Option Addr) (len cap p q:Nat),fe T t=some c->a.eval x=.slice b len cap->(Ò true len cap (lo.map a.eval) (hi.map a.eval) none).run P w=.ok (p,q,cap) w->
   (execOp a.eval o).run P w=.ok (.value (.slice (if cap=p then b else b.map (·.add (p*(ak c).size))) (q-p) (cap-p))) w:=by
  intro c b len cap p q g k i;obtain⟨e,k1,k2⟩:=DF al g;simp only [execOp,ho];refine eP ?_
  simp [ý,Ď,run_underlying k1,k,i,k2]
 have m: ∀(c:CT) (y:Interp c) (R':Nat->Prop) (p q cap:Nat) (b:Option Addr),bN c=true->aD (hp w) R' false (enc c y) (.slice b (aE c y) cap) []->p<=q->q<=aE c y->
   aD (hp w) R' false (enc c (fU c (q-p) (gp c p y))) (.slice (if cap=p then b else b.map (·.add (p*(ak c).size))) (q-p) (cap-p)) []:=by
  intro c y R' p q cap b g hr h1 h2;obtain⟨ao,aq,e,h3,h4⟩:=hr.gG g;cases e;refine hr.cut g h1 h2 (by omega) (by omega) _ (fun bh=> ?_)
  rw [if_neg (by omega)]
 unfold Dr at h;split at h
 .rename_i s k
  obtain⟨hu,h⟩:=M.aM h;have hu:=xY al hu;have ax:=qj j k;obtain⟨p,q,h1,h2,h, -,i⟩:=oD (P:=P) (w:=w) j (Ô _) h;obtain⟨rfl,rfl⟩:=cO h;refine aY.pure hI (u:=.string ⟨((s.drop p).take (q-p)).toArray⟩) ?_ (ql (by simp;omega))
  simp only [execOp,ho];refine eP ?_
  have i:=i false;simp [ý,Ď,run_underlying hu,ax.1,show(⟨s.toArray⟩:ByteArray).size=s.length from rfl,i,extract_mk]
 .rename_i k
  obtain⟨g,h⟩:=M.aM h;obtain⟨c,g⟩:=Ú.1 g;have r:=(dK j k (by simp)).1
  simp only [az]at r;obtain⟨p,q,h1,h2,h, -,i⟩:=oD (P:=P) (w:=w) (cap:=0) j (Ô _) h;obtain⟨rfl,rfl⟩:=cO h;have hm:=f c none 0 0 p q g r (i true);have:p=0:=by omega
  subst this;have:q=0:=by omega
  subst this;exact aY.pure hI hm (ff (by simp [az]) rfl)
 .rename_i k
  obtain⟨g,h⟩:=M.aM h;obtain⟨c,g⟩:=Ú.1 g;have r:=(dK j k (by simp)).1
  simp only [az]at r;obtain⟨b,r⟩:=r;obtain⟨p,q,h1,h2,h, -,i⟩:=oD (P:=P) (w:=w) (cap:=0) j (Ô _) h;obtain⟨rfl,rfl⟩:=cO h;have hm:=f c b 0 0 p q g r (i true);have:p=0:=by omega
  subst this;have:q=0:=by omega
  subst this;exact aY.pure hI hm (ff (by simp [az]) rfl)
 .rename_i c y k
  obtain⟨g,h⟩:=M.aM h;have r:=(dK j k (by simp)).1
  simp only [az]at r;obtain⟨b,cap,e,h3,h4⟩:=r.2.gG r.1;obtain⟨p,q,h1,h2,h, -,i⟩:=oD (P:=P) (w:=w) j h3 h;obtain⟨rfl,rfl⟩:=cO h;have r2:=r.2;rw [e]at r2;refine aY.pure hI (f c b _ cap p q (lT g) e (i true)) (ff ?_ rfl)
  simp only [az];exact⟨r.1,m c y R p q cap b r.1 r2 h1 h2⟩
 .rename_i c y k
  obtain⟨g,h⟩:=M.aM h;have r:=(dK j k (by simp)).1
  simp only [az]at r;obtain⟨b,cap,e,h3,h4⟩:=r.2.1.gG r.1;obtain⟨p,q,h1,h2,h, -,i⟩:=oD (P:=P) (w:=w) j h3 h;obtain⟨rfl,rfl⟩:=cO h;have r2:=r.2.1;rw [e]at r2;refine aY.pure hI (f c b _ cap p q (lT g) e (i true)) (ff ?_ rfl)
  simp only [az];refine⟨r.1,m c y R p q cap b r.1 r2 h1 h2, ?_⟩
  obtain⟨ao,l',m',e'⟩:=r.2.2;rw [e]at e';cases e';by_cases ay:cap=p<;>simp [ay]
 .rename_i n aG wv pl c y k
  obtain⟨g,h⟩:=M.aM h;obtain⟨d,l1,hd,hv,hw,h⟩:=DG h;have r:=(dK j k (by simp)).1
  obtain⟨hs,hr⟩:=xZ r hd hv hw;obtain⟨b,cap,e,h3,h4⟩:=hr.gG hs;obtain⟨p,q,h1,h2,h, -,i⟩:=oD (P:=P) (w:=w) j h3 h;obtain⟨rfl,rfl⟩:=cO h;rw [e]at hr;refine aY.pure hI (f c b _ cap p q (lT g) e (i true)) (ff ?_ rfl)
  simp only [az];exact⟨hs,by omega,fun _=>⟨by omega,fun _ d' a6=>⟨m c y _ p q cap b hs hr h1 h2,by simp⟩⟩⟩
 .rename_i n aG vw k
  obtain⟨l1,h⟩:=M.fK h;cases hd:(st.aj n).bp with
  |none=>simp [hd,M.run]at h
  |some d=>
   simp only [hd]at h;obtain⟨hv,h⟩:=M.aM h;obtain⟨a7,h⟩:=M.aM h;obtain⟨g,h⟩:=M.aM h;have hv:=À hv;have r:=(dK j k (by simp)).1
   obtain⟨q1,q2,q3,b,len,cap,e1,e2⟩:=uk hI r hd hv a7;obtain⟨ao,aq,e3,h3,h4⟩:=q2.gG q1;rw [e2]at e3;cases e3;cases lo with
   |none=>
    simp only [Option.map_none]at h;obtain⟨p,q,h1,h2,h,h0,i⟩:=oD (P:=P) (w:=w) (lo:=none) j h3 h;obtain⟨rfl,rfl⟩:=cO h;have a8:=h0 rfl;subst a8;refine aY.pure hI (f d.c b _ cap 0 q (lT g) e2 (i true)) (ff ?_ rfl)
    simp only [az];refine⟨by omega,fun _ _=>⟨b,len,cap,e1, ?_⟩⟩
    cases b with
    |none=>simp
    |some z=>simp [ġ]
   |some lo=>
    simp only [Đ]at h;obtain⟨p,q,h1,h2,h, -,i⟩:=oD (P:=P) (w:=w) (lo:=some lo) j h3 h;obtain⟨rfl,rfl⟩:=cO h;rw [e2]at q2;refine aY.pure hI (f d.c b _ cap p q (lT g) e2 (i true)) (ff ?_ rfl)
    simp only [az];refine⟨q1,by omega,fun _=>⟨Ô _,fun _ d' a6=>⟨m d.c _ _ p q cap b q1 q2 h1 h2,by simp⟩⟩⟩
 .simp [M.run]at h
theorem Yq (g:Ok P T) (j:Inv w0 F R st θ w) (m:Tm (hp w) R st θ a) {t:TypeId} {x hi mx:Operand} (ho:o.op=.slice t x none (some hi) (some mx)) {k k':IntKind} {p q:Int} {c:Cell}
  (e1:bE st hi=.one (.i k p)) (e2:bE st mx=.one (.i k' q)) (e3:bE st x=.one c)
  (h:(M.gd (decide (p=0/\q=0)) (M.gd (fe T t).isSome (fc c (c1 .z0) fun _ _=>c1 .z0))).run st=some (v,st',l)):aY P w0 F R st θ w o a v st':=by
 obtain⟨hg,h'⟩:=M.aM h;clear h;obtain⟨s,u⟩:=of_decide_eq_true hg;clear hg;subst s u;obtain⟨z,hz⟩:=M.aM h';clear h';obtain⟨d,hc⟩:=Ú.1 z;have r:=(dK m e3 (by rintro rfl;simp [fc,M.run]at hz)).1
 have h1:=(fv m e1).1;have h2:=(fv m e2).1;have b: ∀(f:Option Addr) (len cap:Nat),a.eval x=.slice f len cap->(execOp a.eval o).run P w=.ok (.value (.slice f 0 0)) w:=by
  intro f len cap hx;obtain⟨e,k1,k2⟩:=DF g hc;simp only [execOp,ho];refine eP ?_
  have hb: ∀(code:BoundsCode) (y:Nat),(ç (.int k 0) y code).run P w=.ok 0 w:=fun code y=>rN (P:=P) (w:=w) rfl (by omega) (by omega) code
  have ae: ∀(code:BoundsCode) (y:Nat),(ç (.int k' 0) y code).run P w=.ok 0 w:=fun code y=>rN (P:=P) (w:=w) rfl (by omega) (by omega) code
  simp [ý,Ď,run_underlying k1,hx,h1,h2,Ò,hb,ae,k2]
 rcases xR j r hz with⟨⟨f,e⟩,h⟩|⟨c',y,l1,R',h,hs,hr, -⟩
 .obtain⟨rfl,rfl⟩:=cO h
  exact aY.pure j (b f 0 0 e) (ff (by simp [az]) rfl)
 .obtain⟨rfl,rfl⟩:=cO h
  obtain⟨f,cap,e, -, -⟩:=hr.gG hs;exact aY.pure j (b f _ cap e) (ff (by simp [az]) rfl)
theorem DH (b:Tm (hp w) R st θ a): ∀ {xs:List Operand} {cs:List Cell},oj (xs.map (bE st))=some cs->aI (hp w) R st θ cs (xs.map a.eval)
 | [],cs,h=>by simp [oj]at h;subst h;simp [aI]
 |x::xs,cs,h=>by
  simp only [Í]at h;unfold oj at h;split at h
  .rename_i e;cases e
  .cases h
  .rename_i c r f e
   simp only [List.cons.injEq]at e;obtain⟨g,d,rfl⟩:=Å.1 h;rw [<-e.2]at d;simp only [Í,aI];have:=dK b e.1 (fun i=>f (by rw [i]))
   exact⟨_,_,rfl,this,DH b d⟩
  .cases h
theorem Yr (i:Inv w0 F R st θ w) (g:Tm (hp w) R st θ a) {f:FuncId} {xs b:Array Operand} (j:o.op=.makeFunc (.func f) xs b) {p q:List Cell}
  (d:oj (xs.toList.map (bE st))=some p) (k:oj (b.toList.map (bE st))=some q)
  (h:(c1 (.fn f p q)).run st=some (v,st',l)):aY P w0 F R st θ w o a v st':=by
 obtain⟨rfl,rfl⟩:=cO h;refine aY.pure i (u:=.func (.func f) (xs.map a.eval) (b.map a.eval)) ?_ (ff ?_ rfl)
 .simp only [execOp,j]
  refine eP ?_
  simp [Instr.makeFunc]
 .simp only [az]
  exact⟨_,_,rfl,by simpa using DH g d,by simpa using DH g k⟩
theorem Ys (p:Inv w0 F R st θ w) (j:Tm (hp w) R st θ a) {cl:Call} {x y:Operand} (q:o.op=.call cl) (f:cl.callee=.builtin .min) (r:cl.args.toList=[x,y]) {k k':IntKind} {m n:Int}
  (d:bE st x=.one (.i k m)) (hy:bE st y=.one (.i k' n)) (h:(M.gd (decide (k=k')) (c1 (.i k (cond (decide (n<m)) n m)))).run st=some (v,st',l)):aY P w0 F R st θ w o a v st':=by
 obtain⟨hk,s⟩:=M.aM h;clear h;have hk:=of_decide_eq_true hk;subst hk;obtain⟨rfl,rfl⟩:=cO s;have g:cl.args= #[x,y]:=by rw [<-Ù (xs:=cl.args),r]
 have d:=fv j d;have hy:=fv j hy;refine aY.pure p (u:=.int k (cond (decide (n<m)) n m)) ?_ (gJ ?_)
 .by_cases b:n<m<;>simp [execOp,q,resolve,f,g,invoke,builtin,Ģ,ģ,d.1,hy.1,b]
 .by_cases b:n<m<;>simp [b,d.2,hy.2]
theorem Yt (p:Inv w0 F R st θ w) (j:Tm (hp w) R st θ a) {cl:Call} {x y:Operand} (q:o.op=.call cl) (f:cl.callee=.builtin .max) (r:cl.args.toList=[x,y]) {k k':IntKind} {m n:Int}
  (d:bE st x=.one (.i k m)) (hy:bE st y=.one (.i k' n)) (h:(M.gd (decide (k=k')) (c1 (.i k (cond (decide (m<n)) n m)))).run st=some (v,st',l)):aY P w0 F R st θ w o a v st':=by
 obtain⟨hk,s⟩:=M.aM h;clear h;have hk:=of_decide_eq_true hk;subst hk;obtain⟨rfl,rfl⟩:=cO s;have g:cl.args= #[x,y]:=by rw [<-Ù (xs:=cl.args),r]
 have d:=fv j d;have hy:=fv j hy;refine aY.pure p (u:=.int k (cond (decide (m<n)) n m)) ?_ (gJ ?_)
 .by_cases b:m<n<;>simp [execOp,q,resolve,f,g,invoke,builtin,Ĥ,ĥ,d.1,hy.1,b]
 .by_cases b:m<n<;>simp [b,d.2,hy.2]
end
end Go.Ev
namespace Go.Ev
structure bK (w0:World) (F R:Nat->Prop) (θ:Asg) (w:World) (st st2:St) (fps:List Nat):Prop where
 inv:Inv w0 F R st2 θ w
 step:Step R st θ (hp w) st2 θ (hp w)
 boxes:st2.boxes=st.boxes
 tmps:st2.tmps=st.tmps
 qm: ∀k,st2.aj k=st.aj k\/(st2.aj k).bp=none
 nodup:fps.Nodup
 was: ∀g∈fps,cU st θ g
 free: ∀g∈fps,¬cU st2 θ g
section
variable {P:Program} {T:TypeId→Option TyI} {w0 w:World} {F R:Nat→Prop} {st st' st2 st3:St} {θ:Asg} {a:Act} {o:Oper} {v:TV} {l:Log} {α:Type} {f1 f2:List Nat}
theorem bK.refl (b:Inv w0 F R st θ w):bK w0 F R θ w st st []:=
 ⟨b,Step.refl _ _ _ _,rfl,rfl,fun _=>.inl rfl,Ç,by simp,by simp⟩
theorem bK.owned (t:bK w0 F R θ w st st2 f1) {g:Nat} (h:cU st2 θ g):cU st θ g:=by
 rcases h with⟨b,d,e⟩|⟨k,hk,f⟩
 .rw [t.boxes]at d;exact .inl ⟨b,d,e⟩
 .rcases t.qm k with e|e
  .rw [e]at hk;exact .inr ⟨k,hk,f⟩
  .simp [e]at hk
theorem bK.trans (t:bK w0 F R θ w st st2 f1) (u:bK w0 F R θ w st2 st3 f2):bK w0 F R θ w st st3 (f1++f2) where
 inv:=u.inv
 step:=t.step.trans u.step
 boxes:=u.boxes.trans t.boxes
 tmps:=u.tmps.trans t.tmps
 qm:=fun k=>by
  rcases u.qm k with e|e
  .rw [e];exact t.qm k
  .exact .inr e
 nodup:=Ä.2 ⟨t.nodup,u.nodup,fun x d y hy e=>by subst e;exact t.free x d (u.was x hy)⟩
 was:=fun g b=>(Ã.1 b).elim (t.was g) fun h=>t.owned (u.was g h)
 free:=fun g b=>(Ã.1 b).elim (fun h k=>t.free g h (u.owned k)) (u.free g)
theorem bK.own (t:bK w0 F R θ w st st2 f1) (d:Inv w0 F R st θ w) {g:Nat} (b:g∈f1): ¬cU st2 θ g/\(F g\/w0.heap.size<=g):=⟨t.free g b,d.own g (t.was g b)⟩
theorem rO {H:Heap} {c:CT} (b:bN c=true) {d:Option Addr}:aD H R true (enc c (ea c)) (.slice d 0 0) []:=by
 have f:aE c (ea c)=0:=by cases c<;>simp [bN]at b<;>simp [aE,ea]
 have:=aD.oA (H:=H) (R:=R) (c:=c) (x:=ea c) (a:=d) (cap:=0) (fp:=[]) b (by omega) (by simp [maxLen]) (.inl ⟨rfl,rfl⟩)
 rwa [f]at this
theorem aD.MD {H:Heap} {c:CT} {x:Interp c} {d:Option Addr} {len cap m:Nat} {fp:List Nat} (f:bN c=true) (h:aD H R true (enc c x) (.slice d len cap) fp) (hm:m<=aE c x) (r:fp.Nodup):
  ∃i,aD H R true (enc c (fU c m x)) (.slice d m cap) i/\i.Nodup/\ ∀g∈i,g∈fp:=by
 obtain⟨a,s,e,h1,t,j⟩:=h.rK f;cases e;have k:aE c (fU c m x)=m:=by rw [tS];omega
 rcases j with⟨j,h4⟩|⟨g,cur,ty,frz,fps,rfl,k1,k2,k3,k4,u⟩
 .refine⟨[], ?_,Ç,by simp⟩
  have:=aD.oA (H:=H) (R:=R) (c:=c) (x:=fU c m x) (a:=d) (cap:=cap) (fp:=[]) f (by omega) t (.inl ⟨j,rfl⟩)
  rwa [k]at this
 .subst k4
  have p:cz c x=(cz c x).take (m*(ak c).size)++(cz c x).drop (m*(ak c).size):=(æ _ _).symm;rw [p]at u;obtain⟨f1,f2,e,z,j2⟩:=u.split;refine⟨g::f1, ?_, ?_,fun b q=> ?_⟩
  .have hle:=Ë (ak c).size hm
   have hlen:((cz c x).take (m*(ak c).size)).length=m*(ak c).size:=by rw [Ì,gX];omega
   rw [hlen,â,à hle,<-xF]at z;have:=aD.oA (H:=H) (R:=R) (c:=c) (x:=fU c m x) (a:=some ⟨g,0,none⟩) (cap:=cap) (fp:=g::f1) f (by omega) t (.inr ⟨g,cur,ty,frz,f1,rfl,k1,k2,k3,rfl,by rw [k];exact z⟩)
   rwa [k]at this
  .rw [e]at r
   exact r.sublist (List.Sublist.cons_cons _ (ñ f1 f2))
  .rw [e]
   rcases é.1 q with rfl|q
   .simp
   .simp [q]
theorem au.at_ {H:Heap} {own:Bool}: ∀ {ds:List bf} {vs:List Value} {f:List Nat} {j:Nat} {d:bf},au H R own ds vs f->ds[j]? =some d-> ∃v b,vs[j]? =some v/\aD H R own d v b/\b.Sublist f
 | [],_,_,_,_,_,h=>by simp at h
 |d0::ds,vs,f,j,d,h,hj=>by
  simp only [au]at h;obtain⟨v,r,f1,f2,rfl,rfl,g,i⟩:=h;cases j with
  |zero=>
   simp only [List.getElem?_cons_zero,É]at hj
   subst hj;exact⟨v,f1,rfl,g,ñ _ _⟩
  |succ j=>
   obtain⟨k,b,k1,k2,k3⟩:=au.at_ i (j:=j) (by simpa using hj)
   exact⟨k,b,by simpa using k1,k2,k3.trans (List.sublist_append_right _ _)⟩
theorem Yu {H:Heap} {fp:List Nat} {hd:Value} {d:DV} {i j:Nat} {c:CT} {x:Interp c} {v:Value} (u:bN d.c=true) (h:aD H R true (enc d.c d.x) hd fp) (z:fp.Nodup) (hp:Mi H fp hd d i j c x v):
  ∃f,aD H R true (enc c x) v f/\f.Nodup/\ ∀g∈f,g∈fp:=by
 obtain⟨e,g,len,cap,cur,ty,frz,q,r,h3,h4,h5,h6⟩:=hp;obtain⟨a,s,k, -, -,h7⟩:=h.rK u;rcases h7 with⟨-,rfl⟩|⟨g',kf,ai,t,fps,k1,k2,k3,k4,rfl,k5⟩
 .cases h4
 .rw [h3,k1]at k
  simp only [Value.slice.injEq,É,Addr.mk.injEq,and_true]at k;obtain⟨rfl, -, -⟩:=k;rw [h5]at k2;simp only [É,Obj.cells.injEq]at k2;obtain⟨rfl, -, -⟩:=k2;have hj:j<(ak d.c).size:=by
   have:=(î.1 r).1
   rwa [kM]at this
  have hi:=uj q;have hm:(i+1)*(ak d.c).size<=aE d.c d.x*(ak d.c).size:=Ë _ hi;rw [ê,Nat.one_mul]at hm;have m:(cz d.c d.x)[i*(ak d.c).size+j]? =some (enc c x):=by
   rw [Dj q];have hl:((cz d.c d.x).take (i*(ak d.c).size)).length=i*(ak d.c).size:=by rw [Ì,gX];omega
   rw [List.getElem?_append_right (by omega),hl,Nat.add_sub_cancel_left,List.getElem?_append_left (by rw [kM];exact hj)]
   exact r
  obtain⟨v',f,q1,q2,q3⟩:=k5.at_ m;rw [ÿ,if_pos (by omega),h6]at q1
  cases q1;have p:fps.Nodup:=(Ó.1 z).2;exact⟨f,q2,p.sublist q3,fun b hb=>by simp [q3.subset hb]⟩
theorem um (f:Inv w0 F R st θ w) {c:CT} {cl:Cell} {v:Value} (i:az (hp w) R st θ cl v) {k:Interp c->M α} {y:α} (h:(lM c cl k).run st=some (y,st',l)):
  ∃x st2 fps t,(k x).run st2=some (y,st',t)/\bK w0 F R θ w st st2 fps/\bN c=true/\aD (hp w) R true (enc c x) v fps:=by
 unfold lM at h;split at h
 .obtain⟨r,h⟩:=M.aM h
  simp only [az]at i;subst i;exact⟨_,st,[],l,h,bK.refl f,r,rO r⟩
 .obtain⟨r,h⟩:=M.aM h
  simp only [az]at i;obtain⟨ad,rfl⟩:=i;exact⟨_,st,[],l,h,bK.refl f,r,rO r⟩
 .rename_i n aG vw
  obtain⟨t,h⟩:=M.fK h;cases hd:(st.aj n).bp with
  |none=>simp [hd,M.run]at h
  |some d=>
   simp only [hd]at h;obtain⟨j,h⟩:=M.aM h;obtain⟨p,h⟩:=M.aM h;obtain⟨u,h⟩:=M.oC h;obtain⟨z,hz,h⟩:=M.eI h;have j:=À j;obtain⟨i1,i2,i3⟩:=f.kill hd ((st.aj n).aG+1) 0 (.inl (by omega))
   obtain⟨q1,q2,q3⟩:=f.aj n d hd;obtain⟨aq,q4,q5,ad,len,cap,e1,e2⟩:=uk f i hd j p;obtain⟨ec,s⟩:=jD hz;subst ec;simp only at s;subst s;have key: ∃b,aD (hp w) R true (enc d.c (cD d.c vw d.x)) v b/\b.Nodup/\ ∀g∈b,g∈θ.fp n:=by
    cases vw with
    |none=>
     refine⟨θ.fp n, ?_,q3,fun _ h=>h⟩
     obtain⟨ar,ak,e3, -, -⟩:=q2.gG q1;rw [e1]at e3;cases e3;have:v=θ.ob n:=by rw [e1,e2];rfl
     rw [this];exact q2
    |some m=>
     rw [e1]at q2;obtain⟨b,k1,k2,k3⟩:=q2.MD (m:=m) q1 (by simpa [jB]using p) q3
     refine⟨b, ?_,k2,k3⟩
     have hm:m<=aE d.c d.x:=by simpa [jB]using p
     have:aE d.c (cD d.c (some m) d.x)=m:=by simp only [cD,tS];omega
     rw [e2,this];exact k1
   obtain⟨b,k1,k2,k3⟩:=key;refine⟨_,_,b,u,h,⟨i1,i2,rfl,rfl,fun k=> ?_,k2,fun g q=>.inr ⟨n,by simp [hd],k3 g q⟩,fun g q=>i3.free g (k3 g q)⟩,q1,k1⟩
   by_cases e:k=n
   .subst e;right;simp [bC]
   .left;simp [aZ _ _ e]
 .rename_i n aG wv pl c' x0
  obtain⟨t,h⟩:=M.fK h;cases hd:(st.aj n).bp with
  |none=>simp [hd,M.run]at h
  |some d=>
   simp only [hd]at h;obtain⟨j,h⟩:=M.aM h;obtain⟨hw,h⟩:=M.aM h;obtain⟨u,h⟩:=M.oC h;obtain⟨z,hz,h⟩:=M.eI h;have j:=À j;have hw:=À hw;obtain⟨i1,i2,i3⟩:=f.kill hd ((st.aj n).aG+1) 0 (.inl (by omega))
   obtain⟨q1,q2,q3⟩:=f.aj n d hd;obtain⟨ec,s⟩:=jD hz;subst ec;simp only at s;subst s;simp only [az]at i;obtain⟨r1, -,r2⟩:=i;have ah:=((r2 j).2 hw d hd).2 pl.1 pl.2 rfl;obtain⟨b,k1,k2,k3⟩:=Yu q1 q2 q3 ah;refine⟨_,_,b,u,h,⟨i1,i2,rfl,rfl,fun k=> ?_,k2,fun g q=>.inr ⟨n,by simp [hd],k3 g q⟩,fun g q=>i3.free g (k3 g q)⟩,r1,k1⟩
   by_cases e:k=n
   .subst e;right;simp [bC]
   .left;simp [aZ _ _ e]
 .simp [M.run]at h
theorem uo {k:IntKind} {n:Int} (h:k.min<=n/\n<=k.max):jz k (tO k n)=n:=by
 cases k<;>simp only [jz,tO]
 simp only [Û,Ü,Ð,Ø]at h;simp at h
 rw [UInt8.toNat_ofNat'];omega
theorem ya (d:Inv w0 F R st θ w) {c:CT} {cl:Cell} {v:Value} (b:az (hp w) R st θ cl v) {k:Interp c->M α} {y:α} (h:(rC c cl k).run st=some (y,st',l)):
  ∃x st2 fps f,(k x).run st2=some (y,st',f)/\bK w0 F R θ w st st2 fps/\aD (hp w) R true (enc c x) v fps:=by
 unfold rC at h;split at h
 .simp only [az]at b
  exact⟨_,st,[],l,h,bK.refl d,by simp [enc,aD,b]⟩
 .obtain⟨hk,g⟩:=M.aM h
  have hk:=of_decide_eq_true hk;subst hk;simp only [az]at b;exact⟨_,st,[],l,g,bK.refl d,by simp [enc,aD,b,uo b.2]⟩
 .simp only [az]at b
  exact⟨_,st,[],l,h,bK.refl d,by simp [enc,aD,b]⟩
 .obtain⟨x,st2,fps,f,i,g, -,j⟩:=um d b h
  exact⟨x,st2,fps,f,i,g,j⟩
 .obtain⟨x,st2,fps,f,i,g, -,j⟩:=um d b h
  exact⟨x,st2,fps,f,i,g,j⟩
 .simp [M.run]at h
theorem ME {y:α}: ∀ {ts:aR} {cs:List Cell} {vs:List Value} {k:bg ts->M α} {st st':St} {l:Log},Inv w0 F R st θ w->aI (hp w) R st θ cs vs->(oc ts cs k).run st=some (y,st',l)->
  ∃x st2 fps g,(k x).run st2=some (y,st',g)/\bK w0 F R θ w st st2 fps/\au (hp w) R true (bH ts x) vs fps
 |.one c,cs,vs,k,st,st',l,i,d,h=>by
  match cs,h with
  | [cl],h=>
   simp only [oc]at h;simp only [aI]at d;obtain⟨v,f,rfl,j,rfl⟩:=d;obtain⟨x,st2,fps,g,k1,k2,k3⟩:=ya i j.1 h;exact⟨x,st2,fps,g,k1,k2,by simp only [bH,au];exact⟨v,[],fps,[],rfl,by simp,k3,rfl,rfl⟩⟩
  | [],h=>simp [oc,M.run]at h
  |_::_::_,h=>simp [oc,M.run]at h
 |.cons c ts,cs,vs,k,st,st',l,i,d,h=>by
  match cs,h with
  |cl::cs,h=>
   simp only [oc]at h;simp only [aI]at d;obtain⟨v,f,rfl,j,m⟩:=d;obtain⟨x,st2,fps,g,k1,k2,k3⟩:=ya i j.1 h;obtain⟨p,st3,b,q,r,s,t⟩:=ME k2.inv (aI.step k2.step _ _ m) k1;exact⟨(x,p),st3,fps++b,q,r,k2.trans s,by simp only [bH,au];exact⟨v,f,fps,b,rfl,rfl,k3,t⟩⟩
  | [],h=>simp [oc,M.run]at h
theorem DI {y:α}: ∀ {ts:aR} {off:Nat} {cs:List Cell} {vs us:List Value} {e:bg ts} {f:List Nat} {k:bg ts->M α} {st st':St} {l:Log},Inv w0 F R st θ w->aI (hp w) R st θ cs vs->au (hp w) R true (bH ts e) us f->(jX ts off cs e k).run st=some (y,st',l)->
  ∃t st2 fps p l1,(k t).run st2=some (y,st',l1)/\bK w0 F R θ w st st2 fps/\off+vs.length<=ts.size/\au (hp w) R true (bH ts t) (us.take off++(vs++us.drop (off+vs.length))) p/\
   (∀g∈p,g∈f\/g∈fps)/\(f.Nodup->(∀g∈f,g∉fps)->p.Nodup)
 |.one c,off,cs,vs,us,e,f,k,st,st',l,q,i,hd,h=>by
  match off,cs,h with
  |0,[cl],h=>
   simp only [jX]at h;simp only [aI]at i;obtain⟨v,r,rfl,h1,rfl⟩:=i;obtain⟨x,st2,fps,l1,k1,k2,k3⟩:=ya q h1.1 h;simp only [bH,au]at hd;obtain⟨u,j,g1,g2,rfl,rfl, -,rfl,rfl⟩:=hd;refine⟨x,st2,fps,fps,l1,k1,k2,by simp [aR.size], ?_,fun g b=>.inr b,fun _ _=>k2.nodup⟩
   simp only [bH,au];exact⟨v,[],fps,[],by simp,by simp,k3,rfl,rfl⟩
  |0,[],h=>
   simp only [aI]at i;subst i;simp only [jX]at h;exact⟨e,st,[],f,l,h,bK.refl q,by simp,by simpa using hd,fun g b=>.inl b,fun h _=>h⟩
  |_+1,[],h=>simp [jX,M.run]at h
  |0,_::_::_,h=>simp [jX,M.run]at h
  |_+1,_::_,h=>simp [jX,M.run]at h
 |.cons c ts,0,[],vs,us,e,f,k,st,st',l,q,i,hd,h=>by
  simp only [jX]at h;simp only [aI]at i;subst i;exact⟨e,st,[],f,l,h,bK.refl q,by simp,by simpa using hd,fun g b=>.inl b,fun h _=>h⟩
 |.cons c ts,0,cl::cs,vs,us,e,f,k,st,st',l,q,i,hd,h=>by
  simp only [jX]at h;simp only [aI]at i;obtain⟨v,r,rfl,h1,h2⟩:=i;simp only [bH,au]at hd;obtain⟨u,j,g1,g2,rfl,rfl,d1,d2⟩:=hd;obtain⟨x,st2,fps,l1,k1,k2,k3⟩:=ya q h1.1 h;obtain⟨t,st3,m,p,l2,j1,j2,j3,j4,z,j6⟩:=DI k2.inv (aI.step k2.step _ _ h2) d2 k1;refine⟨(x,t),st3,fps++m,fps++p,l2,j1,k2.trans j2,by simp only [aR.size,Ï];omega, ?_, ?_, ?_⟩
  .simp only [bH,au]
   refine⟨v,r++j.drop r.length,fps,p,by simp [Nat.add_comm 0],rfl,k3,by simpa using j4⟩
  .intro g b
   rcases Ã.1 b with b|b
   .exact .inr (by simp [b])
   .rcases z g b with b|b
    .exact .inl (by simp [b])
    .exact .inr (by simp [b])
  .intro hn d
   have ao:=(Ä.1 hn).2.1;refine Ä.2 ⟨k2.nodup,j6 ao (fun g b s=>d g (by simp [b]) (by simp [s])),fun x hx y hy e=> ?_⟩
   subst e;rcases z x hy with hy|hy
   .exact d x (by simp [hy]) (by simp [hx])
   .exact k2.free x hx (j2.was x hy)
 |.cons c ts,off+1,cs,vs,us,e,f,k,st,st',l,q,i,hd,h=>by
  simp only [jX]at h;simp only [bH,au]at hd;obtain⟨u,j,g1,g2,rfl,rfl,d1,d2⟩:=hd;obtain⟨t,st3,m,p,l2,j1,j2,j3,j4,z,j6⟩:=DI q i d2 h;refine⟨(e.1,t),st3,m,g1++p,l2,j1,j2,by simp only [aR.size];omega, ?_, ?_, ?_⟩
  .simp only [bH,au]
   refine⟨u,j.take off++(vs++j.drop (off+vs.length)),g1,p, ?_,rfl,d1,j4⟩
   have:off+1+vs.length=(off+vs.length)+1:=by omega
   simp [this]
  .intro g b
   rcases Ã.1 b with b|b
   .exact .inl (by simp [b])
   .rcases z g b with b|b
    .exact .inl (by simp [b])
    .exact .inr b
  .intro hn d
   obtain⟨n1,n2,n3⟩:=Ä.1 hn;refine Ä.2 ⟨n1,j6 n2 (fun g b s=>d g (by simp [b]) s),fun x hx y hy e=> ?_⟩
   subst e;rcases z x hy with hy|hy
   .exact n3 x hx x hy rfl
   .exact d x (by simp [hx]) hy
end
end Go.Ev
namespace Go.Ev
theorem setRow_size (w:World) (g:Nat) (cs:Array Value):(w.setRow g cs).heap.size=w.heap.size:=by simp [World.setRow]
theorem Yv {β:Type} (L V:List β) (A sz off n b:Nat) (d:V.length=n) (h:off+n<=sz) (j:A+sz<=b) (k:b<=L.length):
  L.take A++((((L.take b).drop A).take sz).take off++(V++(((L.take b).drop A).take sz).drop (off+n))++((L.take b).drop A).drop sz)=(L.take (A+off)++(V++L.drop (A+off+n))).take b:=by
 have f:(((L.take b).drop A).take sz).take off=(L.drop A).take off:=by
  rw [â,à (by omega),Ĕ,â,à (by omega)]
 have g: ∀X:List β,(X.take sz).drop (off+n)++X.drop sz=X.drop (off+n):=fun X=>by
  by_cases m:sz<=X.length
  .conv=>rhs;rw [<-æ sz X]
   rw [List.drop_append_of_le_length (by rw [Ì];omega)]
  .rw [ã (by omega),õ (i:=sz) (by omega),ë]
 rw [Á,Á,g,f,<-Á,<-List.take_add];rw [Ċ,Ċ,Ì,à (by omega),â,Nat.min_eq_right (by omega),ã (l:=V) (by omega),ù,d,Ĕ]
 congr 3
 .omega
 .rw [ð]
section
variable {P:Program} {T:TypeId→Option TyI} {w0 w:World} {F R:Nat→Prop} {st st' st2 st3:St} {θ:Asg} {a:Act} {o:Oper} {v:TV} {l:Log} {α:Type} {f1 f2:List Nat}
theorem MF {t:TypeId} {p x:Operand} (f:o.op=.store t p x) {d:Addr} (b:a.eval p=.pointer (some d)) {w':World} (h:(storeVar t d (a.eval x)).run P w=.ok () w'):(execOp a.eval o).run P w=.ok .skip w':=by
 simp only [execOp,f];refine XS ?_
 simp [Instr.storeAt,ē,b,h]
theorem Yw (bo:Ok P T) (hI:Inv w0 F R st θ w) (hT:Tm (hp w) R st θ a) {t:TypeId} {p x:Operand} (ho:o.op=.store t p x) {i:TyI} (hi:T t=some i)
  (h:(M.iv (bE st p) fun q=>oa (bE st x) fun cs=>stM i.size q cs).run st=some (v,st',l)):aY P w0 F R st θ w o a v st':=by
 have ay:=bo.eO t i hi;cases ep:bE st p with
 |agg _=>rw [ep]at h;simp [M.iv,M.run]at h
 |aP _=>rw [ep]at h;simp [M.iv,M.run]at h
 |one q=>
  rw [ep]at h;simp only [M.iv]at h;obtain⟨vs,h2,hr⟩:=xX (R:=R) (θ:=θ) h;clear h;have hr:=hr _ _ (gH hT x);simp only [stM]at h2;obtain⟨hn,h⟩:=M.aM h2;clear h2;have hn:=À hn;have hlen:=hr.length;have aq:(a.eval x).cells.size=i.size:=by simpa [hn]using hlen.symm
  cases q<;>simp only at h
  case pb b off=>
   obtain⟨cs,l1,f,h⟩:=M.qk h;obtain⟨hg,h⟩:=M.aM h;obtain⟨cs0,l2, -,h⟩:=M.Mo h;obtain⟨rfl,rfl⟩:=M.gI h;have hg:=Ê hg;have r:=(dK hT ep (by simp)).1
   simp only [az]at r;obtain⟨arr,ty,frz,k1,k2,k3⟩:=hI.boxes b cs f;have hl:=k3.length;have ct:cs.length=arr.size:=by simpa using hl
   have ar:=Mx (P:=P) (off:=off) ay k1 k2 aq (by omega) hr.one
   obtain⟨h1,h2⟩:=hI.Mj (cs:=cs.take off++(vs++cs.drop (off+i.size))) (arr:=(arr.toList.take off++((a.eval x).cells.toList++arr.toList.drop (off+i.size))).toArray) f (setRow_size w _ _) rfl rfl rfl (setRow_heap w _ _ _ _ _ k1)
    (by rw [show (arr.toList.take off++((a.eval x).cells.toList++arr.toList.drop (off+i.size))).toArray.size=arr.size by simp;omega];exact k2) (fun g hg=>setRow_other w _ g _ hg) (by simpa using (k3.take off).append (hr.append (k3.drop (off+i.size))))
   exact⟨undef,_,θ,.inr ⟨MF ho r.2 ar,rfl⟩,h1,h2,lS _⟩
  case pe k aG j off=>
   obtain⟨l1,h⟩:=M.fK h;cases hd:(st.aj k).bp with
   |none=>simp [hd,M.run]at h
   |some d=>
    simp only [hd]at h;obtain⟨hv,h⟩:=M.aM h;obtain⟨e,he,h⟩:=M.eI h;have hv:=À hv;have r:=(dK hT ep (by simp)).1
    simp only [az]at r;obtain⟨g,len,cap,k1,k2,k3⟩:=r.2.2 hv d hd;obtain⟨q1,q2,q3⟩:=hI.aj k d hd;rw [k1]at q2;obtain⟨ad,cf,e1,k4,k5,k6⟩:=q2.rK q1;cases e1;rcases k6 with⟨k6, -⟩|⟨g',cur,ty,frz,fps,e2,k7,k8,k9,z,a7⟩
    .omega
    cases e2;have bu:=Dj he;have hle:=Ë (ak d.c).size (show j+1<=aE d.c d.x from k2);have cl:=Ë (ak d.c).size k4;have cy:(j+1)*(ak d.c).size=j*(ak d.c).size+(ak d.c).size:=ì _ _;rw [bu]at a7;obtain⟨g1,gr,eg,d1,dr⟩:=a7.split;obtain⟨g2,g3,a8,d2,d3⟩:=dr.split;have ha:((cz d.c d.x).take (j*(ak d.c).size)).length=j*(ak d.c).size:=by rw [Ì,gX];omega
    rw [ha]at d1 d2 d3;rw [kM]at d2 d3;rw [â,à (by omega)]at d1
    obtain⟨e',st2,tk,f',l2,h,t1,t2,t3,t4,t5⟩:=DI hI hr d2 h;obtain⟨l3,h⟩:=M.fK h;obtain⟨bw,h⟩:=M.aM h;obtain⟨l4,h⟩:=M.oC h;obtain⟨rfl,rfl⟩:=M.gI h;have s:st2.aj k=st.aj k:=(t1.qm k).resolve_right (fun e=>by simp [e]at bw)
    have bd:(a.eval x).cells.toList.length=i.size:=by simpa using aq
    rw [bd]at t2 t3;have ar:=Mx (P:=P) (off:=j*(ak d.c).size+off) ay k7 k9.1 aq (by omega) hr.one
    have bf:cU st2 θ g:=.inr ⟨k,by rw [s];simp [hd],by simp [z]⟩
    have bg:=q3;rw [z,eg,a8]at bg;obtain⟨ag,bx⟩:=Ó.1 bg;obtain⟨n1,n2,n3⟩:=Ä.1 bx;obtain⟨n4,n5,n6⟩:=Ä.1 n2;have m: ∀b,b∈g1++(g2++g3)->b∈θ.fp k:=fun b f=>by rw [z,eg,a8];exact List.mem_cons_of_mem _ f
    have aw: ∀b,b∈θ.fp k->cU st2 θ b:=fun b f=>.inr ⟨k,by rw [s];simp [hd],f⟩
    have bz:f'.Nodup:=t5 n4 (fun b f ca=>t1.free b ca (aw b (m b (by simp [f]))))
    have bh:g∉f':=fun f=>by
     rcases t4 g f with f|f
     .exact ag (by simp [f])
     .exact t1.free g f bf
    have bj:(g1++(f'++g3)).Nodup:=by
     refine Ä.2 ⟨n1,Ä.2 ⟨bz,n5,fun b f c u e=> ?_⟩,fun b f c u e=> ?_⟩
     .subst e
      rcases t4 b f with f|f
      .exact n6 b f b u rfl
      .exact t1.free b f (aw b (m b (by simp [u])))
     .subst e
      rcases Ã.1 u with u|u
      .rcases t4 b u with u|u
       .exact n3 b f b (by simp [u]) rfl
       .exact t1.free b u (aw b (m b (by simp [f])))
      .exact n3 b f b (by simp [u]) rfl
    have ae:g∉g1++(f'++g3):=fun f=>by
     simp only [Ã]at f ag;rcases f with f|f|f
     .exact ag (.inl f)
     .exact bh f
     .exact ag (.inr (.inr f))
    have al: ∀b,b≠g->hp (w.setRow g (cur.toList.take (j*(ak d.c).size+off)++((a.eval x).cells.toList++cur.toList.drop (j*(ak d.c).size+off+i.size))).toArray) b=hp w b:=fun b f=>setRow_other w g b _ f
    have cb: ∀b,R b->b≠g:=fun b f e=>t1.inv.ui bf (e▸f)
    have ah:=(d1.append (t3.append d3));have ai:=ah.frame (H':=hp (w.setRow g (cur.toList.take (j*(ak d.c).size+off)++((a.eval x).cells.toList++cur.toList.drop (j*(ak d.c).size+off+i.size))).toArray)) (R':=R)
     (fun b f=>al b (f.elim (fun h e=>ae (e▸h)) (cb b))) (fun _ h=>h)
    have bk:aD (hp (w.setRow g (cur.toList.take (j*(ak d.c).size+off)++((a.eval x).cells.toList++cur.toList.drop (j*(ak d.c).size+off+i.size))).toArray)) R true (enc d.c (lL d.c d.x j e')) (.slice (some ⟨g,0,none⟩) (aE d.c d.x) cap) (g::(g1++(f'++g3))):=by
     have:=aD.oA (R:=R) (c:=d.c) (x:=lL d.c d.x j e') (a:=some ⟨g,0,none⟩) (cap:=cap) (fp:=g::(g1++(f'++g3)))
      (H:=hp (w.setRow g (cur.toList.take (j*(ak d.c).size+off)++((a.eval x).cells.toList++cur.toList.drop (j*(ak d.c).size+off+i.size))).toArray)) q1 (by rw [xG];exact k4) k5
      (.inr ⟨g,_,ty,frz,_,rfl,setRow_heap w g _ _ _ _ k7, ?_, ?_,rfl, ?_⟩)
     .rwa [xG]at this
     .simp;omega
     .have:(cur.toList.take (j*(ak d.c).size+off)++((a.eval x).cells.toList++cur.toList.drop (j*(ak d.c).size+off+i.size))).toArray.size=cur.size:=by simp;omega
      rw [this];exact k9
     .rw [XC q1 e' k2,xG]
      have hA:(cur.toList.take (j*(ak d.c).size)).length=j*(ak d.c).size:=by rw [Ì];simp;omega
      refine Eq.mp (congrArg (fun l=>au _ R true _ l _) ?_) ai
      exact Yv _ _ _ _ _ _ _ bd t2 (by omega) (by simp;omega)
    have af:=t1.inv.setObj (k:=k) (d0:=d) (d:=⟨d.c,lL d.c d.x j e'⟩) (fp:=g::(g1++(f'++g3))) (by rw [s];exact hd) rfl (xG _ _ _) ((st2.aj k).wv+1) (by omega)
     (setRow_size w g _) rfl rfl rfl (fun b f=>al b (fun e=>f (by rw [e,z];simp))) (by rw [k1];exact bk) (Ó.2 ⟨ae,bj⟩) (fun b f=>by
      rcases é.1 f with rfl|f
      .left;rw [z];simp
      .simp only [Ã]at f
       rcases f with f|f|f
       .left;exact m b (by simp [f])
       .rcases t4 b f with f|f
        .left;exact m b (by simp [f])
        .right;exact t1.own hI f
       .left;exact m b (by simp [f]))
    rw [s]at af;exact⟨undef,_,_,.inr ⟨MF ho k3 ar,rfl⟩,af.1,t1.step.trans af.2,lS _⟩
  all_goals simp [M.run]at h
end
end Go.Ev
namespace Go.Ev
theorem MG (off:Nat): ∀(vs:List Value) (k:Nat) (cells:Array Value),off+k+vs.length<=cells.size->
  ((vs.zipIdx k).foldl (fun cs (p:Value×Nat)=>cs.setIfInBounds (off+p.2) p.1) cells).toList=cells.toList.take (off+k)++(vs++cells.toList.drop (off+k+vs.length))
 | [],k,cells,h=>by simp
 |v::vs,k,cells,h=>by
  simp only [List.zipIdx_cons,List.foldl_cons];simp only [Ï]at h;rw [MG off vs (k+1) _ (by simp;omega)]
  have hk:off+k<cells.toList.length:=by simp;omega
  simp only [Array.toList_setIfInBounds,Ï];rw [show off+(k+1)=(off+k)+1 from by omega,List.take_succ_eq_append_getElem (by simpa using hk),List.take_set_of_le (by omega),List.drop_set_of_lt (by omega)]
  simp
  omega
theorem MH (cells:Array Value) (v:Value) (off:Nat) (h:off+v.cells.size<=cells.size):
  (v.cells.zipIdx.foldl (fun cs (p:Value×Nat)=>cs.setIfInBounds (off+p.2) p.1) cells)=(cells.toList.take off++(v.cells.toList++cells.toList.drop (off+v.cells.size))).toArray:=by
 apply á
 rw [<-Array.foldl_toList,Array.toList_zipIdx];have:=MG off v.cells.toList 0 cells (by simpa using h)
 simpa using this
theorem row_step {β:Type} (L V X:List β) (A s n:Nat) (d:V.length=s) (h:A+s+n<=L.length):
  ((L.take A++(V++L.drop (A+s))).take (A+s))++(X++(L.take A++(V++L.drop (A+s))).drop (A+s+n))=L.take A++((V++X)++L.drop (A+s+n)):=by
 have b:(L.take A++V).length=A+s:=by rw [í,Ì,d];omega
 rw [<-Á (L.take A),ö b];have:(L.take A++V++L.drop (A+s)).drop (A+s+n)=L.drop (A+s+n):=by
  rw [<-ù,List.drop_left' b,ù]
 rw [this];simp
theorem MI (size:Nat): ∀(b:List (Nat×Value)) (j:Nat) (cells:Array Value),b.map (·.1)=ě j b.length->(∀p∈b,p.2.cells.size=size)->(j+b.length)*size<=cells.size->
  ∃cs,è (fun i=>some (i*size,size)) cells b=some cs/\cs.toList=cells.toList.take (j*size)++(b.flatMap (fun p=>p.2.cells.toList)++cells.toList.drop ((j+b.length)*size))
 | [],j,cells,_,_,_=>⟨cells,rfl,by simp⟩
 |(i,v)::b,j,cells,hi,g,h=>by
  simp only [Í,Ï,ċ,List.cons.injEq]at hi;obtain⟨rfl,hi⟩:=hi;have d:v.cells.size=size:=g (i,v) (by simp)
  simp only [Ï]at h;have k:(i+(b.length+1))*size=i*size+size+b.length*size:=by rw [ê,ì];omega
  have m:(i+1+b.length)*size=i*size+size+b.length*size:=by rw [ê,ì]
  have f:=MH cells v (i*size) (by omega)
  obtain⟨cs,q,r⟩:=MI size b (i+1) (cells.toList.take (i*size)++(v.cells.toList++cells.toList.drop (i*size+v.cells.size))).toArray hi (fun p hp=>g p (by simp [hp])) (by simp;omega)
  refine⟨cs, ?_, ?_⟩
  .have t: ¬((v.cells.size≠size)=true||decide (i*size+v.cells.size>cells.size))=true:=by simp [d];omega
   simp only [è];rw [if_neg (by simp [d];omega)]
   exact(congrArg (fun z=>è _ z b) f).trans q
  .rw [r]
   simp only [ä,Ï];have u:(cells.toList.take (i*size)).length=i*size:=by rw [Ì];simp;omega
   have s:v.cells.toList.length=size:=by simpa using d
   rw [m,k,show(i+1)*size=i*size+size from ì _ _,d];exact row_step _ _ _ _ _ _ s (by simp;omega)
theorem Yx (w:World) (o:Obj):hp (w.alloc o) w.heap.size=some o:=heap_alloc_new w o
theorem MJ (w:World) (o:Obj) {g:Nat} (h:g<w.heap.size):hp (w.alloc o) g=hp w g:=xO w o h
section
variable {P:Program} {T:TypeId→Option TyI} {w0 w w':World} {F R:Nat→Prop} {st st' st2 st3:St} {θ:Asg} {a:Act} {o:Oper} {v:TV} {l:Log} {α:Type} {fps fp:List Nat}
theorem MK {nm:Nat} {c:CT} {x:Interp c} {k:Cell->M α} {y:α} (h:(fV nm c x k).run st=some (y,st',l)):
  (st.aj nm).bp=none/\ ∃b,(k (.ob nm ((st.aj nm).aG+1) none)).run {st with aj:=aS st.aj nm ⟨(st.aj nm).aG+1,0,some ⟨c,x⟩⟩}=some (y,st',b):=by
 simp only [fV]at h;obtain⟨b,h⟩:=M.fK h;cases hd:(st.aj nm).bp with
 |some d=>simp [hd,M.run]at h
 |none=>
  simp only [hd]at h;obtain⟨f,h⟩:=M.oC h;exact⟨rfl,f,h⟩
theorem yb (q:Inv w0 F R st θ w) (b:bK w0 F R θ w st st2 fps) {c:CT} {x:Interp c} {hd:Value} {nm:Nat} (r:bN c=true)
  (i:w.heap.size<=w'.heap.size) (j:w'.os=w.os) (m:w'.tape=w.tape) (f:w'.output=w.output)
  (hold: ∀g,g<w.heap.size->g∉fp->hp w' g=hp w g) (p:aD (hp w') R true (enc c x) hd fp) (s:fp.Nodup) (t: ∀g∈fp,g∈fps\/w.heap.size<=g)
  (he:(execOp a.eval o).run P w=.ok (.value hd) w') (h:(fV nm c x c1).run st2=some (v,st',l)):aY P w0 F R st θ w o a v st':=by
 obtain⟨u,l1,h⟩:=MK h;obtain⟨rfl,rfl⟩:=cO h;obtain⟨i1,i2⟩:=b.inv.newObj (k:=nm) (d:=⟨c,x⟩) (hd:=hd) (fp:=fp) u r ((st2.aj nm).aG+1) 0 (by omega) i j m f hold p s (fun g z=>by
  rcases t g z with h|h
  .exact b.own q h
  .exact⟨fun ho=>by have:=b.inv.kd ho;omega,.inr (Nat.le_trans b.inv.size h)⟩)
 refine⟨hd,w',_,.inl he,i1,b.step.trans i2,ff ?_ p.cC⟩
 simp [az,bC]
theorem aD.fresh {w:World} {c:CT} {x:Interp c} {arr:Array Value} {ty:TypeId} {frz:Nat×Nat} {cap:Nat} (g:bN c=true) (i:aE c x<=cap) (j:cap<=maxLen) (d:arr.size=cap*(ak c).size) (k:nY (ak c).size arr.size frz)
  (f:au (hp w) R true (cz c x) (arr.toList.take (aE c x*(ak c).size)) fps) (m: ∀b,R b->b<w.heap.size):
  aD (hp (w.alloc (.cells arr ty frz))) R true (enc c x) (.slice (some ⟨w.heap.size,0,none⟩) (aE c x) cap) (w.heap.size::fps):=by
 refine aD.oA g i j (.inr ⟨w.heap.size,arr,ty,frz,fps,rfl,Yx w _,d,k,rfl, ?_⟩)
 exact f.frame (fun b p=>MJ w _ (p.elim (fun h=>f.rJ (fun _ _ h=>ox h) b h) (m b))) (fun _ h=>h)
theorem Yy (n:Nat):ir n (0,0):=fun o _=>by simp
theorem oE (sz n:Nat):nY sz n (0,0):=⟨Yy n,.inr rfl⟩
theorem yc (j:Inv w0 F R st θ w) (u:bK w0 F R θ w st st2 fps) {c:CT} {x:Interp c} {nm cap:Nat} (s:bN c=true) {arr:Array Value} {ty:TypeId} {frz:Nat×Nat} {wd:World} (hw:wd.heap=w.heap) (k:wd.os=w.os) (m:wd.tape=w.tape) (d:wd.output=w.output)
  (z:aE c x<=cap) (h3:cap<=maxLen) (p:arr.size=cap*(ak c).size) (hz:nY (ak c).size arr.size frz) {fq:List Nat}
  (q:au (hp w) R true (cz c x) (arr.toList.take (aE c x*(ak c).size)) fq) (hn:fq.Nodup) (hf: ∀g∈fq,g∈fps)
  (he:(execOp a.eval o).run P w=.ok (.value (.slice (some ⟨w.heap.size,0,none⟩) (aE c x) cap)) (wd.alloc (.cells arr ty frz))) (h:(fV nm c x c1).run st2=some (v,st',l)):aY P w0 F R st θ w o a v st':=by
 have t:hp wd=hp w:=by funext b;simp [hp,hw]
 have r:=fun b (h:b∈fq)=>q.rJ (fun _ _ h=>ox h) b h
 rw [<-t]at q;have f:=aD.fresh (w:=wd) (ty:=ty) s z h3 p hz q (fun b hb=>by rw [hw];exact Nat.lt_of_lt_of_le (j.rd b hb).1 j.size)
 rw [hw]at f;refine yb (w':=wd.alloc (.cells arr ty frz)) j u s (by show _<=(wd.heap.push _).size;rw [hw];simp) k m d (fun g i _=> ?_) f (Ó.2 ⟨fun hm=> ?_,hn⟩) (fun g i=> ?_) he h
 .rw [MJ wd _ (by rw [hw];exact i),t]
 .exact Nat.lt_irrefl _ (r _ hm)
 .rcases é.1 i with rfl|i
  .exact .inr (Ô _)
  .exact .inl (hf g i)
theorem Yz {c:CT} (e:bg (ak c)) (x:Interp c) (h:bN c=true):cz c (pS c e x)=bH (ak c) e++cz c x:=by
 simp [cz,LX e x h]
theorem YA {c:CT} (e:bg (ak c)) (x:Interp c) (h:bN c=true):aE c (pS c e x)=aE c x+1:=by
 rw [iu,iu,LX e x h,Ï]
theorem ML {c:CT} (f:bN c=true) {y:TV}: ∀ {d:List (Nat×TV)} {us:List Value} {j:Nat} {k:Interp c->M TV} {st st':St} {l:Log},Inv w0 F R st θ w->bW (hp w) R st θ (d.map (·.2)) us->(rE c j d k).run st=some (y,st',l)->
  ∃xs st2 fps q,(k xs).run st2=some (y,st',q)/\bK w0 F R θ w st st2 fps/\aE c xs=d.length/\au (hp w) R true (cz c xs) (us.flatMap (fun u=>u.cells.toList)) fps/\d.map (·.1)=ě j d.length/\ ∀u∈us,u.cells.size=(ak c).size
 | [],us,j,k,st,st',l,g,b,h=>by
  simp only [rE]at h;simp only [ă,bW]at b;subst b;have r:aE c (ea c)=0:=by rw [iu,xE];rfl
  exact⟨_,st,[],l,h,bK.refl g,r,by simp [cz,xE,au],rfl,by simp⟩
 |(i,tv)::d,us,j,k,st,st',l,g,b,h=>by
  simp only [rE]at h;simp only [Í,bW]at b;obtain⟨u,s,rfl,hu,b⟩:=b;obtain⟨hi,h⟩:=M.aM h;have hi:=À hi;subst hi;obtain⟨vs,h,t⟩:=xX (R:=R) (θ:=θ) h;obtain⟨e,st2,f1,q,h,t1,d1⟩:=ME g (t _ _ hu) h;obtain⟨xs,st3,f2,z,h,t2,hl,d2,hm,m⟩:=ML f t1.inv (bW.step t1.step _ _ b) h;refine⟨pS c e xs,st3,f1++f2,z,h,t1.trans t2,by rw [YA e xs f,hl];rfl, ?_, ?_, ?_⟩
  .rw [Yz e xs f,ä]
   exact d1.append d2
  .simp only [Í,Ï,ċ]
   rw [hm]
  .intro x p
   rcases é.1 p with rfl|p
   .have:=d1.length
    rw [kM]at this;simpa using this.symm
   .exact m x p
theorem yd (b:Tm (hp w) R st θ a): ∀xs:List Operand,bW (hp w) R st θ (xs.map (bE st)) (xs.map a.eval)
 | []=>by simp [bW]
 |x::xs=>by
  simp only [Í,bW];exact⟨_,_,rfl,gH b x,yd b xs⟩
theorem YB (ad:Ok P T) (hI:Inv w0 F R st θ w) (hT:Tm (hp w) R st θ a) {t:TypeId} {len nm:Nat} {parts:Array (Nat×Operand)} (ho:o.op=.buildSlice t len parts) {c:CT} (ae:fe T t=some c)
  (h:(M.gd (ò len parts.toList.length&&Ė (len*(ak c).size) 16777216) (rE c 0 (parts.toList.map fun p=>(p.1,bE st p.2)) fun xs=>fV nm c xs c1)).run st=some (v,st',l)):aY P w0 F R st θ w o a v st':=by
 obtain⟨hc,e,hu,inf,z,hi,d,av,hz,ax, -⟩:=rM ad ae;obtain⟨hg,h⟩:=M.aM h;simp only [Õ]at hg;have hlen:=À hg.1;have hle:=Ê hg.2;have ag:bW (hp w) R st θ ((parts.toList.map fun p=>(p.1,bE st p.2)).map (·.2)) ((parts.toList.map (·.2)).map a.eval):=by
  have:=yd hT (parts.toList.map (·.2))
  simpa [Ą,Function.comp_def]using this
 obtain⟨xs,st2,fps,l1,h,tk,hl,hd,hm,hs⟩:=ML hc hI ag h;have g:aE c xs=len:=by rw [hl,hlen];simp
 have k:=aR.size_pos (ak c);let cs:Array Value:=((Ĝ a.eval (parts.toList.map (·.2))).flatMap (fun u=>u.cells.toList)).toArray
 have m:cs.toList=(Ĝ a.eval (parts.toList.map (·.2))).flatMap (fun u=>u.cells.toList):=rfl
 have f: ∀b:Array Value,b.size=len*(ak c).size->è (fun i=>some (i*(ak c).size,(ak c).size)) b (parts.toList.map fun p=>(p.1,a.eval p.2))=some cs:=by
  intro b r;obtain⟨a1,ah,ai⟩:=MI (ak c).size (parts.toList.map fun p=>(p.1,a.eval p.2)) 0 b (by simpa [Ą,Function.comp_def]using hm)
   (fun p hp=>by
    simp only [ė]at hp;obtain⟨q,hq,rfl⟩:=hp;exact hs _ (by simp only [ė];exact⟨q.2,⟨q,hq,rfl⟩,rfl⟩)) (by simp [r,hlen])
  rw [ah];congr 1
  apply á
  rw [ai];simp only [å,List.take_zero,Â,Ę,đ];rw [õ (by simp [r,hlen]),ë]
  simp [cs,List.flatMap_map]
 have s:=hd.length;rw [<-m,gX,g]at s;refine yc hI tk (c:=c) (x:=xs) (cap:=len) (arr:=cs) (ty:=e) (frz:=(0,0)) (wd:=w) hc rfl rfl rfl rfl (by omega) ?_ (by simpa using s.symm) (oE _ _) (fq:=fps) ?_ tk.nodup (fun _ h=>h) ?_ h
 .have:len*1<=len*(ak c).size:=Nat.mul_le_mul_left _ k
  simp only [maxLen];omega
 .rw [g,ã (by omega),m]
  exact hd
 .simp only [execOp,ho]
  refine eP ?_
  have j: ¬(16777216<len*(ak c).size):=by omega
  by_cases h0:len*(ak c).size=0
  .have:=f ((ď (len*(ak c).size)).map fun _=>default) (by simp)
   simp [Č,run_underlying hu,sizeOf,typeInfo,hi,d,h0]at this |-
   simp [this,newRow,g]
  .have:=f ((ď (len*(ak c).size)).map fun x=>z.cells[x%z.cells.size]!) (by simp)
   simp [Č,run_underlying hu,sizeOf,typeInfo,hi,d,j,h0,zeroValue,hz]
   simp [this,newRow,g]
end
end Go.Ev
namespace Go.Ev
theorem mapM_some {α β:Type} {f:α->Option β} {g:α->β}: ∀ {l:List α},(∀x∈l,f x=some (g x))->l.mapM f=some (l.map g)
 | [],_=>rfl
 |x::xs,h=>by
  rw [List.mapM_cons,h x (by simp),mapM_some (fun y hy=>h y (by simp [hy]))]
  rfl
section
variable {P:Program} {T:TypeId→Option TyI} {w0 w w':World} {F R:Nat→Prop} {st st' st2 st3:St} {θ:Asg} {a:Act} {o:Oper} {v:TV} {l:Log} {α:Type} {fps fp:List Nat}
theorem MM (hT:Tm (hp w) R st θ a) {fs:List (Nat×TypeId)} {places:Nat->Option (Nat×Nat)} (f: ∀i off t k,fs[i]? =some (off,t)->T t=some k->places i=some (off,k.size)):
  ∀(g:List (Nat×Operand)) {cs:List Cell} {cells:Array Value} {v:TV} {l:Log},aI (hp w) R st θ cs cells.toList->(rD T fs cs (g.map fun p=>(p.1,bE st p.2))).run st=some (v,st',l)->
   st'=st/\ ∃d b,v=.agg d/\è places cells (g.map fun p=>(p.1,a.eval p.2))=some b/\aI (hp w) R st θ d b.toList
 | [],cs,cells,v,l,j,h=>by
  simp only [ă,rD]at h;obtain⟨rfl,rfl⟩:=M.gI h;exact⟨rfl,_,cells,rfl,rfl,j⟩
 |(i,x)::g,cs,cells,v,l,j,h=>by
  simp only [Í,rD]at h;cases m:fs[i]? with
  |none=>simp [m,M.run]at h
  |some q=>
   obtain⟨off,t⟩:=q;cases s:T t with
   |none=>simp [m,s,M.run]at h
   |some k=>
    simp only [m,s]at h;obtain⟨vs,h,r⟩:=xX (R:=R) (θ:=θ) h;have r:=r _ _ (gH hT x);obtain⟨h1,h⟩:=M.aM h;obtain⟨h2,h⟩:=M.aM h;have h1:=À h1;have h2:=Ê h2;have u:(a.eval x).cells.size=vs.length:=by simpa using r.length.symm
    have ai:cs.length=cells.size:=by simpa using j.length
    have ad:=MH cells (a.eval x) off (by omega)
    have ae:aI (hp w) R st θ (cs.take off++(vs++cs.drop (off+vs.length))) (cells.toList.take off++((a.eval x).cells.toList++cells.toList.drop (off+(a.eval x).cells.size))).toArray.toList:=by
     rw [u];exact(j.take off).append (r.append (j.drop _))
    obtain⟨e,d,b,e1,e2,e3⟩:=MM hT f g ae h;refine⟨e,d,b,e1, ?_,e3⟩
    simp only [Í,è,f i off t k m s];rw [if_neg (by simp;omega)]
    exact(congrArg (fun z=>è _ z (g.map fun p=>(p.1,a.eval p.2))) ad).trans e2
theorem YC (d:Ok P T) (hI:Inv w0 F R st θ w) (hT:Tm (hp w) R st θ a) {t:TypeId} {parts:Array (Nat×Operand)} (ho:o.op=.build t parts) {fs:List (Nat×TypeId)} {i:TyI} (hi:T t=some i) (hu:i.u=.struct fs)
  (h:(rD T fs i.zero (parts.toList.map fun p=>(p.1,bE st p.2))).run st=some (v,st',l)):aY P w0 F R st θ w o a v st':=by
 have g:=d.eO t i hi;have hk:=g.u;rw [hu]at hk;simp only [lR]at hk;obtain⟨fields,k1,k2⟩:=hk;obtain⟨inf,z,j1,j2, -,j3,j4, -⟩:=g.info;have j: ∀f∈fields.toList,(P.info? f.type).map (fun i=>(f.offset,i.size))=some (f.offset,((P.info? f.type).map (·.size)).getD 0):=by
  intro f r;obtain⟨n,hn,e⟩:=List.mem_iff_getElem.1 r;have s:n<fs.length:=by rw [<-k2.len];simpa using hn
  obtain⟨fd,m1,m2,m3,k,m4, -⟩:=k2.at_ n fs[n].1 fs[n].2 (by simp [ß s])
  have:fd=f:=by
   have q:fields.toList[n]? =some fd:=by simpa using m1
   rw [ß hn,e]at q
   exact(Ġ q).symm
  subst this;rw [m3,m4];rfl
 have m:=mapM_some j;obtain⟨rfl,ao,b,rfl,e2,e3⟩:=MM (cells:=z.cells) (places:=fun x=>(fields.toList.map fun f=>(f.offset,((P.info? f.type).map (·.size)).getD 0)).toArray[x]?) hT (fun n off t' ti r ht=>by
  obtain⟨fd,m1,m2,m3, -⟩:=k2.at_ n off t' r;obtain⟨k,z',n1,n2, -⟩:=(d.eO t' ti ht).info;have q:fields.toList[n]? =some fd:=by simpa using m1
  simp only [List.getElem?_toArray,ą,q,Đ,m2,m3,n1,n2,Option.getD_some]) parts.toList (DD j4) h
 refine aY.pure hI (u:=.agg b) ?_ ?_
 .simp only [execOp,ho]
  refine eP (run_build w t _ b ?_)
  have ad:(parts.map fun x=>(x.1,a.eval x.2)).toList=parts.toList.map fun p=>(p.1,a.eval p.2):=by simp
  simp only [Program.built,j1,k1,j3,m,ad];exact e2
 .simp only [aV]
  exact⟨_,rfl,e3⟩
theorem MN: ∀y:List (bg (.one (.int .u8))),ę (bH (.one (.int .u8))) y=Ĝ (fun b:bg (.one (.int .u8))=>bf.i .u8 (UInt8.toNat b:Int)) y
 | []=>rfl
 |b::y=>congrArg (List.cons (bf.i .u8 (UInt8.toNat b:Int))) (MN y)
theorem DJ (x:O):cz cB x=x.map fun b=>bf.i .u8 (b.toNat:Int):=by
 have d:(dy cB x:List (bg (.one (.int .u8))))=x:=List.map_id' _;exact(congrArg (ę (bH (.one (.int .u8)))) d).trans (MN x)
theorem au.bytes {H:Heap} {own:Bool} {fp:List Nat}: ∀ {x:O} {vs:List Value},au H R own (x.map fun b=>bf.i .u8 (b.toNat:Int)) vs fp->vs=x.map fun b=>ú .u8 (b.toNat:Int)
 | [],vs,h=>by
  simp only [ă,au]at h;simp [h.1]
 |b::x,vs,h=>by
  simp only [Í,au]at h;obtain⟨v,f,f1,f2,rfl,rfl,d,g⟩:=h;simp only [aD]at d;rw [Í,au.bytes g,d.1]
theorem YD (p:Ok P T) (q:Inv w0 F R st θ w) (hT:Tm (hp w) R st θ a) {s t:TypeId} {x:Operand} (ho:o.op=.convert s t x) {c:Cell} (ht:iZ T t=some .str) (hx:bE st x=.one c)
  (h:(M.gd (jZ (fe T s) cB) (fc c (c1 (.s [])) fun c x=>.opt (dX c cB x) fun y=>c1 (.s y))).run st=some (v,st',l)):aY P w0 F R st θ w o a v st':=by
 obtain⟨hc,h⟩:=M.aM h;obtain⟨-,e,hu,inf,z,hi,ah,ay,hz,az,k⟩:=rM p (lT hc);have k:P.underlying e=some (.int .u8):=k;have hd:P.underlying t=some .string:=by
  simp only [iZ,Å]at ht;obtain⟨i,hi,e⟩:=ht;have:=(p.eO t i hi).u;rw [e]at this;exact this
 have hr:=gH hT x;rw [hx]at hr;simp only [aV]at hr;have d: ∀(y:O) (b:Addr) (cap:Nat),a.eval x=.slice (some b) y.length cap->(∀j (hj:j<y.length),w.cell? (b.add j)=some (.int .u8 (y[j].toNat:Int)))->(execOp a.eval o).run P w=.ok (.value (.string ⟨y.toArray⟩)) w:=by
  intro y b cap f m;simp only [execOp,ho];refine eP ?_
  rw [f];exact run_convert_bytes_back w s t e b cap y hu k hd m
 have r:a.eval x=.slice none 0 0\/(∃b,a.eval x=.slice (some b) 0 0)->(execOp a.eval o).run P w=.ok (.value (.string ⟨#[]⟩)) w:=by
  rintro(f|⟨b,f⟩)
  .simp only [execOp,ho]
   refine eP ?_
   simp [convert,run_underlying hu,run_underlying hd,run_underlying k,f,Conv.bytesToString]
   rfl
  .exact d [] b 0 f (by simp)
 rcases xR q hr.1 h with⟨⟨b,f⟩,h⟩|⟨c',y,l1,R',h,ae,hy, -⟩
 .obtain⟨rfl,rfl⟩:=cO h
  refine aY.pure q (r ?_) (ql (x:=[]) (by simp [maxLen]))
  cases b with
  |none=>exact .inl f
  |some b=>exact .inr ⟨b,f⟩
 .obtain⟨y',aj,h⟩:=M.eI h
  obtain⟨rfl,rfl⟩:=cO h;obtain⟨ec,ey⟩:=jD aj;subst ec;simp only at ey;subst ey;obtain⟨z,hz⟩: ∃z:O,z=y:=⟨y,rfl⟩
  subst hz;obtain⟨b,cap,f,h1,h2⟩:=hy.gG ae;have hlen:aE cB z=z.length:=rfl;have hle:z.length<=maxLen:=by rw [<-hlen];omega
  rw [f]at hy;by_cases h0:z.length=0
  .have:z=[]:=Æ h0
   subst this;cases b with
   |some b=>exact aY.pure q (d [] b cap f (by simp)) (ql hle)
   |none=>
    refine aY.pure q (u:=.string ⟨#[]⟩) ?_ (ql (x:=[]) hle)
    simp only [execOp,ho];refine eP ?_
    simp [convert,run_underlying hu,run_underlying hd,run_underlying k,f,Conv.bytesToString]
    rfl
  .obtain⟨g,off,cur,ty,frz,rfl,k1,k2,k3,k4⟩:=hy.xQ ae (by rw [hlen];exact h0)
   refine aY.pure q (d z _ cap f (fun j hj=> ?_)) (ql hle)
   rw [ô,cell_of_row w g (off+j) cur ty frz k2];rw [DJ]at k4;have hb:=k4.bytes;have h3:((cur.toList.drop off).take (aE cB z*(ak cB).size))[j]? =some (.int .u8 (z[j].toNat:Int)):=by
    rw [hb];simp [ß hj]
   rw [ÿ]at h3
   split at h3
   .rw [List.getElem?_drop]at h3
    simpa using h3
   .cases h3
end
end Go.Ev
namespace Go.Ev
theorem MO {z:Array Value} {s:Nat} (b:z.size=s): ∀n:Nat,((List.range (n*s)).map fun i=>z[i%s]!)=(Ñ n z.toList).flatten
 |0=>by simp
 |n+1=>by
  rw [ì,List.range_add,List.map_append,MO b n,List.replicate_succ',û];congr 1
  simp only [Ą,Ć,List.flatten_nil,ë];apply List.ext_getElem?
  intro i;simp only [ą]
  by_cases h:i<s
  .rw [List.getElem?_range h]
   have d:i<z.size:=by omega
   simp [d,Nat.mod_eq_of_lt h]
  .rw [List.getElem?_eq_none (by simpa using h)]
   simp
   omega
section
variable {H:Heap} {R:Nat→Prop} {own:Bool}
theorem MP {c:CT} {v:Value} (h:zeroV c v=true):aD H R true (enc c (ea c)) v []:=by
 cases c with
 |bool=>
  unfold zeroV at h;split at h<;>simp_all [enc,ea,aD]
 |int k=>
  cases v<;>simp [zeroV]at h
  obtain⟨rfl,rfl⟩:=h;cases k<;>simp [enc,ea,LP,aD,jz,Û,Ü,Ð,Ø]
 |str=>
  cases v<;>simp [zeroV]at h
  subst h;simp [enc,ea,aD,maxLen]
 |sl ts=>
  unfold zeroV at h;split at h<;>simp_all
  exact rO (c:=.sl _) rfl
 |tree fs=>
  unfold zeroV at h;split at h<;>simp_all
  exact rO (c:=.tree _) rfl
theorem ye: ∀ {ts:aR} {vs:List Value},kQ ts vs=true->au H R true (bH ts (mS ts)) vs []
 |.one c,vs,h=>by
  match vs,h with
  | [v],h=>
   simp only [kQ]at h;simp only [bH,mS,au];exact⟨v,[],[],[],rfl,rfl,MP h,rfl,rfl⟩
  | [],h=>simp [kQ]at h
  |_::_::_,h=>simp [kQ]at h
 |.cons c ts,vs,h=>by
  match vs,h with
  |v::vs,h=>
   simp only [kQ,Õ]at h;simp only [bH,mS,au];exact⟨v,vs,[],[],rfl,rfl,MP h.1,ye h.2⟩
  | [],h=>simp [kQ]at h
theorem MQ {c:CT} (b:bN c=true) (n:Nat):dy c (oi c n)=Ñ n (mS (ak c)):=by
 cases c<;>simp [bN]at b
 .simp [dy,oi]
 .rename_i fs
  simp only [dy,oi,Ā];rw [Dh]
theorem MR {ts:aR} {b:List Value} (h:kQ ts b=true): ∀n:Nat,au H R true ((Ñ n (mS ts)).flatMap (bH ts)) (Ñ n b).flatten []
 |0=>by simp [au]
 |n+1=>by
  simp only [List.replicate_succ,ä,Ć];exact(ye h).append (MR h n)
mutual
theorem MS: ∀ {ts:aR} {x:bg ts} {vs:List Value} {R':Nat->Prop} {fp:List Nat},oe ts=true->au H R' own (bH ts x) vs fp->au H R true (bH ts x) vs []
 |.one c,x,vs,R',fp,d,h=>by
  simp only [oe]at d;simp only [bH,au]at h |-;obtain⟨v,f,f1,f2,rfl,rfl,b,rfl,rfl⟩:=h;refine⟨v,[],[],[],rfl,rfl, ?_,rfl,rfl⟩
  cases c<;>simp [bN]at d<;>simp only [enc,aD]at b |-
  .exact⟨b.1,trivial⟩
  .exact⟨b.1,b.2.1,trivial⟩
  .exact⟨b.1,b.2.1,trivial⟩
 |.cons c ts,x,vs,R',fp,d,h=>by
  simp only [oe,Õ]at d;simp only [bH,au]at h |-;obtain⟨v,f,f1,f2,rfl,rfl,b,g⟩:=h;refine⟨v,f,[],[],rfl,rfl, ?_,MS d.2 g⟩
  have d:=d.1;cases c<;>simp [bN]at d<;>simp only [enc,aD]at b |-
  .exact⟨b.1,trivial⟩
  .exact⟨b.1,b.2.1,trivial⟩
  .exact⟨b.1,b.2.1,trivial⟩
end
theorem MU {ts:aR} (b:oe ts=true) {R':Nat->Prop}: ∀ {xs:List (bg ts)} {vs:List Value} {fp:List Nat},au H R' own (xs.flatMap (bH ts)) vs fp->au H R true (xs.flatMap (bH ts)) vs []
 | [],vs,fp,h=>by simp only [List.flatMap_nil,au]at h |-;exact⟨h.1,trivial⟩
 |x::xs,vs,fp,h=>by
  simp only [ä]at h |-;obtain⟨f1,f2, -,d,f⟩:=h.split;have:=(MS (R:=R) b d).append (MU b f);rwa [æ]at this
theorem DK: ∀x:O,au H R true (x.map fun b=>bf.i .u8 (b.toNat:Int)) (x.map fun b=>ú .u8 (b.toNat:Int)) []
 | []=>by simp [au]
 |b::x=>by
  simp only [Í,au];refine⟨_,_,[],[],rfl,rfl, ?_,DK x⟩
  simp only [aD];refine⟨trivial, ?_,trivial⟩
  have:=b.toNat_lt;simp only [Û,Ü,Ð,Ø];simp
  omega
end
section
variable {P:Program} {T:TypeId→Option TyI} {w0 w w':World} {F R:Nat→Prop} {st st' st2 st3:St} {θ:Asg} {a:Act} {o:Oper} {v:TV} {l:Log} {α:Type} {fps fp:List Nat}
theorem DL {n:Nat} (h:n<=aC):n<=maxLen:=by simp only [aC,maxLen]at *;omega
theorem YE (g:Ok P T) (hI:Inv w0 F R st θ w) (hT:Tm (hp w) R st θ a) {s t:TypeId} {x:Operand} (ho:o.op=.convert s t x) {z:O} (hs:iZ T s=some .str) {c:CT} (m:fe T t=some c) (hx:bE st x=.one (.s z)) {nm:Nat}
  (h:(M.opt (dX cB c z) fun y=>.gd (Ė z.length aC) (fV nm c y c1)).run st=some (v,st',l)):aY P w0 F R st θ w o a v st':=by
 obtain⟨y,hy,h⟩:=M.eI h;obtain⟨p,h⟩:=M.aM h;have p:=Ê p;obtain⟨ec,ey⟩:=jD hy;subst ec;simp only at ey;subst ey;obtain⟨-,e,hu,inf,zz,hi,q,ar,hz,au,f⟩:=rM g m;have f:P.underlying e=some (.int .u8):=f;have r:P.underlying s=some .string:=by
  simp only [iZ,Å]at hs;obtain⟨i,hi,e⟩:=hs;have:=(g.eO s i hi).u;rw [e]at this;exact this
 have ad:=qj hT hx;have d:=run_bytes_of_string (P:=P) w s t e ⟨z.toArray⟩ r hu f;have j:(⟨z.toArray⟩:ByteArray).size=z.length:=rfl;rw [j]at d;have ae:=grownCap_ge w z.length 0 e;have hle:=grownCap_le_maxLen w z.length 0 e (DL p);have hl:(bytesRow ⟨z.toArray⟩ (grownCap w z.length 0 e)).toList=(z.map fun b=>ú .u8 (b.toNat:Int))++Ñ (grownCap w z.length 0 e-z.length) (.int .u8 0):=by
  simp [bytesRow,j]
 have k:(bytesRow ⟨z.toArray⟩ (grownCap w z.length 0 e)).size=grownCap w z.length 0 e:=by
  rw [<-ü,hl];simp
  omega
 refine yc hI (bK.refl hI) (c:=cB) (x:=z) (cap:=grownCap w z.length 0 e) (arr:=bytesRow ⟨z.toArray⟩ (grownCap w z.length 0 e)) (ty:=e) (frz:=((bytesRow ⟨z.toArray⟩ (grownCap w z.length 0 e)).size,(bytesRow ⟨z.toArray⟩ (grownCap w z.length 0 e)).size+1)) (wd:=w.drew) rfl rfl rfl rfl rfl ae hle (by rw [k];exact(ĝ _).symm) ⟨(fun o h1 h2=>by simp only at h2;omega),.inl rfl⟩ (fq:=[]) ?_ Ç (by simp) ?_ h
 .rw [DJ,hl]
  have:aE cB z*(ak cB).size=(z.map fun b=>ú .u8 (b.toNat:Int)).length:=by rw [đ];exact ĝ _
  rw [this,ĕ];exact DK z
 .simp only [execOp,ho]
  refine eP ?_
  rw [ad.1];exact d
theorem YF (ai:Ok P T) (hI:Inv w0 F R st θ w) (hT:Tm (hp w) R st θ a) {t:TypeId} {x y:Operand} (ho:o.op=.makeSlice t x y) {c:CT} (aj:fe T t=some c) {n m:Int} (hx:bE st x=.one (.i .i64 n)) (hy:bE st y=.one (.i .i64 m)) {nm:Nat}
  (h:(M.gd (decide (0<=n/\n<=m/\m<=aC)) (fV nm c (oi c n.toNat) c1)).run st=some (v,st',l)):aY P w0 F R st θ w o a v st':=by
 obtain⟨hg,h⟩:=M.aM h;have hg:=of_decide_eq_true hg;obtain⟨hc,e,hu,inf,z,hi,b,a6,hz,q, -⟩:=rM ai aj;have g:=fv hT hx;have j:=fv hT hy;have ay:=aR.size_pos (ak c);have p:z.cells.size=(ak c).size:=by
  have:=(ye (H:=hp w) (R:=R) q).length;rw [kM]at this;simpa using this.symm
 have hl:aE c (oi c n.toNat)=n.toNat:=by rw [iu,MQ hc,List.length_replicate]
 have r:Ğ.wrap n=n:=by
  have:=g.2;simp only [Û,Ü,Ð,Ø]at this;simp at this
  simp only [Ě,Ð,Ø];simp
  split<;>omega
 have s:Ğ.wrap m=m:=by
  have:=j.2;simp only [Û,Ü,Ð,Ø]at this;simp at this
  simp only [Ě,Ð,Ø];simp
  split<;>omega
 let arr:Array Value:=(Ñ m.toNat z.cells.toList).flatten.toArray
 have u:m.toNat<=aC:=by omega
 have d: ∀k:Nat,(Ñ k z.cells.toList).flatten.length=k*(ak c).size:=fun k=>by
  rw [List.length_flatten,Ā,List.sum_replicate_nat];simp [p]
 refine yc hI (bK.refl hI) (c:=c) (x:=oi c n.toNat) (cap:=m.toNat) (arr:=arr) (ty:=e) (frz:=(0,0)) (wd:=w) hc rfl rfl rfl rfl (by omega) (DL u) (by simp only [arr,ć];exact d _) (oE _ _) (fq:=[]) ?_ Ç (by simp) ?_ h
 .rw [hl]
  have:cz c (oi c n.toNat)=(Ñ n.toNat (mS (ak c))).flatMap (bH (ak c)):=by rw [cz,MQ hc]
  rw [this];have e2:m.toNat=n.toNat+(m.toNat-n.toNat):=by omega
  have e3:arr.toList.take (n.toNat*(ak c).size)=(Ñ n.toNat z.cells.toList).flatten:=by
   simp only [arr];rw [e2,<-List.replicate_append_replicate,û];exact ö (d _)
  rw [e3];exact MR q _
 .simp only [execOp,ho]
  refine eP ?_
  have ad: ¬(281474976710656<(inf.bytes:Int)*m):=by
   have h1:(inf.bytes:Int)*m<=1024*m:=Int.mul_le_mul_of_nonneg_right (by omega) (by omega)
   simp only [aC]at hg;omega
  have ar:=MO (z:=z.cells) p m.toNat;have ae: ∀f:Nat->Value,(∀i,f i=z.cells[i%(ak c).size]!)->(ď (m.toNat*(ak c).size)).map f=arr:=fun f hf=>by
   apply á
   have:f=fun i=>z.cells[i%(ak c).size]! :=funext hf
   subst this;simp only [arr,<-ar,č,ā]
  have af: ¬(m<n):=by omega
  have ag: ¬(n<0):=by omega
  have ah: ¬(m<0):=by omega
  by_cases h0:m.toNat*(ak c).size=0
  .have av:m.toNat=0:=(Nat.mul_eq_zero.1 h0).resolve_right (by omega)
   have ha:arr= #[]:=by simp [arr,av]
   simp [Ē,run_underlying hu,g.1,j.1,asInt,asIntOf,typeInfo,hi,r,s,ad,af,ag,ah,sizeOf,b,h0,newRow,hl,ha]
   congr 2
   exact á (by rw [č,ā];rfl)
  .simp [Ē,run_underlying hu,g.1,j.1,asInt,asIntOf,typeInfo,hi,r,s,ad,af,ag,ah,sizeOf,b,h0,newRow,hl,zeroValue,hz,p]
   rw [ae _ (fun _=>rfl)]
end
end Go.Ev
namespace Go.Ev
section
variable {P:Program} {T:TypeId→Option TyI} {w0 w w':World} {F R:Nat→Prop} {st st' st2 st3:St} {θ:Asg} {a:Act} {o:Oper} {v:TV} {l:Log} {α:Type} {fps fp:List Nat}
theorem DM {b:Option Addr} {g off len cap n s:Nat} {cur:Array Value} {ty:TypeId} {frz:Nat×Nat} {wd:World} (d:b=some ⟨g,off,none⟩) (f:hp wd g=some (.cells cur ty frz)) (h:off+n*s<=cur.size):
  (È s n (.slice b len cap)).run P wd=.ok ((cur.toList.drop off).take (n*s)).toArray wd:=by
 subst d;exact Ml f h
theorem uq {b:Option Addr} {len cap s:Nat} {wd:World}:(È s 0 (.slice b len cap)).run P wd=.ok #[] wd:=by
 cases b with
 |none=>simp [È]
 |some x=>simp [È,loadCells,loadCellsFrom]
structure Src (P:Program) (w:World) (R:Nat->Prop) (c:CT) (u:Value) (y:Interp c) (news:List Value) (fq:List Nat):Prop where
 len:(Þ u).run P w=.ok (aE c y) w
 first: ∀wd:World,wd.heap=w.heap->(È (ak c).size (aE c y) u).run P wd=.ok news.toArray wd
 rel:au (hp w) R true (cz c y) news fq
theorem Src.empty {c:CT} (_:bN c=true) {d:Option Addr} {cap:Nat}:Src P w R c (.slice d 0 cap) (ea c) [] []:=by
 have b:aE c (ea c)=0:=by rw [iu,xE];rfl
 refine⟨by simp [Þ,b],fun wd _=>by rw [b];exact uq,by simp [cz,xE,au]⟩
theorem MV (m:Inv w0 F R st θ w) {c:CT} (r:bN c=true) {z:TV} {u:Value} (d:aV (hp w) R st θ z u) {k:Interp c->M α} {y:α} (h:(oh c z k).run st=some (y,st',l)):
  ∃x st2 fps f news fq,(k x).run st2=some (y,st',f)/\bK w0 F R θ w st st2 fps/\Src P w R c u x news fq/\fq.Nodup/\ ∀g∈fq,g∈fps:=by
 cases z with
 |agg _=>simp [oh,M.run]at h
 |aP _=>simp [oh,M.run]at h
 |one cl=>
  simp only [aV]at d;have d:=d.1;have i: ∀(cl:Cell),az (hp w) R st θ cl u->(cond (oe (ak c)) (fc cl (k (ea c)) fun q x=>.opt (dX q c x) k) (lM c cl k)).run st=some (y,st',l)->
    ∃x st2 fps f news fq,(k x).run st2=some (y,st',f)/\bK w0 F R θ w st st2 fps/\Src P w R c u x news fq/\fq.Nodup/\ ∀g∈fq,g∈fps:=by
   intro cl d h;cases hf:oe (ak c)with
   |true=>
    simp only [hf,Y]at h;rcases xR m d h with⟨⟨ad,rfl⟩,h⟩|⟨q,x,f,R',h,av,t, -⟩
    .exact⟨_,st,[],l,[],[],h,bK.refl m,Src.empty r,Ç,by simp⟩
    .obtain⟨x',j,h⟩:=M.eI h
     obtain⟨ec,ex⟩:=jD j;subst ec;simp only at ex;subst ex;obtain⟨ad,cap,rfl,h1,h2⟩:=t.gG r;by_cases p:aE q x=0
     .refine⟨x,st,[],f,[],[],h,bK.refl m,⟨by simp [Þ],fun wd _=>by rw [p];exact uq, ?_⟩,Ç,by simp⟩
      have:cz q x=[]:=Æ (by rw [gX,p,å])
      rw [this];simp [au]
     .obtain⟨g,off,cur,ty,frz,e1,k1,k2,k3,k4⟩:=t.xQ r p
      refine⟨x,st,[],f,_,[],h,bK.refl m,⟨by simp [Þ],fun wd hw=> ?_,MU (ts:=ak q) hf k4⟩,Ç,by simp⟩
      exact DM e1 (by simpa only [hp,hw]using k2) k3
   |false=>
    simp only [hf,ez]at h;obtain⟨x,st2,fps,f,h,tk, -,t⟩:=um m d h;obtain⟨ad,cap,rfl,h1,h2,h3⟩:=t.rK r;rcases h3 with⟨h3,rfl⟩|⟨g,cur,ty,frz,fq,e1,k1,k2,k3,rfl,k4⟩
    .have p:aE c x=0:=by omega
     refine⟨x,st2,[],f,[],[],h,tk,⟨by simp [Þ],fun wd _=>by rw [p];exact uq, ?_⟩,Ç,by simp⟩
     have:cz c x=[]:=Æ (by rw [gX,p,å])
     rw [this];simp [au]
    .have hle:=Ë (ak c).size h1
     refine⟨x,st2,_,f,_,fq,h,tk,⟨by simp [Þ],fun wd hw=> ?_,k4⟩,(Ó.1 tk.nodup).2,fun g hg=>by simp [hg]⟩
     have:=DM (P:=P) (off:=0) (n:=aE c x) (s:=(ak c).size) (len:=aE c x) (cap:=cap) (wd:=wd) e1 (by simpa only [hp,hw]using k1) (by omega)
     simpa using this
  unfold oh at h;split at h
  .rename_i s e
   cases e;obtain⟨x',j,h⟩:=M.eI h;obtain⟨ec,ex⟩:=jD j;subst ec;simp only at ex;subst ex;simp only [az]at d;obtain⟨rfl,hle⟩:=d;have ao:(⟨s.toArray⟩:ByteArray).size=s.length:=rfl;refine⟨s,st,[],l,s.map (fun b=>ú .u8 (b.toNat:Int)),[],h,bK.refl m,⟨by simp [Þ,ao];rfl,fun wd _=> ?_,by rw [DJ];exact DK s⟩,Ç,by simp⟩
   have e:aE cB s=s.length:=rfl;have e2:s.extract 0 s.length=s:=by simp [Ă]
   simp only [È,Sem.run_pure];rw [e,extract_mk];simp
  .rename_i e
   cases e;exact i _ d h
  .rename_i h1 h2
   exact absurd rfl (h2 _)
theorem DN {t t2 e:TypeId} {tyr:TypeId} {inf:TypeInfo} {c:CT} {y:Interp c} {u:Value} {news:List Value} {fq:List Nat} (j:P.underlying t=some (.slice e)) (f:(∃x,P.underlying t2=some (.slice x))\/P.underlying t2=some .string) (hi:P.info? e=some inf) (k:inf.size=(ak c).size)
  {base:Option Addr} {sLen sCap:Nat} (d:Src P w R c u y news fq) (b:sLen+aE c y<=sCap) {w':World}
  (i: ∀h,base=some h->(storeCells (h.add (sLen*(ak c).size)) news).run P w=.ok () w') (g:base=none->w'=w):
  (Î #[t,t2] tyr #[.slice base sLen sCap,u]).run P w=.ok (.slice base (sLen+aE c y) sCap) w':=by
 have m:=d.first w rfl;rcases f with⟨x,f⟩|f
 .cases base with
  |none=>
   obtain rfl:=g rfl;simp [Î,run_underlying j,run_underlying f,sizeOf,typeInfo,hi,d.len,b,k,m]
  |some h=>
   simp [Î,run_underlying j,run_underlying f,sizeOf,typeInfo,hi,d.len,b,k,m,i h rfl]
 .cases base with
  |none=>
   obtain rfl:=g rfl;simp [Î,run_underlying j,run_underlying f,sizeOf,typeInfo,hi,d.len,b,k,m]
  |some h=>
   simp [Î,run_underlying j,run_underlying f,sizeOf,typeInfo,hi,d.len,b,k,m,i h rfl]
theorem YG {t t2 e:TypeId} {tyr:TypeId} {inf:TypeInfo} {z:Value} {c:CT} {y:Interp c} {u:Value} {news olds:List Value} {fq:List Nat} (i:P.underlying t=some (.slice e)) (b:(∃x,P.underlying t2=some (.slice x))\/P.underlying t2=some .string) (hi:P.info? e=some inf) (j:inf.size=(ak c).size) (h:inf.bytes<=1024) (k:inf.zero=some z)
  {base:Option Addr} {sLen sCap:Nat} (d:Src P w R c u y news fq) (s:sCap<sLen+aE c y) (m:sLen+aE c y<=aC)
  (hold: ∀wd:World,wd.heap=w.heap->(È (ak c).size sLen (.slice base sLen sCap)).run P wd=.ok olds.toArray wd):
  (Î #[t,t2] tyr #[.slice base sLen sCap,u]).run P w=
   .ok (.slice (some ⟨w.heap.size,0,none⟩) (sLen+aE c y) (grownCap w (sLen+aE c y) sCap e))
    (w.drew.alloc (.cells (olds++(news++(ï z.cells (grownCap w (sLen+aE c y) sCap e-(sLen+aE c y))).toList)).toArray e)):=by
 have p: ¬(sLen+aE c y<=sCap):=by omega
 have g: ¬(9223372036854775807<((sLen:Int)+(aE c y:Int))):=by simp only [aC]at m;omega
 have f: ¬(281474976710656<ğ (sLen+aE c y) sCap*inf.bytes):=by
  have:=growslice_fits (bytes:=inf.bytes) s (by
   have:(sLen+aE c y)*inf.bytes<=aC*1024:=Nat.mul_le_mul m h;simp only [aC]at this;omega)
  omega
 have q:=d.first w.drew rfl;have r:=hold w.drew rfl;rcases b with⟨x,b⟩|b
 .simp [Î,run_underlying i,run_underlying b,sizeOf,typeInfo,zeroValue,hi,k,d.len,p,g,f,j,Question.forced,q,r,newRow,grownCap]
  congr 2
  apply á
  simp
 .simp [Î,run_underlying i,run_underlying b,sizeOf,typeInfo,zeroValue,hi,k,d.len,p,g,f,j,Question.forced,q,r,newRow,grownCap]
  congr 2
  apply á
  simp
end
end Go.Ev
namespace Go.Ev
theorem YH {α:Type} (f:Nat->α) (k:Nat) (u v:α):aS (aS f k u) k v=aS f k v:=by
 funext i
 by_cases h:i=k
 .subst h;rw [bC,bC]
 .rw [aZ _ _ h,aZ _ _ h,aZ _ _ h]
section
variable {P:Program} {T:TypeId→Option TyI} {w0 w w':World} {F R:Nat→Prop} {st st' st2 st3:St} {θ:Asg} {a:Act} {o:Oper} {v:TV} {l:Log} {α:Type} {fps fp:List Nat}
theorem MW (j:Inv w0 F R st θ w) {n aG:Nat} {vw:Option Nat} {d:DV} {v:Value} (r:az (hp w) R st θ (.ob n aG vw) v) (hd:(st.aj n).bp=some d) (s:aG=(st.aj n).aG) (b:jB d.c vw d.x=true):
  ∃f,aD (hp w) R true (enc d.c (cD d.c vw d.x)) v f/\f.Nodup/\(∀g∈f,g∈θ.fp n)/\(vw=none->v=θ.ob n/\f=θ.fp n):=by
 obtain⟨q1,q2,q3⟩:=j.aj n d hd;obtain⟨t,q4,q5,z,len,cap,i,k⟩:=uk j r hd s b;cases vw with
 |none=>
  obtain⟨u,p,q, -, -⟩:=q2.gG q1;rw [i]at q;cases q;have:v=θ.ob n:=by rw [i,k];rfl
  refine⟨θ.fp n, ?_,q3,fun _ h=>h,fun _=>⟨this,rfl⟩⟩
  rw [this];exact q2
 |some m=>
  rw [i]at q2;obtain⟨f,k1,k2,k3⟩:=q2.MD (m:=m) q1 (by simpa [jB]using b) q3
  refine⟨f, ?_,k2,k3,by simp⟩
  have hm:m<=aE d.c d.x:=by simpa [jB]using b
  have:aE d.c (cD d.c (some m) d.x)=m:=by simp only [cD,tS];omega
  rw [k,this];exact k1
theorem bK.kill (b:Inv w0 F R st θ w) {n:Nat} {d:DV} (hd:(st.aj n).bp=some d):bK w0 F R θ w st {st with aj:=aS st.aj n ⟨(st.aj n).aG,(st.aj n).wv+1,none⟩} (θ.fp n):=by
 obtain⟨i1,i2,i3⟩:=b.kill hd (st.aj n).aG ((st.aj n).wv+1) (.inr ⟨rfl,by omega⟩)
 refine⟨i1,i2,rfl,rfl,fun k=> ?_,(b.aj n d hd).2.2,fun g f=>.inr ⟨n,by simp [hd],f⟩,i3.free⟩
 by_cases e:k=n
 .subst e;right;simp [bC]
 .left;simp [aZ _ _ e]
theorem YI {nm:Nat} {c:CT} {x:Interp c} (h:(st.aj nm).bp=none):
  (fV nm c x c1).run st=some (.one (.ob nm ((st.aj nm).aG+1) none),{st with aj:=aS st.aj nm ⟨(st.aj nm).aG+1,0,some ⟨c,x⟩⟩},⟨[2*nm+1],[2*nm+1]⟩):=by
 simp [fV,M.run,h,c1,Log.none,Log.r,Log.w]
theorem YJ (a8:Ok P T) (hI:Inv w0 F R st θ w) (hT:Tm (hp w) R st θ a) {cl:Call} {s x:Operand} {t t2:TypeId} (ho:o.op=.call cl) (ch:cl.callee=.builtin .append) (ha:cl.args.toList=[s,x]) (cj:cl.argTypes.toList=[t,t2]) {c:CT} (ck:fe T t=some c) {d:Nat}
  (h:(M.gd (uS (T t2)||pV (T t2)) (Du c d (bE st s) (bE st x))).run st=some (v,st',l)):aY P w0 F R st θ w o a v st':=by
 obtain⟨hc,e,hu,inf,z,hi,q,cm,hz,cn, -⟩:=rM a8 ck;have cp:cl.args= #[s,x]:=by rw [<-Ù (xs:=cl.args),ha]
 have bm:cl.argTypes= #[t,t2]:=by rw [<-Ù (xs:=cl.argTypes),cj]
 obtain⟨r,h⟩:=M.aM h;have r:(∃x,P.underlying t2=some (.slice x))\/P.underlying t2=some .string:=by
  rw [Ý]at r;exact r.imp (xU a8) (xY a8)
 have ag: ∀ {u:Value} {w':World},(Î #[t,t2] o.type #[a.eval s,a.eval x]).run P w=.ok u w'->(execOp a.eval o).run P w=.ok (.value u) w':=by
  intro u w' hr;simp [execOp,ho,resolve,ch,cp,bm,invoke,builtin,hr]
 have c7:=aR.size_pos (ak c);have cq:z.cells.size=(ak c).size:=by
  have:=(ye (H:=hp w) (R:=R) cn).length;rw [kM]at this;simpa using this.symm
 have bn:=gH hT x;have grow: ∀ {y:Interp c} {X:Interp c} {news olds:List Value} {st2:St} {fps fq:List Nat} {nm sCap sLen:Nat} {base:Option Addr} {l1:Log},bK w0 F R θ w st st2 fps->Src P w R c (a.eval x) y news []\/(∃f,Src P w R c (a.eval x) y news f)->a.eval s=.slice base sLen sCap->sCap<sLen+aE c y->sLen+aE c y<=aC->
   (∀wd:World,wd.heap=w.heap->(È (ak c).size sLen (.slice base sLen sCap)).run P wd=.ok olds.toArray wd)->aE c X=sLen+aE c y->au (hp w) R true (cz c X) (olds++news) fq->fq.Nodup->(∀g∈fq,g∈fps)->(fV nm c X c1).run st2=some (v,st',l1)->aY P w0 F R st θ w o a v st':=by
  intro y X news olds st2 fps fq nm sCap sLen base l1 tk j hs hg k hold hX a6 hn hf h;obtain⟨f,j⟩: ∃f,Src P w R c (a.eval x) y news f:=j.elim (fun h=>⟨_,h⟩) id
  have m:=YG (P:=P) (tyr:=o.type) hu r hi q cm hz j hg k hold;rw [<-hs]at m;have bo:=grownCap_ge w (sLen+aE c y) sCap e;have hle:=grownCap_le_maxLen w (sLen+aE c y) sCap e (DL k);have aw:=a6.length;rw [gX,hX]at aw;have hm:=ag m;rw [<-hX]at hm bo hle;rw [<-hX]at aw;refine yc hI tk (c:=c) (x:=X) (cap:=grownCap w (aE c X) sCap e) (arr:=(olds++(news++(ï z.cells (grownCap w (aE c X) sCap e-aE c X)).toList)).toArray) (ty:=e) (frz:=(0,0)) (wd:=w.drew) hc rfl rfl rfl rfl bo hle ?_ (oE _ _) (fq:=fq) ?_ hn hf hm h
  .rw [ć,<-Á,í,<-aw,ü,size_zeroCells,cq,<-ê]
   congr 1
   omega
  .have:(olds++(news++(ï z.cells (grownCap w (aE c X) sCap e-aE c X)).toList)).toArray.toList.take (aE c X*(ak c).size)=olds++news:=by
    rw [aw,<-Á];exact ĕ
   rw [this];exact a6
 have al: ∀ {ad:Option Addr},a.eval s=.slice ad 0 0->(oh c (bE st x) fun y=>.gd (Ė (aE c y) aC) (fV (fH d 0) c y c1)).run st=some (v,st',l)->aY P w0 F R st θ w o a v st':=by
  intro ad hs h;obtain⟨y,st2,fps,l1,news,fq,h,tk,j,hn,hf⟩:=MV (P:=P) hI hc bn h;obtain⟨k,h⟩:=M.aM h;have k:=Ê k;by_cases h0:aE c y=0
  .have ae:news=[]:=Æ (by rw [<-j.rel.length,gX,h0,å])
   subst ae;have m:=DN (P:=P) (tyr:=o.type) (base:=ad) (sLen:=0) (sCap:=0) (w':=w) hu r hi q j (by omega) (fun _ _=>rfl) (fun _=>rfl)
   rw [<-hs,h0]at m;refine yb (w':=w) (fp:=[]) (hd:=.slice ad 0 0) hI tk hc (Ô _) rfl rfl rfl (fun _ _ _=>rfl) ?_ Ç (by simp) (ag m) h
   have:=aD.oA (H:=hp w) (R:=R) (c:=c) (x:=y) (a:=ad) (cap:=0) (fp:=[]) hc (by omega) (by simp [maxLen]) (.inl ⟨rfl,rfl⟩)
   rwa [h0]at this
  .exact grow (y:=y) (X:=y) (olds:=[]) tk (.inr ⟨_,j⟩) hs (by omega) (by omega) (fun wd _=>uq) (by omega) (by simpa using j.rel) hn hf h
 have p:=gH hT s;unfold Du at h;split at h
 .rename_i e1
  rw [e1]at p;simp only [aV,az]at p;exact al p.1 h
 .rename_i e1
  rw [e1]at p;simp only [aV,az]at p;obtain⟨ad,p⟩:=p.1;exact al p h
 .rename_i n aG vw e1
  rw [e1]at p;simp only [aV]at p;have p:=p.1;obtain⟨y,st2,fps,l1,news,fq,h,tk,j,hn,hf⟩:=MV (P:=P) hI hc bn h;obtain⟨l2,h⟩:=M.fK h;cases hd:(st2.aj n).bp with
  |none=>simp [hd,M.run]at h
  |some dd=>
   simp only [hd]at h;obtain⟨hv,h⟩:=M.aM h;obtain⟨cv,h⟩:=M.aM h;obtain⟨x0,ao,h⟩:=M.eI h;obtain⟨k,h⟩:=M.aM h;obtain⟨l3,h⟩:=M.oC h;obtain⟨rfl,rfl⟩:=cO h;have k:=Ê k;have hv:=À hv;have br:=az.step tk.step _ _ p;obtain⟨f',r1,r2,r3, -⟩:=MW tk.inv br hd hv cv;obtain⟨ec,ex⟩:=jD ao;subst ec;simp only at ex;subst ex;have bf:=tk.trans (bK.kill tk.inv hd);have aq:(fV n dd.c (jA dd.c (cD dd.c vw dd.x) y) c1).run {st2 with aj:=aS st2.aj n ⟨(st2.aj n).aG,(st2.aj n).wv+1,none⟩}=
     some (.one (.ob n ((st2.aj n).aG+1) none),{st2 with aj:=aS st2.aj n ⟨(st2.aj n).aG+1,0,some ⟨dd.c,jA dd.c (cD dd.c vw dd.x) y⟩⟩},⟨[2*n+1],[2*n+1]⟩):=by
    rw [YI (by simp [bC])]
    simp [bC,YH]
   have ax:=XD (c:=dd.c) (cD dd.c vw dd.x) y hc;have bu:=XB (c:=dd.c) (cD dd.c vw dd.x) y hc;have ar: ∀b∈f',b∉fq:=fun b k cx=>tk.free b (hf b cx) (.inr ⟨n,by simp [hd],r3 b k⟩)
   obtain⟨ad,cap,es,p1,p2,p3⟩:=r1.rK hc;by_cases af:aE dd.c (cD dd.c vw dd.x)+aE dd.c y<=cap
   .rcases p3 with⟨p3,p4⟩|⟨g,cur,ty,frz,bg,rfl,k1,k2,k3,k4,k5⟩
    . --nothing there,nothing put
     have c0:aE dd.c y=0:=by omega
     have ao:aE dd.c (cD dd.c vw dd.x)=0:=by omega
     have ae:news=[]:=Æ (by rw [<-j.rel.length,gX,c0,å])
     subst ae;have m:=DN (P:=P) (tyr:=o.type) (base:=ad) (w':=w) hu r hi q j af (fun _ _=>rfl) (fun _=>rfl)
     rw [<-es]at m;refine yb (w':=w) (fp:=[]) (hd:=.slice ad (aE dd.c (cD dd.c vw dd.x)+aE dd.c y) cap) hI bf hc (Ô _) rfl rfl rfl (fun _ _ _=>rfl) ?_ Ç (by simp) (ag m) aq
     rw [<-ax];exact aD.oA hc (by omega) p2 (.inl ⟨p3,rfl⟩)
    .have hle:=Ë (ak dd.c).size af
     rw [ê]at hle;have c2:news.length=aE dd.c y*(ak dd.c).size:=by rw [<-j.rel.length,gX]
     have bx:=DB (P:=P) (g:=g) (o:=aE dd.c (cD dd.c vw dd.x)*(ak dd.c).size) (vs:=news) (i:=0) (w:=w) k1 k3.1 (by omega) j.rel.cC
     rw [Nat.add_zero]at bx;have m:=DN (P:=P) (tyr:=o.type) (base:=some ⟨g,0,none⟩) (sLen:=aE dd.c (cD dd.c vw dd.x)) (sCap:=cap) hu r hi q j af (fun dn e'=>by cases e';rw [ô,Ę];exact bx) (by simp)
     rw [<-es]at m;have bz:=r2;rw [k4]at bz;obtain⟨ca,c3⟩:=Ó.1 bz;have cb:g∉fq:=ar g (by rw [k4];simp)
     have c4:cU st2 θ g:=.inr ⟨n,by simp [hd],r3 g (by rw [k4];simp)⟩
     have a7: ∀b,b≠g->hp (w.setRow g (cur.toList.take (aE dd.c (cD dd.c vw dd.x)*(ak dd.c).size)++(news++cur.toList.drop (aE dd.c (cD dd.c vw dd.x)*(ak dd.c).size+news.length))).toArray) b=hp w b:=fun b k=>setRow_other w g b _ k
     have a1:=(k5.append j.rel).frame (H':=hp (w.setRow g (cur.toList.take (aE dd.c (cD dd.c vw dd.x)*(ak dd.c).size)++(news++cur.toList.drop (aE dd.c (cD dd.c vw dd.x)*(ak dd.c).size+news.length))).toArray)) (R':=R)
      (fun b k=>a7 b (fun e=>by
       subst e;rcases k with k|k
       .rcases Ã.1 k with k|k
        .exact ca k
        .exact cb k
       .exact tk.inv.ui c4 k)) (fun _ h=>h)
     have c5:(cur.toList.take (aE dd.c (cD dd.c vw dd.x)*(ak dd.c).size)).length=aE dd.c (cD dd.c vw dd.x)*(ak dd.c).size:=by rw [Ì];simp;omega
     refine yb (fp:=g::(bg++fq)) (hd:=.slice (some ⟨g,0,none⟩) (aE dd.c (cD dd.c vw dd.x)+aE dd.c y) cap) hI bf hc (Ĉ (setRow_size w g _).symm) rfl rfl rfl (fun b _ k=>a7 b (fun e=>k (by rw [e];simp))) ?_ ?_ ?_ (ag m) aq
     .rw [<-ax]
      refine aD.oA hc (by omega) p2 (.inr ⟨g,_,ty,frz,_,rfl,setRow_heap w g _ _ _ _ k1, ?_, ?_,rfl, ?_⟩)
      .simp;omega
      .have:(cur.toList.take (aE dd.c (cD dd.c vw dd.x)*(ak dd.c).size)++(news++cur.toList.drop (aE dd.c (cD dd.c vw dd.x)*(ak dd.c).size+news.length))).toArray.size=cur.size:=by simp;omega
       rw [this];exact k3
      .rw [bu]
       have e3:((cur.toList.take (aE dd.c (cD dd.c vw dd.x)*(ak dd.c).size)++(news++cur.toList.drop (aE dd.c (cD dd.c vw dd.x)*(ak dd.c).size+news.length))).toArray.toList).take (aE dd.c (jA dd.c (cD dd.c vw dd.x) y)*(ak dd.c).size)=cur.toList.take (aE dd.c (cD dd.c vw dd.x)*(ak dd.c).size)++news:=by
        rw [ax,ê];show(_++(news++_)).take _=_;rw [<-Á];exact ö (by rw [í,c5,c2])
       rw [e3];exact a1
     .refine Ó.2 ⟨fun hm=> ?_,Ä.2 ⟨c3,hn,fun b k c' bh e=> ?_⟩⟩
      .rcases Ã.1 hm with hm|hm
       .exact ca hm
       .exact cb hm
      .subst e;exact ar b (by rw [k4];simp [k]) bh
     .intro b k
      left
      rcases é.1 k with rfl|k
      .exact Ã.2 (.inr (r3 _ (by rw [k4];simp)))
      .rcases Ã.1 k with k|k
       .exact Ã.2 (.inr (r3 _ (by rw [k4];simp [k])))
       .exact Ã.2 (.inl (hf b k))
   .have olds: ∃olds fo,(∀wd:World,wd.heap=w.heap->(È (ak dd.c).size (aE dd.c (cD dd.c vw dd.x)) (.slice ad (aE dd.c (cD dd.c vw dd.x)) cap)).run P wd=.ok olds.toArray wd)/\au (hp w) R true (cz dd.c (cD dd.c vw dd.x)) olds fo/\fo.Nodup/\ ∀b∈fo,b∈f':=by
     rcases p3 with⟨p3,p4⟩|⟨g,cur,ty,frz,bg,e2,k1,k2,k3,k4,k5⟩
     .have ao:aE dd.c (cD dd.c vw dd.x)=0:=by omega
      refine⟨[],[],fun wd _=>by rw [ao];exact uq, ?_,Ç,by simp⟩
      have:cz dd.c (cD dd.c vw dd.x)=[]:=Æ (by rw [gX,ao,å])
      rw [this];simp [au]
     .have hle:=Ë (ak dd.c).size p1
      refine⟨_,bg,fun wd hw=> ?_,k5,by rw [k4]at r2;exact(Ó.1 r2).2,fun b k=>by rw [k4];simp [k]⟩
      have:=DM (P:=P) (off:=0) (n:=aE dd.c (cD dd.c vw dd.x)) (s:=(ak dd.c).size) (len:=aE dd.c (cD dd.c vw dd.x)) (cap:=cap) (wd:=wd) e2 (by simpa only [hp,hw]using k1) (by omega)
      simpa using this
    obtain⟨olds,fo,o1,o2,o3,o4⟩:=olds;refine grow (y:=y) (X:=jA dd.c (cD dd.c vw dd.x) y) (olds:=olds) (fq:=fo++fq) bf (.inr ⟨_,j⟩) es (by omega) k o1 ax (by rw [bu];exact o2.append j.rel) ?_ ?_ aq
    .exact Ä.2 ⟨o3,hn,fun b k c' bh e=>by subst e;exact ar b (o4 b k) bh⟩
    .intro b k
     rcases Ã.1 k with k|k
     .exact Ã.2 (.inr (r3 _ (o4 b k)))
     .exact Ã.2 (.inl (hf b k))
 .simp [M.run]at h
end
end Go.Ev
namespace Go.Ev
abbrev Env:=List (Nat×Value×List Nat)
def Env.fps (L:Env):List Nat:=L.flatMap (·.2.2)
theorem Env.dj (L A:Env):Env.fps (L++A)=L.fps++A.fps:=List.flatMap_append
section
variable (H:Heap) (R:Nat→Prop) (B:Nat→Nat→Prop) (nal:Bool)
mutual
def aq:Env->Nat->CK->List DV->Value->Env->Prop
 |_,_,.undef,ds,_,A=>ds=[]/\A=[]
 |_,_,.bool,ds,v,A=> ∃x:Bool,ds=[⟨.bool,x⟩]/\v=.bool x/\A=[]
 |_,_,.int k,ds,v,A=> ∃x:pQ k,ds=[⟨.int k,x⟩]/\v=.int k (jz k x)/\(k.min<=jz k x/\jz k x<=k.max)/\A=[]
 |_,_,.str,ds,v,A=> ∃x:O,ds=[⟨.str,x⟩]/\v=.string ⟨x.toArray⟩/\x.length<=maxLen/\A=[]
 |_,_,.er,ds,v,A=> ∃x:Bool,ds=[⟨.bool,x⟩]/\((x=false/\v=.nilIface)\/(x=true/\ ∃t u,v=.iface t u))/\A=[]
 |_,_,.sh c,ds,v,A=> ∃x,ds=[⟨c,x⟩]/\bN c=true/\aD H R false (enc c x) v []/\A=[]
 |_,nm,.own c,ds,v,A=> ∃x fp,ds=[⟨c,x⟩]/\bN c=true/\aD H R true (enc c x) v fp/\A=[(nm,v,fp)]
 |_,_,.nl,ds,v,A=>ds=[]/\v=.slice none 0 0/\A=[]
 |L,_,.al m,ds,v,A=>nal=false/\ds=[]/\A=[]/\ ∃fp,(m,v,fp)∈L
 |L,_,.gs m c,ds,v,A=>nal=false/\A=[]/\ ∃x hd fp,ds=[⟨c,x⟩]/\bN c=true/\(m,hd,fp)∈L/\aD H (fun b=>b∈fp) false (enc c x) v []
 |_,_,.pb m off,ds,v,A=>ds=[]/\A=[]/\ ∃g,B m g/\v=.pointer (some ⟨g,off,none⟩)
 |_,_,.eV,ds,v,A=>ds=[]/\v=.pointer none/\A=[]
 |_,_,.ft,ds,v,A=>ds=[]/\v=.nilFunc/\A=[]
 |L,_,.fn f a b,ds,v,A=> ∃h vb d1 d2 A1 A2,ds=d1++d2/\A=A1++A2/\v=.func (.func f) h vb/\bw L (fun _=>0) 0 a d1 h.toList A1/\bw (L++A1) (fun _=>0) 0 b d2 vb.toList A2
def bw:Env->(Nat->Nat)->Nat->List CK->List DV->List Value->Env->Prop
 |_,_,_,[],ds,vs,A=>ds=[]/\vs=[]/\A=[]
 |L,nm,j,c::cs,ds,vs,A=> ∃v d d1 d2 A1 A2,ds=d1++d2/\vs=v::d/\A=A1++A2/\cC v=true/\aq L (nm j) c d1 v A1/\bw (L++A1) nm (j+1) cs d2 d A2
end
def cu:Env->(Nat->Nat)->Nat->List bq->List DV->List Value->Env->Prop
 |_,_,_,[],ds,vs,A=>ds=[]/\vs=[]/\A=[]
 |L,nm,j,.one c::cs,ds,vs,A=> ∃v b d1 d2 A1 A2,ds=d1++d2/\vs=v::b/\A=A1++A2/\(c=.undef\/cC v=true)/\aq H R B nal L (nm j) c d1 v A1/\cu (L++A1) nm (j+1) cs d2 b A2
 |L,nm,j,.agg ks::cs,ds,vs,A=> ∃arr b d1 d2 A1 A2,ds=d1++d2/\vs=.agg arr::b/\A=A1++A2/\bw H R B nal L nm j ks d1 arr.toList A1/\cu (L++A1) nm (j+ks.length) cs d2 b A2
 |_,_,_,.aP _::_,_,_,_=>False
def bX (L:Env) (nm:Nat->Nat):bq->List DV->Value->Env->Prop
 |.one c,ds,v,A=>(c=.undef\/cC v=true)/\aq H R B nal L (nm 0) c ds v A
 |.agg ks,ds,v,A=> ∃arr,v=.agg arr/\bw H R B nal L nm 0 ks ds arr.toList A
 |.aP cs,ds,v,A=> ∃arr,v=.tuple arr/\cu H R B nal L nm 0 cs ds arr.toList A
end
section
variable {H:Heap} {R R':Nat→Prop} {B B':Nat→Nat→Prop} {nal:Bool}
theorem aD.mono (f: ∀b,R b->R' b) {own:Bool} {d:bf} {v:Value} {fp:List Nat} (h:aD H R own d v fp):aD H R' own d v fp:=h.frame (fun _ _=>rfl) f
mutual
theorem aq.mono (r: ∀b,R b->R' b) (s: ∀m g,B m g->B' m g): ∀(k:CK) {L:Env} {nm:Nat} {ds:List DV} {v:Value} {A:Env},aq H R B nal L nm k ds v A->aq H R' B' nal L nm k ds v A
 |.undef,_,_,_,_,_,h=>by simpa only [aq]using h
 |.bool,_,_,_,_,_,h=>by simpa only [aq]using h
 |.int _,_,_,_,_,_,h=>by simpa only [aq]using h
 |.str,_,_,_,_,_,h=>by simpa only [aq]using h
 |.er,_,_,_,_,_,h=>by simpa only [aq]using h
 |.sh c,_,_,_,_,_,h=>by
  simp only [aq]at h |-;obtain⟨x,d,i,p,q⟩:=h;exact⟨x,d,i,p.mono r,q⟩
 |.own c,_,_,_,_,_,h=>by
  simp only [aq]at h |-;obtain⟨x,fp,d,i,p,q⟩:=h;exact⟨x,fp,d,i,p.mono r,q⟩
 |.nl,_,_,_,_,_,h=>by simpa only [aq]using h
 |.al _,_,_,_,_,_,h=>by simpa only [aq]using h
 |.gs _ _,_,_,_,_,_,h=>by simpa only [aq]using h
 |.pb _ _,_,_,_,_,_,h=>by
  simp only [aq]at h |-;obtain⟨d,i,g,p,q⟩:=h;exact⟨d,i,g,s _ _ p,q⟩
 |.eV,_,_,_,_,_,h=>by simpa only [aq]using h
 |.ft,_,_,_,_,_,h=>by simpa only [aq]using h
 |.fn f a b,_,_,_,_,_,h=>by
  simp only [aq]at h |-;obtain⟨z,vb,d1,d2,A1,A2,d,i,p,q,t⟩:=h;exact⟨z,vb,d1,d2,A1,A2,d,i,p,bw.mono r s a q,bw.mono r s b t⟩
theorem bw.mono (r: ∀b,R b->R' b) (s: ∀m g,B m g->B' m g): ∀(ks:List CK) {L:Env} {nm:Nat->Nat} {j:Nat} {ds:List DV} {vs:List Value} {A:Env},bw H R B nal L nm j ks ds vs A->bw H R' B' nal L nm j ks ds vs A
 | [],_,_,_,_,_,_,h=>by simpa only [bw]using h
 |c::cs,_,_,_,_,_,_,h=>by
  simp only [bw]at h |-;obtain⟨v,u,d1,d2,A1,A2,d,i,p,q,t,h6⟩:=h;exact⟨v,u,d1,d2,A1,A2,d,i,p,q,aq.mono r s c t,bw.mono r s cs h6⟩
end
theorem cu.mono (f: ∀b,R b->R' b) (i: ∀m g,B m g->B' m g): ∀(ks:List bq) {L:Env} {nm:Nat->Nat} {j:Nat} {ds:List DV} {vs:List Value} {A:Env},cu H R B nal L nm j ks ds vs A->cu H R' B' nal L nm j ks ds vs A
 | [],_,_,_,_,_,_,h=>by simpa only [cu]using h
 |.one c::cs,_,_,_,_,_,_,h=>by
  simp only [cu]at h |-;obtain⟨v,d,d1,d2,A1,A2,k,p,q,t,r,s⟩:=h;exact⟨v,d,d1,d2,A1,A2,k,p,q,t,aq.mono f i c r,cu.mono f i cs s⟩
 |.agg ks::cs,_,_,_,_,_,_,h=>by
  simp only [cu]at h |-;obtain⟨arr,d,d1,d2,A1,A2,k,p,q,r,s⟩:=h;exact⟨arr,d,d1,d2,A1,A2,k,p,q,bw.mono f i ks r,cu.mono f i cs s⟩
 |.aP _::_,_,_,_,_,_,_,h=>by simp only [cu]at h
theorem bX.mono (d: ∀b,R b->R' b) (f: ∀m g,B m g->B' m g) {k:bq} {L:Env} {nm:Nat->Nat} {ds:List DV} {v:Value} {A:Env} (h:bX H R B nal L nm k ds v A):bX H R' B' nal L nm k ds v A:=by
 cases k with
 |one c=>simp only [bX]at h |-;exact⟨h.1,h.2.mono d f⟩
 |agg ks=>simp only [bX]at h |-;obtain⟨arr,i,j⟩:=h;exact⟨arr,i,j.mono d f⟩
 |aP ks=>simp only [bX]at h |-;obtain⟨arr,i,j⟩:=h;exact⟨arr,i,j.mono d f⟩
mutual
theorem aq.hC: ∀(k:CK) {L:Env} {nm:Nat} {ds:List DV} {v:Value} {A:Env},aq H R B true L nm k ds v A-> ∀(L':Env) (d:Nat),∃s,aq H R B true L' d k ds v s/\s.fps=A.fps
 |.undef,_,_,_,_,_,h,_,_=>by simp only [aq]at h;exact⟨[],by simp only [aq];exact⟨h.1,trivial⟩,by rw [h.2]⟩
 |.bool,_,_,_,_,A,h,_,_=>by simp only [aq]at h;obtain⟨x,g,i,m⟩:=h;exact⟨[],by simp only [aq];exact⟨x,g,i,trivial⟩,by rw [m]⟩
 |.int _,_,_,_,_,A,h,_,_=>by simp only [aq]at h;obtain⟨x,g,i,m,q⟩:=h;exact⟨[],by simp only [aq];exact⟨x,g,i,m,trivial⟩,by rw [q]⟩
 |.str,_,_,_,_,A,h,_,_=>by simp only [aq]at h;obtain⟨x,g,i,m,q⟩:=h;exact⟨[],by simp only [aq];exact⟨x,g,i,m,trivial⟩,by rw [q]⟩
 |.er,_,_,_,_,A,h,_,_=>by simp only [aq]at h;obtain⟨x,g,i,m⟩:=h;exact⟨[],by simp only [aq];exact⟨x,g,i,trivial⟩,by rw [m]⟩
 |.sh _,_,_,_,_,A,h,_,_=>by simp only [aq]at h;obtain⟨x,g,i,m,q⟩:=h;exact⟨[],by simp only [aq];exact⟨x,g,i,m,trivial⟩,by rw [q]⟩
 |.own _,_,_,_,v,A,h,_,d=>by
  simp only [aq]at h;obtain⟨x,fp,g,i,m,q⟩:=h;exact⟨[(d,v,fp)],by simp only [aq];exact⟨x,fp,g,i,m,rfl⟩,by rw [q];rfl⟩
 |.nl,_,_,_,_,A,h,_,_=>by simp only [aq]at h;exact⟨[],by simp only [aq];exact⟨h.1,h.2.1,trivial⟩,by rw [h.2.2]⟩
 |.al _,_,_,_,_,A,h,_,_=>by simp [aq]at h
 |.gs _ _,_,_,_,_,A,h,_,_=>by simp [aq]at h
 |.pb _ _,_,_,_,_,A,h,_,_=>by simp only [aq]at h;exact⟨[],by simp only [aq];exact⟨h.1,trivial,h.2.2⟩,by rw [h.2.1]⟩
 |.eV,_,_,_,_,A,h,_,_=>by simp only [aq]at h;exact⟨[],by simp only [aq];exact⟨h.1,h.2.1,trivial⟩,by rw [h.2.2]⟩
 |.ft,_,_,_,_,A,h,_,_=>by simp only [aq]at h;exact⟨[],by simp only [aq];exact⟨h.1,h.2.1,trivial⟩,by rw [h.2.2]⟩
 |.fn f a b,_,_,_,_,A,h,L',d=>by
  simp only [aq]at h;obtain⟨va,vb,d1,d2,A1,A2,g,i,m,q,u⟩:=h;obtain⟨p,k1,k2⟩:=bw.hC a q L' (fun _=>0) 0
  obtain⟨r,k3,z⟩:=bw.hC b u (L'++p) (fun _=>0) 0
  exact⟨p++r,by simp only [aq];exact⟨va,vb,d1,d2,p,r,g,rfl,m,k1,k3⟩,by rw [i,Env.dj,Env.dj,k2,z]⟩
theorem bw.hC: ∀(ks:List CK) {L:Env} {nm:Nat->Nat} {j:Nat} {ds:List DV} {vs:List Value} {A:Env},bw H R B true L nm j ks ds vs A-> ∀(L':Env) (d:Nat->Nat) (t:Nat),∃s,bw H R B true L' d t ks ds vs s/\s.fps=A.fps
 | [],_,_,_,_,_,_,h,_,_,_=>by simp only [bw]at h;exact⟨[],by simp only [bw];exact⟨h.1,h.2.1,trivial⟩,by rw [h.2.2]⟩
 |c::cs,_,_,_,_,_,_,h,L',d,t=>by
  simp only [bw]at h;obtain⟨v,ad,d1,d2,A1,A2,g,i,m,q,u,h6⟩:=h;obtain⟨p,k1,k2⟩:=aq.hC c u L' (d t);obtain⟨r,k3,z⟩:=bw.hC cs h6 (L'++p) d (t+1);exact⟨p++r,by simp only [bw];exact⟨v,ad,d1,d2,p,r,g,i,rfl,q,k1,k3⟩,by rw [m,Env.dj,Env.dj,k2,z]⟩
end
theorem cu.hC: ∀(ks:List bq) {L:Env} {nm:Nat->Nat} {j:Nat} {ds:List DV} {vs:List Value} {A:Env},cu H R B true L nm j ks ds vs A-> ∀(L':Env) (b:Nat->Nat) (g:Nat),∃t,cu H R B true L' b g ks ds vs t/\t.fps=A.fps
 | [],_,_,_,_,_,_,h,_,_,_=>by simp only [cu]at h;exact⟨[],by simp only [cu];exact⟨h.1,h.2.1,trivial⟩,by rw [h.2.2]⟩
 |.one c::cs,_,_,_,_,_,_,h,L',b,g=>by
  simp only [cu]at h;obtain⟨v,i,d1,d2,A1,A2,k,m,p,u,q,r⟩:=h;obtain⟨d,k1,k2⟩:=aq.hC c q L' (b g);obtain⟨f,k3,s⟩:=cu.hC cs r (L'++d) b (g+1);exact⟨d++f,by simp only [cu];exact⟨v,i,d1,d2,d,f,k,m,rfl,u,k1,k3⟩,by rw [p,Env.dj,Env.dj,k2,s]⟩
 |.agg ks::cs,_,_,_,_,_,_,h,L',b,g=>by
  simp only [cu]at h;obtain⟨v,i,d1,d2,A1,A2,k,m,p,q,r⟩:=h;obtain⟨d,k1,k2⟩:=bw.hC ks q L' b g;obtain⟨f,k3,s⟩:=cu.hC cs r (L'++d) b (g+ks.length);exact⟨d++f,by simp only [cu];exact⟨v,i,d1,d2,d,f,k,m,rfl,k1,k3⟩,by rw [p,Env.dj,Env.dj,k2,s]⟩
 |.aP _::_,_,_,_,_,_,_,h,_,_,_=>by simp only [cu]at h
theorem bX.hC {k:bq} {L:Env} {nm:Nat->Nat} {ds:List DV} {v:Value} {A:Env} (h:bX H R B true L nm k ds v A) (L':Env) (b:Nat->Nat): ∃d,bX H R B true L' b k ds v d/\d.fps=A.fps:=by
 cases k with
 |one c=>simp only [bX]at h;obtain⟨d,f,g⟩:=aq.hC c h.2 L' (b 0);exact⟨d,by simp only [bX];exact⟨h.1,f⟩,g⟩
 |agg ks=>simp only [bX]at h;obtain⟨arr,i,h⟩:=h;obtain⟨d,f,g⟩:=bw.hC ks h L' b 0;exact⟨d,by simp only [bX];exact⟨arr,i,f⟩,g⟩
 |aP ks=>simp only [bX]at h;obtain⟨arr,i,h⟩:=h;obtain⟨d,f,g⟩:=cu.hC ks h L' b 0;exact⟨d,by simp only [bX];exact⟨arr,i,f⟩,g⟩
end
end Go.Ev
namespace Go.Ev
theorem MX {m n v:Nat}: ∀ {l:List (Nat×Nat×Nat×Nat)},tX m n v l=true-> ∃wv,lP m n v wv l=true
 | [],h=>by simp [tX]at h
 |(a,b,c,d)::r,h=>by
  simp only [tX,Ý]at h;rcases h with h|h
  .refine⟨d, ?_⟩
   simp only [lP,Ý];left
   simp only [Õ]at h |-;exact⟨h.1,h.2.1,h.2.2,ĉ d⟩
  .obtain⟨wv,h⟩:=MX h
   exact⟨wv,by simp only [lP,Ý];exact .inr h⟩
theorem DO {m b:Nat}: ∀ {l:List (Nat×Nat)},look m l=some b->tW b l=true
 | [],h=>by simp [look]at h
 |(a,c)::r,h=>by
  simp only [look]at h;simp only [tW,Ý];cases d:ò a m with
  |true=>simp only [d,Y,É]at h;left;rw [h];exact ĉ b
  |false=>simp only [d,ez]at h;right;exact DO h
structure eY (si:St) (θ:Asg) (s:CS) (L:Env):Prop where
 used: ∀m n v wv,lP m n v wv s.used=true->(si.aj n).bp.isSome=true/\(si.aj n).aG=v/\(si.aj n).wv=wv/\(m,θ.ob n,θ.fp n)∈L
 bm: ∀m b,look m s.bm=some b->(si.boxes b).isSome=true\/s.jb=false
 inj: ∀m m' b,look m s.bm=some b->look m' s.bm=some b->m=m'
def Rl (R:Nat->Prop) (θ:Asg) (cx:List Nat) (b:Nat):Prop:=R b\/ ∃n∈cx,b∈θ.fp n
def Bl (θ:Asg) (bm:List (Nat×Nat)) (m g:Nat):Prop:= ∃b,look m bm=some b/\θ.bx b=g
structure fW (s s':CS):Prop where
 bm: ∀m b,look m s.bm=some b->look m s'.bm=some b
 cx: ∀n∈s.cx,n∈s'.cx
 jb:s'.jb=s.jb
 qn:s.jb=false->s'.cx=s.cx
theorem fW.refl (s:CS):fW s s:=⟨fun _ _ h=>h,fun _ h=>h,rfl,fun _=>rfl⟩
theorem fW.trans {s s' d:CS} (a:fW s s') (b:fW s' d):fW s d:=⟨fun m c h=>b.bm m c (a.bm m c h),fun n h=>b.cx n (a.cx n h),b.jb.trans a.jb,fun h=>(b.qn (a.jb.trans h)).trans (a.qn h)⟩
theorem fW.rl {R:Nat->Prop} {θ:Asg} {s s':CS} (a:fW s s'): ∀b,Rl R θ s.cx b->Rl R θ s'.cx b:=fun _ h=>h.imp id fun⟨n,d,f⟩=>⟨n,a.cx n d,f⟩
theorem fW.bl {θ:Asg} {s s':CS} (a:fW s s'): ∀m g,Bl θ s.bm m g->Bl θ s'.bm m g:=fun m _ ⟨b,d,f⟩=>⟨b,a.bm m b d,f⟩
section
variable {w0 w:World} {F R:Nat→Prop} {si sc st':St} {θ:Asg} {l:Log} {β:Type} {fps:List Nat} {y:β} {nal:Bool}
def gw (w0:World) (F R:Nat->Prop) (θ:Asg) (w:World) (si:St) (fps:List Nat) (s:CS) (L:Env) (K:CS->M β) (y:β) (st':St) (rel:CS->List DV->Env->Prop):Prop:=
 ∃s' b A ds d,(K s').run b=some (y,st',d)/\bK w0 F R θ w si b (fps++A.fps)/\s'.dv=ds.reverse++s.dv/\fW s s'/\eY si θ s' (L++A)/\rel s' ds A
theorem bK.rel {fps:List Nat} (t:bK w0 F R θ w si sc fps) {cl:Cell} {v:Value} (h:az (hp w) R si θ cl v):az (hp w) R sc θ cl v:=az.step t.step _ _ h
theorem jF {s:CS} {L:Env} {K:CS->M β} {rel:CS->List DV->Env->Prop} (b:bK w0 F R θ w si sc fps) (d:eY si θ s L) (h:(K s).run sc=some (y,st',l)) (f:rel s [] []):gw w0 F R θ w si fps s L K y st' rel:=
 ⟨s,sc,[],[],l,h,by simpa [Env.fps]using b,rfl,fW.refl s,by simpa using d,f⟩
theorem qo {s:CS} {L:Env} {K:CS->M β} {rel:CS->List DV->Env->Prop} (f:bK w0 F R θ w si sc fps) (b:eY si θ s L) {d:DV} (h:(K (s.push d)).run sc=some (y,st',l)) (g:rel (s.push d) [d] []):gw w0 F R θ w si fps s L K y st' rel:=
 ⟨s.push d,sc,[],[d],l,h,by simpa [Env.fps]using f,rfl,⟨fun _ _ h=>h,fun _ h=>h,rfl,fun _=>rfl⟩,by simpa using (⟨b.used,b.bm,b.inj⟩:eY si θ (s.push d) L),g⟩
theorem MY {c b:CT} {x:Interp c} {z:Interp b} (h:dX c b x=some z):(⟨c,x⟩:DV)=⟨b,z⟩:=by
 obtain⟨e,h⟩:=jD h;subst e;simp only at h;rw [h]
theorem YK (_:Inv w0 F R si θ w) (p:bK w0 F R θ w si sc fps) {s:CS} {L:Env} (q:eY si θ s L) {c:CT} {cl:Cell} {v:Value} (g:az (hp w) R si θ cl v) {K:CS->M β} {nm:Nat}
  (h:(eb nm (.sh c) cl s K).run sc=some (y,st',l)):gw w0 F R θ w si fps s L K y st' (fun s' ds A=>aq (hp w) (Rl R θ s'.cx) (Bl θ s'.bm) nal L nm (.sh c) ds v A):=by
 have r:=p.rel g;have plain: ∀cl,az (hp w) R si θ cl v->(∀n aG vw,cl≠ .ob n aG vw)->(∀n aG wv pl f x,cl≠ .gs n aG wv pl f x)->(fc cl (.gd (bN c) (K (s.push ⟨c,ea c⟩))) fun f x=>.opt (dX f c x) fun y=>K (s.push ⟨c,y⟩)).run sc=some (y,st',l)->
   gw w0 F R θ w si fps s L K y st' (fun s' ds A=>aq (hp w) (Rl R θ s'.cx) (Bl θ s'.bm) nal L nm (.sh c) ds v A):=by
  intro cl g n1 n2 h;have t: ∀ {f:CT} {x:Interp f},bN f=true->aD (hp w) R false (enc f x) v []->(M.opt (dX f c x) fun y=>K (s.push ⟨c,y⟩)).run sc=some (y,st',l)->
    gw w0 F R θ w si fps s L K y st' (fun s' ds A=>aq (hp w) (Rl R θ s'.cx) (Bl θ s'.bm) nal L nm (.sh c) ds v A):=by
   intro f x k u h;obtain⟨z,j,h⟩:=M.eI h;obtain⟨e,j⟩:=jD j;subst e;simp only at j;subst j;exact qo p q h (by simp only [aq];exact⟨x,rfl,k,u.mono (fun b hb=>.inl hb),trivial⟩)
  have m: ∀ad,v=.slice ad 0 0->(M.gd (bN c) (K (s.push ⟨c,ea c⟩))).run sc=some (y,st',l)->
    gw w0 F R θ w si fps s L K y st' (fun s' ds A=>aq (hp w) (Rl R θ s'.cx) (Bl θ s'.bm) nal L nm (.sh c) ds v A):=by
   intro ad e h;obtain⟨k,h⟩:=M.aM h;refine qo p q h ?_
   simp only [aq];refine⟨_,rfl,k, ?_,trivial⟩
   subst e;exact(rO (R:=R) k).share (by simp)
  cases cl<;>simp only [fc]at h
  case nl=>simp only [az]at g;exact m none g h
  case z0=>simp only [az]at g;obtain⟨ad,g⟩:=g;exact m ad g h
  case sh f x=>simp only [az]at g;exact t g.1 g.2 h
  case kN f x=>simp only [az]at g;exact t g.1 g.2.1 h
  case ob n aG vw=>exact absurd rfl (n1 n aG vw)
  case gs n aG wv pl f x=>exact absurd rfl (n2 n aG wv pl f x)
  all_goals simp [M.run]at h
 have i: ∀ {f:CT} {x:Interp f} {n:Nat},s.jb=true->bN f=true->aD (hp w) (fun b=>b∈θ.fp n) false (enc f x) v []-> ∀ {l:Log},(M.opt (dX f c x) fun y=>K {s.push ⟨c,y⟩with cx:=n::s.cx}).run sc=some (y,st',l)->
   gw w0 F R θ w si fps s L K y st' (fun s' ds A=>aq (hp w) (Rl R θ s'.cx) (Bl θ s'.bm) nal L nm (.sh c) ds v A):=by
  intro f x n hle k u l h;obtain⟨z,j,h⟩:=M.eI h;obtain⟨e,j⟩:=jD j;subst e;simp only at j;subst j;refine⟨{s.push ⟨f,x⟩with cx:=n::s.cx},sc,[],[⟨f,x⟩],l,h,by simpa [Env.fps]using p,rfl,⟨fun _ _ h=>h,fun _ h=>by simp [h],rfl,fun h=>by rw [hle]at h;cases h⟩,by simpa using (⟨q.used,q.bm,q.inj⟩:eY si θ {s.push ⟨f,x⟩with cx:=n::s.cx} L), ?_⟩
  simp only [aq];exact⟨x,rfl,k,u.mono (fun b hb=>.inr ⟨n,by simp,hb⟩),trivial⟩
 cases cl<;>simp only [eb]at h
 case ob n aG vw=>
  obtain⟨hle,h⟩:=M.aM h;simp only [fc]at h;obtain⟨l1,h⟩:=M.fK h;cases hd:(sc.aj n).bp with
  |none=>simp [hd,M.run]at h
  |some d=>
   simp only [hd]at h;obtain⟨hv,h⟩:=M.aM h;obtain⟨ah,h⟩:=M.aM h;obtain⟨q1,q2, -, -⟩:=uk p.inv r hd (À hv) ah;exact i hle q1 q2 h
 case gs n aG wv pl f x=>
  obtain⟨hle,h⟩:=M.aM h;obtain⟨d,l1,hd,hv,hw,h⟩:=DG h;obtain⟨k,u⟩:=xZ r hd hv hw;exact i hle k u h
 all_goals exact plain _ g (by simp) (by simp) h
theorem YL (_:Inv w0 F R si θ w) (i:bK w0 F R θ w si sc fps) {s:CS} {L:Env} (f:eY si θ s L) {c:CT} {cl:Cell} {v:Value} (p:az (hp w) R si θ cl v) {K:CS->M β} {nm:Nat}
  (h:(eb nm (.own c) cl s K).run sc=some (y,st',l)):gw w0 F R θ w si fps s L K y st' (fun s' ds A=>aq (hp w) (Rl R θ s'.cx) (Bl θ s'.bm) nal L nm (.own c) ds v A):=by
 have ae:=i.rel p;have j: ∀ad,v=.slice ad 0 0-> ∀ {l:Log},(M.gd (bN c) (K (s.push ⟨c,ea c⟩))).run sc=some (y,st',l)->
   gw w0 F R θ w si fps s L K y st' (fun s' ds A=>aq (hp w) (Rl R θ s'.cx) (Bl θ s'.bm) nal L nm (.own c) ds v A):=by
  intro ad e l h;obtain⟨hs,h⟩:=M.aM h;refine⟨s.push ⟨c,ea c⟩,sc,[(nm,v,[])],[⟨c,ea c⟩],l,h,by simpa [Env.fps]using i,rfl,⟨fun _ _ h=>h,fun _ h=>h,rfl,fun _=>rfl⟩,⟨fun m n v wv hu=> ?_,f.bm,f.inj⟩, ?_⟩
  .obtain⟨k1,k2,k3,q⟩:=f.used m n v wv hu
   exact⟨k1,k2,k3,by simp [q]⟩
  .simp only [aq]
   subst e;exact⟨_,[],rfl,hs,rO hs,rfl⟩
 cases cl<;>simp only [eb]at h
 case nl=>simp only [az]at p;exact j none p h
 case z0=>simp only [az]at p;obtain⟨ad,p⟩:=p;exact j ad p h
 case ob n aG vw=>
  obtain⟨l1,h⟩:=M.fK h;simp only [lM]at h;obtain⟨l2,h⟩:=M.fK h;cases hd:(sc.aj n).bp with
  |none=>simp [hd,M.run]at h
  |some d=>
   simp only [hd]at h;obtain⟨hv,h⟩:=M.aM h;obtain⟨ao,h⟩:=M.aM h;have hv:=À hv;obtain⟨l3,h⟩:=M.oC h;obtain⟨z,t,h⟩:=M.eI h;obtain⟨u,r1,r2,r3,r4⟩:=MW i.inv ae hd hv ao;obtain⟨e,t⟩:=jD t;subst e;simp only at t;subst t;obtain⟨i1,i2,i3⟩:=i.inv.kill hd ((sc.aj n).aG+1) 0 (.inl (by omega))
   have r:bK w0 F R θ w sc {sc with aj:=aS sc.aj n ⟨(sc.aj n).aG+1,0,none⟩} u:=by
    refine⟨i1,i2,rfl,rfl,fun k=> ?_,r2,fun g hg=>.inr ⟨n,by simp [hd],r3 g hg⟩,fun g hg=>i3.free g (r3 g hg)⟩
    by_cases e:k=n
    .subst e;right;simp [bC]
    .left;simp [aZ _ _ e]
   have af:si.aj n=sc.aj n:=((i.qm n).resolve_right (fun e=>by simp [hd]at e)).symm
   refine⟨_,_,[(nm,v,u)],[⟨d.c,cD d.c vw d.x⟩],l3,h,by simpa [Env.fps]using i.trans r,rfl,⟨fun _ _ h=>h,fun _ h=>h,rfl,fun _=>rfl⟩,⟨fun m n' v' wv hu=> ?_,f.bm,f.inj⟩, ?_⟩
   .cases vw with
    |some _=>
     obtain⟨k1,k2,k3,q⟩:=f.used m n' v' wv hu;exact⟨k1,k2,k3,by simp [q]⟩
    |none=>
     simp only [Option.isNone_none,Y,lP,Ý,Õ]at hu;rcases hu with⟨h1,h2,h3,h4⟩|hu
     .have h1:=À h1
      have h2:=À h2;have h3:=À h3;have h4:=À h4;subst h1 h2 h3 h4;rw [af];refine⟨by simp [hd],hv.symm,rfl, ?_⟩
      obtain⟨r5,r6⟩:=r4 rfl;rw [<-r5,<-r6];simp
     .obtain⟨k1,k2,k3,q⟩:=f.used m n' v' wv hu
      exact⟨k1,k2,k3,by simp [q]⟩
   .simp only [aq]
    exact⟨_,u,rfl,(i.inv.aj n d hd).1,r1.mono (fun b hb=>.inl hb),rfl⟩
 case gs n aG wv pl c' x=>
  obtain⟨z,st2,u,l1,h,r,hs,t⟩:=um i.inv ae h;refine⟨_,_,[(nm,v,u)],[⟨c,z⟩],l1,h,by simpa [Env.fps]using i.trans r,rfl,⟨fun _ _ h=>h,fun _ h=>h,rfl,fun _=>rfl⟩,⟨fun m n' v' wv hu=> ?_,f.bm,f.inj⟩, ?_⟩
  .obtain⟨k1,k2,k3,q⟩:=f.used m n' v' wv hu
   exact⟨k1,k2,k3,by simp [q]⟩
  .simp only [aq]
   exact⟨z,u,rfl,hs,t.mono (fun b hb=>.inl hb),rfl⟩
 all_goals simp [M.run]at h
end
end Go.Ev
namespace Go.Ev
section
variable {w0 w:World} {F R:Nat→Prop} {si:St} {θ:Asg} {β:Type} {y:β}
theorem YM {nal:Bool} {sc st':St} {l:Log} {fps:List Nat} (tk:bK w0 F R θ w si sc fps) {s:CS} {L:Env} (u:eY si θ s L) {m off b j:Nat} {v:Value} (z:az (hp w) R si θ (.pb b j) v) {K:CS->M β} {nm:Nat}
  (h:(eb nm (.pb m off) (.pb b j) s K).run sc=some (y,st',l)):gw w0 F R θ w si fps s L K y st' (fun s' ds A=>aq (hp w) (Rl R θ s'.cx) (Bl θ s'.bm) nal L nm (.pb m off) ds v A):=by
 simp only [eb]at h;obtain⟨ho,d⟩:=M.aM h;clear h;have ho:=À ho;subst ho;have h:=d;clear d;simp only [az]at z;split at h
 .rename_i b' hb
  obtain⟨he,d⟩:=M.aM h;clear h;have he:=À he;subst he;refine jF tk u d ?_
  simp only [aq];exact⟨trivial,trivial,_,⟨b,hb,rfl⟩,z.2⟩
 .rename_i hb
  obtain⟨k,h⟩:=M.aM h;have k:tW b s.bm=false:=by simpa using k
  have f: ∀m',look m' ((m,b)::s.bm)=cond (ò m m') (some b) (look m' s.bm):=fun _=>rfl
  have p: ∀m' b',look m' s.bm=some b'->look m' ((m,b)::s.bm)=some b':=fun m' b' g=>by
   rw [f];cases i:ò m m' with
   |true=>rw [<-À i,hb]at g;cases g
   |false=>exact g
  refine⟨{s with bm:=(m,b)::s.bm},sc,[],[],l,h,by simpa [Env.fps]using tk,rfl,⟨p,fun _ h=>h,rfl,fun _=>rfl⟩, ?_, ?_⟩
  .rw [ë]
   refine⟨u.used,fun m' b' g=> ?_,fun m1 m2 b' q d=> ?_⟩
   .simp only [f]at g
    cases i:ò m m' with
    |true=>simp only [i,Y,É]at g;subst g;exact .inl z.1
    |false=>simp only [i,ez]at g;exact u.bm m' b' g
   .simp only [f]at q d
    cases r:ò m m1<;>cases t:ò m m2<;>simp only [r,t,Y,ez,É]at q d
    .exact u.inj m1 m2 b' q d
    .subst d;rw [DO q]at k;cases k
    .subst q;rw [DO d]at k;cases k
    .rw [<-À r,<-À t]
  .simp only [aq]
   refine⟨trivial,trivial,_,⟨b, ?_,rfl⟩,z.2⟩
   rw [f,ĉ];rfl
mutual
theorem yf (q:Inv w0 F R si θ w): ∀(k:CK) {sc st':St} {l:Log} {fps:List Nat} {s:CS} {L:Env} {cl:Cell} {v:Value} {K:CS->M β} {nm:Nat},bK w0 F R θ w si sc fps->eY si θ s L->az (hp w) R si θ cl v->
  (eb nm k cl s K).run sc=some (y,st',l)->gw w0 F R θ w si fps s L K y st' (fun s' ds A=>aq (hp w) (Rl R θ s'.cx) (Bl θ s'.bm) false L nm k ds v A)
 |.undef,sc,st',l,fps,s,L,cl,v,K,nm,p,i,g,h=>by
  simp only [eb]at h;exact jF p i h (by simp only [aq];exact⟨trivial,trivial⟩)
 |.bool,sc,st',l,fps,s,L,cl,v,K,nm,p,i,g,h=>by
  cases cl<;>simp only [eb]at h<;>try (simp [M.run]at h;done)
  simp only [az]at g;exact qo p i h (by simp only [aq];exact⟨_,rfl,g,trivial⟩)
 |.int k,sc,st',l,fps,s,L,cl,v,K,nm,p,i,g,h=>by
  cases cl<;>simp only [eb]at h<;>try (simp [M.run]at h;done)
  obtain⟨hk,h2⟩:=M.aM h;clear h;have hk:=of_decide_eq_true hk;subst hk;have h:=h2;clear h2;simp only [az]at g;exact qo p i h (by simp only [aq];exact⟨_,rfl,by rw [uo g.2];exact g.1,by rw [uo g.2];exact g.2,trivial⟩)
 |.str,sc,st',l,fps,s,L,cl,v,K,nm,p,i,g,h=>by
  cases cl<;>simp only [eb]at h<;>try (simp [M.run]at h;done)
  simp only [az]at g;exact qo p i h (by simp only [aq];exact⟨_,rfl,g.1,g.2,trivial⟩)
 |.er,sc,st',l,fps,s,L,cl,v,K,nm,p,i,g,h=>by
  cases cl<;>simp only [eb]at h<;>try (simp [M.run]at h;done)
  simp only [az]at g;exact qo p i h (by simp only [aq];exact⟨_,rfl,g,trivial⟩)
 |.sh c,sc,st',l,fps,s,L,cl,v,K,nm,p,i,g,h=>YK q p i g h
 |.own c,sc,st',l,fps,s,L,cl,v,K,nm,p,i,g,h=>YL q p i g h
 |.nl,sc,st',l,fps,s,L,cl,v,K,nm,p,i,g,h=>by
  cases cl<;>simp only [eb]at h<;>try (simp [M.run]at h;done)
  simp only [az]at g;exact jF p i h (by simp only [aq];exact⟨trivial,g,trivial⟩)
 |.al m,sc,st',l,fps,s,L,cl,v,K,nm,p,i,g,h=>by
  cases cl with
  |ob n aG vw=>
   cases vw with
   |some _=>simp [eb,M.run]at h
   |none=>
    simp only [eb]at h;obtain⟨hu,h⟩:=M.aM h;obtain⟨wv,hu⟩:=MX hu;obtain⟨k1,k2,k3,k4⟩:=i.used m n aG wv hu;simp only [az]at g;have hv:=g.2 k2.symm k1;subst hv;exact jF p i h (by simp only [aq];exact⟨trivial,trivial,trivial,_,k4⟩)
  |_=>simp [eb,M.run]at h
 |.gs m c,sc,st',l,fps,s,L,cl,v,K,nm,p,i,g,h=>by
  cases cl<;>simp only [eb]at h<;>try (simp [M.run]at h;done)
  rename_i n aG wv pl c' x;obtain⟨hu,h⟩:=M.aM h;obtain⟨z,hz,h⟩:=M.eI h;obtain⟨e,hz⟩:=jD hz;subst e;simp only at hz;subst hz;obtain⟨k1,k2,k3,k4⟩:=i.used m n aG wv hu;obtain⟨d,hd⟩:=Ú.1 k1;obtain⟨q1,q2⟩:=xZ g hd k2.symm k3.symm;exact qo p i h (by simp only [aq];exact⟨trivial,trivial,x,_,_,rfl,q1,k4,q2⟩)
 |.pb m off,sc,st',l,fps,s,L,cl,v,K,nm,p,i,g,h=>by
  cases cl with
  |pb b a6=>exact YM p i g h
  |_=>simp [eb,M.run]at h
 |.eV,sc,st',l,fps,s,L,cl,v,K,nm,p,i,g,h=>by
  cases cl<;>simp only [eb]at h<;>try (simp [M.run]at h;done)
  simp only [az]at g;exact jF p i h (by simp only [aq];exact⟨trivial,g,trivial⟩)
 |.ft,sc,st',l,fps,s,L,cl,v,K,nm,p,i,g,h=>by
  cases cl<;>simp only [eb]at h<;>try (simp [M.run]at h;done)
  simp only [az]at g;exact jF p i h (by simp only [aq];exact⟨trivial,g,trivial⟩)
 |.fn f a b,sc,st',l,fps,s,L,cl,v,K,nm,p,i,g,h=>by
  cases cl<;>simp only [eb]at h<;>try (simp [M.run]at h;done)
  rename_i f' a' b';obtain⟨hf,h2⟩:=M.aM h;clear h;have hf:=À hf;subst hf;have h:=h2;clear h2;simp only [az]at g;obtain⟨va,vb,rfl,ha,hb⟩:=g;obtain⟨s1,aj,A1,d1,l1,h,r,e1,x1,c1,r1⟩:=qp q a p i ha h;obtain⟨s2,t,A2,d2,l2,h,u,e2,x2,c2,r2⟩:=qp q b r c1 hb h;refine⟨s2,t,A1++A2,d1++d2,l2,h,by rw [Env.dj,<-Á];exact u,by rw [e2,e1];simp,x1.trans x2,by rw [<-Á];exact c2, ?_⟩
  simp only [aq];exact⟨va,vb,d1,d2,A1,A2,rfl,rfl,rfl,r1.mono x2.rl x2.bl,r2⟩
theorem qp (q:Inv w0 F R si θ w): ∀(ks:List CK) {sc st':St} {l:Log} {fps:List Nat} {s:CS} {L:Env} {cs:List Cell} {vs:List Value} {K:CS->M β} {nm:Nat->Nat} {j:Nat},bK w0 F R θ w si sc fps->eY si θ s L->aI (hp w) R si θ cs vs->
  (kc nm j ks cs s K).run sc=some (y,st',l)->gw w0 F R θ w si fps s L K y st' (fun s' ds A=>bw (hp w) (Rl R θ s'.cx) (Bl θ s'.bm) false L nm j ks ds vs A)
 | [],sc,st',l,fps,s,L,cs,vs,K,nm,j,p,i,g,h=>by
  cases cs with
  |cons _ _=>simp [kc,M.run]at h
  |nil=>
   simp only [kc]at h;simp only [aI]at g;exact jF p i h (by simp only [bw];exact⟨trivial,g,trivial⟩)
 |k::ks,sc,st',l,fps,s,L,cs,vs,K,nm,j,p,i,g,h=>by
  cases cs with
  |nil=>simp [kc,M.run]at h
  |cons c cs=>
   simp only [kc]at h;simp only [aI]at g;obtain⟨v,ay,rfl,hv,a1⟩:=g;obtain⟨s1,aj,A1,d1,l1,h,r,e1,x1,c1,r1⟩:=yf q k p i hv.1 h;obtain⟨s2,t,A2,d2,l2,h,u,e2,x2,c2,r2⟩:=qp q ks r c1 a1 h;refine⟨s2,t,A1++A2,d1++d2,l2,h,by rw [Env.dj,<-Á];exact u,by rw [e2,e1];simp,x1.trans x2,by rw [<-Á];exact c2, ?_⟩
   simp only [bw];exact⟨v,ay,d1,d2,A1,A2,rfl,rfl,rfl,hv.2,r1.mono x2.rl x2.bl,r2⟩
end
theorem yg (r:Inv w0 F R si θ w): ∀(ks:List bq) {sc st':St} {l:Log} {fps:List Nat} {s:CS} {L:Env} {cs:List TV} {vs:List Value} {K:CS->M β} {nm:Nat->Nat} {j:Nat},bK w0 F R θ w si sc fps->eY si θ s L->bW (hp w) R si θ cs vs->
  (gq nm j ks cs s K).run sc=some (y,st',l)->gw w0 F R θ w si fps s L K y st' (fun s' ds A=>cu (hp w) (Rl R θ s'.cx) (Bl θ s'.bm) false L nm j ks ds vs A)
 | [],sc,st',l,fps,s,L,cs,vs,K,nm,j,t,u,z,h=>by
  cases cs with
  |cons _ _=>simp [gq,M.run]at h
  |nil=>
   simp only [gq]at h;simp only [bW]at z;exact jF t u h (by simp only [cu];exact⟨trivial,z,trivial⟩)
 |k::ks,sc,st',l,fps,s,L,cs,vs,K,nm,j,t,u,z,h=>by
  cases cs with
  |nil=>cases k<;>simp [gq,M.run]at h
  |cons c cs=>
   simp only [bW]at z;obtain⟨v,i,rfl,m,p⟩:=z;cases k with
   |aP _=>simp [gq,M.run]at h
   |agg f=>
    cases c with
    |one _=>simp [gq,M.run]at h
    |aP _=>simp [gq,M.run]at h
    |agg cc=>
     simp only [gq]at h;simp only [aV]at m;obtain⟨arr,rfl,m⟩:=m;obtain⟨s1,aj,A1,d1,l1,h,q,e1,x1,c1,r1⟩:=qp r f t u m h;obtain⟨s2,b,A2,d2,l2,h,d,e2,g,c2,r2⟩:=yg r ks q c1 p h;refine⟨s2,b,A1++A2,d1++d2,l2,h,by rw [Env.dj,<-Á];exact d,by rw [e2,e1];simp,x1.trans g,by rw [<-Á];exact c2, ?_⟩
     simp only [cu];exact⟨arr,i,d1,d2,A1,A2,rfl,rfl,rfl,r1.mono g.rl g.bl,r2⟩
   |one f=>
    have ah:f=.undef->(gq nm (j+1) ks cs s K).run sc=some (y,st',l):=fun e=>by
     subst e;simpa only [gq]using h
    by_cases hk:f=.undef
    .have h':=ah hk
     clear h ah;subst hk;obtain⟨s2,b,A2,d2,l2,h,d,e2,g,c2,r2⟩:=yg r ks t u p h';refine⟨s2,b,A2,d2,l2,h,d,e2,g,c2, ?_⟩
     simp only [cu];exact⟨v,i,[],d2,[],A2,rfl,rfl,rfl,.inl trivial,by simp only [aq];exact⟨trivial,trivial⟩,by simpa using r2⟩
    .cases c with
     |agg _=>cases f<;>simp [gq,M.run]at h hk
     |aP _=>cases f<;>simp [gq,M.run]at h hk
     |one cc=>
      have h':(eb (nm j) f cc s fun s=>gq nm (j+1) ks cs s K).run sc=some (y,st',l):=by
       cases f<;>first|exact absurd rfl hk|simpa only [gq]using h
      simp only [aV]at m;obtain⟨s1,aj,A1,d1,l1,h,q,e1,x1,c1,r1⟩:=yf r f t u m.1 h';obtain⟨s2,b,A2,d2,l2,h,d,e2,g,c2,r2⟩:=yg r ks q c1 p h;refine⟨s2,b,A1++A2,d1++d2,l2,h,by rw [Env.dj,<-Á];exact d,by rw [e2,e1];simp,x1.trans g,by rw [<-Á];exact c2, ?_⟩
      simp only [cu];refine⟨v,i,d1,d2,A1,A2,rfl,rfl,rfl, ?_,r1.mono g.rl g.bl,r2⟩
      rcases m.2 with e|e
      .subst e
       cases f<;>first|exact absurd rfl hk|simp [eb,fc,M.run]at h'
      .exact .inr e
theorem DP (t:Inv w0 F R si θ w) (k:bq) {sc st':St} {l:Log} {fps:List Nat} {s:CS} {L:Env} {c:TV} {v:Value} {K:CS->M β} {nm:Nat->Nat} (q:bK w0 F R θ w si sc fps) (r:eY si θ s L) (b:aV (hp w) R si θ c v)
  (h:(jc nm k c s K).run sc=some (y,st',l)):gw w0 F R θ w si fps s L K y st' (fun s' ds A=>bX (hp w) (Rl R θ s'.cx) (Bl θ s'.bm) false L nm k ds v A):=by
 cases k with
 |aP ks=>
  cases c with
  |one _=>simp [jc,M.run]at h
  |agg _=>simp [jc,M.run]at h
  |aP cs=>
   simp only [jc]at h;simp only [aV]at b;obtain⟨arr,rfl,b⟩:=b;obtain⟨s1,d,A1,d1,i,h,f,j,m,c1,p⟩:=yg t ks q r b h;exact⟨s1,d,A1,d1,i,h,f,j,m,c1,by simp only [bX];exact⟨arr,rfl,p⟩⟩
 |agg ks=>
  cases c with
  |one _=>simp [jc,M.run]at h
  |aP _=>simp [jc,M.run]at h
  |agg cs=>
   simp only [jc]at h;simp only [aV]at b;obtain⟨arr,rfl,b⟩:=b;obtain⟨s1,d,A1,d1,i,h,f,j,m,c1,p⟩:=qp t ks q r b h;exact⟨s1,d,A1,d1,i,h,f,j,m,c1,by simp only [bX];exact⟨arr,rfl,p⟩⟩
 |one g=>
  by_cases hk:g=.undef
  .subst hk
   simp only [jc]at h;exact jF q r h (by simp only [bX,aq];exact⟨.inl trivial,trivial,trivial⟩)
  .cases c with
   |agg _=>cases g<;>simp [jc,M.run]at h hk
   |aP _=>cases g<;>simp [jc,M.run]at h hk
   |one z=>
    have u:(eb (nm 0) g z s K).run sc=some (y,st',l):=by
     cases g<;>first|exact absurd rfl hk|simpa only [jc]using h
    simp only [aV]at b;obtain⟨s1,d,A1,d1,i,h,f,j,m,c1,p⟩:=yf t g q r b.1 u;refine⟨s1,d,A1,d1,i,h,f,j,m,c1, ?_⟩
    simp only [bX];refine⟨?_,p⟩
    rcases b.2 with e|e
    .subst e
     cases g<;>first|exact absurd rfl hk|simp [eb,fc,M.run]at u
    .exact .inr e
end
end Go.Ev
namespace Go.Ev
theorem qq {c:CT} {x z:Interp c} (h:dX c c x=some z):x=z:=by
 obtain⟨e,h⟩:=jD h;exact h
def St.cZ (s:St) (Bb:Nat->Option (List Cell)):St:={s with boxes:=Bb}
structure iw (w0:World) (F R:Nat->Prop) (B:Nat->Nat->Prop) (nal:Bool) (Bb:Nat->Option (List Cell)) (w:World) (su:St) (θ:Asg) (L:Env):Prop where
 inv:Inv w0 F R (su.cZ Bb) θ w
 env:nal=false-> ∀e∈L,(su.aj e.1).bp.isSome=true/\θ.ob e.1=e.2.1/\θ.fp e.1=e.2.2
 bx: ∀m g,B m g->(su.boxes m).isSome=true->(Bb m).isSome=true/\θ.bx m=g
structure fg (w0:World) (F:Nat->Prop) (st:St) (θ:Asg) (fps:List Nat):Prop where
 nodup:fps.Nodup
 free: ∀g∈fps,¬cU st θ g/\(F g\/w0.heap.size<=g)
section
variable {w0 w:World} {F R:Nat→Prop} {B:Nat→Nat→Prop} {nal:Bool} {Bb:Nat→Option (List Cell)} {β γ:Type}
def rP (w0:World) (F R:Nat->Prop) (B:Nat->Nat->Prop) (nal:Bool) (Bb:Nat->Option (List Cell)) (w:World) (su:St) (θ:Asg) (L A:Env) (K:γ->List DV->M β) (rest:List DV) (y:β) (st':St) (rel:St->Asg->γ->Prop):Prop:=
 ∃x b θ' d,(K x rest).run b=some (y,st',d)/\b.boxes=su.boxes/\b.tmps=su.tmps/\iw w0 F R B nal Bb w b θ' (L++A)/\
  Step R (su.cZ Bb) θ (hp w) (b.cZ Bb) θ' (hp w)/\rel b θ' x/\θ'.bx=θ.bx/\ ∀g,cU (b.cZ Bb) θ' g->cU (su.cZ Bb) θ g\/g∈A.fps
theorem iy {su st':St} {θ:Asg} {L:Env} {K:γ->List DV->M β} {rest:List DV} {y:β} {l:Log} {rel:St->Asg->γ->Prop} {x:γ} (hu:iw w0 F R B nal Bb w su θ L) (h:(K x rest).run su=some (y,st',l)) (b:rel su θ x):
  rP w0 F R B nal Bb w su θ L [] K rest y st' rel:=
 ⟨x,su,θ,l,h,rfl,rfl,by simpa using hu,Step.refl _ _ _ _,b,rfl,fun _ h=>.inl h⟩
theorem fg.split {st st1:St} {θ θ1:Asg} {A1 A2:Env} (h:fg w0 F st θ (Env.fps (A1++A2))) (i: ∀g,cU st1 θ1 g->cU st θ g\/g∈A1.fps):fg w0 F st1 θ1 A2.fps:=by
 rw [Env.dj]at h;obtain⟨m,j,k⟩:=Ä.1 h.nodup;refine⟨j,fun g b=>⟨fun d=> ?_,(h.free g (by simp [b])).2⟩⟩
 rcases i g d with f|f
 .exact(h.free g (by simp [b])).1 f
 .exact k g f g b rfl
theorem fg.left {st:St} {θ:Asg} {A1 A2:Env} (h:fg w0 F st θ (Env.fps (A1++A2))):fg w0 F st θ A1.fps:=by
 rw [Env.dj]at h;exact⟨(Ä.1 h.nodup).1,fun g b=>h.free g (by simp [b])⟩
theorem YN {su st':St} {θ:Asg} {L:Env} {c:CT} {x:Interp c} {v:Value} {fp:List Nat} {nm:Nat} {K:Cell->List DV->M β} {rest:List DV} {y:β} {l:Log} (hu:iw w0 F R B nal Bb w su θ L) (q:bN c=true) (r:aD (hp w) R true (enc c x) v fp)
  (m:fg w0 F (su.cZ Bb) θ fp) (h:(fV nm c x fun v=>K v rest).run su=some (y,st',l)):
  rP w0 F R B nal Bb w su θ L [(nm,v,fp)] K rest y st' (fun i θ' cl=>az (hp w) R (i.cZ Bb) θ' cl v):=by
 obtain⟨p,s,h⟩:=MK h;obtain⟨i1,i2⟩:=hu.inv.newObj (k:=nm) (d:=⟨c,x⟩) (hd:=v) (fp:=fp) (w':=w) p q ((su.aj nm).aG+1) 0 (Nat.lt_succ_self _) (Ô _) rfl rfl rfl (fun _ _ _=>rfl) r m.nodup m.free
 refine⟨_,_,{θ with ob:=aS θ.ob nm v,fp:=aS θ.fp nm fp},s,h,rfl,rfl,⟨i1,fun t e he=> ?_,hu.bx⟩,i2, ?_,rfl,fun g f=> ?_⟩
 .rcases Ã.1 he with he|he
  .obtain⟨k1,k2,k3⟩:=hu.env t e he
   have j:e.1≠nm:=fun u=>by rw [u,p]at k1;cases k1
   simp only [aZ _ _ j];exact⟨k1,k2,k3⟩
  .simp only [List.mem_singleton]at he
   subst he;simp [bC]
 .simp [az,St.cZ,bC]
 .rcases f with⟨b,z,e⟩|⟨k,hk,f⟩
  .exact .inl (.inl ⟨b,z,e⟩)
  .by_cases e:k=nm
   .subst e;simp only [bC]at f;right;simpa [Env.fps]using f
   .simp only [St.cZ,aZ _ _ e]at hk f
    exact .inl (.inr ⟨k,hk,f⟩)
mutual
theorem DQ: ∀(k:CK) {su st':St} {θ:Asg} {L:Env} {nm:Nat} {ds rest:List DV} {v:Value} {A:Env} {K:Cell->List DV->M β} {y:β} {l:Log},iw w0 F R B nal Bb w su θ L->aq (hp w) R B nal L nm k ds v A->fg w0 F (su.cZ Bb) θ A.fps->
  (fJ nm k (ds++rest) K).run su=some (y,st',l)->rP w0 F R B nal Bb w su θ L A K rest y st' (fun s θ' cl=>az (hp w) R (s.cZ Bb) θ' cl v)
 |.undef,su,st',θ,L,nm,ds,rest,v,A,K,y,l,hu,hk,p,h=>by
  simp only [aq]at hk;obtain⟨rfl,rfl⟩:=hk;simp only [Â,fJ]at h;exact iy hu h (by simp [az])
 |.bool,su,st',θ,L,nm,ds,rest,v,A,K,y,l,hu,hk,p,h=>by
  simp only [aq]at hk;obtain⟨x,rfl,rfl,rfl⟩:=hk;simp only [Ö,Â,fJ]at h;obtain⟨z,q,h⟩:=M.eI h;obtain rfl:=qq q;exact iy hu h (by simp [az])
 |.int k,su,st',θ,L,nm,ds,rest,v,A,K,y,l,hu,hk,p,h=>by
  simp only [aq]at hk;obtain⟨x,rfl,rfl,r,rfl⟩:=hk;simp only [Ö,Â,fJ]at h;obtain⟨z,q,h⟩:=M.eI h;obtain rfl:=qq q;exact iy hu h (by simp only [az];exact⟨trivial,r⟩)
 |.str,su,st',θ,L,nm,ds,rest,v,A,K,y,l,hu,hk,p,h=>by
  simp only [aq]at hk;obtain⟨x,rfl,rfl,r,rfl⟩:=hk;simp only [Ö,Â,fJ]at h;obtain⟨z,q,h⟩:=M.eI h;obtain rfl:=qq q;exact iy hu h (by simp only [az];exact⟨trivial,r⟩)
 |.er,su,st',θ,L,nm,ds,rest,v,A,K,y,l,hu,hk,p,h=>by
  simp only [aq]at hk;obtain⟨x,rfl,r,rfl⟩:=hk;simp only [Ö,Â,fJ]at h;obtain⟨z,q,h⟩:=M.eI h;obtain rfl:=qq q;exact iy hu h (by simp only [az];exact r)
 |.sh c,su,st',θ,L,nm,ds,rest,v,A,K,y,l,hu,hk,p,h=>by
  simp only [aq]at hk;obtain⟨x,rfl,hs,r,rfl⟩:=hk;simp only [Ö,Â,fJ]at h;obtain⟨z,q,h⟩:=M.eI h;obtain rfl:=qq q;exact iy hu h (by simp only [az];exact⟨hs,r⟩)
 |.own c,su,st',θ,L,nm,ds,rest,v,A,K,y,l,hu,hk,p,h=>by
  simp only [aq]at hk;obtain⟨x,fp,rfl,hs,r,rfl⟩:=hk;simp only [Ö,Â,fJ]at h;obtain⟨z,q,h⟩:=M.eI h;obtain rfl:=qq q;exact YN hu hs r (by simpa [Env.fps]using p) h
 |.nl,su,st',θ,L,nm,ds,rest,v,A,K,y,l,hu,hk,p,h=>by
  simp only [aq]at hk;obtain⟨rfl,rfl,rfl⟩:=hk;simp only [Â,fJ]at h;exact iy hu h (by simp [az])
 |.al m,su,st',θ,L,nm,ds,rest,v,A,K,y,l,hu,hk,p,h=>by
  simp only [aq]at hk;obtain⟨hn,rfl,rfl,fp,hm⟩:=hk;simp only [Â,fJ]at h;obtain⟨l1,h⟩:=M.fK h;obtain⟨i,h⟩:=M.aM h;simp only [Õ]at i;have hv:=À i.2;obtain⟨k1,k2,k3⟩:=hu.env hn _ hm;refine iy hu h ?_
  simp only [az,St.cZ];exact⟨Ĉ hv.symm,fun _ _=>k2.symm⟩
 |.gs m c,su,st',θ,L,nm,ds,rest,v,A,K,y,l,hu,hk,p,h=>by
  simp only [aq]at hk;obtain⟨hn,rfl,x,hd,fp,rfl,hs,hm,r⟩:=hk;simp only [Ö,Â,fJ]at h;obtain⟨z,q,h⟩:=M.eI h;obtain rfl:=qq q;obtain⟨l1,h⟩:=M.fK h;obtain⟨i,h⟩:=M.aM h;simp only [Õ]at i;have hv:=À i.2.1;obtain⟨k1,k2,k3⟩:=hu.env hn _ hm;refine iy hu h ?_
  simp only [az,St.cZ];refine⟨hs,Ĉ hv.symm,fun _=>⟨ø _,fun _ d _=>⟨?_,by simp⟩⟩⟩
  simp only at k3;rw [k3];exact r
 |.pb m off,su,st',θ,L,nm,ds,rest,v,A,K,y,l,hu,hk,p,h=>by
  simp only [aq]at hk;obtain⟨rfl,rfl,g,hb,rfl⟩:=hk;simp only [Â,fJ]at h;obtain⟨cs,l1,ai,h⟩:=M.qk h;obtain⟨k1,k2⟩:=hu.bx m g hb (by simp [ai])
  refine iy hu h ?_
  simp only [az,St.cZ];exact⟨k1,by rw [k2]⟩
 |.eV,su,st',θ,L,nm,ds,rest,v,A,K,y,l,hu,hk,p,h=>by
  simp only [aq]at hk;obtain⟨rfl,rfl,rfl⟩:=hk;simp only [Â,fJ]at h;exact iy hu h (by simp [az])
 |.ft,su,st',θ,L,nm,ds,rest,v,A,K,y,l,hu,hk,p,h=>by
  simp only [aq]at hk;obtain⟨rfl,rfl,rfl⟩:=hk;simp only [Â,fJ]at h;exact iy hu h (by simp [az])
 |.fn f a b,su,st',θ,L,nm,ds,rest,v,A,K,y,l,hu,hk,p,h=>by
  simp only [aq]at hk;obtain⟨va,vb,d1,d2,A1,A2,rfl,rfl,rfl,h1,h2⟩:=hk;simp only [fJ,Á]at h;obtain⟨xs,ao,θ1,l1,h,b1,t1,u1,s1,r1,x1,o1⟩:=qs a hu h1 p.left h;obtain⟨ys,t,u,l2,h,b2,t2,u2,s2,r2,x2,o2⟩:=qs b u1 h2 (p.split o1) h;refine⟨.fn f xs ys,t,u,l2,h,b2.trans b1,t2.trans t1,by rw [<-Á];exact u2,s1.trans s2, ?_,x2.trans x1,fun g i=> ?_⟩
  .simp only [az]
   exact⟨va,vb,rfl,aI.step s2 _ _ r1,r2⟩
  .rw [Env.dj]
   rcases o2 g i with i|i
   .rcases o1 g i with i|i
    .exact .inl i
    .exact .inr (by simp [i])
   .exact .inr (by simp [i])
theorem qs: ∀(ks:List CK) {su st':St} {θ:Asg} {L:Env} {nm:Nat->Nat} {j:Nat} {ds rest:List DV} {vs:List Value} {A:Env} {K:List Cell->List DV->M β} {y:β} {l:Log},iw w0 F R B nal Bb w su θ L->bw (hp w) R B nal L nm j ks ds vs A->fg w0 F (su.cZ Bb) θ A.fps->
  (lQ nm j ks (ds++rest) K).run su=some (y,st',l)->rP w0 F R B nal Bb w su θ L A K rest y st' (fun s θ' cs=>aI (hp w) R (s.cZ Bb) θ' cs vs)
 | [],su,st',θ,L,nm,j,ds,rest,vs,A,K,y,l,hu,hk,p,h=>by
  simp only [bw]at hk;obtain⟨rfl,rfl,rfl⟩:=hk;simp only [Â,lQ]at h;exact iy hu h (by simp [aI])
 |k::ks,su,st',θ,L,nm,j,ds,rest,vs,A,K,y,l,hu,hk,p,h=>by
  simp only [bw]at hk;obtain⟨v,bf,d1,d2,A1,A2,rfl,rfl,rfl,h0,h1,h2⟩:=hk;simp only [lQ,Á]at h;obtain⟨x,ao,θ1,l1,h,b1,t1,u1,s1,r1,x1,o1⟩:=DQ k hu h1 p.left h;obtain⟨ys,t,u,l2,h,b2,t2,u2,s2,r2,x2,o2⟩:=qs ks u1 h2 (p.split o1) h;refine⟨x::ys,t,u,l2,h,b2.trans b1,t2.trans t1,by rw [<-Á];exact u2,s1.trans s2, ?_,x2.trans x1,fun g i=> ?_⟩
  .simp only [aI]
   exact⟨v,bf,rfl,⟨az.step s2 _ _ r1,h0⟩,r2⟩
  .rw [Env.dj]
   rcases o2 g i with i|i
   .rcases o1 g i with i|i
    .exact .inl i
    .exact .inr (by simp [i])
   .exact .inr (by simp [i])
end
theorem yh: ∀(ks:List bq) {su st':St} {θ:Asg} {L:Env} {nm:Nat->Nat} {j:Nat} {ds rest:List DV} {vs:List Value} {A:Env} {K:List TV->List DV->M β} {y:β} {l:Log},iw w0 F R B nal Bb w su θ L->cu (hp w) R B nal L nm j ks ds vs A->fg w0 F (su.cZ Bb) θ A.fps->
  (pZ nm j ks (ds++rest) K).run su=some (y,st',l)->rP w0 F R B nal Bb w su θ L A K rest y st' (fun ah θ' cs=>bW (hp w) R (ah.cZ Bb) θ' cs vs)
 | [],su,st',θ,L,nm,j,ds,rest,vs,A,K,y,l,hu,hk,m,h=>by
  simp only [cu]at hk;obtain⟨rfl,rfl,rfl⟩:=hk;simp only [Â,pZ]at h;exact iy hu h (by simp [bW])
 |.one k::ks,su,st',θ,L,nm,j,ds,rest,vs,A,K,y,l,hu,hk,m,h=>by
  simp only [cu]at hk;obtain⟨v,i,d1,d2,A1,A2,rfl,rfl,rfl,p,q,h2⟩:=hk;simp only [pZ,Á]at h;rcases p with p|p
  .subst p
   simp only [aq]at q;obtain⟨rfl,rfl⟩:=q;simp only [Â,fJ]at h;obtain⟨r,d,f,s,h,t,t2,u,s2,z,x2,o2⟩:=yh ks hu (by simpa using h2) m h
   refine⟨.one .undef::r,d,f,s,h,t,t2,u,s2, ?_,x2,o2⟩
   simp only [bW];exact⟨v,i,rfl,lS _,z⟩
  .obtain⟨x,ai,θ1,l1,h,b1,t1,u1,s1,r1,x1,o1⟩:=DQ k hu q m.left h
   obtain⟨r,d,f,s,h,t,t2,u,s2,z,x2,o2⟩:=yh ks u1 h2 (m.split o1) h;refine⟨.one x::r,d,f,s,h,t.trans b1,t2.trans t1,by rw [<-Á];exact u,s1.trans s2, ?_,x2.trans x1,fun g b=> ?_⟩
   .simp only [bW,aV]
    exact⟨v,i,rfl,⟨az.step s2 _ _ r1,.inr p⟩,z⟩
   .rw [Env.dj]
    rcases o2 g b with b|b
    .rcases o1 g b with b|b
     .exact .inl b
     .exact .inr (by simp [b])
    .exact .inr (by simp [b])
 |.agg kk::ks,su,st',θ,L,nm,j,ds,rest,vs,A,K,y,l,hu,hk,m,h=>by
  simp only [cu]at hk;obtain⟨arr,i,d1,d2,A1,A2,rfl,rfl,rfl,q,h2⟩:=hk;simp only [pZ,Á]at h;obtain⟨x,ai,θ1,l1,h,b1,t1,u1,s1,r1,x1,o1⟩:=qs kk hu q m.left h;obtain⟨r,d,f,s,h,t,t2,u,s2,z,x2,o2⟩:=yh ks u1 h2 (m.split o1) h;refine⟨.agg x::r,d,f,s,h,t.trans b1,t2.trans t1,by rw [<-Á];exact u,s1.trans s2, ?_,x2.trans x1,fun g b=> ?_⟩
  .simp only [bW,aV]
   exact⟨.agg arr,i,rfl,⟨arr,rfl,aI.step s2 _ _ r1⟩,z⟩
  .rw [Env.dj]
   rcases o2 g b with b|b
   .rcases o1 g b with b|b
    .exact .inl b
    .exact .inr (by simp [b])
   .exact .inr (by simp [b])
 |.aP _::_,su,st',θ,L,nm,j,ds,rest,vs,A,K,y,l,hu,hk,m,h=>by simp only [cu]at hk
theorem MZ (k:bq) {su st':St} {θ:Asg} {L:Env} {nm:Nat->Nat} {ds rest:List DV} {v:Value} {A:Env} {K:TV->List DV->M β} {y:β} {l:Log} (hu:iw w0 F R B nal Bb w su θ L) (hk:bX (hp w) R B nal L nm k ds v A) (q:fg w0 F (su.cZ Bb) θ A.fps)
  (h:(rG nm k (ds++rest) K).run su=some (y,st',l)):rP w0 F R B nal Bb w su θ L A K rest y st' (fun r θ' c=>aV (hp w) R (r.cZ Bb) θ' c v):=by
 cases k with
 |one k=>
  simp only [bX]at hk;obtain⟨d,hk⟩:=hk;simp only [rG]at h;rcases d with d|d
  .subst d
   simp only [aq]at hk;obtain⟨rfl,rfl⟩:=hk;simp only [Â,fJ]at h;exact iy hu h (lS _)
  .obtain⟨x,b,θ1,f,h,g,t1,i,s1,j,m,p⟩:=DQ k hu hk q h
   exact⟨.one x,b,θ1,f,h,g,t1,i,s1,⟨j,.inr d⟩,m,p⟩
 |agg ks=>
  simp only [bX]at hk;obtain⟨arr,rfl,hk⟩:=hk;simp only [rG]at h;obtain⟨x,b,θ1,f,h,g,t1,i,s1,j,m,p⟩:=qs ks hu hk q h;exact⟨.agg x,b,θ1,f,h,g,t1,i,s1,⟨arr,rfl,j⟩,m,p⟩
 |aP ks=>
  simp only [bX]at hk;obtain⟨arr,rfl,hk⟩:=hk;simp only [rG]at h;obtain⟨x,b,θ1,f,h,g,t1,i,s1,j,m,p⟩:=yh ks hu hk q h;exact⟨.aP x,b,θ1,f,h,g,t1,i,s1,⟨arr,rfl,j⟩,m,p⟩
end
end Go.Ev
