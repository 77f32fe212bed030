/- A verified evaluator of the machine's code, part 2: no program in sight. -/
import Derived.Test.YtfpfjmahdneehaaGreatDoorEv1
import Derived.Laws.IdiomStrings
import Derived.Laws.Tables
open Nat renaming eq_of_beq_eq_true->À,le_of_ble_eq_true->Ê,mul_le_mul_right->Ë,le_refl->Ô,min_eq_left->à,zero_mul->å,add_mul->ê,succ_mul->ì,add_assoc->ð,beq->ò,zero_le->ø,le_of_eq->Ĉ,beq_refl->ĉ,ble->Ė,zero_add->Ę,mul_one->ĝ
open List renaming append_assoc->Á,nil_append->Â,mem_append->Ã,nodup_append->Ä,eq_nil_of_length_eq_zero->Æ,nodup_nil->Ç,length_take->Ì,map_cons->Í,length_cons->Ï,replicate->Ñ,nodup_cons->Ó,cons_append->Ö,getElem?_eq_getElem->ß,take_take->â,take_of_length_le->ã,flatMap_cons->ä,take_append_drop->æ,mem_cons->é,append_nil->ë,length_append->í,getElem?_eq_some_iff->î,sublist_append_left->ñ,drop_of_length_le->õ,take_left'->ö,drop_drop->ù,flatten_append->û,getElem?_take->ÿ,map_replicate->Ā,extract->Ă,map_nil->ă,map_map->Ą,getElem?_map->ą,flatten_cons->Ć,size_toArray->ć,take_append->Ċ,range'_succ->ċ,length_map->đ,drop_take->Ĕ,take_left->ĕ,mem_map->ė,flatMap->ę,range'->ě,map->Ĝ
open Option renaming map_eq_some_iff->Å,isSome_iff_exists->Ú,map_some->Đ
open Go.Builtin renaming firstCells->È,append_->Î,lenOf->Þ,zeroCells->ï,len_->ó,nextslicecap->ğ,min_->Ģ,min2->ģ,max_->Ĥ,max2->ĥ
open Option.some renaming injEq->É,inj->Ġ
open Go.IntKind renaming signed->Ð,bits->Ø,min->Û,max->Ü,wrap->Ě,i64->Ğ
open Go.Instr renaming sliceBounds->Ò,sliceBound->ç,fill->è,sliceAt->ý,buildSlice->Č,slice->Ď,makeSlice->Ē,sureAddr->ē
open Bool renaming and_eq_true->Õ,or_eq_true->Ý,false_eq_true->þ
open Array renaming toArray_toList->Ù,ext'->á,length_toList->ü,toList_range->ā,toList_map->č,range->ď
open Go.Addr renaming add_lit->ô,add->ġ
open Go.Value renaming int->ú
namespace Go.Ev
section
variable {P:Program} {T:TypeId→Option TyI} {w0 w:World} {F R:Nat→Prop} {st st':St} {θ:Asg} {a:Act} {o:Oper} {v:TV} {l:Log}
theorem Lu (d:Inv w0 F R st θ w) (f:Tm (hp w) R st θ a) {x:Operand} (b:o.op=.move x\/o.op=.assign x)
  (h:(M.ret (bD st x)).run st=some (v,st',l)):aV P w0 F R st θ w o a v st':=by
 obtain⟨rfl,rfl⟩:=M.gF h;exact aV.pure d (u:=a.eval x) (by rcases b with b|b<;>simp [execOp,b]) (gE f x)
theorem WL (g:Inv w0 F R st θ w) (f:Tm (hp w) R st θ a) {c x y:Operand} (i:o.op=.pick c x y) {b:Bool} (j:bD st c=.one (.b b))
  (h:(M.br b (.ret (bD st x)) (.ret (bD st y))).run st=some (v,st',l)):aV P w0 F R st θ w o a v st':=by
 have d:=ri f j;cases b<;>simp only [M.run]at h<;>obtain⟨rfl,rfl⟩:=M.gF (by simpa only [M.run]using h)
 .exact aV.pure g (u:=a.eval y) (by simp [execOp,i,d,asBool]) (gE f y)
 .exact aV.pure g (u:=a.eval x) (by simp [execOp,i,d,asBool]) (gE f x)
theorem Lv (t:TypeId) (u:Value):(newVar t u).run P w=.ok ⟨w.heap.size,0,none⟩ (w.alloc (.cells u.cells t)):=by
 simp [newVar,newRow]
theorem Lw (d:Inv w0 F R st θ w) {b:Nat} {cs:List Cell} {t:TypeId} {u:Value} (f:aI (hp w) R st θ cs u.cells.toList)
  (he:(execOp a.eval o).run P w=.ok (.value (.pointer (some ⟨w.heap.size,0,none⟩))) (w.alloc (.cells u.cells t)))
  (h:(M.nb b cs (c1 (.pb b 0))).run st=some (v,st',l)):aV P w0 F R st θ w o a v st':=by
 obtain⟨g,k,h⟩:=M.Lk h;obtain⟨rfl,rfl⟩:=cM h;obtain⟨i,j⟩:=d.Wq g (ty:=t) f;refine⟨_,_,_,.inl he,i,j,fc ?_ rfl⟩
 simp [ax,bB]
theorem WM (d:Ok P T) (f:Inv w0 F R st θ w) {t:TypeId} (g:o.op=.alloc t) {i:TyI} (hi:T t=some i) {b:Nat}
  (h:(M.nb b i.zero (c1 (.pb b 0))).run st=some (v,st',l)):aV P w0 F R st θ w o a v st':=by
 obtain⟨z,j,k, -⟩:=WJ (w:=w) (d.eM t i hi);refine Lw (u:=z) (t:=t) f (CO k) ?_ h
 simp only [execOp,g];refine eN ?_
 simp [Instr.alloc,j,Lv]
theorem xw {α:Type} {x:TV} {k:List Cell->M α} {r:α×St×Log} (h:(nI x k).run st=some r):
  ∃cs,(k cs).run st=some r/\ ∀(H:Heap) (u:Value),aU H R st θ x u->aI H R st θ cs u.cells.toList:=by
 unfold nI at h;split at h
 .simp [M.run]at h
 .rename_i c d
  refine⟨_,h,fun H u b=> ?_⟩
  simp only [aU]at b;have f:cC u=true:=b.2.resolve_left (fun e=>d (by rw [e]))
  have:u.cells.toList=[u]:=by cases u<;>simp_all [cC,Value.cells]
  rw [this];simp only [aI];exact⟨u,[],rfl,⟨b.1,f⟩,rfl⟩
 .refine⟨_,h,fun H u b=> ?_⟩
  simp only [aU]at b;obtain⟨arr,rfl,b⟩:=b;exact b
 .simp [M.run]at h
theorem WN (d:Inv w0 F R st θ w) (f:Tm (hp w) R st θ a) {t:TypeId} {x:Operand} (g:o.op=.box t x) {n b:Nat}
  (h:(nI (bD st x) fun cs=>.gd (ò cs.length n) (.nb b cs (c1 (.pb b 0)))).run st=some (v,st',l)):aV P w0 F R st θ w o a v st':=by
 obtain⟨cs,h,i⟩:=xw (R:=R) (θ:=θ) h;obtain⟨-,h⟩:=M.aN h;refine Lw (u:=a.eval x) (t:=t) d (i _ _ (gE f x)) ?_ h
 simp only [execOp,g];refine eN ?_
 simp [Instr.box,Lv]
theorem WO (j:Inv w0 F R st θ w) (m:Tm (hp w) R st θ a) {x:Operand} (i:o.op=.nilCheck x) {c:Cell} (r:bD st x=.one c)
  (s:match c with|.pb _ _|.pe _ _ _ _|.pr _ _ _|.pg _ _ _ _ _ _|.fn _ _ _=>True|_=>False)
  (h:(c1 c).run st=some (v,st',l)):aV P w0 F R st θ w o a v st':=by
 obtain⟨rfl,rfl⟩:=cM h;have d:=gE m x;rw [r]at d;refine aV.pure j (u:=a.eval x) ?_ d
 simp only [aU]at d;have d:=d.1;cases c<;>simp only at s<;>simp only [ax]at d
 case pb b off=>simp [execOp,i,d.2]
 case pe k aG t off=>obtain⟨⟨g,o,e⟩, -⟩:=d;simp [execOp,i,e]
 case pr ts e off=>obtain⟨g,o,cur,ty,frz,e, -⟩:=d;simp [execOp,i,e]
 case pg k aG wv ts e off=>obtain⟨⟨g,o,e⟩, -⟩:=d;simp [execOp,i,e]
 case fn f p q=>obtain⟨z,vb,e, -⟩:=d;simp [execOp,i,e]
theorem WQ (d:Inv w0 F R st θ w) (f:Tm (hp w) R st θ a) {t:TypeId} {x:Operand} (g:o.op=.unOp .not t x) {b:Bool} (i:bD st x=.one (.b b))
  (h:(c1 (.b (!b))).run st=some (v,st',l)):aV P w0 F R st θ w o a v st':=by
 obtain⟨rfl,rfl⟩:=cM h;refine aV.pure d (u:=.bool (!b)) ?_ eV
 simp only [execOp,g];refine eN ?_
 simp [Op.unary,ri f i]
theorem WR (b:Inv w0 F R st θ w) (d:Tm (hp w) R st θ a) {t:TypeId} {x:Operand} (f:o.op=.unOp .neg t x) {k:IntKind} {n:Int} (g:bD st x=.one (.i k n))
  (h:(c1 (.i k (k.wrap (0-n)))).run st=some (v,st',l)):aV P w0 F R st θ w o a v st':=by
 obtain⟨rfl,rfl⟩:=cM h;refine aV.pure b (u:=.int k (k.wrap (0-n))) ?_ (gG (nZ _ _))
 simp only [execOp,f];refine eN ?_
 simp [Op.unary,(fm d g).1,Op.intArith]
theorem xx (b:Ok P T) {t:TypeId} (h:pB (T t)=true):P.underlying t=some .string:=by
 unfold pB at h;split at h
 .rename_i e
  exact(b.eM t _ e).u
 .cases h
theorem rj (d:Ok P T) {t:TypeId} {c:CT} (h:fb T t=some c):bM c=true/\ ∃e,P.underlying t=some (.slice e)/\ ∃inf z,P.info? e=some inf/\inf.size=(ak c).size/\inf.bytes<=1024/\inf.zero=some z/\kF (ak c) z.cells.toList=true/\
  (match ak c with|.one (.int .u8)=>P.underlying e=some (.int .u8)|_=>True):=by
 unfold fb at h;split at h
 .rename_i e sz g j f q i
  cases b:bM f with
  |false=>simp [b]at h
  |true=>
   simp only [b,Y,É]at h;subst h;have k:=d.eM t _ i;exact⟨b,e,k.u,k.sl f rfl b e rfl⟩
 .cases h
theorem lI {b:Option CT} {c:CT} (h:jR b c=true):b=some c:=by
 unfold jR at h;split at h
 .rw [CT.eq_of_beq _ _ h]
 .cases h
theorem WT (b:Ok P T) (g:Inv w0 F R st θ w) (j:Tm (hp w) R st θ a) {s t:TypeId} {x:Operand} (m:o.op=.convert s t x) {k p k':IntKind} {n:Int}
  (q:iU T s=some (.int p)) (r:iU T t=some (.int k)) (z:bD st x=.one (.i k' n))
  (h:(c1 (.i k (k.wrap n))).run st=some (v,st',l)):aV P w0 F R st θ w o a v st':=by
 obtain⟨rfl,rfl⟩:=cM h;refine aV.pure g (u:=.int k (k.wrap n)) ?_ (gG (nZ _ _))
 have hu: ∀ {t:TypeId} {u:U},iU T t=some u->lG P t u:=fun {t u} h=>by
  simp only [iU,Å]at h;obtain⟨i,hi,rfl⟩:=h;exact(b.eM t i hi).u
 have d:=hu q;have f:=hu r;simp only [lG]at d f;simp only [execOp,m];refine eN ?_
 simp [convert,run_underlying d,run_underlying f,(fm j z).1,Conv.intToInt]
theorem WU (b:Ok P T) (j:Inv w0 F R st θ w) (k:Tm (hp w) R st θ a) {s t:TypeId} {x:Operand} (m:o.op=.convert s t x) {n:O}
  (p:iU T s=some .str) (q:iU T t=some .str) (r:bD st x=.one (.s n))
  (h:(c1 (.s n)).run st=some (v,st',l)):aV P w0 F R st θ w o a v st':=by
 obtain⟨rfl,rfl⟩:=cM h;have d:=pP k r;refine aV.pure j (u:=.string ⟨n.toArray⟩) ?_ (pR d.2)
 have hu: ∀ {t:TypeId} {u:U},iU T t=some u->lG P t u:=fun {t u} h=>by
  simp only [iU,Å]at h;obtain⟨i,hi,rfl⟩:=h;exact(b.eM t i hi).u
 have f:=hu p;have g:=hu q;simp only [lG]at f g;simp only [execOp,m];refine eN ?_
 simp [convert,run_underlying f,run_underlying g,d.1]
theorem WV (g:Ok P T) (q:Inv w0 F R st θ w) (p:Tm (hp w) R st θ a) {t:TypeId} {x i:Operand} (r:o.op=.index t x i)
  (h:(CB (T t) (bD st x) (bD st i)).run st=some (v,st',l)):aV P w0 F R st θ w o a v st':=by
 unfold CB at h;split at h
 .rename_i s k n j hi
  obtain⟨hu,h⟩:=M.aN h;obtain⟨b,f,h⟩:=M.eI h;obtain⟨rfl,rfl⟩:=cM h;have j:=pP p j;have hi:=fm p hi;have hu:=xx g hu;refine aV.pure q (u:=.int .u8 (b.toNat:Int)) ?_ (gG ?_)
  .simp only [execOp,r]
   refine eN ?_
   simp only [bF,nth]at f;cases d:decide (0<=n)with
   |false=>simp [d]at f
   |true=>
    simp only [d,Y]at f;have d:=of_decide_eq_true d;have m:(⟨s.toArray⟩:ByteArray)[n.toNat]? =some b:=by
     obtain⟨z,h2⟩:=î.1 f
     have:n.toNat<(⟨s.toArray⟩:ByteArray).size:=by simpa [ByteArray.size]using z
     rw [getElem?_pos (⟨s.toArray⟩:ByteArray) n.toNat this]
     simp [<-h2,ByteArray.getElem_eq_getElem_data]
    simp [Instr.index,j.1,hi.1,asIntOf,run_underlying hu,d,m]
  .have:=b.toNat_lt
   simp only [Û,Ü,Ð,Ø];simp
   omega
 .simp [M.run]at h
theorem WW (f:Ok P T) (hI:Inv w0 F R st θ w) (hT:Tm (hp w) R st θ a) {cl:Call} {x:Operand} {t:TypeId} {ts:List TypeId} (ho:o.op=.call cl) (m:cl.callee=.builtin .len) (ha:cl.args.toList=[x]) (q:cl.argTypes.toList=t::ts)
  (h:(M.ir (bD st x) (Cz (T t))).run st=some (v,st',l)):aV P w0 F R st θ w o a v st':=by
 have r:cl.args= #[x]:=by rw [<-Ù (xs:=cl.args),ha]
 have d:cl.argTypes[0]? =some t:=by rw [<-Array.getElem?_toList,q];rfl
 have fin: ∀(n:Nat),n<=maxLen->(ó cl.argTypes o.type #[a.eval x]).run P w=.ok (.int .i64 (n:Int)) w->v=.one (.i .i64 (n:Int))->st'=st->aV P w0 F R st θ w o a v st':=by
  intro n z g j e2;subst j;subst e2;refine aV.pure hI (u:=.int .i64 (n:Int)) ?_ (gG ?_)
  .simp [execOp,ho,resolve,m,r,invoke,builtin,g]
  .simp only [maxLen]at z
   simp only [Û,Ü,Ð,Ø];simp
   omega
 have gi: ∀n:Nat,n<=maxLen->goInt n=.int .i64 (n:Int):=by
  intro n z;simp only [maxLen]at z;simp only [goInt]
 cases k:bD st x with
 |agg _=>rw [k]at h;simp [M.ir,M.run]at h
 |aP _=>rw [k]at h;simp [M.ir,M.run]at h
 |one p=>
  rw [k]at h;simp only [M.ir,Cz]at h;split at h
  .rename_i s
   obtain⟨hu,h⟩:=M.aN h;have b:=cM h;have hx:=pP hT k;exact fin s.length hx.2 (by simp [ó,d,run_underlying (xx f hu),hx.1,goInt,show(⟨s.toArray⟩:ByteArray).size=s.length from rfl]) b.1 b.2
  .obtain⟨hu,h⟩:=M.aN h
   obtain⟨e,hu⟩:=xt f hu;have g:=gE hT x;rw [k]at g;simp only [aU]at g;rcases xp hI g.1 h with⟨⟨ad,j⟩,h⟩|⟨c,y,l1,R',h,hc,hy, -⟩
   .have b:=cM h
    exact fin 0 (by simp [maxLen]) (by simp [ó,d,run_underlying hu,j,goInt]) b.1 b.2
   .have b:=cM h
    obtain⟨ad,cap,j,h1,h2⟩:=hy.gD hc;exact fin (aE c y) (by omega) (by simp [ó,d,run_underlying hu,j,goInt]) b.1 b.2
end
end Go.Ev
namespace Go.Ev
section
variable {P:Program} {T:TypeId→Option TyI} {w0 w:World} {F R:Nat→Prop} {st st':St} {θ:Asg} {a:Act} {o:Oper} {v:TV} {l:Log}
theorem Lx (b:Ok P T) {s:TypeId} {fs:List (Nat×TypeId)} {i:TyI} (hi:T s=some i) (hu:i.u=.struct fs) {f off:Nat} {t:TypeId} (d:fs[f]? =some (off,t)):
  ∃fields,P.underlying s=some (.struct fields)/\ ∃fd:Field,fields[f]? =some fd/\fd.offset=off/\fd.type=t/\ ∃inf,P.info? t=some inf/\inf.size≠0:=by
 have k:=(b.eM s _ hi).u;rw [hu]at k;simp only [lG]at k;obtain⟨fields,g,h⟩:=k;exact⟨fields,g,h.at_ f off t d⟩
theorem WX (ah:Ok P T) (hI:Inv w0 F R st θ w) (hT:Tm (hp w) R st θ a) {s:TypeId} {x:Operand} {f:Nat} (ho:o.op=.fieldAddr s x f) {fs:List (Nat×TypeId)} {i:TyI} (hi:T s=some i) (hu:i.u=.struct fs) {off:Nat} {t:TypeId} (hf:fs[f]? =some (off,t))
  (h:(tB off (bD st x)).run st=some (v,st',l)):aV P w0 F R st θ w o a v st':=by
 obtain⟨fields,h1,fd,h2,h3,h4,inf,h5,h6⟩:=Lx ah hi hu hf;have j: ∀g q,a.eval x=.pointer (some ⟨g,q,none⟩)->(execOp a.eval o).run P w=.ok (.value (.pointer (some ⟨g,q+off,none⟩))) w:=by
  intro g q e;simp only [execOp,ho];refine eN ?_
  simp [Instr.fieldAt,run_underlying h1,h2,ē,e,fieldPlace,sizeOf,typeInfo,h4,h5,h6,h3,ô]
 cases z:bD st x with
 |agg _=>rw [z]at h;simp [tB,M.run]at h
 |aP _=>rw [z]at h;simp [tB,M.run]at h
 |one p=>
  rw [z]at h;cases p<;>simp only [tB]at h
  case pb b of=>
   obtain⟨rfl,rfl⟩:=cM h;have r:=(dK hT z (by simp)).1
   simp only [ax]at r;refine aV.pure hI (j _ _ r.2) (fc ?_ rfl)
   simp [ax,r.1]
  case pe k aG ix of=>
   obtain⟨rfl,rfl⟩:=cM h;have r:=(dK hT z (by simp)).1
   simp only [ax]at r;obtain⟨⟨g,q,e⟩,r1,m⟩:=r;refine aV.pure hI (j _ _ e) (fc ?_ rfl)
   simp only [ax];refine⟨⟨_,_,rfl⟩,r1,fun hv d hd=> ?_⟩
   obtain⟨g',len,cap,k1,k2,k3⟩:=m hv d hd;rw [e]at k3;simp only [Value.pointer.injEq,É,Addr.mk.injEq,and_true]at k3;obtain⟨rfl,rfl⟩:=k3;exact⟨g,len,cap,k1,k2,by simp [ð]⟩
  case pr ts e of=>
   obtain⟨rfl,rfl⟩:=cM h;have r:=(dK hT z (by simp)).1
   simp only [ax]at r;obtain⟨g,q,cur,ty,frz,e1,m,r3,r4,r5⟩:=r;refine aV.pure hI (j _ _ e1) (fc ?_ rfl)
   simp only [ax];exact⟨g,q,cur,ty,frz,by simp [ð],m,r3,r4,r5⟩
  case pg k aG wv ts e of=>
   obtain⟨rfl,rfl⟩:=cM h;have r:=(dK hT z (by simp)).1
   simp only [ax]at r;obtain⟨⟨g,q,e1⟩,r1,m⟩:=r;refine aV.pure hI (j _ _ e1) (fc ?_ rfl)
   simp only [ax];refine⟨⟨_,_,rfl⟩,r1,fun hv=>⟨(m hv).1,fun hw hd=> ?_⟩⟩
   obtain⟨g',q',cur,ty,frz,e2,m,r3,r4,r5⟩:=(m hv).2 hw hd;rw [e1]at e2;simp only [Value.pointer.injEq,É,Addr.mk.injEq,and_true]at e2;obtain⟨rfl,rfl⟩:=e2;exact⟨g,q',cur,ty,frz,by simp [ð],m,r3,r4,r5⟩
  all_goals simp [M.run]at h
theorem WY (j:Ok P T) (hI:Inv w0 F R st θ w) (hT:Tm (hp w) R st θ a) {s:TypeId} {x:Operand} {f:Nat} (ho:o.op=.field s x f) {fs:List (Nat×TypeId)} {i:TyI} (hi:T s=some i) (hu:i.u=.struct fs) {off:Nat} {t:TypeId} (hf:fs[f]? =some (off,t)) {b:TyI} (p:T t=some b)
  {cs:List Cell} (hx:bD st x=.agg cs) (h:(M.gd (Ė (off+b.size) cs.length) (.ret (kD (jy b) (sub cs off b.size)))).run st=some (v,st',l)):aV P w0 F R st θ w o a v st':=by
 obtain⟨fields,q,fd,h2,h3,h4,inf,h5,h6⟩:=Lx j hi hu hf;obtain⟨hg,h⟩:=M.aN h;obtain⟨rfl,rfl⟩:=M.gF h;have hg:=Ê hg;have g:=gE hT x;rw [hx]at g;simp only [aU]at g;obtain⟨arr,e,g⟩:=g;have hl:=g.length;have r:=(g.drop off).take b.size;have d:=j.eM t b p;have k: ∃u,(part t arr off).run P w=.ok u w/\(if jy b=true then u=.agg ((arr.toList.drop off).take b.size).toArray else ∃v,(arr.toList.drop off).take b.size=[v]/\u=v):=by
  cases z:jy b with
  |true=>
   refine⟨.agg ((arr.toList.drop off).take b.size).toArray, ?_,by simp⟩
   simp only [part,Sem.run_bind,xv d,Result.andThen_ok,z,if_true,CP d,Sem.run_pure];congr 2
   apply á
   simp [Ă]
  |false=>
   have q:b.size=1:=by
    have:=d.one;unfold jy at z;cases e:b.u<;>simp_all
   have m:off<arr.toList.length:=by omega
   refine⟨arr.toList[off], ?_, ?_⟩
   .have:arr[off]? =some arr.toList[off]:=by simp at m |-
    simp only [part,Sem.run_bind,xv d,Result.andThen_ok,z,þ,if_false,this,Sem.run_pure]
   .simp only [þ,if_false]
    refine⟨_, ?_,rfl⟩
    rw [List.drop_eq_getElem_cons m,q];simp
 obtain⟨u,k1,k2⟩:=k;refine aV.pure hI (u:=u) ?_ (CN r k2)
 simp only [execOp,ho];refine eN ?_
 simp [Instr.field,run_underlying q,h2,asAgg,e,h4,h3,k1]
theorem bT.get {H:Heap}: ∀ {vs:List TV} {us:List Value} {i:Nat} {x:TV},bT H R st θ vs us->vs[i]? =some x-> ∃u,us[i]? =some u/\aU H R st θ x u
 | [],us,i,x,h,b=>by simp at b
 |c::cs,us,i,x,h,b=>by
  simp only [bT]at h;obtain⟨u,d,rfl,f,g⟩:=h;cases i with
  |zero=>simp at b;subst b;exact⟨u,rfl,f⟩
  |succ i=>
   obtain⟨j,k1,k2⟩:=bT.get g (by simpa using b)
   exact⟨j,by simpa using k1,k2⟩
theorem WZ (d:Inv w0 F R st θ w) (f:Tm (hp w) R st θ a) {x:Operand} {i:Nat} (g:o.op=.extract x i) {vs:List TV} (j:bD st x=.aP vs) {y:TV} (hy:vs[i]? =some y)
  (h:(M.ret y).run st=some (v,st',l)):aV P w0 F R st θ w o a v st':=by
 obtain⟨rfl,rfl⟩:=M.gF h;have b:=gE f x;rw [j]at b;simp only [aU]at b;obtain⟨arr,e,b⟩:=b;obtain⟨u,k,m⟩:=b.get hy;refine aV.pure d (u:=u) ?_ m
 simp only [execOp,g];refine eN ?_
 have:arr[i]? =some u:=by simpa using k
 simp [Instr.extract,e,this]
theorem CQ (b:Ok P T) {t:TypeId} {c:CT} (h:fb T t=some c): ∃e,P.underlying t=some (.slice e)/\ ∀w:World,(sizeOf e).run P w=.ok (ak c).size w:=by
 obtain⟨-,e,d,inf,z,f,g, -⟩:=rj b h;exact⟨e,d,fun w=>by simp [sizeOf,typeInfo,f,g]⟩
theorem tQ (s:Inv w0 F R st θ w) {n aG:Nat} {vw:Option Nat} {d:DV} {v:Value} (r:ax (hp w) R st θ (.ob n aG vw) v) (hd:(st.aj n).bj=some d) (t:aG=(st.aj n).aG) (k:jv d.c vw d.x=true):
  bM d.c=true/\aC (hp w) (fun b=>b∈θ.fp n) false (enc d.c (cD d.c vw d.x)) v []/\aE d.c (cD d.c vw d.x)<=aE d.c d.x/\ ∃a len cap,θ.ob n=.slice a len cap/\v=.slice a (aE d.c (cD d.c vw d.x)) cap:=by
 simp only [ax]at r;have k3:=r.2 t (by simp [hd])
 obtain⟨q1,q2,q3⟩:=s.aj n d hd;have i:=q2.share (R':=fun b=>b∈θ.fp n) (fun b u=>u)
 obtain⟨g,f,j,e4,e5⟩:=q2.gD q1;cases vw with
 |none=>
  simp only at k3;subst k3;exact⟨q1,i,Ô _,g,_,f,j,j⟩
 |some m=>
  simp only at k3;obtain⟨ad,len,cap,p,e2⟩:=k3;subst e2;rw [p]at j;cases j;have hm:m<=aE d.c d.x:=by simpa [jv]using k
  have q:aE d.c (cD d.c (some m) d.x)=m:=by simp only [cD,tz];omega
  rw [p]at i;have:=aC.cut (l:=0) (h:=m) (m:=f) q1 i (ø _) hm (by omega) e5 g (fun _=>by
   cases g with
   |none=>rfl
   |some z=>simp [ġ])
  have hz:gm d.c 0 d.x=d.x:=by
   cases d with
   |mk c x=>cases c<;>simp [gm]
  rw [hz]at this;exact⟨q1,this,by omega,g,_,f,p,by rw [q]⟩
theorem xy {H:Heap} {n aG wv:Nat} {pl:Option (Nat×Nat)} {c:CT} {x:Interp c} {d:DV} {v:Value} (f:ax H R st θ (.gs n aG wv pl c x) v) (hd:(st.aj n).bj=some d) (g:aG=(st.aj n).aG) (hw:wv=(st.aj n).wv):
  bM c=true/\aC H (fun b=>b∈θ.fp n) false (enc c x) v []:=by
 simp only [ax]at f;exact⟨f.1,((f.2.2 g).2 hw d hd).1⟩
theorem Ly {c:CT} {x:Interp c} {n:Int} {e:bf (ak c)} (h:pz c x n=some e):0<=n/\jO c x n.toNat=some e:=by
 unfold pz at h;cases b:decide (0<=n)with
 |false=>simp [b]at h
 |true=>simp only [b,Y]at h;exact⟨of_decide_eq_true b,h⟩
theorem CR {α:Type} {n aG wv:Nat} {pl:Option (Nat×Nat)} {c:CT} {x:Interp c} {k:(c:CT)->Interp c->M α} {y:α} (h:(fa (.gs n aG wv pl c x) .fail k).run st=some (y,st',l)):
  ∃d b,(st.aj n).bj=some d/\aG=(st.aj n).aG/\wv=(st.aj n).wv/\(k c x).run st=some (y,st',b):=by
 simp only [fa]at h;obtain⟨b,h⟩:=M.fH h;cases hd:(st.aj n).bj with
 |none=>simp [hd,M.run]at h
 |some d=>
  simp only [hd]at h;obtain⟨f,h⟩:=M.aN h;obtain⟨hw,h⟩:=M.aN h;exact⟨d,b,rfl,À f,À hw,h⟩
theorem Xa (ar:Ok P T) (hI:Inv w0 F R st θ w) (s:Tm (hp w) R st θ a) {t:TypeId} {x i:Operand} (ho:o.op=.indexAddr t x i)
  (h:(CC (fb T t) (bD st x) (bD st i)).run st=some (v,st',l)):aV P w0 F R st θ w o a v st':=by
 have f: ∀(c:CT) (k:IntKind) (n:Int) (g q len cap:Nat),fb T t=some c->a.eval i=.int k n->0<=n->n<len->a.eval x=.slice (some ⟨g,q,none⟩) len cap->
   (execOp a.eval o).run P w=.ok (.value (.pointer (some ⟨g,q+n.toNat*(ak c).size,none⟩))) w:=by
  intro c k n g q len cap j hi h0 h1 p;obtain⟨e,k1,k2⟩:=CQ ar j;simp only [execOp,ho];refine eN ?_
  simp [Instr.indexAt,hi,asIntOf,run_underlying k1,p,h0,h1,k2,ô]
 have ag: ∀(c:CT) (y:Interp c) (k:IntKind) (n:Int) (e:bf (ak c)),fb T t=some c->bM c=true->aC (hp w) R false (enc c y) (a.eval x) []->a.eval i=.int k n->pz c y n=some e->v=.one (.pr (ak c) e 0)->st'=st->aV P w0 F R st θ w o a v st':=by
  intro c y k n e j hs u hi b e1 e2;subst e1;subst e2;obtain⟨h0,b⟩:=Ly b;obtain⟨ad,cap,ex, -, -⟩:=u.gD hs;rw [ex]at u;obtain⟨g,off,rfl,z⟩:=u.elem hs b;have:=tP b;refine aV.pure hI (f c k n g off _ cap j hi h0 (by omega) ex) (fc ?_ rfl)
  simpa only [ax]using z
 unfold CC at h;split at h
 .rename_i c y k n p hi
  obtain⟨j,h⟩:=M.aN h;obtain⟨e,b,h⟩:=M.eI h;have m:=cM h;have r:=(dK s p (by simp)).1
  simp only [ax]at r;exact ag c y k n e (lI j) r.1 r.2 (fm s hi).1 b m.1 m.2
 .rename_i c y k n p hi
  obtain⟨j,h⟩:=M.aN h;obtain⟨e,b,h⟩:=M.eI h;have m:=cM h;have r:=(dK s p (by simp)).1
  simp only [ax]at r;exact ag c y k n e (lI j) r.1 r.2.1 (fm s hi).1 b m.1 m.2
 .rename_i k aG vw ik n p hi
  obtain⟨l1,h⟩:=M.fH h;cases hd:(st.aj k).bj with
  |none=>simp [hd,M.run]at h
  |some d=>
   simp only [hd]at h;obtain⟨hv,h⟩:=M.aN h;obtain⟨aw,h⟩:=M.aN h;obtain⟨j,h⟩:=M.aN h;obtain⟨hn,h⟩:=M.aN h;obtain⟨rfl,rfl⟩:=cM h;have hn:=of_decide_eq_true hn;have hv:=À hv;have r:=(dK s p (by simp)).1
   obtain⟨q1,q2,q3,ad,len,cap,e1,e2⟩:=tQ hI r hd hv aw;obtain⟨p1,p2,p3⟩:=hI.aj k d hd;obtain⟨bk,az,e3,p4,p5,p6⟩:=p2.rh p1;rw [e1]at e3;cases e3;rcases p6 with⟨p6, -⟩|⟨g,cur,ty,frz,fps,rfl,p7, -⟩
   .omega
   .refine aV.pure hI (f d.c ik n g 0 _ cap (lI j) (fm s hi).1 hn.1 hn.2 e2) (fc ?_ rfl)
    simp only [ax];refine⟨⟨_,_,rfl⟩,by omega,fun _ d' al=> ?_⟩
    rw [hd]at al;cases al;exact⟨g,_,cap,e1,by omega,by simp⟩
 .rename_i k aG wv pl c y ik n p hi
  obtain⟨j,h⟩:=M.aN h;obtain⟨d,l1,hd,hv,hw,h⟩:=CR h;obtain⟨e,b,h⟩:=M.eI h;obtain⟨rfl,rfl⟩:=cM h;have r:=(dK s p (by simp)).1
  obtain⟨hs,u⟩:=xy r hd hv hw;obtain⟨h0,b⟩:=Ly b;obtain⟨ad,cap,ex, -, -⟩:=u.gD hs;rw [ex]at u;obtain⟨g,off,rfl,z⟩:=u.elem hs b;have:=tP b;refine aV.pure hI (f c ik n g off _ cap (lI j) (fm s hi).1 h0 (by omega) ex) (fc ?_ rfl)
  simp only [ax];exact⟨⟨_,_,rfl⟩,by omega,fun _=>⟨by omega,fun _ _=>z⟩⟩
 .simp [M.run]at h
end
end Go.Ev
namespace Go.Ev
section
variable {P:Program} {T:TypeId→Option TyI} {w0 w:World} {F R:Nat→Prop} {st st':St} {θ:Asg} {a:Act} {o:Oper} {v:TV} {l:Log}
theorem rk {u:Value} {k:IntKind} {n:Int} {y:Nat} (hu:u=.int k n) (b:0<=n) (d:n<=y) (code:BoundsCode):(ç u y code).run P w=.ok n.toNat w:=by
 subst hu;simp [ç,asIntOf,b,d]
theorem oc {H:Heap} (p:Tm H R st θ a) {len cap:Nat} (z:len<=cap) {lo hi:Option Operand} {k:Nat->Nat->M TV} {r:TV×St×Log} (h:(lC len (lo.map (bD st)) (hi.map (bD st)) k).run st=some r):
  ∃x y,x<=y/\y<=len/\(k x y).run st=some r/\(lo=none->x=0)/\ ∀b,(Ò b len cap (lo.map a.eval) (hi.map a.eval) none).run P w=.ok (x,y,cap) w:=by
 unfold lC at h;split at h
 .rename_i i j
  have f:lo=none:=by cases lo<;>simp_all
  have g:hi=none:=by cases hi<;>simp_all
  subst f g;exact⟨0,len,ø _,Ô _,h,fun _=>rfl,fun b=>by simp [Ò]⟩
 .rename_i k n i j
  have f:lo=none:=by cases lo<;>simp_all
  subst f;obtain⟨c,rfl,q⟩:=Å.1 j;obtain⟨d,h⟩:=M.aN h;have d:=of_decide_eq_true d;have m:=(fm p q).1;exact⟨0,n.toNat,ø _,by omega,h,fun _=>rfl,fun b=>by simp [Ò,rk (P:=P) (w:=w) (y:=cap) m d.1 (by omega)]⟩
 .rename_i k n i j
  have g:hi=none:=by cases hi<;>simp_all
  subst g;obtain⟨c,rfl,s⟩:=Å.1 i;obtain⟨d,h⟩:=M.aN h;have d:=of_decide_eq_true d;have m:=(fm p s).1;exact⟨n.toNat,len,by omega,Ô _,h,by simp,fun b=>by simp [Ò,rk (P:=P) (w:=w) (y:=len) m d.1 d.2]⟩
 .rename_i k n k' u i j
  obtain⟨c,rfl,s⟩:=Å.1 i;obtain⟨c',rfl,q⟩:=Å.1 j;obtain⟨d,h⟩:=M.aN h;have d:=of_decide_eq_true d;have m:=(fm p s).1;have t:=(fm p q).1;exact⟨n.toNat,u.toNat,by omega,by omega,h,by simp,fun b=>by simp [Ò,rk (P:=P) (w:=w) (y:=cap) t (by omega) (by omega),rk (P:=P) (w:=w) (y:=u.toNat) m d.1 (by omega)]⟩
 .simp [M.run]at h
theorem extract_mk (s:O) (x y:Nat):(⟨s.toArray⟩:ByteArray).extract x y=⟨((s.drop x).take (y-x)).toArray⟩:=by
 apply ByteArray.ext
 rw [ByteArray.data_extract];apply á
 simp [Ă]
theorem Xb (al:Ok P T) (hI:Inv w0 F R st θ w) (j:Tm (hp w) R st θ a) {t:TypeId} {x:Operand} {lo hi:Option Operand} (ho:o.op=.slice t x lo hi none)
  (h:(CA (T t) (fb T t) (bD st x) (lo.map (bD st)) (hi.map (bD st))).run st=some (v,st',l)):aV P w0 F R st θ w o a v st':=by
 have f: ∀(c:CT) (b:Option Addr) (len cap p q:Nat),fb T t=some c->a.eval x=.slice b len cap->(Ò true len cap (lo.map a.eval) (hi.map a.eval) none).run P w=.ok (p,q,cap) w->
   (execOp a.eval o).run P w=.ok (.value (.slice (if cap=p then b else b.map (·.add (p*(ak c).size))) (q-p) (cap-p))) w:=by
  intro c b len cap p q g k i;obtain⟨e,k1,k2⟩:=CQ al g;simp only [execOp,ho];refine eN ?_
  simp [ý,Ď,run_underlying k1,k,i,k2]
 have m: ∀(c:CT) (y:Interp c) (R':Nat->Prop) (p q cap:Nat) (b:Option Addr),bM c=true->aC (hp w) R' false (enc c y) (.slice b (aE c y) cap) []->p<=q->q<=aE c y->
   aC (hp w) R' false (enc c (fR c (q-p) (gm c p y))) (.slice (if cap=p then b else b.map (·.add (p*(ak c).size))) (q-p) (cap-p)) []:=by
  intro c y R' p q cap b g hr h1 h2;obtain⟨ao,aq,e,h3,h4⟩:=hr.gD g;cases e;refine hr.cut g h1 h2 (by omega) (by omega) _ (fun bh=> ?_)
  rw [if_neg (by omega)]
 unfold CA at h;split at h
 .rename_i s k
  obtain⟨hu,h⟩:=M.aN h;have hu:=xx al hu;have ay:=pP j k;obtain⟨p,q,h1,h2,h, -,i⟩:=oc (P:=P) (w:=w) j (Ô _) h;obtain⟨rfl,rfl⟩:=cM h;refine aV.pure hI (u:=.string ⟨((s.drop p).take (q-p)).toArray⟩) ?_ (pR (by simp;omega))
  simp only [execOp,ho];refine eN ?_
  have i:=i false;simp [ý,Ď,run_underlying hu,ay.1,show(⟨s.toArray⟩:ByteArray).size=s.length from rfl,i,extract_mk]
 .rename_i k
  obtain⟨g,h⟩:=M.aN h;obtain⟨c,g⟩:=Ú.1 g;have r:=(dK j k (by simp)).1
  simp only [ax]at r;obtain⟨p,q,h1,h2,h, -,i⟩:=oc (P:=P) (w:=w) (cap:=0) j (Ô _) h;obtain⟨rfl,rfl⟩:=cM h;have hm:=f c none 0 0 p q g r (i true);have:p=0:=by omega
  subst this;have:q=0:=by omega
  subst this;exact aV.pure hI hm (fc (by simp [ax]) rfl)
 .rename_i k
  obtain⟨g,h⟩:=M.aN h;obtain⟨c,g⟩:=Ú.1 g;have r:=(dK j k (by simp)).1
  simp only [ax]at r;obtain⟨b,r⟩:=r;obtain⟨p,q,h1,h2,h, -,i⟩:=oc (P:=P) (w:=w) (cap:=0) j (Ô _) h;obtain⟨rfl,rfl⟩:=cM h;have hm:=f c b 0 0 p q g r (i true);have:p=0:=by omega
  subst this;have:q=0:=by omega
  subst this;exact aV.pure hI hm (fc (by simp [ax]) rfl)
 .rename_i c y k
  obtain⟨g,h⟩:=M.aN h;have r:=(dK j k (by simp)).1
  simp only [ax]at r;obtain⟨b,cap,e,h3,h4⟩:=r.2.gD r.1;obtain⟨p,q,h1,h2,h, -,i⟩:=oc (P:=P) (w:=w) j h3 h;obtain⟨rfl,rfl⟩:=cM h;have r2:=r.2;rw [e]at r2;refine aV.pure hI (f c b _ cap p q (lI g) e (i true)) (fc ?_ rfl)
  simp only [ax];exact⟨r.1,m c y R p q cap b r.1 r2 h1 h2⟩
 .rename_i c y k
  obtain⟨g,h⟩:=M.aN h;have r:=(dK j k (by simp)).1
  simp only [ax]at r;obtain⟨b,cap,e,h3,h4⟩:=r.2.1.gD r.1;obtain⟨p,q,h1,h2,h, -,i⟩:=oc (P:=P) (w:=w) j h3 h;obtain⟨rfl,rfl⟩:=cM h;have r2:=r.2.1;rw [e]at r2;refine aV.pure hI (f c b _ cap p q (lI g) e (i true)) (fc ?_ rfl)
  simp only [ax];refine⟨r.1,m c y R p q cap b r.1 r2 h1 h2, ?_⟩
  obtain⟨ao,l',m',e'⟩:=r.2.2;rw [e]at e';cases e';by_cases az:cap=p<;>simp [az]
 .rename_i n aG wv pl c y k
  obtain⟨g,h⟩:=M.aN h;obtain⟨d,l1,hd,hv,hw,h⟩:=CR h;have r:=(dK j k (by simp)).1
  obtain⟨hs,hr⟩:=xy r hd hv hw;obtain⟨b,cap,e,h3,h4⟩:=hr.gD hs;obtain⟨p,q,h1,h2,h, -,i⟩:=oc (P:=P) (w:=w) j h3 h;obtain⟨rfl,rfl⟩:=cM h;rw [e]at hr;refine aV.pure hI (f c b _ cap p q (lI g) e (i true)) (fc ?_ rfl)
  simp only [ax];exact⟨hs,by omega,fun _=>⟨by omega,fun _ d' a6=>⟨m c y _ p q cap b hs hr h1 h2,by simp⟩⟩⟩
 .rename_i n aG vw k
  obtain⟨l1,h⟩:=M.fH h;cases hd:(st.aj n).bj with
  |none=>simp [hd,M.run]at h
  |some d=>
   simp only [hd]at h;obtain⟨hv,h⟩:=M.aN h;obtain⟨a7,h⟩:=M.aN h;obtain⟨g,h⟩:=M.aN h;have hv:=À hv;have r:=(dK j k (by simp)).1
   obtain⟨q1,q2,q3,b,len,cap,e1,e2⟩:=tQ hI r hd hv a7;obtain⟨ao,aq,e3,h3,h4⟩:=q2.gD q1;rw [e2]at e3;cases e3;cases lo with
   |none=>
    simp only [Option.map_none]at h;obtain⟨p,q,h1,h2,h,h0,i⟩:=oc (P:=P) (w:=w) (lo:=none) j h3 h;obtain⟨rfl,rfl⟩:=cM h;have a8:=h0 rfl;subst a8;refine aV.pure hI (f d.c b _ cap 0 q (lI g) e2 (i true)) (fc ?_ rfl)
    simp only [ax];refine⟨by omega,fun _ _=>⟨b,len,cap,e1, ?_⟩⟩
    cases b with
    |none=>simp
    |some z=>simp [ġ]
   |some lo=>
    simp only [Đ]at h;obtain⟨p,q,h1,h2,h, -,i⟩:=oc (P:=P) (w:=w) (lo:=some lo) j h3 h;obtain⟨rfl,rfl⟩:=cM h;rw [e2]at q2;refine aV.pure hI (f d.c b _ cap p q (lI g) e2 (i true)) (fc ?_ rfl)
    simp only [ax];refine⟨q1,by omega,fun _=>⟨Ô _,fun _ d' a6=>⟨m d.c _ _ p q cap b q1 q2 h1 h2,by simp⟩⟩⟩
 .simp [M.run]at h
theorem Xc (g:Ok P T) (j:Inv w0 F R st θ w) (m:Tm (hp w) R st θ a) {t:TypeId} {x hi mx:Operand} (ho:o.op=.slice t x none (some hi) (some mx)) {k k':IntKind} {p q:Int} {c:Cell}
  (e1:bD st hi=.one (.i k p)) (e2:bD st mx=.one (.i k' q)) (e3:bD st x=.one c)
  (h:(M.gd (decide (p=0/\q=0)) (M.gd (fb T t).isSome (fa c (c1 .z0) fun _ _=>c1 .z0))).run st=some (v,st',l)):aV P w0 F R st θ w o a v st':=by
 obtain⟨hg,h'⟩:=M.aN h;clear h;obtain⟨s,u⟩:=of_decide_eq_true hg;clear hg;subst s u;obtain⟨z,hz⟩:=M.aN h';clear h';obtain⟨d,hc⟩:=Ú.1 z;have r:=(dK m e3 (by rintro rfl;simp [fa,M.run]at hz)).1
 have h1:=(fm m e1).1;have h2:=(fm m e2).1;have b: ∀(f:Option Addr) (len cap:Nat),a.eval x=.slice f len cap->(execOp a.eval o).run P w=.ok (.value (.slice f 0 0)) w:=by
  intro f len cap hx;obtain⟨e,k1,k2⟩:=CQ g hc;simp only [execOp,ho];refine eN ?_
  have hb: ∀(code:BoundsCode) (y:Nat),(ç (.int k 0) y code).run P w=.ok 0 w:=fun code y=>rk (P:=P) (w:=w) rfl (by omega) (by omega) code
  have ae: ∀(code:BoundsCode) (y:Nat),(ç (.int k' 0) y code).run P w=.ok 0 w:=fun code y=>rk (P:=P) (w:=w) rfl (by omega) (by omega) code
  simp [ý,Ď,run_underlying k1,hx,h1,h2,Ò,hb,ae,k2]
 rcases xp j r hz with⟨⟨f,e⟩,h⟩|⟨c',y,l1,R',h,hs,hr, -⟩
 .obtain⟨rfl,rfl⟩:=cM h
  exact aV.pure j (b f 0 0 e) (fc (by simp [ax]) rfl)
 .obtain⟨rfl,rfl⟩:=cM h
  obtain⟨f,cap,e, -, -⟩:=hr.gD hs;exact aV.pure j (b f _ cap e) (fc (by simp [ax]) rfl)
theorem CU (b:Tm (hp w) R st θ a): ∀ {xs:List Operand} {cs:List Cell},nP (xs.map (bD st))=some cs->aI (hp w) R st θ cs (xs.map a.eval)
 | [],cs,h=>by simp [nP]at h;subst h;simp [aI]
 |x::xs,cs,h=>by
  simp only [Í]at h;unfold nP at h;split at h
  .rename_i e;cases e
  .cases h
  .rename_i c r f e
   simp only [List.cons.injEq]at e;obtain⟨g,d,rfl⟩:=Å.1 h;rw [<-e.2]at d;simp only [Í,aI];have:=dK b e.1 (fun i=>f (by rw [i]))
   exact⟨_,_,rfl,this,CU b d⟩
  .cases h
theorem Xd (i:Inv w0 F R st θ w) (g:Tm (hp w) R st θ a) {f:FuncId} {xs b:Array Operand} (j:o.op=.makeFunc (.func f) xs b) {p q:List Cell}
  (d:nP (xs.toList.map (bD st))=some p) (k:nP (b.toList.map (bD st))=some q)
  (h:(c1 (.fn f p q)).run st=some (v,st',l)):aV P w0 F R st θ w o a v st':=by
 obtain⟨rfl,rfl⟩:=cM h;refine aV.pure i (u:=.func (.func f) (xs.map a.eval) (b.map a.eval)) ?_ (fc ?_ rfl)
 .simp only [execOp,j]
  refine eN ?_
  simp [Instr.makeFunc]
 .simp only [ax]
  exact⟨_,_,rfl,by simpa using CU g d,by simpa using CU g k⟩
theorem Xe (p:Inv w0 F R st θ w) (j:Tm (hp w) R st θ a) {cl:Call} {x y:Operand} (q:o.op=.call cl) (f:cl.callee=.builtin .min) (r:cl.args.toList=[x,y]) {k k':IntKind} {m n:Int}
  (d:bD st x=.one (.i k m)) (hy:bD st y=.one (.i k' n)) (h:(M.gd (decide (k=k')) (c1 (.i k (cond (decide (n<m)) n m)))).run st=some (v,st',l)):aV P w0 F R st θ w o a v st':=by
 obtain⟨hk,s⟩:=M.aN h;clear h;have hk:=of_decide_eq_true hk;subst hk;obtain⟨rfl,rfl⟩:=cM s;have g:cl.args= #[x,y]:=by rw [<-Ù (xs:=cl.args),r]
 have d:=fm j d;have hy:=fm j hy;refine aV.pure p (u:=.int k (cond (decide (n<m)) n m)) ?_ (gG ?_)
 .by_cases b:n<m<;>simp [execOp,q,resolve,f,g,invoke,builtin,Ģ,ģ,d.1,hy.1,b]
 .by_cases b:n<m<;>simp [b,d.2,hy.2]
theorem Xf (p:Inv w0 F R st θ w) (j:Tm (hp w) R st θ a) {cl:Call} {x y:Operand} (q:o.op=.call cl) (f:cl.callee=.builtin .max) (r:cl.args.toList=[x,y]) {k k':IntKind} {m n:Int}
  (d:bD st x=.one (.i k m)) (hy:bD st y=.one (.i k' n)) (h:(M.gd (decide (k=k')) (c1 (.i k (cond (decide (m<n)) n m)))).run st=some (v,st',l)):aV P w0 F R st θ w o a v st':=by
 obtain⟨hk,s⟩:=M.aN h;clear h;have hk:=of_decide_eq_true hk;subst hk;obtain⟨rfl,rfl⟩:=cM s;have g:cl.args= #[x,y]:=by rw [<-Ù (xs:=cl.args),r]
 have d:=fm j d;have hy:=fm j hy;refine aV.pure p (u:=.int k (cond (decide (m<n)) n m)) ?_ (gG ?_)
 .by_cases b:m<n<;>simp [execOp,q,resolve,f,g,invoke,builtin,Ĥ,ĥ,d.1,hy.1,b]
 .by_cases b:m<n<;>simp [b,d.2,hy.2]
end
end Go.Ev
namespace Go.Ev
structure bJ (w0:World) (F R:Nat->Prop) (θ:Asg) (w:World) (st st2:St) (fps:List Nat):Prop where
 inv:Inv w0 F R st2 θ w
 step:Step R st θ (hp w) st2 θ (hp w)
 boxes:st2.boxes=st.boxes
 tmps:st2.tmps=st.tmps
 pS: ∀k,st2.aj k=st.aj k\/(st2.aj k).bj=none
 nodup:fps.Nodup
 was: ∀g∈fps,cU st θ g
 free: ∀g∈fps,¬cU st2 θ g
section
variable {P:Program} {T:TypeId→Option TyI} {w0 w:World} {F R:Nat→Prop} {st st' st2 st3:St} {θ:Asg} {a:Act} {o:Oper} {v:TV} {l:Log} {α:Type} {f1 f2:List Nat}
theorem bJ.refl (b:Inv w0 F R st θ w):bJ w0 F R θ w st st []:=
 ⟨b,Step.refl _ _ _ _,rfl,rfl,fun _=>.inl rfl,Ç,by simp,by simp⟩
theorem bJ.owned (t:bJ w0 F R θ w st st2 f1) {g:Nat} (h:cU st2 θ g):cU st θ g:=by
 rcases h with⟨b,d,e⟩|⟨k,hk,f⟩
 .rw [t.boxes]at d;exact .inl ⟨b,d,e⟩
 .rcases t.pS k with e|e
  .rw [e]at hk;exact .inr ⟨k,hk,f⟩
  .simp [e]at hk
theorem bJ.trans (t:bJ w0 F R θ w st st2 f1) (u:bJ w0 F R θ w st2 st3 f2):bJ w0 F R θ w st st3 (f1++f2) where
 inv:=u.inv
 step:=t.step.trans u.step
 boxes:=u.boxes.trans t.boxes
 tmps:=u.tmps.trans t.tmps
 pS:=fun k=>by
  rcases u.pS k with e|e
  .rw [e];exact t.pS k
  .exact .inr e
 nodup:=Ä.2 ⟨t.nodup,u.nodup,fun x d y hy e=>by subst e;exact t.free x d (u.was x hy)⟩
 was:=fun g b=>(Ã.1 b).elim (t.was g) fun h=>t.owned (u.was g h)
 free:=fun g b=>(Ã.1 b).elim (fun h k=>t.free g h (u.owned k)) (u.free g)
theorem bJ.own (t:bJ w0 F R θ w st st2 f1) (d:Inv w0 F R st θ w) {g:Nat} (b:g∈f1): ¬cU st2 θ g/\(F g\/w0.heap.size<=g):=⟨t.free g b,d.own g (t.was g b)⟩
theorem rm {H:Heap} {c:CT} (b:bM c=true) {d:Option Addr}:aC H R true (enc c (ee c)) (.slice d 0 0) []:=by
 have f:aE c (ee c)=0:=by cases c<;>simp [bM]at b<;>simp [aE,ee]
 have:=aC.nY (H:=H) (R:=R) (c:=c) (x:=ee c) (a:=d) (cap:=0) (fp:=[]) b (by omega) (by simp [maxLen]) (.inl ⟨rfl,rfl⟩)
 rwa [f]at this
theorem aC.LA {H:Heap} {c:CT} {x:Interp c} {d:Option Addr} {len cap m:Nat} {fp:List Nat} (f:bM c=true) (h:aC H R true (enc c x) (.slice d len cap) fp) (hm:m<=aE c x) (r:fp.Nodup):
  ∃i,aC H R true (enc c (fR c m x)) (.slice d m cap) i/\i.Nodup/\ ∀g∈i,g∈fp:=by
 obtain⟨a,s,e,h1,t,j⟩:=h.rh f;cases e;have k:aE c (fR c m x)=m:=by rw [tz];omega
 rcases j with⟨j,h4⟩|⟨g,cur,ty,frz,fps,rfl,k1,k2,k3,k4,u⟩
 .refine⟨[], ?_,Ç,by simp⟩
  have:=aC.nY (H:=H) (R:=R) (c:=c) (x:=fR c m x) (a:=d) (cap:=cap) (fp:=[]) f (by omega) t (.inl ⟨j,rfl⟩)
  rwa [k]at this
 .subst k4
  have p:cw c x=(cw c x).take (m*(ak c).size)++(cw c x).drop (m*(ak c).size):=(æ _ _).symm;rw [p]at u;obtain⟨f1,f2,e,z,j2⟩:=u.split;refine⟨g::f1, ?_, ?_,fun b q=> ?_⟩
  .have hle:=Ë (ak c).size hm
   have hlen:((cw c x).take (m*(ak c).size)).length=m*(ak c).size:=by rw [Ì,gT];omega
   rw [hlen,â,à hle,<-xd]at z;have:=aC.nY (H:=H) (R:=R) (c:=c) (x:=fR c m x) (a:=some ⟨g,0,none⟩) (cap:=cap) (fp:=g::f1) f (by omega) t (.inr ⟨g,cur,ty,frz,f1,rfl,k1,k2,k3,rfl,by rw [k];exact z⟩)
   rwa [k]at this
  .rw [e]at r
   exact r.sublist (List.Sublist.cons_cons _ (ñ f1 f2))
  .rw [e]
   rcases é.1 q with rfl|q
   .simp
   .simp [q]
theorem ar.at_ {H:Heap} {own:Bool}: ∀ {ds:List aY} {vs:List Value} {f:List Nat} {j:Nat} {d:aY},ar H R own ds vs f->ds[j]? =some d-> ∃v b,vs[j]? =some v/\aC H R own d v b/\b.Sublist f
 | [],_,_,_,_,_,h=>by simp at h
 |d0::ds,vs,f,j,d,h,hj=>by
  simp only [ar]at h;obtain⟨v,r,f1,f2,rfl,rfl,g,i⟩:=h;cases j with
  |zero=>
   simp only [List.getElem?_cons_zero,É]at hj
   subst hj;exact⟨v,f1,rfl,g,ñ _ _⟩
  |succ j=>
   obtain⟨k,b,k1,k2,k3⟩:=ar.at_ i (j:=j) (by simpa using hj)
   exact⟨k,b,by simpa using k1,k2,k3.trans (List.sublist_append_right _ _)⟩
theorem Xg {H:Heap} {fp:List Nat} {hd:Value} {d:DV} {i j:Nat} {c:CT} {x:Interp c} {v:Value} (u:bM d.c=true) (h:aC H R true (enc d.c d.x) hd fp) (z:fp.Nodup) (hp:Le H fp hd d i j c x v):
  ∃f,aC H R true (enc c x) v f/\f.Nodup/\ ∀g∈f,g∈fp:=by
 obtain⟨e,g,len,cap,cur,ty,frz,q,r,h3,h4,h5,h6⟩:=hp;obtain⟨a,s,k, -, -,h7⟩:=h.rh u;rcases h7 with⟨-,rfl⟩|⟨g',jV,ai,t,fps,k1,k2,k3,k4,rfl,k5⟩
 .cases h4
 .rw [h3,k1]at k
  simp only [Value.slice.injEq,É,Addr.mk.injEq,and_true]at k;obtain⟨rfl, -, -⟩:=k;rw [h5]at k2;simp only [É,Obj.cells.injEq]at k2;obtain⟨rfl, -, -⟩:=k2;have hj:j<(ak d.c).size:=by
   have:=(î.1 r).1
   rwa [kA]at this
  have hi:=tP q;have hm:(i+1)*(ak d.c).size<=aE d.c d.x*(ak d.c).size:=Ë _ hi;rw [ê,Nat.one_mul]at hm;have m:(cw d.c d.x)[i*(ak d.c).size+j]? =some (enc c x):=by
   rw [Ct q];have hl:((cw d.c d.x).take (i*(ak d.c).size)).length=i*(ak d.c).size:=by rw [Ì,gT];omega
   rw [List.getElem?_append_right (by omega),hl,Nat.add_sub_cancel_left,List.getElem?_append_left (by rw [kA];exact hj)]
   exact r
  obtain⟨v',f,q1,q2,q3⟩:=k5.at_ m;rw [ÿ,if_pos (by omega),h6]at q1
  cases q1;have p:fps.Nodup:=(Ó.1 z).2;exact⟨f,q2,p.sublist q3,fun b hb=>by simp [q3.subset hb]⟩
theorem tR (f:Inv w0 F R st θ w) {c:CT} {cl:Cell} {v:Value} (i:ax (hp w) R st θ cl v) {k:Interp c->M α} {y:α} (h:(lB c cl k).run st=some (y,st',l)):
  ∃x st2 fps t,(k x).run st2=some (y,st',t)/\bJ w0 F R θ w st st2 fps/\bM c=true/\aC (hp w) R true (enc c x) v fps:=by
 unfold lB at h;split at h
 .obtain⟨r,h⟩:=M.aN h
  simp only [ax]at i;subst i;exact⟨_,st,[],l,h,bJ.refl f,r,rm r⟩
 .obtain⟨r,h⟩:=M.aN h
  simp only [ax]at i;obtain⟨ad,rfl⟩:=i;exact⟨_,st,[],l,h,bJ.refl f,r,rm r⟩
 .rename_i n aG vw
  obtain⟨t,h⟩:=M.fH h;cases hd:(st.aj n).bj with
  |none=>simp [hd,M.run]at h
  |some d=>
   simp only [hd]at h;obtain⟨j,h⟩:=M.aN h;obtain⟨p,h⟩:=M.aN h;obtain⟨u,h⟩:=M.oa h;obtain⟨z,hz,h⟩:=M.eI h;have j:=À j;obtain⟨i1,i2,i3⟩:=f.kill hd ((st.aj n).aG+1) 0 (.inl (by omega))
   obtain⟨q1,q2,q3⟩:=f.aj n d hd;obtain⟨aq,q4,q5,ad,len,cap,e1,e2⟩:=tQ f i hd j p;obtain⟨ec,s⟩:=jx hz;subst ec;simp only at s;subst s;have key: ∃b,aC (hp w) R true (enc d.c (cD d.c vw d.x)) v b/\b.Nodup/\ ∀g∈b,g∈θ.fp n:=by
    cases vw with
    |none=>
     refine⟨θ.fp n, ?_,q3,fun _ h=>h⟩
     obtain⟨ar,ak,e3, -, -⟩:=q2.gD q1;rw [e1]at e3;cases e3;have:v=θ.ob n:=by rw [e1,e2];rfl
     rw [this];exact q2
    |some m=>
     rw [e1]at q2;obtain⟨b,k1,k2,k3⟩:=q2.LA (m:=m) q1 (by simpa [jv]using p) q3
     refine⟨b, ?_,k2,k3⟩
     have hm:m<=aE d.c d.x:=by simpa [jv]using p
     have:aE d.c (cD d.c (some m) d.x)=m:=by simp only [cD,tz];omega
     rw [e2,this];exact k1
   obtain⟨b,k1,k2,k3⟩:=key;refine⟨_,_,b,u,h,⟨i1,i2,rfl,rfl,fun k=> ?_,k2,fun g q=>.inr ⟨n,by simp [hd],k3 g q⟩,fun g q=>i3.free g (k3 g q)⟩,q1,k1⟩
   by_cases e:k=n
   .subst e;right;simp [bB]
   .left;simp [aX _ _ e]
 .rename_i n aG wv pl c' x0
  obtain⟨t,h⟩:=M.fH h;cases hd:(st.aj n).bj with
  |none=>simp [hd,M.run]at h
  |some d=>
   simp only [hd]at h;obtain⟨j,h⟩:=M.aN h;obtain⟨hw,h⟩:=M.aN h;obtain⟨u,h⟩:=M.oa h;obtain⟨z,hz,h⟩:=M.eI h;have j:=À j;have hw:=À hw;obtain⟨i1,i2,i3⟩:=f.kill hd ((st.aj n).aG+1) 0 (.inl (by omega))
   obtain⟨q1,q2,q3⟩:=f.aj n d hd;obtain⟨ec,s⟩:=jx hz;subst ec;simp only at s;subst s;simp only [ax]at i;obtain⟨r1, -,r2⟩:=i;have ah:=((r2 j).2 hw d hd).2 pl.1 pl.2 rfl;obtain⟨b,k1,k2,k3⟩:=Xg q1 q2 q3 ah;refine⟨_,_,b,u,h,⟨i1,i2,rfl,rfl,fun k=> ?_,k2,fun g q=>.inr ⟨n,by simp [hd],k3 g q⟩,fun g q=>i3.free g (k3 g q)⟩,r1,k1⟩
   by_cases e:k=n
   .subst e;right;simp [bB]
   .left;simp [aX _ _ e]
 .simp [M.run]at h
theorem tS {k:IntKind} {n:Int} (h:k.min<=n/\n<=k.max):jt k (tq k n)=n:=by
 cases k<;>simp only [jt,tq]
 simp only [Û,Ü,Ð,Ø]at h;simp at h
 rw [UInt8.toNat_ofNat'];omega
theorem xz (d:Inv w0 F R st θ w) {c:CT} {cl:Cell} {v:Value} (b:ax (hp w) R st θ cl v) {k:Interp c->M α} {y:α} (h:(qU c cl k).run st=some (y,st',l)):
  ∃x st2 fps f,(k x).run st2=some (y,st',f)/\bJ w0 F R θ w st st2 fps/\aC (hp w) R true (enc c x) v fps:=by
 unfold qU at h;split at h
 .simp only [ax]at b
  exact⟨_,st,[],l,h,bJ.refl d,by simp [enc,aC,b]⟩
 .obtain⟨hk,g⟩:=M.aN h
  have hk:=of_decide_eq_true hk;subst hk;simp only [ax]at b;exact⟨_,st,[],l,g,bJ.refl d,by simp [enc,aC,b,tS b.2]⟩
 .simp only [ax]at b
  exact⟨_,st,[],l,h,bJ.refl d,by simp [enc,aC,b]⟩
 .obtain⟨x,st2,fps,f,i,g, -,j⟩:=tR d b h
  exact⟨x,st2,fps,f,i,g,j⟩
 .obtain⟨x,st2,fps,f,i,g, -,j⟩:=tR d b h
  exact⟨x,st2,fps,f,i,g,j⟩
 .simp [M.run]at h
theorem LB {y:α}: ∀ {ts:aR} {cs:List Cell} {vs:List Value} {k:bf ts->M α} {st st':St} {l:Log},Inv w0 F R st θ w->aI (hp w) R st θ cs vs->(nJ ts cs k).run st=some (y,st',l)->
  ∃x st2 fps g,(k x).run st2=some (y,st',g)/\bJ w0 F R θ w st st2 fps/\ar (hp w) R true (bG ts x) vs fps
 |.one c,cs,vs,k,st,st',l,i,d,h=>by
  match cs,h with
  | [cl],h=>
   simp only [nJ]at h;simp only [aI]at d;obtain⟨v,f,rfl,j,rfl⟩:=d;obtain⟨x,st2,fps,g,k1,k2,k3⟩:=xz i j.1 h;exact⟨x,st2,fps,g,k1,k2,by simp only [bG,ar];exact⟨v,[],fps,[],rfl,by simp,k3,rfl,rfl⟩⟩
  | [],h=>simp [nJ,M.run]at h
  |_::_::_,h=>simp [nJ,M.run]at h
 |.cons c ts,cs,vs,k,st,st',l,i,d,h=>by
  match cs,h with
  |cl::cs,h=>
   simp only [nJ]at h;simp only [aI]at d;obtain⟨v,f,rfl,j,m⟩:=d;obtain⟨x,st2,fps,g,k1,k2,k3⟩:=xz i j.1 h;obtain⟨p,st3,b,q,r,s,t⟩:=LB k2.inv (aI.step k2.step _ _ m) k1;exact⟨(x,p),st3,fps++b,q,r,k2.trans s,by simp only [bG,ar];exact⟨v,f,fps,b,rfl,rfl,k3,t⟩⟩
  | [],h=>simp [nJ,M.run]at h
theorem CV {y:α}: ∀ {ts:aR} {off:Nat} {cs:List Cell} {vs us:List Value} {e:bf ts} {f:List Nat} {k:bf ts->M α} {st st':St} {l:Log},Inv w0 F R st θ w->aI (hp w) R st θ cs vs->ar (hp w) R true (bG ts e) us f->(jQ ts off cs e k).run st=some (y,st',l)->
  ∃t st2 fps p l1,(k t).run st2=some (y,st',l1)/\bJ w0 F R θ w st st2 fps/\off+vs.length<=ts.size/\ar (hp w) R true (bG ts t) (us.take off++(vs++us.drop (off+vs.length))) p/\
   (∀g∈p,g∈f\/g∈fps)/\(f.Nodup->(∀g∈f,g∉fps)->p.Nodup)
 |.one c,off,cs,vs,us,e,f,k,st,st',l,q,i,hd,h=>by
  match off,cs,h with
  |0,[cl],h=>
   simp only [jQ]at h;simp only [aI]at i;obtain⟨v,r,rfl,h1,rfl⟩:=i;obtain⟨x,st2,fps,l1,k1,k2,k3⟩:=xz q h1.1 h;simp only [bG,ar]at hd;obtain⟨u,j,g1,g2,rfl,rfl, -,rfl,rfl⟩:=hd;refine⟨x,st2,fps,fps,l1,k1,k2,by simp [aR.size], ?_,fun g b=>.inr b,fun _ _=>k2.nodup⟩
   simp only [bG,ar];exact⟨v,[],fps,[],by simp,by simp,k3,rfl,rfl⟩
  |0,[],h=>
   simp only [aI]at i;subst i;simp only [jQ]at h;exact⟨e,st,[],f,l,h,bJ.refl q,by simp,by simpa using hd,fun g b=>.inl b,fun h _=>h⟩
  |_+1,[],h=>simp [jQ,M.run]at h
  |0,_::_::_,h=>simp [jQ,M.run]at h
  |_+1,_::_,h=>simp [jQ,M.run]at h
 |.cons c ts,0,[],vs,us,e,f,k,st,st',l,q,i,hd,h=>by
  simp only [jQ]at h;simp only [aI]at i;subst i;exact⟨e,st,[],f,l,h,bJ.refl q,by simp,by simpa using hd,fun g b=>.inl b,fun h _=>h⟩
 |.cons c ts,0,cl::cs,vs,us,e,f,k,st,st',l,q,i,hd,h=>by
  simp only [jQ]at h;simp only [aI]at i;obtain⟨v,r,rfl,h1,h2⟩:=i;simp only [bG,ar]at hd;obtain⟨u,j,g1,g2,rfl,rfl,d1,d2⟩:=hd;obtain⟨x,st2,fps,l1,k1,k2,k3⟩:=xz q h1.1 h;obtain⟨t,st3,m,p,l2,j1,j2,j3,j4,z,j6⟩:=CV k2.inv (aI.step k2.step _ _ h2) d2 k1;refine⟨(x,t),st3,fps++m,fps++p,l2,j1,k2.trans j2,by simp only [aR.size,Ï];omega, ?_, ?_, ?_⟩
  .simp only [bG,ar]
   refine⟨v,r++j.drop r.length,fps,p,by simp [Nat.add_comm 0],rfl,k3,by simpa using j4⟩
  .intro g b
   rcases Ã.1 b with b|b
   .exact .inr (by simp [b])
   .rcases z g b with b|b
    .exact .inl (by simp [b])
    .exact .inr (by simp [b])
  .intro hn d
   have ao:=(Ä.1 hn).2.1;refine Ä.2 ⟨k2.nodup,j6 ao (fun g b s=>d g (by simp [b]) (by simp [s])),fun x hx y hy e=> ?_⟩
   subst e;rcases z x hy with hy|hy
   .exact d x (by simp [hy]) (by simp [hx])
   .exact k2.free x hx (j2.was x hy)
 |.cons c ts,off+1,cs,vs,us,e,f,k,st,st',l,q,i,hd,h=>by
  simp only [jQ]at h;simp only [bG,ar]at hd;obtain⟨u,j,g1,g2,rfl,rfl,d1,d2⟩:=hd;obtain⟨t,st3,m,p,l2,j1,j2,j3,j4,z,j6⟩:=CV q i d2 h;refine⟨(e.1,t),st3,m,g1++p,l2,j1,j2,by simp only [aR.size];omega, ?_, ?_, ?_⟩
  .simp only [bG,ar]
   refine⟨u,j.take off++(vs++j.drop (off+vs.length)),g1,p, ?_,rfl,d1,j4⟩
   have:off+1+vs.length=(off+vs.length)+1:=by omega
   simp [this]
  .intro g b
   rcases Ã.1 b with b|b
   .exact .inl (by simp [b])
   .rcases z g b with b|b
    .exact .inl (by simp [b])
    .exact .inr b
  .intro hn d
   obtain⟨n1,n2,n3⟩:=Ä.1 hn;refine Ä.2 ⟨n1,j6 n2 (fun g b s=>d g (by simp [b]) s),fun x hx y hy e=> ?_⟩
   subst e;rcases z x hy with hy|hy
   .exact n3 x hx x hy rfl
   .exact d x (by simp [hx]) hy
end
end Go.Ev
namespace Go.Ev
theorem setRow_size (w:World) (g:Nat) (cs:Array Value):(w.setRow g cs).heap.size=w.heap.size:=by simp [World.setRow]
theorem Xh {β:Type} (L V:List β) (A sz off n b:Nat) (d:V.length=n) (h:off+n<=sz) (j:A+sz<=b) (k:b<=L.length):
  L.take A++((((L.take b).drop A).take sz).take off++(V++(((L.take b).drop A).take sz).drop (off+n))++((L.take b).drop A).drop sz)=(L.take (A+off)++(V++L.drop (A+off+n))).take b:=by
 have f:(((L.take b).drop A).take sz).take off=(L.drop A).take off:=by
  rw [â,à (by omega),Ĕ,â,à (by omega)]
 have g: ∀X:List β,(X.take sz).drop (off+n)++X.drop sz=X.drop (off+n):=fun X=>by
  by_cases m:sz<=X.length
  .conv=>rhs;rw [<-æ sz X]
   rw [List.drop_append_of_le_length (by rw [Ì];omega)]
  .rw [ã (by omega),õ (i:=sz) (by omega),ë]
 rw [Á,Á,g,f,<-Á,<-List.take_add];rw [Ċ,Ċ,Ì,à (by omega),â,Nat.min_eq_right (by omega),ã (l:=V) (by omega),ù,d,Ĕ]
 congr 3
 .omega
 .rw [ð]
section
variable {P:Program} {T:TypeId→Option TyI} {w0 w:World} {F R:Nat→Prop} {st st' st2 st3:St} {θ:Asg} {a:Act} {o:Oper} {v:TV} {l:Log} {α:Type} {f1 f2:List Nat}
theorem LC {t:TypeId} {p x:Operand} (f:o.op=.store t p x) {d:Addr} (b:a.eval p=.pointer (some d)) {w':World} (h:(storeVar t d (a.eval x)).run P w=.ok () w'):(execOp a.eval o).run P w=.ok .skip w':=by
 simp only [execOp,f];refine Wz ?_
 simp [Instr.storeAt,ē,b,h]
theorem Xi (bp:Ok P T) (hI:Inv w0 F R st θ w) (hT:Tm (hp w) R st θ a) {t:TypeId} {p x:Operand} (ho:o.op=.store t p x) {i:TyI} (hi:T t=some i)
  (h:(M.ir (bD st p) fun q=>nI (bD st x) fun cs=>stM i.size q cs).run st=some (v,st',l)):aV P w0 F R st θ w o a v st':=by
 have az:=bp.eM t i hi;cases ep:bD st p with
 |agg _=>rw [ep]at h;simp [M.ir,M.run]at h
 |aP _=>rw [ep]at h;simp [M.ir,M.run]at h
 |one q=>
  rw [ep]at h;simp only [M.ir]at h;obtain⟨vs,h2,hr⟩:=xw (R:=R) (θ:=θ) h;clear h;have hr:=hr _ _ (gE hT x);simp only [stM]at h2;obtain⟨hn,h⟩:=M.aN h2;clear h2;have hn:=À hn;have hlen:=hr.length;have aq:(a.eval x).cells.size=i.size:=by simpa [hn]using hlen.symm
  cases q<;>simp only at h
  case pb b off=>
   obtain⟨cs,l1,f,h⟩:=M.pQ h;obtain⟨hg,h⟩:=M.aN h;obtain⟨cs0,l2, -,h⟩:=M.Lj h;obtain⟨rfl,rfl⟩:=M.gF h;have hg:=Ê hg;have r:=(dK hT ep (by simp)).1
   simp only [ax]at r;obtain⟨arr,ty,frz,k1,k2,k3⟩:=hI.boxes b cs f;have hl:=k3.length;have ct:cs.length=arr.size:=by simpa using hl
   have au:=Lt (P:=P) (off:=off) az k1 k2 aq (by omega) hr.one
   obtain⟨h1,h2⟩:=hI.Lf (cs:=cs.take off++(vs++cs.drop (off+i.size))) (arr:=(arr.toList.take off++((a.eval x).cells.toList++arr.toList.drop (off+i.size))).toArray) f (setRow_size w _ _) rfl rfl rfl (setRow_heap w _ _ _ _ _ k1)
    (by rw [show (arr.toList.take off++((a.eval x).cells.toList++arr.toList.drop (off+i.size))).toArray.size=arr.size by simp;omega];exact k2) (fun g hg=>setRow_other w _ g _ hg) (by simpa using (k3.take off).append (hr.append (k3.drop (off+i.size))))
   exact⟨undef,_,θ,.inr ⟨LC ho r.2 au,rfl⟩,h1,h2,lH _⟩
  case pe k aG j off=>
   obtain⟨l1,h⟩:=M.fH h;cases hd:(st.aj k).bj with
   |none=>simp [hd,M.run]at h
   |some d=>
    simp only [hd]at h;obtain⟨hv,h⟩:=M.aN h;obtain⟨e,he,h⟩:=M.eI h;have hv:=À hv;have r:=(dK hT ep (by simp)).1
    simp only [ax]at r;obtain⟨g,len,cap,k1,k2,k3⟩:=r.2.2 hv d hd;obtain⟨q1,q2,q3⟩:=hI.aj k d hd;rw [k1]at q2;obtain⟨ad,cf,e1,k4,k5,k6⟩:=q2.rh q1;cases e1;rcases k6 with⟨k6, -⟩|⟨g',cur,ty,frz,fps,e2,k7,k8,k9,z,a7⟩
    .omega
    cases e2;have bu:=Ct he;have hle:=Ë (ak d.c).size (show j+1<=aE d.c d.x from k2);have cl:=Ë (ak d.c).size k4;have cz:(j+1)*(ak d.c).size=j*(ak d.c).size+(ak d.c).size:=ì _ _;rw [bu]at a7;obtain⟨g1,gr,eg,d1,dr⟩:=a7.split;obtain⟨g2,g3,a8,d2,d3⟩:=dr.split;have ha:((cw d.c d.x).take (j*(ak d.c).size)).length=j*(ak d.c).size:=by rw [Ì,gT];omega
    rw [ha]at d1 d2 d3;rw [kA]at d2 d3;rw [â,à (by omega)]at d1
    obtain⟨e',st2,tk,f',l2,h,t1,t2,t3,t4,t5⟩:=CV hI hr d2 h;obtain⟨l3,h⟩:=M.fH h;obtain⟨bw,h⟩:=M.aN h;obtain⟨l4,h⟩:=M.oa h;obtain⟨rfl,rfl⟩:=M.gF h;have s:st2.aj k=st.aj k:=(t1.pS k).resolve_right (fun e=>by simp [e]at bw)
    have bd:(a.eval x).cells.toList.length=i.size:=by simpa using aq
    rw [bd]at t2 t3;have au:=Lt (P:=P) (off:=j*(ak d.c).size+off) az k7 k9.1 aq (by omega) hr.one
    have bf:cU st2 θ g:=.inr ⟨k,by rw [s];simp [hd],by simp [z]⟩
    have bg:=q3;rw [z,eg,a8]at bg;obtain⟨ag,bx⟩:=Ó.1 bg;obtain⟨n1,n2,n3⟩:=Ä.1 bx;obtain⟨n4,n5,n6⟩:=Ä.1 n2;have m: ∀b,b∈g1++(g2++g3)->b∈θ.fp k:=fun b f=>by rw [z,eg,a8];exact List.mem_cons_of_mem _ f
    have aw: ∀b,b∈θ.fp k->cU st2 θ b:=fun b f=>.inr ⟨k,by rw [s];simp [hd],f⟩
    have bz:f'.Nodup:=t5 n4 (fun b f ca=>t1.free b ca (aw b (m b (by simp [f]))))
    have bh:g∉f':=fun f=>by
     rcases t4 g f with f|f
     .exact ag (by simp [f])
     .exact t1.free g f bf
    have bk:(g1++(f'++g3)).Nodup:=by
     refine Ä.2 ⟨n1,Ä.2 ⟨bz,n5,fun b f c u e=> ?_⟩,fun b f c u e=> ?_⟩
     .subst e
      rcases t4 b f with f|f
      .exact n6 b f b u rfl
      .exact t1.free b f (aw b (m b (by simp [u])))
     .subst e
      rcases Ã.1 u with u|u
      .rcases t4 b u with u|u
       .exact n3 b f b (by simp [u]) rfl
       .exact t1.free b u (aw b (m b (by simp [f])))
      .exact n3 b f b (by simp [u]) rfl
    have ae:g∉g1++(f'++g3):=fun f=>by
     simp only [Ã]at f ag;rcases f with f|f|f
     .exact ag (.inl f)
     .exact bh f
     .exact ag (.inr (.inr f))
    have al: ∀b,b≠g->hp (w.setRow g (cur.toList.take (j*(ak d.c).size+off)++((a.eval x).cells.toList++cur.toList.drop (j*(ak d.c).size+off+i.size))).toArray) b=hp w b:=fun b f=>setRow_other w g b _ f
    have cb: ∀b,R b->b≠g:=fun b f e=>t1.inv.tO bf (e▸f)
    have ah:=(d1.append (t3.append d3));have ai:=ah.frame (H':=hp (w.setRow g (cur.toList.take (j*(ak d.c).size+off)++((a.eval x).cells.toList++cur.toList.drop (j*(ak d.c).size+off+i.size))).toArray)) (R':=R)
     (fun b f=>al b (f.elim (fun h e=>ae (e▸h)) (cb b))) (fun _ h=>h)
    have bm:aC (hp (w.setRow g (cur.toList.take (j*(ak d.c).size+off)++((a.eval x).cells.toList++cur.toList.drop (j*(ak d.c).size+off+i.size))).toArray)) R true (enc d.c (lA d.c d.x j e')) (.slice (some ⟨g,0,none⟩) (aE d.c d.x) cap) (g::(g1++(f'++g3))):=by
     have:=aC.nY (R:=R) (c:=d.c) (x:=lA d.c d.x j e') (a:=some ⟨g,0,none⟩) (cap:=cap) (fp:=g::(g1++(f'++g3)))
      (H:=hp (w.setRow g (cur.toList.take (j*(ak d.c).size+off)++((a.eval x).cells.toList++cur.toList.drop (j*(ak d.c).size+off+i.size))).toArray)) q1 (by rw [xe];exact k4) k5
      (.inr ⟨g,_,ty,frz,_,rfl,setRow_heap w g _ _ _ _ k7, ?_, ?_,rfl, ?_⟩)
     .rwa [xe]at this
     .simp;omega
     .have:(cur.toList.take (j*(ak d.c).size+off)++((a.eval x).cells.toList++cur.toList.drop (j*(ak d.c).size+off+i.size))).toArray.size=cur.size:=by simp;omega
      rw [this];exact k9
     .rw [Wj q1 e' k2,xe]
      have hA:(cur.toList.take (j*(ak d.c).size)).length=j*(ak d.c).size:=by rw [Ì];simp;omega
      refine Eq.mp (congrArg (fun l=>ar _ R true _ l _) ?_) ai
      exact Xh _ _ _ _ _ _ _ bd t2 (by omega) (by simp;omega)
    have af:=t1.inv.setObj (k:=k) (d0:=d) (d:=⟨d.c,lA d.c d.x j e'⟩) (fp:=g::(g1++(f'++g3))) (by rw [s];exact hd) rfl (xe _ _ _) ((st2.aj k).wv+1) (by omega)
     (setRow_size w g _) rfl rfl rfl (fun b f=>al b (fun e=>f (by rw [e,z];simp))) (by rw [k1];exact bm) (Ó.2 ⟨ae,bk⟩) (fun b f=>by
      rcases é.1 f with rfl|f
      .left;rw [z];simp
      .simp only [Ã]at f
       rcases f with f|f|f
       .left;exact m b (by simp [f])
       .rcases t4 b f with f|f
        .left;exact m b (by simp [f])
        .right;exact t1.own hI f
       .left;exact m b (by simp [f]))
    rw [s]at af;exact⟨undef,_,_,.inr ⟨LC ho k3 au,rfl⟩,af.1,t1.step.trans af.2,lH _⟩
  all_goals simp [M.run]at h
end
end Go.Ev
namespace Go.Ev
theorem LD (off:Nat): ∀(vs:List Value) (k:Nat) (cells:Array Value),off+k+vs.length<=cells.size->
  ((vs.zipIdx k).foldl (fun cs (p:Value×Nat)=>cs.setIfInBounds (off+p.2) p.1) cells).toList=cells.toList.take (off+k)++(vs++cells.toList.drop (off+k+vs.length))
 | [],k,cells,h=>by simp
 |v::vs,k,cells,h=>by
  simp only [List.zipIdx_cons,List.foldl_cons];simp only [Ï]at h;rw [LD off vs (k+1) _ (by simp;omega)]
  have hk:off+k<cells.toList.length:=by simp;omega
  simp only [Array.toList_setIfInBounds,Ï];rw [show off+(k+1)=(off+k)+1 from by omega,List.take_succ_eq_append_getElem (by simpa using hk),List.take_set_of_le (by omega),List.drop_set_of_lt (by omega)]
  simp
  omega
theorem LG (cells:Array Value) (v:Value) (off:Nat) (h:off+v.cells.size<=cells.size):
  (v.cells.zipIdx.foldl (fun cs (p:Value×Nat)=>cs.setIfInBounds (off+p.2) p.1) cells)=(cells.toList.take off++(v.cells.toList++cells.toList.drop (off+v.cells.size))).toArray:=by
 apply á
 rw [<-Array.foldl_toList,Array.toList_zipIdx];have:=LD off v.cells.toList 0 cells (by simpa using h)
 simpa using this
theorem row_step {β:Type} (L V X:List β) (A s n:Nat) (d:V.length=s) (h:A+s+n<=L.length):
  ((L.take A++(V++L.drop (A+s))).take (A+s))++(X++(L.take A++(V++L.drop (A+s))).drop (A+s+n))=L.take A++((V++X)++L.drop (A+s+n)):=by
 have b:(L.take A++V).length=A+s:=by rw [í,Ì,d];omega
 rw [<-Á (L.take A),ö b];have:(L.take A++V++L.drop (A+s)).drop (A+s+n)=L.drop (A+s+n):=by
  rw [<-ù,List.drop_left' b,ù]
 rw [this];simp
theorem LH (size:Nat): ∀(b:List (Nat×Value)) (j:Nat) (cells:Array Value),b.map (·.1)=ě j b.length->(∀p∈b,p.2.cells.size=size)->(j+b.length)*size<=cells.size->
  ∃cs,è (fun i=>some (i*size,size)) cells b=some cs/\cs.toList=cells.toList.take (j*size)++(b.flatMap (fun p=>p.2.cells.toList)++cells.toList.drop ((j+b.length)*size))
 | [],j,cells,_,_,_=>⟨cells,rfl,by simp⟩
 |(i,v)::b,j,cells,hi,g,h=>by
  simp only [Í,Ï,ċ,List.cons.injEq]at hi;obtain⟨rfl,hi⟩:=hi;have d:v.cells.size=size:=g (i,v) (by simp)
  simp only [Ï]at h;have k:(i+(b.length+1))*size=i*size+size+b.length*size:=by rw [ê,ì];omega
  have m:(i+1+b.length)*size=i*size+size+b.length*size:=by rw [ê,ì]
  have f:=LG cells v (i*size) (by omega)
  obtain⟨cs,q,r⟩:=LH size b (i+1) (cells.toList.take (i*size)++(v.cells.toList++cells.toList.drop (i*size+v.cells.size))).toArray hi (fun p hp=>g p (by simp [hp])) (by simp;omega)
  refine⟨cs, ?_, ?_⟩
  .have t: ¬((v.cells.size≠size)=true||decide (i*size+v.cells.size>cells.size))=true:=by simp [d];omega
   simp only [è];rw [if_neg (by simp [d];omega)]
   exact(congrArg (fun z=>è _ z b) f).trans q
  .rw [r]
   simp only [ä,Ï];have u:(cells.toList.take (i*size)).length=i*size:=by rw [Ì];simp;omega
   have s:v.cells.toList.length=size:=by simpa using d
   rw [m,k,show(i+1)*size=i*size+size from ì _ _,d];exact row_step _ _ _ _ _ _ s (by simp;omega)
theorem Xj (w:World) (o:Obj):hp (w.alloc o) w.heap.size=some o:=heap_alloc_new w o
theorem LI (w:World) (o:Obj) {g:Nat} (h:g<w.heap.size):hp (w.alloc o) g=hp w g:=xm w o h
section
variable {P:Program} {T:TypeId→Option TyI} {w0 w w':World} {F R:Nat→Prop} {st st' st2 st3:St} {θ:Asg} {a:Act} {o:Oper} {v:TV} {l:Log} {α:Type} {fps fp:List Nat}
theorem LJ {nm:Nat} {c:CT} {x:Interp c} {k:Cell->M α} {y:α} (h:(fS nm c x k).run st=some (y,st',l)):
  (st.aj nm).bj=none/\ ∃b,(k (.ob nm ((st.aj nm).aG+1) none)).run {st with aj:=aS st.aj nm ⟨(st.aj nm).aG+1,0,some ⟨c,x⟩⟩}=some (y,st',b):=by
 simp only [fS]at h;obtain⟨b,h⟩:=M.fH h;cases hd:(st.aj nm).bj with
 |some d=>simp [hd,M.run]at h
 |none=>
  simp only [hd]at h;obtain⟨f,h⟩:=M.oa h;exact⟨rfl,f,h⟩
theorem xA (q:Inv w0 F R st θ w) (b:bJ w0 F R θ w st st2 fps) {c:CT} {x:Interp c} {hd:Value} {nm:Nat} (r:bM c=true)
  (i:w.heap.size<=w'.heap.size) (j:w'.os=w.os) (m:w'.tape=w.tape) (f:w'.output=w.output)
  (hold: ∀g,g<w.heap.size->g∉fp->hp w' g=hp w g) (p:aC (hp w') R true (enc c x) hd fp) (s:fp.Nodup) (t: ∀g∈fp,g∈fps\/w.heap.size<=g)
  (he:(execOp a.eval o).run P w=.ok (.value hd) w') (h:(fS nm c x c1).run st2=some (v,st',l)):aV P w0 F R st θ w o a v st':=by
 obtain⟨u,l1,h⟩:=LJ h;obtain⟨rfl,rfl⟩:=cM h;obtain⟨i1,i2⟩:=b.inv.newObj (k:=nm) (d:=⟨c,x⟩) (hd:=hd) (fp:=fp) u r ((st2.aj nm).aG+1) 0 (by omega) i j m f hold p s (fun g z=>by
  rcases t g z with h|h
  .exact b.own q h
  .exact⟨fun ho=>by have:=b.inv.jT ho;omega,.inr (Nat.le_trans b.inv.size h)⟩)
 refine⟨hd,w',_,.inl he,i1,b.step.trans i2,fc ?_ p.cC⟩
 simp [ax,bB]
theorem aC.fresh {w:World} {c:CT} {x:Interp c} {arr:Array Value} {ty:TypeId} {frz:Nat×Nat} {cap:Nat} (g:bM c=true) (i:aE c x<=cap) (j:cap<=maxLen) (d:arr.size=cap*(ak c).size) (k:nG (ak c).size arr.size frz)
  (f:ar (hp w) R true (cw c x) (arr.toList.take (aE c x*(ak c).size)) fps) (m: ∀b,R b->b<w.heap.size):
  aC (hp (w.alloc (.cells arr ty frz))) R true (enc c x) (.slice (some ⟨w.heap.size,0,none⟩) (aE c x) cap) (w.heap.size::fps):=by
 refine aC.nY g i j (.inr ⟨w.heap.size,arr,ty,frz,fps,rfl,Xj w _,d,k,rfl, ?_⟩)
 exact f.frame (fun b p=>LI w _ (p.elim (fun h=>f.rf (fun _ _ h=>nU h) b h) (m b))) (fun _ h=>h)
theorem Xk (n:Nat):il n (0,0):=fun o _=>by simp
theorem od (sz n:Nat):nG sz n (0,0):=⟨Xk n,.inr rfl⟩
theorem xB (j:Inv w0 F R st θ w) (u:bJ w0 F R θ w st st2 fps) {c:CT} {x:Interp c} {nm cap:Nat} (s:bM c=true) {arr:Array Value} {ty:TypeId} {frz:Nat×Nat} {wd:World} (hw:wd.heap=w.heap) (k:wd.os=w.os) (m:wd.tape=w.tape) (d:wd.output=w.output)
  (z:aE c x<=cap) (h3:cap<=maxLen) (p:arr.size=cap*(ak c).size) (hz:nG (ak c).size arr.size frz) {fq:List Nat}
  (q:ar (hp w) R true (cw c x) (arr.toList.take (aE c x*(ak c).size)) fq) (hn:fq.Nodup) (hf: ∀g∈fq,g∈fps)
  (he:(execOp a.eval o).run P w=.ok (.value (.slice (some ⟨w.heap.size,0,none⟩) (aE c x) cap)) (wd.alloc (.cells arr ty frz))) (h:(fS nm c x c1).run st2=some (v,st',l)):aV P w0 F R st θ w o a v st':=by
 have t:hp wd=hp w:=by funext b;simp [hp,hw]
 have r:=fun b (h:b∈fq)=>q.rf (fun _ _ h=>nU h) b h
 rw [<-t]at q;have f:=aC.fresh (w:=wd) (ty:=ty) s z h3 p hz q (fun b hb=>by rw [hw];exact Nat.lt_of_lt_of_le (j.rd b hb).1 j.size)
 rw [hw]at f;refine xA (w':=wd.alloc (.cells arr ty frz)) j u s (by show _<=(wd.heap.push _).size;rw [hw];simp) k m d (fun g i _=> ?_) f (Ó.2 ⟨fun hm=> ?_,hn⟩) (fun g i=> ?_) he h
 .rw [LI wd _ (by rw [hw];exact i),t]
 .exact Nat.lt_irrefl _ (r _ hm)
 .rcases é.1 i with rfl|i
  .exact .inr (Ô _)
  .exact .inl (hf g i)
theorem Xl {c:CT} (e:bf (ak c)) (x:Interp c) (h:bM c=true):cw c (py c e x)=bG (ak c) e++cw c x:=by
 simp [cw,KU e x h]
theorem Xm {c:CT} (e:bf (ak c)) (x:Interp c) (h:bM c=true):aE c (py c e x)=aE c x+1:=by
 rw [iq,iq,KU e x h,Ï]
theorem LK {c:CT} (f:bM c=true) {y:TV}: ∀ {d:List (Nat×TV)} {us:List Value} {j:Nat} {k:Interp c->M TV} {st st':St} {l:Log},Inv w0 F R st θ w->bT (hp w) R st θ (d.map (·.2)) us->(qW c j d k).run st=some (y,st',l)->
  ∃xs st2 fps q,(k xs).run st2=some (y,st',q)/\bJ w0 F R θ w st st2 fps/\aE c xs=d.length/\ar (hp w) R true (cw c xs) (us.flatMap (fun u=>u.cells.toList)) fps/\d.map (·.1)=ě j d.length/\ ∀u∈us,u.cells.size=(ak c).size
 | [],us,j,k,st,st',l,g,b,h=>by
  simp only [qW]at h;simp only [ă,bT]at b;subst b;have r:aE c (ee c)=0:=by rw [iq,xc];rfl
  exact⟨_,st,[],l,h,bJ.refl g,r,by simp [cw,xc,ar],rfl,by simp⟩
 |(i,tv)::d,us,j,k,st,st',l,g,b,h=>by
  simp only [qW]at h;simp only [Í,bT]at b;obtain⟨u,s,rfl,hu,b⟩:=b;obtain⟨hi,h⟩:=M.aN h;have hi:=À hi;subst hi;obtain⟨vs,h,t⟩:=xw (R:=R) (θ:=θ) h;obtain⟨e,st2,f1,q,h,t1,d1⟩:=LB g (t _ _ hu) h;obtain⟨xs,st3,f2,z,h,t2,hl,d2,hm,m⟩:=LK f t1.inv (bT.step t1.step _ _ b) h;refine⟨py c e xs,st3,f1++f2,z,h,t1.trans t2,by rw [Xm e xs f,hl];rfl, ?_, ?_, ?_⟩
  .rw [Xl e xs f,ä]
   exact d1.append d2
  .simp only [Í,Ï,ċ]
   rw [hm]
  .intro x p
   rcases é.1 p with rfl|p
   .have:=d1.length
    rw [kA]at this;simpa using this.symm
   .exact m x p
theorem xC (b:Tm (hp w) R st θ a): ∀xs:List Operand,bT (hp w) R st θ (xs.map (bD st)) (xs.map a.eval)
 | []=>by simp [bT]
 |x::xs=>by
  simp only [Í,bT];exact⟨_,_,rfl,gE b x,xC b xs⟩
theorem Xn (ad:Ok P T) (hI:Inv w0 F R st θ w) (hT:Tm (hp w) R st θ a) {t:TypeId} {len nm:Nat} {parts:Array (Nat×Operand)} (ho:o.op=.buildSlice t len parts) {c:CT} (ae:fb T t=some c)
  (h:(M.gd (ò len parts.toList.length&&Ė (len*(ak c).size) 16777216) (qW c 0 (parts.toList.map fun p=>(p.1,bD st p.2)) fun xs=>fS nm c xs c1)).run st=some (v,st',l)):aV P w0 F R st θ w o a v st':=by
 obtain⟨hc,e,hu,inf,z,hi,d,av,hz,ax, -⟩:=rj ad ae;obtain⟨hg,h⟩:=M.aN h;simp only [Õ]at hg;have hlen:=À hg.1;have hle:=Ê hg.2;have ag:bT (hp w) R st θ ((parts.toList.map fun p=>(p.1,bD st p.2)).map (·.2)) ((parts.toList.map (·.2)).map a.eval):=by
  have:=xC hT (parts.toList.map (·.2))
  simpa [Ą,Function.comp_def]using this
 obtain⟨xs,st2,fps,l1,h,tk,hl,hd,hm,hs⟩:=LK hc hI ag h;have g:aE c xs=len:=by rw [hl,hlen];simp
 have k:=aR.size_pos (ak c);let cs:Array Value:=((Ĝ a.eval (parts.toList.map (·.2))).flatMap (fun u=>u.cells.toList)).toArray
 have m:cs.toList=(Ĝ a.eval (parts.toList.map (·.2))).flatMap (fun u=>u.cells.toList):=rfl
 have f: ∀b:Array Value,b.size=len*(ak c).size->è (fun i=>some (i*(ak c).size,(ak c).size)) b (parts.toList.map fun p=>(p.1,a.eval p.2))=some cs:=by
  intro b r;obtain⟨a1,ah,ai⟩:=LH (ak c).size (parts.toList.map fun p=>(p.1,a.eval p.2)) 0 b (by simpa [Ą,Function.comp_def]using hm)
   (fun p hp=>by
    simp only [ė]at hp;obtain⟨q,hq,rfl⟩:=hp;exact hs _ (by simp only [ė];exact⟨q.2,⟨q,hq,rfl⟩,rfl⟩)) (by simp [r,hlen])
  rw [ah];congr 1
  apply á
  rw [ai];simp only [å,List.take_zero,Â,Ę,đ];rw [õ (by simp [r,hlen]),ë]
  simp [cs,List.flatMap_map]
 have s:=hd.length;rw [<-m,gT,g]at s;refine xB hI tk (c:=c) (x:=xs) (cap:=len) (arr:=cs) (ty:=e) (frz:=(0,0)) (wd:=w) hc rfl rfl rfl rfl (by omega) ?_ (by simpa using s.symm) (od _ _) (fq:=fps) ?_ tk.nodup (fun _ h=>h) ?_ h
 .have:len*1<=len*(ak c).size:=Nat.mul_le_mul_left _ k
  simp only [maxLen];omega
 .rw [g,ã (by omega),m]
  exact hd
 .simp only [execOp,ho]
  refine eN ?_
  have j: ¬(16777216<len*(ak c).size):=by omega
  by_cases h0:len*(ak c).size=0
  .have:=f ((ď (len*(ak c).size)).map fun _=>default) (by simp)
   simp [Č,run_underlying hu,sizeOf,typeInfo,hi,d,h0]at this |-
   simp [this,newRow,g]
  .have:=f ((ď (len*(ak c).size)).map fun x=>z.cells[x%z.cells.size]!) (by simp)
   simp [Č,run_underlying hu,sizeOf,typeInfo,hi,d,j,h0,zeroValue,hz]
   simp [this,newRow,g]
end
end Go.Ev
namespace Go.Ev
theorem mapM_some {α β:Type} {f:α->Option β} {g:α->β}: ∀ {l:List α},(∀x∈l,f x=some (g x))->l.mapM f=some (l.map g)
 | [],_=>rfl
 |x::xs,h=>by
  rw [List.mapM_cons,h x (by simp),mapM_some (fun y hy=>h y (by simp [hy]))]
  rfl
section
variable {P:Program} {T:TypeId→Option TyI} {w0 w w':World} {F R:Nat→Prop} {st st' st2 st3:St} {θ:Asg} {a:Act} {o:Oper} {v:TV} {l:Log} {α:Type} {fps fp:List Nat}
theorem LL (hT:Tm (hp w) R st θ a) {fs:List (Nat×TypeId)} {places:Nat->Option (Nat×Nat)} (f: ∀i off t k,fs[i]? =some (off,t)->T t=some k->places i=some (off,k.size)):
  ∀(g:List (Nat×Operand)) {cs:List Cell} {cells:Array Value} {v:TV} {l:Log},aI (hp w) R st θ cs cells.toList->(qV T fs cs (g.map fun p=>(p.1,bD st p.2))).run st=some (v,st',l)->
   st'=st/\ ∃d b,v=.agg d/\è places cells (g.map fun p=>(p.1,a.eval p.2))=some b/\aI (hp w) R st θ d b.toList
 | [],cs,cells,v,l,j,h=>by
  simp only [ă,qV]at h;obtain⟨rfl,rfl⟩:=M.gF h;exact⟨rfl,_,cells,rfl,rfl,j⟩
 |(i,x)::g,cs,cells,v,l,j,h=>by
  simp only [Í,qV]at h;cases m:fs[i]? with
  |none=>simp [m,M.run]at h
  |some q=>
   obtain⟨off,t⟩:=q;cases s:T t with
   |none=>simp [m,s,M.run]at h
   |some k=>
    simp only [m,s]at h;obtain⟨vs,h,r⟩:=xw (R:=R) (θ:=θ) h;have r:=r _ _ (gE hT x);obtain⟨h1,h⟩:=M.aN h;obtain⟨h2,h⟩:=M.aN h;have h1:=À h1;have h2:=Ê h2;have u:(a.eval x).cells.size=vs.length:=by simpa using r.length.symm
    have ai:cs.length=cells.size:=by simpa using j.length
    have ad:=LG cells (a.eval x) off (by omega)
    have ae:aI (hp w) R st θ (cs.take off++(vs++cs.drop (off+vs.length))) (cells.toList.take off++((a.eval x).cells.toList++cells.toList.drop (off+(a.eval x).cells.size))).toArray.toList:=by
     rw [u];exact(j.take off).append (r.append (j.drop _))
    obtain⟨e,d,b,e1,e2,e3⟩:=LL hT f g ae h;refine⟨e,d,b,e1, ?_,e3⟩
    simp only [Í,è,f i off t k m s];rw [if_neg (by simp;omega)]
    exact(congrArg (fun z=>è _ z (g.map fun p=>(p.1,a.eval p.2))) ad).trans e2
theorem Xo (d:Ok P T) (hI:Inv w0 F R st θ w) (hT:Tm (hp w) R st θ a) {t:TypeId} {parts:Array (Nat×Operand)} (ho:o.op=.build t parts) {fs:List (Nat×TypeId)} {i:TyI} (hi:T t=some i) (hu:i.u=.struct fs)
  (h:(qV T fs i.zero (parts.toList.map fun p=>(p.1,bD st p.2))).run st=some (v,st',l)):aV P w0 F R st θ w o a v st':=by
 have g:=d.eM t i hi;have hk:=g.u;rw [hu]at hk;simp only [lG]at hk;obtain⟨fields,k1,k2⟩:=hk;obtain⟨inf,z,j1,j2, -,j3,j4, -⟩:=g.info;have j: ∀f∈fields.toList,(P.info? f.type).map (fun i=>(f.offset,i.size))=some (f.offset,((P.info? f.type).map (·.size)).getD 0):=by
  intro f r;obtain⟨n,hn,e⟩:=List.mem_iff_getElem.1 r;have s:n<fs.length:=by rw [<-k2.len];simpa using hn
  obtain⟨fd,m1,m2,m3,k,m4, -⟩:=k2.at_ n fs[n].1 fs[n].2 (by simp [ß s])
  have:fd=f:=by
   have q:fields.toList[n]? =some fd:=by simpa using m1
   rw [ß hn,e]at q
   exact(Ġ q).symm
  subst this;rw [m3,m4];rfl
 have m:=mapM_some j;obtain⟨rfl,ao,b,rfl,e2,e3⟩:=LL (cells:=z.cells) (places:=fun x=>(fields.toList.map fun f=>(f.offset,((P.info? f.type).map (·.size)).getD 0)).toArray[x]?) hT (fun n off t' ti r ht=>by
  obtain⟨fd,m1,m2,m3, -⟩:=k2.at_ n off t' r;obtain⟨k,z',n1,n2, -⟩:=(d.eM t' ti ht).info;have q:fields.toList[n]? =some fd:=by simpa using m1
  simp only [List.getElem?_toArray,ą,q,Đ,m2,m3,n1,n2,Option.getD_some]) parts.toList (CO j4) h
 refine aV.pure hI (u:=.agg b) ?_ ?_
 .simp only [execOp,ho]
  refine eN (run_build w t _ b ?_)
  have ad:(parts.map fun x=>(x.1,a.eval x.2)).toList=parts.toList.map fun p=>(p.1,a.eval p.2):=by simp
  simp only [Program.built,j1,k1,j3,m,ad];exact e2
 .simp only [aU]
  exact⟨_,rfl,e3⟩
theorem LM: ∀y:List (bf (.one (.int .u8))),ę (bG (.one (.int .u8))) y=Ĝ (fun b:bf (.one (.int .u8))=>aY.i .u8 (UInt8.toNat b:Int)) y
 | []=>rfl
 |b::y=>congrArg (List.cons (aY.i .u8 (UInt8.toNat b:Int))) (LM y)
theorem CX (x:O):cw cB x=x.map fun b=>aY.i .u8 (b.toNat:Int):=by
 have d:(dx cB x:List (bf (.one (.int .u8))))=x:=List.map_id' _;exact(congrArg (ę (bG (.one (.int .u8)))) d).trans (LM x)
theorem ar.bytes {H:Heap} {own:Bool} {fp:List Nat}: ∀ {x:O} {vs:List Value},ar H R own (x.map fun b=>aY.i .u8 (b.toNat:Int)) vs fp->vs=x.map fun b=>ú .u8 (b.toNat:Int)
 | [],vs,h=>by
  simp only [ă,ar]at h;simp [h.1]
 |b::x,vs,h=>by
  simp only [Í,ar]at h;obtain⟨v,f,f1,f2,rfl,rfl,d,g⟩:=h;simp only [aC]at d;rw [Í,ar.bytes g,d.1]
theorem Xp (p:Ok P T) (q:Inv w0 F R st θ w) (hT:Tm (hp w) R st θ a) {s t:TypeId} {x:Operand} (ho:o.op=.convert s t x) {c:Cell} (ht:iU T t=some .str) (hx:bD st x=.one c)
  (h:(M.gd (jR (fb T s) cB) (fa c (c1 (.s [])) fun c x=>.opt (dY c cB x) fun y=>c1 (.s y))).run st=some (v,st',l)):aV P w0 F R st θ w o a v st':=by
 obtain⟨hc,h⟩:=M.aN h;obtain⟨-,e,hu,inf,z,hi,ah,ay,hz,az,k⟩:=rj p (lI hc);have k:P.underlying e=some (.int .u8):=k;have hd:P.underlying t=some .string:=by
  simp only [iU,Å]at ht;obtain⟨i,hi,e⟩:=ht;have:=(p.eM t i hi).u;rw [e]at this;exact this
 have hr:=gE hT x;rw [hx]at hr;simp only [aU]at hr;have d: ∀(y:O) (b:Addr) (cap:Nat),a.eval x=.slice (some b) y.length cap->(∀j (hj:j<y.length),w.cell? (b.add j)=some (.int .u8 (y[j].toNat:Int)))->(execOp a.eval o).run P w=.ok (.value (.string ⟨y.toArray⟩)) w:=by
  intro y b cap f m;simp only [execOp,ho];refine eN ?_
  rw [f];exact run_convert_bytes_back w s t e b cap y hu k hd m
 have r:a.eval x=.slice none 0 0\/(∃b,a.eval x=.slice (some b) 0 0)->(execOp a.eval o).run P w=.ok (.value (.string ⟨#[]⟩)) w:=by
  rintro(f|⟨b,f⟩)
  .simp only [execOp,ho]
   refine eN ?_
   simp [convert,run_underlying hu,run_underlying hd,run_underlying k,f,Conv.bytesToString]
   rfl
  .exact d [] b 0 f (by simp)
 rcases xp q hr.1 h with⟨⟨b,f⟩,h⟩|⟨c',y,l1,R',h,ae,hy, -⟩
 .obtain⟨rfl,rfl⟩:=cM h
  refine aV.pure q (r ?_) (pR (x:=[]) (by simp [maxLen]))
  cases b with
  |none=>exact .inl f
  |some b=>exact .inr ⟨b,f⟩
 .obtain⟨y',aj,h⟩:=M.eI h
  obtain⟨rfl,rfl⟩:=cM h;obtain⟨ec,ey⟩:=jx aj;subst ec;simp only at ey;subst ey;obtain⟨z,hz⟩: ∃z:O,z=y:=⟨y,rfl⟩
  subst hz;obtain⟨b,cap,f,h1,h2⟩:=hy.gD ae;have hlen:aE cB z=z.length:=rfl;have hle:z.length<=maxLen:=by rw [<-hlen];omega
  rw [f]at hy;by_cases h0:z.length=0
  .have:z=[]:=Æ h0
   subst this;cases b with
   |some b=>exact aV.pure q (d [] b cap f (by simp)) (pR hle)
   |none=>
    refine aV.pure q (u:=.string ⟨#[]⟩) ?_ (pR (x:=[]) hle)
    simp only [execOp,ho];refine eN ?_
    simp [convert,run_underlying hu,run_underlying hd,run_underlying k,f,Conv.bytesToString]
    rfl
  .obtain⟨g,off,cur,ty,frz,rfl,k1,k2,k3,k4⟩:=hy.xo ae (by rw [hlen];exact h0)
   refine aV.pure q (d z _ cap f (fun j hj=> ?_)) (pR hle)
   rw [ô,cell_of_row w g (off+j) cur ty frz k2];rw [CX]at k4;have hb:=k4.bytes;have h3:((cur.toList.drop off).take (aE cB z*(ak cB).size))[j]? =some (.int .u8 (z[j].toNat:Int)):=by
    rw [hb];simp [ß hj]
   rw [ÿ]at h3
   split at h3
   .rw [List.getElem?_drop]at h3
    simpa using h3
   .cases h3
end
end Go.Ev
namespace Go.Ev
theorem LN {z:Array Value} {s:Nat} (b:z.size=s): ∀n:Nat,((List.range (n*s)).map fun i=>z[i%s]!)=(Ñ n z.toList).flatten
 |0=>by simp
 |n+1=>by
  rw [ì,List.range_add,List.map_append,LN b n,List.replicate_succ',û];congr 1
  simp only [Ą,Ć,List.flatten_nil,ë];apply List.ext_getElem?
  intro i;simp only [ą]
  by_cases h:i<s
  .rw [List.getElem?_range h]
   have d:i<z.size:=by omega
   simp [d,Nat.mod_eq_of_lt h]
  .rw [List.getElem?_eq_none (by simpa using h)]
   simp
   omega
section
variable {H:Heap} {R:Nat→Prop} {own:Bool}
theorem LO {c:CT} {v:Value} (h:zeroV c v=true):aC H R true (enc c (ee c)) v []:=by
 cases c with
 |bool=>
  unfold zeroV at h;split at h<;>simp_all [enc,ee,aC]
 |int k=>
  cases v<;>simp [zeroV]at h
  obtain⟨rfl,rfl⟩:=h;cases k<;>simp [enc,ee,KN,aC,jt,Û,Ü,Ð,Ø]
 |str=>
  cases v<;>simp [zeroV]at h
  subst h;simp [enc,ee,aC,maxLen]
 |sl ts=>
  unfold zeroV at h;split at h<;>simp_all
  exact rm (c:=.sl _) rfl
 |tree fs=>
  unfold zeroV at h;split at h<;>simp_all
  exact rm (c:=.tree _) rfl
theorem xD: ∀ {ts:aR} {vs:List Value},kF ts vs=true->ar H R true (bG ts (mE ts)) vs []
 |.one c,vs,h=>by
  match vs,h with
  | [v],h=>
   simp only [kF]at h;simp only [bG,mE,ar];exact⟨v,[],[],[],rfl,rfl,LO h,rfl,rfl⟩
  | [],h=>simp [kF]at h
  |_::_::_,h=>simp [kF]at h
 |.cons c ts,vs,h=>by
  match vs,h with
  |v::vs,h=>
   simp only [kF,Õ]at h;simp only [bG,mE,ar];exact⟨v,vs,[],[],rfl,rfl,LO h.1,xD h.2⟩
  | [],h=>simp [kF]at h
theorem LP {c:CT} (b:bM c=true) (n:Nat):dx c (nO c n)=Ñ n (mE (ak c)):=by
 cases c<;>simp [bM]at b
 .simp [dx,nO]
 .rename_i fs
  simp only [dx,nO,Ā];rw [Cr]
theorem LQ {ts:aR} {b:List Value} (h:kF ts b=true): ∀n:Nat,ar H R true ((Ñ n (mE ts)).flatMap (bG ts)) (Ñ n b).flatten []
 |0=>by simp [ar]
 |n+1=>by
  simp only [List.replicate_succ,ä,Ć];exact(xD h).append (LQ h n)
mutual
theorem LR: ∀ {ts:aR} {x:bf ts} {vs:List Value} {R':Nat->Prop} {fp:List Nat},nM ts=true->ar H R' own (bG ts x) vs fp->ar H R true (bG ts x) vs []
 |.one c,x,vs,R',fp,d,h=>by
  simp only [nM]at d;simp only [bG,ar]at h |-;obtain⟨v,f,f1,f2,rfl,rfl,b,rfl,rfl⟩:=h;refine⟨v,[],[],[],rfl,rfl, ?_,rfl,rfl⟩
  cases c<;>simp [bM]at d<;>simp only [enc,aC]at b |-
  .exact⟨b.1,trivial⟩
  .exact⟨b.1,b.2.1,trivial⟩
  .exact⟨b.1,b.2.1,trivial⟩
 |.cons c ts,x,vs,R',fp,d,h=>by
  simp only [nM,Õ]at d;simp only [bG,ar]at h |-;obtain⟨v,f,f1,f2,rfl,rfl,b,g⟩:=h;refine⟨v,f,[],[],rfl,rfl, ?_,LR d.2 g⟩
  have d:=d.1;cases c<;>simp [bM]at d<;>simp only [enc,aC]at b |-
  .exact⟨b.1,trivial⟩
  .exact⟨b.1,b.2.1,trivial⟩
  .exact⟨b.1,b.2.1,trivial⟩
end
theorem LS {ts:aR} (b:nM ts=true) {R':Nat->Prop}: ∀ {xs:List (bf ts)} {vs:List Value} {fp:List Nat},ar H R' own (xs.flatMap (bG ts)) vs fp->ar H R true (xs.flatMap (bG ts)) vs []
 | [],vs,fp,h=>by simp only [List.flatMap_nil,ar]at h |-;exact⟨h.1,trivial⟩
 |x::xs,vs,fp,h=>by
  simp only [ä]at h |-;obtain⟨f1,f2, -,d,f⟩:=h.split;have:=(LR (R:=R) b d).append (LS b f);rwa [æ]at this
theorem CY: ∀x:O,ar H R true (x.map fun b=>aY.i .u8 (b.toNat:Int)) (x.map fun b=>ú .u8 (b.toNat:Int)) []
 | []=>by simp [ar]
 |b::x=>by
  simp only [Í,ar];refine⟨_,_,[],[],rfl,rfl, ?_,CY x⟩
  simp only [aC];refine⟨trivial, ?_,trivial⟩
  have:=b.toNat_lt;simp only [Û,Ü,Ð,Ø];simp
  omega
end
section
variable {P:Program} {T:TypeId→Option TyI} {w0 w w':World} {F R:Nat→Prop} {st st' st2 st3:St} {θ:Asg} {a:Act} {o:Oper} {v:TV} {l:Log} {α:Type} {fps fp:List Nat}
theorem CZ {n:Nat} (h:n<=aD):n<=maxLen:=by simp only [aD,maxLen]at *;omega
theorem Xq (g:Ok P T) (hI:Inv w0 F R st θ w) (hT:Tm (hp w) R st θ a) {s t:TypeId} {x:Operand} (ho:o.op=.convert s t x) {z:O} (hs:iU T s=some .str) {c:CT} (m:fb T t=some c) (hx:bD st x=.one (.s z)) {nm:Nat}
  (h:(M.opt (dY cB c z) fun y=>.gd (Ė z.length aD) (fS nm c y c1)).run st=some (v,st',l)):aV P w0 F R st θ w o a v st':=by
 obtain⟨y,hy,h⟩:=M.eI h;obtain⟨p,h⟩:=M.aN h;have p:=Ê p;obtain⟨ec,ey⟩:=jx hy;subst ec;simp only at ey;subst ey;obtain⟨-,e,hu,inf,zz,hi,q,ar,hz,au,f⟩:=rj g m;have f:P.underlying e=some (.int .u8):=f;have r:P.underlying s=some .string:=by
  simp only [iU,Å]at hs;obtain⟨i,hi,e⟩:=hs;have:=(g.eM s i hi).u;rw [e]at this;exact this
 have ad:=pP hT hx;have d:=run_bytes_of_string (P:=P) w s t e ⟨z.toArray⟩ r hu f;have j:(⟨z.toArray⟩:ByteArray).size=z.length:=rfl;rw [j]at d;have ae:=grownCap_ge w z.length 0 e;have hle:=grownCap_le_maxLen w z.length 0 e (CZ p);have hl:(bytesRow ⟨z.toArray⟩ (grownCap w z.length 0 e)).toList=(z.map fun b=>ú .u8 (b.toNat:Int))++Ñ (grownCap w z.length 0 e-z.length) (.int .u8 0):=by
  simp [bytesRow,j]
 have k:(bytesRow ⟨z.toArray⟩ (grownCap w z.length 0 e)).size=grownCap w z.length 0 e:=by
  rw [<-ü,hl];simp
  omega
 refine xB hI (bJ.refl hI) (c:=cB) (x:=z) (cap:=grownCap w z.length 0 e) (arr:=bytesRow ⟨z.toArray⟩ (grownCap w z.length 0 e)) (ty:=e) (frz:=((bytesRow ⟨z.toArray⟩ (grownCap w z.length 0 e)).size,(bytesRow ⟨z.toArray⟩ (grownCap w z.length 0 e)).size+1)) (wd:=w.drew) rfl rfl rfl rfl rfl ae hle (by rw [k];exact(ĝ _).symm) ⟨(fun o h1 h2=>by simp only at h2;omega),.inl rfl⟩ (fq:=[]) ?_ Ç (by simp) ?_ h
 .rw [CX,hl]
  have:aE cB z*(ak cB).size=(z.map fun b=>ú .u8 (b.toNat:Int)).length:=by rw [đ];exact ĝ _
  rw [this,ĕ];exact CY z
 .simp only [execOp,ho]
  refine eN ?_
  rw [ad.1];exact d
theorem Xr (ai:Ok P T) (hI:Inv w0 F R st θ w) (hT:Tm (hp w) R st θ a) {t:TypeId} {x y:Operand} (ho:o.op=.makeSlice t x y) {c:CT} (aj:fb T t=some c) {n m:Int} (hx:bD st x=.one (.i .i64 n)) (hy:bD st y=.one (.i .i64 m)) {nm:Nat}
  (h:(M.gd (decide (0<=n/\n<=m/\m<=aD)) (fS nm c (nO c n.toNat) c1)).run st=some (v,st',l)):aV P w0 F R st θ w o a v st':=by
 obtain⟨hg,h⟩:=M.aN h;have hg:=of_decide_eq_true hg;obtain⟨hc,e,hu,inf,z,hi,b,a6,hz,q, -⟩:=rj ai aj;have g:=fm hT hx;have j:=fm hT hy;have ay:=aR.size_pos (ak c);have p:z.cells.size=(ak c).size:=by
  have:=(xD (H:=hp w) (R:=R) q).length;rw [kA]at this;simpa using this.symm
 have hl:aE c (nO c n.toNat)=n.toNat:=by rw [iq,LP hc,List.length_replicate]
 have r:Ğ.wrap n=n:=by
  have:=g.2;simp only [Û,Ü,Ð,Ø]at this;simp at this
  simp only [Ě,Ð,Ø];simp
  split<;>omega
 have s:Ğ.wrap m=m:=by
  have:=j.2;simp only [Û,Ü,Ð,Ø]at this;simp at this
  simp only [Ě,Ð,Ø];simp
  split<;>omega
 let arr:Array Value:=(Ñ m.toNat z.cells.toList).flatten.toArray
 have u:m.toNat<=aD:=by omega
 have d: ∀k:Nat,(Ñ k z.cells.toList).flatten.length=k*(ak c).size:=fun k=>by
  rw [List.length_flatten,Ā,List.sum_replicate_nat];simp [p]
 refine xB hI (bJ.refl hI) (c:=c) (x:=nO c n.toNat) (cap:=m.toNat) (arr:=arr) (ty:=e) (frz:=(0,0)) (wd:=w) hc rfl rfl rfl rfl (by omega) (CZ u) (by simp only [arr,ć];exact d _) (od _ _) (fq:=[]) ?_ Ç (by simp) ?_ h
 .rw [hl]
  have:cw c (nO c n.toNat)=(Ñ n.toNat (mE (ak c))).flatMap (bG (ak c)):=by rw [cw,LP hc]
  rw [this];have e2:m.toNat=n.toNat+(m.toNat-n.toNat):=by omega
  have e3:arr.toList.take (n.toNat*(ak c).size)=(Ñ n.toNat z.cells.toList).flatten:=by
   simp only [arr];rw [e2,<-List.replicate_append_replicate,û];exact ö (d _)
  rw [e3];exact LQ q _
 .simp only [execOp,ho]
  refine eN ?_
  have ad: ¬(281474976710656<(inf.bytes:Int)*m):=by
   have h1:(inf.bytes:Int)*m<=1024*m:=Int.mul_le_mul_of_nonneg_right (by omega) (by omega)
   simp only [aD]at hg;omega
  have ar:=LN (z:=z.cells) p m.toNat;have ae: ∀f:Nat->Value,(∀i,f i=z.cells[i%(ak c).size]!)->(ď (m.toNat*(ak c).size)).map f=arr:=fun f hf=>by
   apply á
   have:f=fun i=>z.cells[i%(ak c).size]! :=funext hf
   subst this;simp only [arr,<-ar,č,ā]
  have af: ¬(m<n):=by omega
  have ag: ¬(n<0):=by omega
  have ah: ¬(m<0):=by omega
  by_cases h0:m.toNat*(ak c).size=0
  .have av:m.toNat=0:=(Nat.mul_eq_zero.1 h0).resolve_right (by omega)
   have ha:arr= #[]:=by simp [arr,av]
   simp [Ē,run_underlying hu,g.1,j.1,asInt,asIntOf,typeInfo,hi,r,s,ad,af,ag,ah,sizeOf,b,h0,newRow,hl,ha]
   congr 2
   exact á (by rw [č,ā];rfl)
  .simp [Ē,run_underlying hu,g.1,j.1,asInt,asIntOf,typeInfo,hi,r,s,ad,af,ag,ah,sizeOf,b,h0,newRow,hl,zeroValue,hz,p]
   rw [ae _ (fun _=>rfl)]
end
end Go.Ev
namespace Go.Ev
section
variable {P:Program} {T:TypeId→Option TyI} {w0 w w':World} {F R:Nat→Prop} {st st' st2 st3:St} {θ:Asg} {a:Act} {o:Oper} {v:TV} {l:Log} {α:Type} {fps fp:List Nat}
theorem Da {b:Option Addr} {g off len cap n s:Nat} {cur:Array Value} {ty:TypeId} {frz:Nat×Nat} {wd:World} (d:b=some ⟨g,off,none⟩) (f:hp wd g=some (.cells cur ty frz)) (h:off+n*s<=cur.size):
  (È s n (.slice b len cap)).run P wd=.ok ((cur.toList.drop off).take (n*s)).toArray wd:=by
 subst d;exact Lg f h
theorem tT {b:Option Addr} {len cap s:Nat} {wd:World}:(È s 0 (.slice b len cap)).run P wd=.ok #[] wd:=by
 cases b with
 |none=>simp [È]
 |some x=>simp [È,loadCells,loadCellsFrom]
structure Src (P:Program) (w:World) (R:Nat->Prop) (c:CT) (u:Value) (y:Interp c) (news:List Value) (fq:List Nat):Prop where
 len:(Þ u).run P w=.ok (aE c y) w
 first: ∀wd:World,wd.heap=w.heap->(È (ak c).size (aE c y) u).run P wd=.ok news.toArray wd
 rel:ar (hp w) R true (cw c y) news fq
theorem Src.empty {c:CT} (_:bM c=true) {d:Option Addr} {cap:Nat}:Src P w R c (.slice d 0 cap) (ee c) [] []:=by
 have b:aE c (ee c)=0:=by rw [iq,xc];rfl
 refine⟨by simp [Þ,b],fun wd _=>by rw [b];exact tT,by simp [cw,xc,ar]⟩
theorem LU (m:Inv w0 F R st θ w) {c:CT} (r:bM c=true) {z:TV} {u:Value} (d:aU (hp w) R st θ z u) {k:Interp c->M α} {y:α} (h:(nN c z k).run st=some (y,st',l)):
  ∃x st2 fps f news fq,(k x).run st2=some (y,st',f)/\bJ w0 F R θ w st st2 fps/\Src P w R c u x news fq/\fq.Nodup/\ ∀g∈fq,g∈fps:=by
 cases z with
 |agg _=>simp [nN,M.run]at h
 |aP _=>simp [nN,M.run]at h
 |one cl=>
  simp only [aU]at d;have d:=d.1;have i: ∀(cl:Cell),ax (hp w) R st θ cl u->(cond (nM (ak c)) (fa cl (k (ee c)) fun q x=>.opt (dY q c x) k) (lB c cl k)).run st=some (y,st',l)->
    ∃x st2 fps f news fq,(k x).run st2=some (y,st',f)/\bJ w0 F R θ w st st2 fps/\Src P w R c u x news fq/\fq.Nodup/\ ∀g∈fq,g∈fps:=by
   intro cl d h;cases hf:nM (ak c)with
   |true=>
    simp only [hf,Y]at h;rcases xp m d h with⟨⟨ad,rfl⟩,h⟩|⟨q,x,f,R',h,av,t, -⟩
    .exact⟨_,st,[],l,[],[],h,bJ.refl m,Src.empty r,Ç,by simp⟩
    .obtain⟨x',j,h⟩:=M.eI h
     obtain⟨ec,ex⟩:=jx j;subst ec;simp only at ex;subst ex;obtain⟨ad,cap,rfl,h1,h2⟩:=t.gD r;by_cases p:aE q x=0
     .refine⟨x,st,[],f,[],[],h,bJ.refl m,⟨by simp [Þ],fun wd _=>by rw [p];exact tT, ?_⟩,Ç,by simp⟩
      have:cw q x=[]:=Æ (by rw [gT,p,å])
      rw [this];simp [ar]
     .obtain⟨g,off,cur,ty,frz,e1,k1,k2,k3,k4⟩:=t.xo r p
      refine⟨x,st,[],f,_,[],h,bJ.refl m,⟨by simp [Þ],fun wd hw=> ?_,LS (ts:=ak q) hf k4⟩,Ç,by simp⟩
      exact Da e1 (by simpa only [hp,hw]using k2) k3
   |false=>
    simp only [hf,ez]at h;obtain⟨x,st2,fps,f,h,tk, -,t⟩:=tR m d h;obtain⟨ad,cap,rfl,h1,h2,h3⟩:=t.rh r;rcases h3 with⟨h3,rfl⟩|⟨g,cur,ty,frz,fq,e1,k1,k2,k3,rfl,k4⟩
    .have p:aE c x=0:=by omega
     refine⟨x,st2,[],f,[],[],h,tk,⟨by simp [Þ],fun wd _=>by rw [p];exact tT, ?_⟩,Ç,by simp⟩
     have:cw c x=[]:=Æ (by rw [gT,p,å])
     rw [this];simp [ar]
    .have hle:=Ë (ak c).size h1
     refine⟨x,st2,_,f,_,fq,h,tk,⟨by simp [Þ],fun wd hw=> ?_,k4⟩,(Ó.1 tk.nodup).2,fun g hg=>by simp [hg]⟩
     have:=Da (P:=P) (off:=0) (n:=aE c x) (s:=(ak c).size) (len:=aE c x) (cap:=cap) (wd:=wd) e1 (by simpa only [hp,hw]using k1) (by omega)
     simpa using this
  unfold nN at h;split at h
  .rename_i s e
   cases e;obtain⟨x',j,h⟩:=M.eI h;obtain⟨ec,ex⟩:=jx j;subst ec;simp only at ex;subst ex;simp only [ax]at d;obtain⟨rfl,hle⟩:=d;have ao:(⟨s.toArray⟩:ByteArray).size=s.length:=rfl;refine⟨s,st,[],l,s.map (fun b=>ú .u8 (b.toNat:Int)),[],h,bJ.refl m,⟨by simp [Þ,ao];rfl,fun wd _=> ?_,by rw [CX];exact CY s⟩,Ç,by simp⟩
   have e:aE cB s=s.length:=rfl;have e2:s.extract 0 s.length=s:=by simp [Ă]
   simp only [È,Sem.run_pure];rw [e,extract_mk];simp
  .rename_i e
   cases e;exact i _ d h
  .rename_i h1 h2
   exact absurd rfl (h2 _)
theorem Db {t t2 e:TypeId} {tyr:TypeId} {inf:TypeInfo} {c:CT} {y:Interp c} {u:Value} {news:List Value} {fq:List Nat} (j:P.underlying t=some (.slice e)) (f:(∃x,P.underlying t2=some (.slice x))\/P.underlying t2=some .string) (hi:P.info? e=some inf) (k:inf.size=(ak c).size)
  {base:Option Addr} {sLen sCap:Nat} (d:Src P w R c u y news fq) (b:sLen+aE c y<=sCap) {w':World}
  (i: ∀h,base=some h->(storeCells (h.add (sLen*(ak c).size)) news).run P w=.ok () w') (g:base=none->w'=w):
  (Î #[t,t2] tyr #[.slice base sLen sCap,u]).run P w=.ok (.slice base (sLen+aE c y) sCap) w':=by
 have m:=d.first w rfl;rcases f with⟨x,f⟩|f
 .cases base with
  |none=>
   obtain rfl:=g rfl;simp [Î,run_underlying j,run_underlying f,sizeOf,typeInfo,hi,d.len,b,k,m]
  |some h=>
   simp [Î,run_underlying j,run_underlying f,sizeOf,typeInfo,hi,d.len,b,k,m,i h rfl]
 .cases base with
  |none=>
   obtain rfl:=g rfl;simp [Î,run_underlying j,run_underlying f,sizeOf,typeInfo,hi,d.len,b,k,m]
  |some h=>
   simp [Î,run_underlying j,run_underlying f,sizeOf,typeInfo,hi,d.len,b,k,m,i h rfl]
theorem Xt {t t2 e:TypeId} {tyr:TypeId} {inf:TypeInfo} {z:Value} {c:CT} {y:Interp c} {u:Value} {news olds:List Value} {fq:List Nat} (i:P.underlying t=some (.slice e)) (b:(∃x,P.underlying t2=some (.slice x))\/P.underlying t2=some .string) (hi:P.info? e=some inf) (j:inf.size=(ak c).size) (h:inf.bytes<=1024) (k:inf.zero=some z)
  {base:Option Addr} {sLen sCap:Nat} (d:Src P w R c u y news fq) (s:sCap<sLen+aE c y) (m:sLen+aE c y<=aD)
  (hold: ∀wd:World,wd.heap=w.heap->(È (ak c).size sLen (.slice base sLen sCap)).run P wd=.ok olds.toArray wd):
  (Î #[t,t2] tyr #[.slice base sLen sCap,u]).run P w=
   .ok (.slice (some ⟨w.heap.size,0,none⟩) (sLen+aE c y) (grownCap w (sLen+aE c y) sCap e))
    (w.drew.alloc (.cells (olds++(news++(ï z.cells (grownCap w (sLen+aE c y) sCap e-(sLen+aE c y))).toList)).toArray e)):=by
 have p: ¬(sLen+aE c y<=sCap):=by omega
 have g: ¬(9223372036854775807<((sLen:Int)+(aE c y:Int))):=by simp only [aD]at m;omega
 have f: ¬(281474976710656<ğ (sLen+aE c y) sCap*inf.bytes):=by
  have:=growslice_fits (bytes:=inf.bytes) s (by
   have:(sLen+aE c y)*inf.bytes<=aD*1024:=Nat.mul_le_mul m h;simp only [aD]at this;omega)
  omega
 have q:=d.first w.drew rfl;have r:=hold w.drew rfl;rcases b with⟨x,b⟩|b
 .simp [Î,run_underlying i,run_underlying b,sizeOf,typeInfo,zeroValue,hi,k,d.len,p,g,f,j,Question.forced,q,r,newRow,grownCap]
  congr 2
  apply á
  simp
 .simp [Î,run_underlying i,run_underlying b,sizeOf,typeInfo,zeroValue,hi,k,d.len,p,g,f,j,Question.forced,q,r,newRow,grownCap]
  congr 2
  apply á
  simp
end
end Go.Ev
namespace Go.Ev
theorem Xu {α:Type} (f:Nat->α) (k:Nat) (u v:α):aS (aS f k u) k v=aS f k v:=by
 funext i
 by_cases h:i=k
 .subst h;rw [bB,bB]
 .rw [aX _ _ h,aX _ _ h,aX _ _ h]
section
variable {P:Program} {T:TypeId→Option TyI} {w0 w w':World} {F R:Nat→Prop} {st st' st2 st3:St} {θ:Asg} {a:Act} {o:Oper} {v:TV} {l:Log} {α:Type} {fps fp:List Nat}
theorem LV (j:Inv w0 F R st θ w) {n aG:Nat} {vw:Option Nat} {d:DV} {v:Value} (r:ax (hp w) R st θ (.ob n aG vw) v) (hd:(st.aj n).bj=some d) (s:aG=(st.aj n).aG) (b:jv d.c vw d.x=true):
  ∃f,aC (hp w) R true (enc d.c (cD d.c vw d.x)) v f/\f.Nodup/\(∀g∈f,g∈θ.fp n)/\(vw=none->v=θ.ob n/\f=θ.fp n):=by
 obtain⟨q1,q2,q3⟩:=j.aj n d hd;obtain⟨t,q4,q5,z,len,cap,i,k⟩:=tQ j r hd s b;cases vw with
 |none=>
  obtain⟨u,p,q, -, -⟩:=q2.gD q1;rw [i]at q;cases q;have:v=θ.ob n:=by rw [i,k];rfl
  refine⟨θ.fp n, ?_,q3,fun _ h=>h,fun _=>⟨this,rfl⟩⟩
  rw [this];exact q2
 |some m=>
  rw [i]at q2;obtain⟨f,k1,k2,k3⟩:=q2.LA (m:=m) q1 (by simpa [jv]using b) q3
  refine⟨f, ?_,k2,k3,by simp⟩
  have hm:m<=aE d.c d.x:=by simpa [jv]using b
  have:aE d.c (cD d.c (some m) d.x)=m:=by simp only [cD,tz];omega
  rw [k,this];exact k1
theorem bJ.kill (b:Inv w0 F R st θ w) {n:Nat} {d:DV} (hd:(st.aj n).bj=some d):bJ w0 F R θ w st {st with aj:=aS st.aj n ⟨(st.aj n).aG,(st.aj n).wv+1,none⟩} (θ.fp n):=by
 obtain⟨i1,i2,i3⟩:=b.kill hd (st.aj n).aG ((st.aj n).wv+1) (.inr ⟨rfl,by omega⟩)
 refine⟨i1,i2,rfl,rfl,fun k=> ?_,(b.aj n d hd).2.2,fun g f=>.inr ⟨n,by simp [hd],f⟩,i3.free⟩
 by_cases e:k=n
 .subst e;right;simp [bB]
 .left;simp [aX _ _ e]
theorem Xv {nm:Nat} {c:CT} {x:Interp c} (h:(st.aj nm).bj=none):
  (fS nm c x c1).run st=some (.one (.ob nm ((st.aj nm).aG+1) none),{st with aj:=aS st.aj nm ⟨(st.aj nm).aG+1,0,some ⟨c,x⟩⟩},⟨[2*nm+1],[2*nm+1]⟩):=by
 simp [fS,M.run,h,c1,Log.none,Log.r,Log.w]
theorem Xw (a8:Ok P T) (hI:Inv w0 F R st θ w) (hT:Tm (hp w) R st θ a) {cl:Call} {s x:Operand} {t t2:TypeId} (ho:o.op=.call cl) (ch:cl.callee=.builtin .append) (ha:cl.args.toList=[s,x]) (cj:cl.argTypes.toList=[t,t2]) {c:CT} (ck:fb T t=some c) {d:Nat}
  (h:(M.gd (uS (T t2)||pB (T t2)) (CD c d (bD st s) (bD st x))).run st=some (v,st',l)):aV P w0 F R st θ w o a v st':=by
 obtain⟨hc,e,hu,inf,z,hi,q,cm,hz,cn, -⟩:=rj a8 ck;have cp:cl.args= #[s,x]:=by rw [<-Ù (xs:=cl.args),ha]
 have bn:cl.argTypes= #[t,t2]:=by rw [<-Ù (xs:=cl.argTypes),cj]
 obtain⟨r,h⟩:=M.aN h;have r:(∃x,P.underlying t2=some (.slice x))\/P.underlying t2=some .string:=by
  rw [Ý]at r;exact r.imp (xt a8) (xx a8)
 have ag: ∀ {u:Value} {w':World},(Î #[t,t2] o.type #[a.eval s,a.eval x]).run P w=.ok u w'->(execOp a.eval o).run P w=.ok (.value u) w':=by
  intro u w' hr;simp [execOp,ho,resolve,ch,cp,bn,invoke,builtin,hr]
 have c7:=aR.size_pos (ak c);have cq:z.cells.size=(ak c).size:=by
  have:=(xD (H:=hp w) (R:=R) cn).length;rw [kA]at this;simpa using this.symm
 have bo:=gE hT x;have grow: ∀ {y:Interp c} {X:Interp c} {news olds:List Value} {st2:St} {fps fq:List Nat} {nm sCap sLen:Nat} {base:Option Addr} {l1:Log},bJ w0 F R θ w st st2 fps->Src P w R c (a.eval x) y news []\/(∃f,Src P w R c (a.eval x) y news f)->a.eval s=.slice base sLen sCap->sCap<sLen+aE c y->sLen+aE c y<=aD->
   (∀wd:World,wd.heap=w.heap->(È (ak c).size sLen (.slice base sLen sCap)).run P wd=.ok olds.toArray wd)->aE c X=sLen+aE c y->ar (hp w) R true (cw c X) (olds++news) fq->fq.Nodup->(∀g∈fq,g∈fps)->(fS nm c X c1).run st2=some (v,st',l1)->aV P w0 F R st θ w o a v st':=by
  intro y X news olds st2 fps fq nm sCap sLen base l1 tk j hs hg k hold hX a6 hn hf h;obtain⟨f,j⟩: ∃f,Src P w R c (a.eval x) y news f:=j.elim (fun h=>⟨_,h⟩) id
  have m:=Xt (P:=P) (tyr:=o.type) hu r hi q cm hz j hg k hold;rw [<-hs]at m;have bp:=grownCap_ge w (sLen+aE c y) sCap e;have hle:=grownCap_le_maxLen w (sLen+aE c y) sCap e (CZ k);have aw:=a6.length;rw [gT,hX]at aw;have hm:=ag m;rw [<-hX]at hm bp hle;rw [<-hX]at aw;refine xB hI tk (c:=c) (x:=X) (cap:=grownCap w (aE c X) sCap e) (arr:=(olds++(news++(ï z.cells (grownCap w (aE c X) sCap e-aE c X)).toList)).toArray) (ty:=e) (frz:=(0,0)) (wd:=w.drew) hc rfl rfl rfl rfl bp hle ?_ (od _ _) (fq:=fq) ?_ hn hf hm h
  .rw [ć,<-Á,í,<-aw,ü,size_zeroCells,cq,<-ê]
   congr 1
   omega
  .have:(olds++(news++(ï z.cells (grownCap w (aE c X) sCap e-aE c X)).toList)).toArray.toList.take (aE c X*(ak c).size)=olds++news:=by
    rw [aw,<-Á];exact ĕ
   rw [this];exact a6
 have al: ∀ {ad:Option Addr},a.eval s=.slice ad 0 0->(nN c (bD st x) fun y=>.gd (Ė (aE c y) aD) (fS (fE d 0) c y c1)).run st=some (v,st',l)->aV P w0 F R st θ w o a v st':=by
  intro ad hs h;obtain⟨y,st2,fps,l1,news,fq,h,tk,j,hn,hf⟩:=LU (P:=P) hI hc bo h;obtain⟨k,h⟩:=M.aN h;have k:=Ê k;by_cases h0:aE c y=0
  .have ae:news=[]:=Æ (by rw [<-j.rel.length,gT,h0,å])
   subst ae;have m:=Db (P:=P) (tyr:=o.type) (base:=ad) (sLen:=0) (sCap:=0) (w':=w) hu r hi q j (by omega) (fun _ _=>rfl) (fun _=>rfl)
   rw [<-hs,h0]at m;refine xA (w':=w) (fp:=[]) (hd:=.slice ad 0 0) hI tk hc (Ô _) rfl rfl rfl (fun _ _ _=>rfl) ?_ Ç (by simp) (ag m) h
   have:=aC.nY (H:=hp w) (R:=R) (c:=c) (x:=y) (a:=ad) (cap:=0) (fp:=[]) hc (by omega) (by simp [maxLen]) (.inl ⟨rfl,rfl⟩)
   rwa [h0]at this
  .exact grow (y:=y) (X:=y) (olds:=[]) tk (.inr ⟨_,j⟩) hs (by omega) (by omega) (fun wd _=>tT) (by omega) (by simpa using j.rel) hn hf h
 have p:=gE hT s;unfold CD at h;split at h
 .rename_i e1
  rw [e1]at p;simp only [aU,ax]at p;exact al p.1 h
 .rename_i e1
  rw [e1]at p;simp only [aU,ax]at p;obtain⟨ad,p⟩:=p.1;exact al p h
 .rename_i n aG vw e1
  rw [e1]at p;simp only [aU]at p;have p:=p.1;obtain⟨y,st2,fps,l1,news,fq,h,tk,j,hn,hf⟩:=LU (P:=P) hI hc bo h;obtain⟨l2,h⟩:=M.fH h;cases hd:(st2.aj n).bj with
  |none=>simp [hd,M.run]at h
  |some dd=>
   simp only [hd]at h;obtain⟨hv,h⟩:=M.aN h;obtain⟨cv,h⟩:=M.aN h;obtain⟨x0,ao,h⟩:=M.eI h;obtain⟨k,h⟩:=M.aN h;obtain⟨l3,h⟩:=M.oa h;obtain⟨rfl,rfl⟩:=cM h;have k:=Ê k;have hv:=À hv;have br:=ax.step tk.step _ _ p;obtain⟨f',r1,r2,r3, -⟩:=LV tk.inv br hd hv cv;obtain⟨ec,ex⟩:=jx ao;subst ec;simp only at ex;subst ex;have bf:=tk.trans (bJ.kill tk.inv hd);have aq:(fS n dd.c (ju dd.c (cD dd.c vw dd.x) y) c1).run {st2 with aj:=aS st2.aj n ⟨(st2.aj n).aG,(st2.aj n).wv+1,none⟩}=
     some (.one (.ob n ((st2.aj n).aG+1) none),{st2 with aj:=aS st2.aj n ⟨(st2.aj n).aG+1,0,some ⟨dd.c,ju dd.c (cD dd.c vw dd.x) y⟩⟩},⟨[2*n+1],[2*n+1]⟩):=by
    rw [Xv (by simp [bB])]
    simp [bB,Xu]
   have ay:=Wk (c:=dd.c) (cD dd.c vw dd.x) y hc;have bu:=Wi (c:=dd.c) (cD dd.c vw dd.x) y hc;have au: ∀b∈f',b∉fq:=fun b k cy=>tk.free b (hf b cy) (.inr ⟨n,by simp [hd],r3 b k⟩)
   obtain⟨ad,cap,es,p1,p2,p3⟩:=r1.rh hc;by_cases af:aE dd.c (cD dd.c vw dd.x)+aE dd.c y<=cap
   .rcases p3 with⟨p3,p4⟩|⟨g,cur,ty,frz,bg,rfl,k1,k2,k3,k4,k5⟩
    . --nothing there,nothing put
     have c0:aE dd.c y=0:=by omega
     have ao:aE dd.c (cD dd.c vw dd.x)=0:=by omega
     have ae:news=[]:=Æ (by rw [<-j.rel.length,gT,c0,å])
     subst ae;have m:=Db (P:=P) (tyr:=o.type) (base:=ad) (w':=w) hu r hi q j af (fun _ _=>rfl) (fun _=>rfl)
     rw [<-es]at m;refine xA (w':=w) (fp:=[]) (hd:=.slice ad (aE dd.c (cD dd.c vw dd.x)+aE dd.c y) cap) hI bf hc (Ô _) rfl rfl rfl (fun _ _ _=>rfl) ?_ Ç (by simp) (ag m) aq
     rw [<-ay];exact aC.nY hc (by omega) p2 (.inl ⟨p3,rfl⟩)
    .have hle:=Ë (ak dd.c).size af
     rw [ê]at hle;have c2:news.length=aE dd.c y*(ak dd.c).size:=by rw [<-j.rel.length,gT]
     have bx:=CM (P:=P) (g:=g) (o:=aE dd.c (cD dd.c vw dd.x)*(ak dd.c).size) (vs:=news) (i:=0) (w:=w) k1 k3.1 (by omega) j.rel.cC
     rw [Nat.add_zero]at bx;have m:=Db (P:=P) (tyr:=o.type) (base:=some ⟨g,0,none⟩) (sLen:=aE dd.c (cD dd.c vw dd.x)) (sCap:=cap) hu r hi q j af (fun dn e'=>by cases e';rw [ô,Ę];exact bx) (by simp)
     rw [<-es]at m;have bz:=r2;rw [k4]at bz;obtain⟨ca,c3⟩:=Ó.1 bz;have cb:g∉fq:=au g (by rw [k4];simp)
     have c4:cU st2 θ g:=.inr ⟨n,by simp [hd],r3 g (by rw [k4];simp)⟩
     have a7: ∀b,b≠g->hp (w.setRow g (cur.toList.take (aE dd.c (cD dd.c vw dd.x)*(ak dd.c).size)++(news++cur.toList.drop (aE dd.c (cD dd.c vw dd.x)*(ak dd.c).size+news.length))).toArray) b=hp w b:=fun b k=>setRow_other w g b _ k
     have a1:=(k5.append j.rel).frame (H':=hp (w.setRow g (cur.toList.take (aE dd.c (cD dd.c vw dd.x)*(ak dd.c).size)++(news++cur.toList.drop (aE dd.c (cD dd.c vw dd.x)*(ak dd.c).size+news.length))).toArray)) (R':=R)
      (fun b k=>a7 b (fun e=>by
       subst e;rcases k with k|k
       .rcases Ã.1 k with k|k
        .exact ca k
        .exact cb k
       .exact tk.inv.tO c4 k)) (fun _ h=>h)
     have c5:(cur.toList.take (aE dd.c (cD dd.c vw dd.x)*(ak dd.c).size)).length=aE dd.c (cD dd.c vw dd.x)*(ak dd.c).size:=by rw [Ì];simp;omega
     refine xA (fp:=g::(bg++fq)) (hd:=.slice (some ⟨g,0,none⟩) (aE dd.c (cD dd.c vw dd.x)+aE dd.c y) cap) hI bf hc (Ĉ (setRow_size w g _).symm) rfl rfl rfl (fun b _ k=>a7 b (fun e=>k (by rw [e];simp))) ?_ ?_ ?_ (ag m) aq
     .rw [<-ay]
      refine aC.nY hc (by omega) p2 (.inr ⟨g,_,ty,frz,_,rfl,setRow_heap w g _ _ _ _ k1, ?_, ?_,rfl, ?_⟩)
      .simp;omega
      .have:(cur.toList.take (aE dd.c (cD dd.c vw dd.x)*(ak dd.c).size)++(news++cur.toList.drop (aE dd.c (cD dd.c vw dd.x)*(ak dd.c).size+news.length))).toArray.size=cur.size:=by simp;omega
       rw [this];exact k3
      .rw [bu]
       have e3:((cur.toList.take (aE dd.c (cD dd.c vw dd.x)*(ak dd.c).size)++(news++cur.toList.drop (aE dd.c (cD dd.c vw dd.x)*(ak dd.c).size+news.length))).toArray.toList).take (aE dd.c (ju dd.c (cD dd.c vw dd.x) y)*(ak dd.c).size)=cur.toList.take (aE dd.c (cD dd.c vw dd.x)*(ak dd.c).size)++news:=by
        rw [ay,ê];show(_++(news++_)).take _=_;rw [<-Á];exact ö (by rw [í,c5,c2])
       rw [e3];exact a1
     .refine Ó.2 ⟨fun hm=> ?_,Ä.2 ⟨c3,hn,fun b k c' bh e=> ?_⟩⟩
      .rcases Ã.1 hm with hm|hm
       .exact ca hm
       .exact cb hm
      .subst e;exact au b (by rw [k4];simp [k]) bh
     .intro b k
      left
      rcases é.1 k with rfl|k
      .exact Ã.2 (.inr (r3 _ (by rw [k4];simp)))
      .rcases Ã.1 k with k|k
       .exact Ã.2 (.inr (r3 _ (by rw [k4];simp [k])))
       .exact Ã.2 (.inl (hf b k))
   .have olds: ∃olds fo,(∀wd:World,wd.heap=w.heap->(È (ak dd.c).size (aE dd.c (cD dd.c vw dd.x)) (.slice ad (aE dd.c (cD dd.c vw dd.x)) cap)).run P wd=.ok olds.toArray wd)/\ar (hp w) R true (cw dd.c (cD dd.c vw dd.x)) olds fo/\fo.Nodup/\ ∀b∈fo,b∈f':=by
     rcases p3 with⟨p3,p4⟩|⟨g,cur,ty,frz,bg,e2,k1,k2,k3,k4,k5⟩
     .have ao:aE dd.c (cD dd.c vw dd.x)=0:=by omega
      refine⟨[],[],fun wd _=>by rw [ao];exact tT, ?_,Ç,by simp⟩
      have:cw dd.c (cD dd.c vw dd.x)=[]:=Æ (by rw [gT,ao,å])
      rw [this];simp [ar]
     .have hle:=Ë (ak dd.c).size p1
      refine⟨_,bg,fun wd hw=> ?_,k5,by rw [k4]at r2;exact(Ó.1 r2).2,fun b k=>by rw [k4];simp [k]⟩
      have:=Da (P:=P) (off:=0) (n:=aE dd.c (cD dd.c vw dd.x)) (s:=(ak dd.c).size) (len:=aE dd.c (cD dd.c vw dd.x)) (cap:=cap) (wd:=wd) e2 (by simpa only [hp,hw]using k1) (by omega)
      simpa using this
    obtain⟨olds,fo,o1,o2,o3,o4⟩:=olds;refine grow (y:=y) (X:=ju dd.c (cD dd.c vw dd.x) y) (olds:=olds) (fq:=fo++fq) bf (.inr ⟨_,j⟩) es (by omega) k o1 ay (by rw [bu];exact o2.append j.rel) ?_ ?_ aq
    .exact Ä.2 ⟨o3,hn,fun b k c' bh e=>by subst e;exact au b (o4 b k) bh⟩
    .intro b k
     rcases Ã.1 k with k|k
     .exact Ã.2 (.inr (r3 _ (o4 b k)))
     .exact Ã.2 (.inl (hf b k))
 .simp [M.run]at h
end
end Go.Ev
namespace Go.Ev
abbrev Env:=List (Nat×Value×List Nat)
def Env.fps (L:Env):List Nat:=L.flatMap (·.2.2)
theorem Env.dj (L A:Env):Env.fps (L++A)=L.fps++A.fps:=List.flatMap_append
section
variable (H:Heap) (R:Nat→Prop) (B:Nat→Nat→Prop) (nal:Bool)
mutual
def aq:Env->Nat->CK->List DV->Value->Env->Prop
 |_,_,.undef,ds,_,A=>ds=[]/\A=[]
 |_,_,.bool,ds,v,A=> ∃x:Bool,ds=[⟨.bool,x⟩]/\v=.bool x/\A=[]
 |_,_,.int k,ds,v,A=> ∃x:pw k,ds=[⟨.int k,x⟩]/\v=.int k (jt k x)/\(k.min<=jt k x/\jt k x<=k.max)/\A=[]
 |_,_,.str,ds,v,A=> ∃x:O,ds=[⟨.str,x⟩]/\v=.string ⟨x.toArray⟩/\x.length<=maxLen/\A=[]
 |_,_,.er,ds,v,A=> ∃x:Bool,ds=[⟨.bool,x⟩]/\((x=false/\v=.nilIface)\/(x=true/\ ∃t u,v=.iface t u))/\A=[]
 |_,_,.sh c,ds,v,A=> ∃x,ds=[⟨c,x⟩]/\bM c=true/\aC H R false (enc c x) v []/\A=[]
 |_,nm,.own c,ds,v,A=> ∃x fp,ds=[⟨c,x⟩]/\bM c=true/\aC H R true (enc c x) v fp/\A=[(nm,v,fp)]
 |_,_,.nl,ds,v,A=>ds=[]/\v=.slice none 0 0/\A=[]
 |L,_,.al m,ds,v,A=>nal=false/\ds=[]/\A=[]/\ ∃fp,(m,v,fp)∈L
 |L,_,.gs m c,ds,v,A=>nal=false/\A=[]/\ ∃x hd fp,ds=[⟨c,x⟩]/\bM c=true/\(m,hd,fp)∈L/\aC H (fun b=>b∈fp) false (enc c x) v []
 |_,_,.pb m off,ds,v,A=>ds=[]/\A=[]/\ ∃g,B m g/\v=.pointer (some ⟨g,off,none⟩)
 |_,_,.eT,ds,v,A=>ds=[]/\v=.pointer none/\A=[]
 |_,_,.fl,ds,v,A=>ds=[]/\v=.nilFunc/\A=[]
 |L,_,.fn f a b,ds,v,A=> ∃h vb d1 d2 A1 A2,ds=d1++d2/\A=A1++A2/\v=.func (.func f) h vb/\bq L (fun _=>0) 0 a d1 h.toList A1/\bq (L++A1) (fun _=>0) 0 b d2 vb.toList A2
def bq:Env->(Nat->Nat)->Nat->List CK->List DV->List Value->Env->Prop
 |_,_,_,[],ds,vs,A=>ds=[]/\vs=[]/\A=[]
 |L,nm,j,c::cs,ds,vs,A=> ∃v d d1 d2 A1 A2,ds=d1++d2/\vs=v::d/\A=A1++A2/\cC v=true/\aq L (nm j) c d1 v A1/\bq (L++A1) nm (j+1) cs d2 d A2
end
def cr:Env->(Nat->Nat)->Nat->List bk->List DV->List Value->Env->Prop
 |_,_,_,[],ds,vs,A=>ds=[]/\vs=[]/\A=[]
 |L,nm,j,.one c::cs,ds,vs,A=> ∃v b d1 d2 A1 A2,ds=d1++d2/\vs=v::b/\A=A1++A2/\(c=.undef\/cC v=true)/\aq H R B nal L (nm j) c d1 v A1/\cr (L++A1) nm (j+1) cs d2 b A2
 |L,nm,j,.agg ks::cs,ds,vs,A=> ∃arr b d1 d2 A1 A2,ds=d1++d2/\vs=.agg arr::b/\A=A1++A2/\bq H R B nal L nm j ks d1 arr.toList A1/\cr (L++A1) nm (j+ks.length) cs d2 b A2
 |_,_,_,.aP _::_,_,_,_=>False
def bU (L:Env) (nm:Nat->Nat):bk->List DV->Value->Env->Prop
 |.one c,ds,v,A=>(c=.undef\/cC v=true)/\aq H R B nal L (nm 0) c ds v A
 |.agg ks,ds,v,A=> ∃arr,v=.agg arr/\bq H R B nal L nm 0 ks ds arr.toList A
 |.aP cs,ds,v,A=> ∃arr,v=.tuple arr/\cr H R B nal L nm 0 cs ds arr.toList A
end
section
variable {H:Heap} {R R':Nat→Prop} {B B':Nat→Nat→Prop} {nal:Bool}
theorem aC.mono (f: ∀b,R b->R' b) {own:Bool} {d:aY} {v:Value} {fp:List Nat} (h:aC H R own d v fp):aC H R' own d v fp:=h.frame (fun _ _=>rfl) f
mutual
theorem aq.mono (r: ∀b,R b->R' b) (s: ∀m g,B m g->B' m g): ∀(k:CK) {L:Env} {nm:Nat} {ds:List DV} {v:Value} {A:Env},aq H R B nal L nm k ds v A->aq H R' B' nal L nm k ds v A
 |.undef,_,_,_,_,_,h=>by simpa only [aq]using h
 |.bool,_,_,_,_,_,h=>by simpa only [aq]using h
 |.int _,_,_,_,_,_,h=>by simpa only [aq]using h
 |.str,_,_,_,_,_,h=>by simpa only [aq]using h
 |.er,_,_,_,_,_,h=>by simpa only [aq]using h
 |.sh c,_,_,_,_,_,h=>by
  simp only [aq]at h |-;obtain⟨x,d,i,p,q⟩:=h;exact⟨x,d,i,p.mono r,q⟩
 |.own c,_,_,_,_,_,h=>by
  simp only [aq]at h |-;obtain⟨x,fp,d,i,p,q⟩:=h;exact⟨x,fp,d,i,p.mono r,q⟩
 |.nl,_,_,_,_,_,h=>by simpa only [aq]using h
 |.al _,_,_,_,_,_,h=>by simpa only [aq]using h
 |.gs _ _,_,_,_,_,_,h=>by simpa only [aq]using h
 |.pb _ _,_,_,_,_,_,h=>by
  simp only [aq]at h |-;obtain⟨d,i,g,p,q⟩:=h;exact⟨d,i,g,s _ _ p,q⟩
 |.eT,_,_,_,_,_,h=>by simpa only [aq]using h
 |.fl,_,_,_,_,_,h=>by simpa only [aq]using h
 |.fn f a b,_,_,_,_,_,h=>by
  simp only [aq]at h |-;obtain⟨z,vb,d1,d2,A1,A2,d,i,p,q,t⟩:=h;exact⟨z,vb,d1,d2,A1,A2,d,i,p,bq.mono r s a q,bq.mono r s b t⟩
theorem bq.mono (r: ∀b,R b->R' b) (s: ∀m g,B m g->B' m g): ∀(ks:List CK) {L:Env} {nm:Nat->Nat} {j:Nat} {ds:List DV} {vs:List Value} {A:Env},bq H R B nal L nm j ks ds vs A->bq H R' B' nal L nm j ks ds vs A
 | [],_,_,_,_,_,_,h=>by simpa only [bq]using h
 |c::cs,_,_,_,_,_,_,h=>by
  simp only [bq]at h |-;obtain⟨v,u,d1,d2,A1,A2,d,i,p,q,t,h6⟩:=h;exact⟨v,u,d1,d2,A1,A2,d,i,p,q,aq.mono r s c t,bq.mono r s cs h6⟩
end
theorem cr.mono (f: ∀b,R b->R' b) (i: ∀m g,B m g->B' m g): ∀(ks:List bk) {L:Env} {nm:Nat->Nat} {j:Nat} {ds:List DV} {vs:List Value} {A:Env},cr H R B nal L nm j ks ds vs A->cr H R' B' nal L nm j ks ds vs A
 | [],_,_,_,_,_,_,h=>by simpa only [cr]using h
 |.one c::cs,_,_,_,_,_,_,h=>by
  simp only [cr]at h |-;obtain⟨v,d,d1,d2,A1,A2,k,p,q,t,r,s⟩:=h;exact⟨v,d,d1,d2,A1,A2,k,p,q,t,aq.mono f i c r,cr.mono f i cs s⟩
 |.agg ks::cs,_,_,_,_,_,_,h=>by
  simp only [cr]at h |-;obtain⟨arr,d,d1,d2,A1,A2,k,p,q,r,s⟩:=h;exact⟨arr,d,d1,d2,A1,A2,k,p,q,bq.mono f i ks r,cr.mono f i cs s⟩
 |.aP _::_,_,_,_,_,_,_,h=>by simp only [cr]at h
theorem bU.mono (d: ∀b,R b->R' b) (f: ∀m g,B m g->B' m g) {k:bk} {L:Env} {nm:Nat->Nat} {ds:List DV} {v:Value} {A:Env} (h:bU H R B nal L nm k ds v A):bU H R' B' nal L nm k ds v A:=by
 cases k with
 |one c=>simp only [bU]at h |-;exact⟨h.1,h.2.mono d f⟩
 |agg ks=>simp only [bU]at h |-;obtain⟨arr,i,j⟩:=h;exact⟨arr,i,j.mono d f⟩
 |aP ks=>simp only [bU]at h |-;obtain⟨arr,i,j⟩:=h;exact⟨arr,i,j.mono d f⟩
mutual
theorem aq.gW: ∀(k:CK) {L:Env} {nm:Nat} {ds:List DV} {v:Value} {A:Env},aq H R B true L nm k ds v A-> ∀(L':Env) (d:Nat),∃s,aq H R B true L' d k ds v s/\s.fps=A.fps
 |.undef,_,_,_,_,_,h,_,_=>by simp only [aq]at h;exact⟨[],by simp only [aq];exact⟨h.1,trivial⟩,by rw [h.2]⟩
 |.bool,_,_,_,_,A,h,_,_=>by simp only [aq]at h;obtain⟨x,g,i,m⟩:=h;exact⟨[],by simp only [aq];exact⟨x,g,i,trivial⟩,by rw [m]⟩
 |.int _,_,_,_,_,A,h,_,_=>by simp only [aq]at h;obtain⟨x,g,i,m,q⟩:=h;exact⟨[],by simp only [aq];exact⟨x,g,i,m,trivial⟩,by rw [q]⟩
 |.str,_,_,_,_,A,h,_,_=>by simp only [aq]at h;obtain⟨x,g,i,m,q⟩:=h;exact⟨[],by simp only [aq];exact⟨x,g,i,m,trivial⟩,by rw [q]⟩
 |.er,_,_,_,_,A,h,_,_=>by simp only [aq]at h;obtain⟨x,g,i,m⟩:=h;exact⟨[],by simp only [aq];exact⟨x,g,i,trivial⟩,by rw [m]⟩
 |.sh _,_,_,_,_,A,h,_,_=>by simp only [aq]at h;obtain⟨x,g,i,m,q⟩:=h;exact⟨[],by simp only [aq];exact⟨x,g,i,m,trivial⟩,by rw [q]⟩
 |.own _,_,_,_,v,A,h,_,d=>by
  simp only [aq]at h;obtain⟨x,fp,g,i,m,q⟩:=h;exact⟨[(d,v,fp)],by simp only [aq];exact⟨x,fp,g,i,m,rfl⟩,by rw [q];rfl⟩
 |.nl,_,_,_,_,A,h,_,_=>by simp only [aq]at h;exact⟨[],by simp only [aq];exact⟨h.1,h.2.1,trivial⟩,by rw [h.2.2]⟩
 |.al _,_,_,_,_,A,h,_,_=>by simp [aq]at h
 |.gs _ _,_,_,_,_,A,h,_,_=>by simp [aq]at h
 |.pb _ _,_,_,_,_,A,h,_,_=>by simp only [aq]at h;exact⟨[],by simp only [aq];exact⟨h.1,trivial,h.2.2⟩,by rw [h.2.1]⟩
 |.eT,_,_,_,_,A,h,_,_=>by simp only [aq]at h;exact⟨[],by simp only [aq];exact⟨h.1,h.2.1,trivial⟩,by rw [h.2.2]⟩
 |.fl,_,_,_,_,A,h,_,_=>by simp only [aq]at h;exact⟨[],by simp only [aq];exact⟨h.1,h.2.1,trivial⟩,by rw [h.2.2]⟩
 |.fn f a b,_,_,_,_,A,h,L',d=>by
  simp only [aq]at h;obtain⟨va,vb,d1,d2,A1,A2,g,i,m,q,u⟩:=h;obtain⟨p,k1,k2⟩:=bq.gW a q L' (fun _=>0) 0
  obtain⟨r,k3,z⟩:=bq.gW b u (L'++p) (fun _=>0) 0
  exact⟨p++r,by simp only [aq];exact⟨va,vb,d1,d2,p,r,g,rfl,m,k1,k3⟩,by rw [i,Env.dj,Env.dj,k2,z]⟩
theorem bq.gW: ∀(ks:List CK) {L:Env} {nm:Nat->Nat} {j:Nat} {ds:List DV} {vs:List Value} {A:Env},bq H R B true L nm j ks ds vs A-> ∀(L':Env) (d:Nat->Nat) (t:Nat),∃s,bq H R B true L' d t ks ds vs s/\s.fps=A.fps
 | [],_,_,_,_,_,_,h,_,_,_=>by simp only [bq]at h;exact⟨[],by simp only [bq];exact⟨h.1,h.2.1,trivial⟩,by rw [h.2.2]⟩
 |c::cs,_,_,_,_,_,_,h,L',d,t=>by
  simp only [bq]at h;obtain⟨v,ad,d1,d2,A1,A2,g,i,m,q,u,h6⟩:=h;obtain⟨p,k1,k2⟩:=aq.gW c u L' (d t);obtain⟨r,k3,z⟩:=bq.gW cs h6 (L'++p) d (t+1);exact⟨p++r,by simp only [bq];exact⟨v,ad,d1,d2,p,r,g,i,rfl,q,k1,k3⟩,by rw [m,Env.dj,Env.dj,k2,z]⟩
end
theorem cr.gW: ∀(ks:List bk) {L:Env} {nm:Nat->Nat} {j:Nat} {ds:List DV} {vs:List Value} {A:Env},cr H R B true L nm j ks ds vs A-> ∀(L':Env) (b:Nat->Nat) (g:Nat),∃t,cr H R B true L' b g ks ds vs t/\t.fps=A.fps
 | [],_,_,_,_,_,_,h,_,_,_=>by simp only [cr]at h;exact⟨[],by simp only [cr];exact⟨h.1,h.2.1,trivial⟩,by rw [h.2.2]⟩
 |.one c::cs,_,_,_,_,_,_,h,L',b,g=>by
  simp only [cr]at h;obtain⟨v,i,d1,d2,A1,A2,k,m,p,u,q,r⟩:=h;obtain⟨d,k1,k2⟩:=aq.gW c q L' (b g);obtain⟨f,k3,s⟩:=cr.gW cs r (L'++d) b (g+1);exact⟨d++f,by simp only [cr];exact⟨v,i,d1,d2,d,f,k,m,rfl,u,k1,k3⟩,by rw [p,Env.dj,Env.dj,k2,s]⟩
 |.agg ks::cs,_,_,_,_,_,_,h,L',b,g=>by
  simp only [cr]at h;obtain⟨v,i,d1,d2,A1,A2,k,m,p,q,r⟩:=h;obtain⟨d,k1,k2⟩:=bq.gW ks q L' b g;obtain⟨f,k3,s⟩:=cr.gW cs r (L'++d) b (g+ks.length);exact⟨d++f,by simp only [cr];exact⟨v,i,d1,d2,d,f,k,m,rfl,k1,k3⟩,by rw [p,Env.dj,Env.dj,k2,s]⟩
 |.aP _::_,_,_,_,_,_,_,h,_,_,_=>by simp only [cr]at h
theorem bU.gW {k:bk} {L:Env} {nm:Nat->Nat} {ds:List DV} {v:Value} {A:Env} (h:bU H R B true L nm k ds v A) (L':Env) (b:Nat->Nat): ∃d,bU H R B true L' b k ds v d/\d.fps=A.fps:=by
 cases k with
 |one c=>simp only [bU]at h;obtain⟨d,f,g⟩:=aq.gW c h.2 L' (b 0);exact⟨d,by simp only [bU];exact⟨h.1,f⟩,g⟩
 |agg ks=>simp only [bU]at h;obtain⟨arr,i,h⟩:=h;obtain⟨d,f,g⟩:=bq.gW ks h L' b 0;exact⟨d,by simp only [bU];exact⟨arr,i,f⟩,g⟩
 |aP ks=>simp only [bU]at h;obtain⟨arr,i,h⟩:=h;obtain⟨d,f,g⟩:=cr.gW ks h L' b 0;exact⟨d,by simp only [bU];exact⟨arr,i,f⟩,g⟩
end
end Go.Ev
namespace Go.Ev
theorem LW {m n v:Nat}: ∀ {l:List (Nat×Nat×Nat×Nat)},tD m n v l=true-> ∃wv,lE m n v wv l=true
 | [],h=>by simp [tD]at h
 |(a,b,c,d)::r,h=>by
  simp only [tD,Ý]at h;rcases h with h|h
  .refine⟨d, ?_⟩
   simp only [lE,Ý];left
   simp only [Õ]at h |-;exact⟨h.1,h.2.1,h.2.2,ĉ d⟩
  .obtain⟨wv,h⟩:=LW h
   exact⟨wv,by simp only [lE,Ý];exact .inr h⟩
theorem Dc {m b:Nat}: ∀ {l:List (Nat×Nat)},look m l=some b->tC b l=true
 | [],h=>by simp [look]at h
 |(a,c)::r,h=>by
  simp only [look]at h;simp only [tC,Ý];cases d:ò a m with
  |true=>simp only [d,Y,É]at h;left;rw [h];exact ĉ b
  |false=>simp only [d,ez]at h;right;exact Dc h
structure eW (si:St) (θ:Asg) (s:CS) (L:Env):Prop where
 used: ∀m n v wv,lE m n v wv s.used=true->(si.aj n).bj.isSome=true/\(si.aj n).aG=v/\(si.aj n).wv=wv/\(m,θ.ob n,θ.fp n)∈L
 bm: ∀m b,look m s.bm=some b->(si.boxes b).isSome=true\/s.iW=false
 inj: ∀m m' b,look m s.bm=some b->look m' s.bm=some b->m=m'
def Rl (R:Nat->Prop) (θ:Asg) (cv:List Nat) (b:Nat):Prop:=R b\/ ∃n∈cv,b∈θ.fp n
def Bl (θ:Asg) (bm:List (Nat×Nat)) (m g:Nat):Prop:= ∃b,look m bm=some b/\θ.bx b=g
structure fT (s s':CS):Prop where
 bm: ∀m b,look m s.bm=some b->look m s'.bm=some b
 cv: ∀n∈s.cv,n∈s'.cv
 iW:s'.iW=s.iW
 pT:s.iW=false->s'.cv=s.cv
theorem fT.refl (s:CS):fT s s:=⟨fun _ _ h=>h,fun _ h=>h,rfl,fun _=>rfl⟩
theorem fT.trans {s s' d:CS} (a:fT s s') (b:fT s' d):fT s d:=⟨fun m c h=>b.bm m c (a.bm m c h),fun n h=>b.cv n (a.cv n h),b.iW.trans a.iW,fun h=>(b.pT (a.iW.trans h)).trans (a.pT h)⟩
theorem fT.rl {R:Nat->Prop} {θ:Asg} {s s':CS} (a:fT s s'): ∀b,Rl R θ s.cv b->Rl R θ s'.cv b:=fun _ h=>h.imp id fun⟨n,d,f⟩=>⟨n,a.cv n d,f⟩
theorem fT.bl {θ:Asg} {s s':CS} (a:fT s s'): ∀m g,Bl θ s.bm m g->Bl θ s'.bm m g:=fun m _ ⟨b,d,f⟩=>⟨b,a.bm m b d,f⟩
section
variable {w0 w:World} {F R:Nat→Prop} {si sc st':St} {θ:Asg} {l:Log} {β:Type} {fps:List Nat} {y:β} {nal:Bool}
def gq (w0:World) (F R:Nat->Prop) (θ:Asg) (w:World) (si:St) (fps:List Nat) (s:CS) (L:Env) (K:CS->M β) (y:β) (st':St) (rel:CS->List DV->Env->Prop):Prop:=
 ∃s' b A ds d,(K s').run b=some (y,st',d)/\bJ w0 F R θ w si b (fps++A.fps)/\s'.dv=ds.reverse++s.dv/\fT s s'/\eW si θ s' (L++A)/\rel s' ds A
theorem bJ.rel {fps:List Nat} (t:bJ w0 F R θ w si sc fps) {cl:Cell} {v:Value} (h:ax (hp w) R si θ cl v):ax (hp w) R sc θ cl v:=ax.step t.step _ _ h
theorem jz {s:CS} {L:Env} {K:CS->M β} {rel:CS->List DV->Env->Prop} (b:bJ w0 F R θ w si sc fps) (d:eW si θ s L) (h:(K s).run sc=some (y,st',l)) (f:rel s [] []):gq w0 F R θ w si fps s L K y st' rel:=
 ⟨s,sc,[],[],l,h,by simpa [Env.fps]using b,rfl,fT.refl s,by simpa using d,f⟩
theorem pU {s:CS} {L:Env} {K:CS->M β} {rel:CS->List DV->Env->Prop} (f:bJ w0 F R θ w si sc fps) (b:eW si θ s L) {d:DV} (h:(K (s.push d)).run sc=some (y,st',l)) (g:rel (s.push d) [d] []):gq w0 F R θ w si fps s L K y st' rel:=
 ⟨s.push d,sc,[],[d],l,h,by simpa [Env.fps]using f,rfl,⟨fun _ _ h=>h,fun _ h=>h,rfl,fun _=>rfl⟩,by simpa using (⟨b.used,b.bm,b.inj⟩:eW si θ (s.push d) L),g⟩
theorem LX {c b:CT} {x:Interp c} {z:Interp b} (h:dY c b x=some z):(⟨c,x⟩:DV)=⟨b,z⟩:=by
 obtain⟨e,h⟩:=jx h;subst e;simp only at h;rw [h]
theorem Xx (_:Inv w0 F R si θ w) (p:bJ w0 F R θ w si sc fps) {s:CS} {L:Env} (q:eW si θ s L) {c:CT} {cl:Cell} {v:Value} (g:ax (hp w) R si θ cl v) {K:CS->M β} {nm:Nat}
  (h:(ef nm (.sh c) cl s K).run sc=some (y,st',l)):gq w0 F R θ w si fps s L K y st' (fun s' ds A=>aq (hp w) (Rl R θ s'.cv) (Bl θ s'.bm) nal L nm (.sh c) ds v A):=by
 have r:=p.rel g;have plain: ∀cl,ax (hp w) R si θ cl v->(∀n aG vw,cl≠ .ob n aG vw)->(∀n aG wv pl f x,cl≠ .gs n aG wv pl f x)->(fa cl (.gd (bM c) (K (s.push ⟨c,ee c⟩))) fun f x=>.opt (dY f c x) fun y=>K (s.push ⟨c,y⟩)).run sc=some (y,st',l)->
   gq w0 F R θ w si fps s L K y st' (fun s' ds A=>aq (hp w) (Rl R θ s'.cv) (Bl θ s'.bm) nal L nm (.sh c) ds v A):=by
  intro cl g n1 n2 h;have t: ∀ {f:CT} {x:Interp f},bM f=true->aC (hp w) R false (enc f x) v []->(M.opt (dY f c x) fun y=>K (s.push ⟨c,y⟩)).run sc=some (y,st',l)->
    gq w0 F R θ w si fps s L K y st' (fun s' ds A=>aq (hp w) (Rl R θ s'.cv) (Bl θ s'.bm) nal L nm (.sh c) ds v A):=by
   intro f x k u h;obtain⟨z,j,h⟩:=M.eI h;obtain⟨e,j⟩:=jx j;subst e;simp only at j;subst j;exact pU p q h (by simp only [aq];exact⟨x,rfl,k,u.mono (fun b hb=>.inl hb),trivial⟩)
  have m: ∀ad,v=.slice ad 0 0->(M.gd (bM c) (K (s.push ⟨c,ee c⟩))).run sc=some (y,st',l)->
    gq w0 F R θ w si fps s L K y st' (fun s' ds A=>aq (hp w) (Rl R θ s'.cv) (Bl θ s'.bm) nal L nm (.sh c) ds v A):=by
   intro ad e h;obtain⟨k,h⟩:=M.aN h;refine pU p q h ?_
   simp only [aq];refine⟨_,rfl,k, ?_,trivial⟩
   subst e;exact(rm (R:=R) k).share (by simp)
  cases cl<;>simp only [fa]at h
  case nl=>simp only [ax]at g;exact m none g h
  case z0=>simp only [ax]at g;obtain⟨ad,g⟩:=g;exact m ad g h
  case sh f x=>simp only [ax]at g;exact t g.1 g.2 h
  case kC f x=>simp only [ax]at g;exact t g.1 g.2.1 h
  case ob n aG vw=>exact absurd rfl (n1 n aG vw)
  case gs n aG wv pl f x=>exact absurd rfl (n2 n aG wv pl f x)
  all_goals simp [M.run]at h
 have i: ∀ {f:CT} {x:Interp f} {n:Nat},s.iW=true->bM f=true->aC (hp w) (fun b=>b∈θ.fp n) false (enc f x) v []-> ∀ {l:Log},(M.opt (dY f c x) fun y=>K {s.push ⟨c,y⟩with cv:=n::s.cv}).run sc=some (y,st',l)->
   gq w0 F R θ w si fps s L K y st' (fun s' ds A=>aq (hp w) (Rl R θ s'.cv) (Bl θ s'.bm) nal L nm (.sh c) ds v A):=by
  intro f x n hle k u l h;obtain⟨z,j,h⟩:=M.eI h;obtain⟨e,j⟩:=jx j;subst e;simp only at j;subst j;refine⟨{s.push ⟨f,x⟩with cv:=n::s.cv},sc,[],[⟨f,x⟩],l,h,by simpa [Env.fps]using p,rfl,⟨fun _ _ h=>h,fun _ h=>by simp [h],rfl,fun h=>by rw [hle]at h;cases h⟩,by simpa using (⟨q.used,q.bm,q.inj⟩:eW si θ {s.push ⟨f,x⟩with cv:=n::s.cv} L), ?_⟩
  simp only [aq];exact⟨x,rfl,k,u.mono (fun b hb=>.inr ⟨n,by simp,hb⟩),trivial⟩
 cases cl<;>simp only [ef]at h
 case ob n aG vw=>
  obtain⟨hle,h⟩:=M.aN h;simp only [fa]at h;obtain⟨l1,h⟩:=M.fH h;cases hd:(sc.aj n).bj with
  |none=>simp [hd,M.run]at h
  |some d=>
   simp only [hd]at h;obtain⟨hv,h⟩:=M.aN h;obtain⟨ah,h⟩:=M.aN h;obtain⟨q1,q2, -, -⟩:=tQ p.inv r hd (À hv) ah;exact i hle q1 q2 h
 case gs n aG wv pl f x=>
  obtain⟨hle,h⟩:=M.aN h;obtain⟨d,l1,hd,hv,hw,h⟩:=CR h;obtain⟨k,u⟩:=xy r hd hv hw;exact i hle k u h
 all_goals exact plain _ g (by simp) (by simp) h
theorem Xy (_:Inv w0 F R si θ w) (i:bJ w0 F R θ w si sc fps) {s:CS} {L:Env} (f:eW si θ s L) {c:CT} {cl:Cell} {v:Value} (p:ax (hp w) R si θ cl v) {K:CS->M β} {nm:Nat}
  (h:(ef nm (.own c) cl s K).run sc=some (y,st',l)):gq w0 F R θ w si fps s L K y st' (fun s' ds A=>aq (hp w) (Rl R θ s'.cv) (Bl θ s'.bm) nal L nm (.own c) ds v A):=by
 have ae:=i.rel p;have j: ∀ad,v=.slice ad 0 0-> ∀ {l:Log},(M.gd (bM c) (K (s.push ⟨c,ee c⟩))).run sc=some (y,st',l)->
   gq w0 F R θ w si fps s L K y st' (fun s' ds A=>aq (hp w) (Rl R θ s'.cv) (Bl θ s'.bm) nal L nm (.own c) ds v A):=by
  intro ad e l h;obtain⟨hs,h⟩:=M.aN h;refine⟨s.push ⟨c,ee c⟩,sc,[(nm,v,[])],[⟨c,ee c⟩],l,h,by simpa [Env.fps]using i,rfl,⟨fun _ _ h=>h,fun _ h=>h,rfl,fun _=>rfl⟩,⟨fun m n v wv hu=> ?_,f.bm,f.inj⟩, ?_⟩
  .obtain⟨k1,k2,k3,q⟩:=f.used m n v wv hu
   exact⟨k1,k2,k3,by simp [q]⟩
  .simp only [aq]
   subst e;exact⟨_,[],rfl,hs,rm hs,rfl⟩
 cases cl<;>simp only [ef]at h
 case nl=>simp only [ax]at p;exact j none p h
 case z0=>simp only [ax]at p;obtain⟨ad,p⟩:=p;exact j ad p h
 case ob n aG vw=>
  obtain⟨l1,h⟩:=M.fH h;simp only [lB]at h;obtain⟨l2,h⟩:=M.fH h;cases hd:(sc.aj n).bj with
  |none=>simp [hd,M.run]at h
  |some d=>
   simp only [hd]at h;obtain⟨hv,h⟩:=M.aN h;obtain⟨ao,h⟩:=M.aN h;have hv:=À hv;obtain⟨l3,h⟩:=M.oa h;obtain⟨z,t,h⟩:=M.eI h;obtain⟨u,r1,r2,r3,r4⟩:=LV i.inv ae hd hv ao;obtain⟨e,t⟩:=jx t;subst e;simp only at t;subst t;obtain⟨i1,i2,i3⟩:=i.inv.kill hd ((sc.aj n).aG+1) 0 (.inl (by omega))
   have r:bJ w0 F R θ w sc {sc with aj:=aS sc.aj n ⟨(sc.aj n).aG+1,0,none⟩} u:=by
    refine⟨i1,i2,rfl,rfl,fun k=> ?_,r2,fun g hg=>.inr ⟨n,by simp [hd],r3 g hg⟩,fun g hg=>i3.free g (r3 g hg)⟩
    by_cases e:k=n
    .subst e;right;simp [bB]
    .left;simp [aX _ _ e]
   have af:si.aj n=sc.aj n:=((i.pS n).resolve_right (fun e=>by simp [hd]at e)).symm
   refine⟨_,_,[(nm,v,u)],[⟨d.c,cD d.c vw d.x⟩],l3,h,by simpa [Env.fps]using i.trans r,rfl,⟨fun _ _ h=>h,fun _ h=>h,rfl,fun _=>rfl⟩,⟨fun m n' v' wv hu=> ?_,f.bm,f.inj⟩, ?_⟩
   .cases vw with
    |some _=>
     obtain⟨k1,k2,k3,q⟩:=f.used m n' v' wv hu;exact⟨k1,k2,k3,by simp [q]⟩
    |none=>
     simp only [Option.isNone_none,Y,lE,Ý,Õ]at hu;rcases hu with⟨h1,h2,h3,h4⟩|hu
     .have h1:=À h1
      have h2:=À h2;have h3:=À h3;have h4:=À h4;subst h1 h2 h3 h4;rw [af];refine⟨by simp [hd],hv.symm,rfl, ?_⟩
      obtain⟨r5,r6⟩:=r4 rfl;rw [<-r5,<-r6];simp
     .obtain⟨k1,k2,k3,q⟩:=f.used m n' v' wv hu
      exact⟨k1,k2,k3,by simp [q]⟩
   .simp only [aq]
    exact⟨_,u,rfl,(i.inv.aj n d hd).1,r1.mono (fun b hb=>.inl hb),rfl⟩
 case gs n aG wv pl c' x=>
  obtain⟨z,st2,u,l1,h,r,hs,t⟩:=tR i.inv ae h;refine⟨_,_,[(nm,v,u)],[⟨c,z⟩],l1,h,by simpa [Env.fps]using i.trans r,rfl,⟨fun _ _ h=>h,fun _ h=>h,rfl,fun _=>rfl⟩,⟨fun m n' v' wv hu=> ?_,f.bm,f.inj⟩, ?_⟩
  .obtain⟨k1,k2,k3,q⟩:=f.used m n' v' wv hu
   exact⟨k1,k2,k3,by simp [q]⟩
  .simp only [aq]
   exact⟨z,u,rfl,hs,t.mono (fun b hb=>.inl hb),rfl⟩
 all_goals simp [M.run]at h
end
end Go.Ev
namespace Go.Ev
section
variable {w0 w:World} {F R:Nat→Prop} {si:St} {θ:Asg} {β:Type} {y:β}
theorem Xz {nal:Bool} {sc st':St} {l:Log} {fps:List Nat} (tk:bJ w0 F R θ w si sc fps) {s:CS} {L:Env} (u:eW si θ s L) {m off b j:Nat} {v:Value} (z:ax (hp w) R si θ (.pb b j) v) {K:CS->M β} {nm:Nat}
  (h:(ef nm (.pb m off) (.pb b j) s K).run sc=some (y,st',l)):gq w0 F R θ w si fps s L K y st' (fun s' ds A=>aq (hp w) (Rl R θ s'.cv) (Bl θ s'.bm) nal L nm (.pb m off) ds v A):=by
 simp only [ef]at h;obtain⟨ho,d⟩:=M.aN h;clear h;have ho:=À ho;subst ho;have h:=d;clear d;simp only [ax]at z;split at h
 .rename_i b' hb
  obtain⟨he,d⟩:=M.aN h;clear h;have he:=À he;subst he;refine jz tk u d ?_
  simp only [aq];exact⟨trivial,trivial,_,⟨b,hb,rfl⟩,z.2⟩
 .rename_i hb
  obtain⟨k,h⟩:=M.aN h;have k:tC b s.bm=false:=by simpa using k
  have f: ∀m',look m' ((m,b)::s.bm)=cond (ò m m') (some b) (look m' s.bm):=fun _=>rfl
  have p: ∀m' b',look m' s.bm=some b'->look m' ((m,b)::s.bm)=some b':=fun m' b' g=>by
   rw [f];cases i:ò m m' with
   |true=>rw [<-À i,hb]at g;cases g
   |false=>exact g
  refine⟨{s with bm:=(m,b)::s.bm},sc,[],[],l,h,by simpa [Env.fps]using tk,rfl,⟨p,fun _ h=>h,rfl,fun _=>rfl⟩, ?_, ?_⟩
  .rw [ë]
   refine⟨u.used,fun m' b' g=> ?_,fun m1 m2 b' q d=> ?_⟩
   .simp only [f]at g
    cases i:ò m m' with
    |true=>simp only [i,Y,É]at g;subst g;exact .inl z.1
    |false=>simp only [i,ez]at g;exact u.bm m' b' g
   .simp only [f]at q d
    cases r:ò m m1<;>cases t:ò m m2<;>simp only [r,t,Y,ez,É]at q d
    .exact u.inj m1 m2 b' q d
    .subst d;rw [Dc q]at k;cases k
    .subst q;rw [Dc d]at k;cases k
    .rw [<-À r,<-À t]
  .simp only [aq]
   refine⟨trivial,trivial,_,⟨b, ?_,rfl⟩,z.2⟩
   rw [f,ĉ];rfl
mutual
theorem xE (q:Inv w0 F R si θ w): ∀(k:CK) {sc st':St} {l:Log} {fps:List Nat} {s:CS} {L:Env} {cl:Cell} {v:Value} {K:CS->M β} {nm:Nat},bJ w0 F R θ w si sc fps->eW si θ s L->ax (hp w) R si θ cl v->
  (ef nm k cl s K).run sc=some (y,st',l)->gq w0 F R θ w si fps s L K y st' (fun s' ds A=>aq (hp w) (Rl R θ s'.cv) (Bl θ s'.bm) false L nm k ds v A)
 |.undef,sc,st',l,fps,s,L,cl,v,K,nm,p,i,g,h=>by
  simp only [ef]at h;exact jz p i h (by simp only [aq];exact⟨trivial,trivial⟩)
 |.bool,sc,st',l,fps,s,L,cl,v,K,nm,p,i,g,h=>by
  cases cl<;>simp only [ef]at h<;>try (simp [M.run]at h;done)
  simp only [ax]at g;exact pU p i h (by simp only [aq];exact⟨_,rfl,g,trivial⟩)
 |.int k,sc,st',l,fps,s,L,cl,v,K,nm,p,i,g,h=>by
  cases cl<;>simp only [ef]at h<;>try (simp [M.run]at h;done)
  obtain⟨hk,h2⟩:=M.aN h;clear h;have hk:=of_decide_eq_true hk;subst hk;have h:=h2;clear h2;simp only [ax]at g;exact pU p i h (by simp only [aq];exact⟨_,rfl,by rw [tS g.2];exact g.1,by rw [tS g.2];exact g.2,trivial⟩)
 |.str,sc,st',l,fps,s,L,cl,v,K,nm,p,i,g,h=>by
  cases cl<;>simp only [ef]at h<;>try (simp [M.run]at h;done)
  simp only [ax]at g;exact pU p i h (by simp only [aq];exact⟨_,rfl,g.1,g.2,trivial⟩)
 |.er,sc,st',l,fps,s,L,cl,v,K,nm,p,i,g,h=>by
  cases cl<;>simp only [ef]at h<;>try (simp [M.run]at h;done)
  simp only [ax]at g;exact pU p i h (by simp only [aq];exact⟨_,rfl,g,trivial⟩)
 |.sh c,sc,st',l,fps,s,L,cl,v,K,nm,p,i,g,h=>Xx q p i g h
 |.own c,sc,st',l,fps,s,L,cl,v,K,nm,p,i,g,h=>Xy q p i g h
 |.nl,sc,st',l,fps,s,L,cl,v,K,nm,p,i,g,h=>by
  cases cl<;>simp only [ef]at h<;>try (simp [M.run]at h;done)
  simp only [ax]at g;exact jz p i h (by simp only [aq];exact⟨trivial,g,trivial⟩)
 |.al m,sc,st',l,fps,s,L,cl,v,K,nm,p,i,g,h=>by
  cases cl with
  |ob n aG vw=>
   cases vw with
   |some _=>simp [ef,M.run]at h
   |none=>
    simp only [ef]at h;obtain⟨hu,h⟩:=M.aN h;obtain⟨wv,hu⟩:=LW hu;obtain⟨k1,k2,k3,k4⟩:=i.used m n aG wv hu;simp only [ax]at g;have hv:=g.2 k2.symm k1;subst hv;exact jz p i h (by simp only [aq];exact⟨trivial,trivial,trivial,_,k4⟩)
  |_=>simp [ef,M.run]at h
 |.gs m c,sc,st',l,fps,s,L,cl,v,K,nm,p,i,g,h=>by
  cases cl<;>simp only [ef]at h<;>try (simp [M.run]at h;done)
  rename_i n aG wv pl c' x;obtain⟨hu,h⟩:=M.aN h;obtain⟨z,hz,h⟩:=M.eI h;obtain⟨e,hz⟩:=jx hz;subst e;simp only at hz;subst hz;obtain⟨k1,k2,k3,k4⟩:=i.used m n aG wv hu;obtain⟨d,hd⟩:=Ú.1 k1;obtain⟨q1,q2⟩:=xy g hd k2.symm k3.symm;exact pU p i h (by simp only [aq];exact⟨trivial,trivial,x,_,_,rfl,q1,k4,q2⟩)
 |.pb m off,sc,st',l,fps,s,L,cl,v,K,nm,p,i,g,h=>by
  cases cl with
  |pb b a6=>exact Xz p i g h
  |_=>simp [ef,M.run]at h
 |.eT,sc,st',l,fps,s,L,cl,v,K,nm,p,i,g,h=>by
  cases cl<;>simp only [ef]at h<;>try (simp [M.run]at h;done)
  simp only [ax]at g;exact jz p i h (by simp only [aq];exact⟨trivial,g,trivial⟩)
 |.fl,sc,st',l,fps,s,L,cl,v,K,nm,p,i,g,h=>by
  cases cl<;>simp only [ef]at h<;>try (simp [M.run]at h;done)
  simp only [ax]at g;exact jz p i h (by simp only [aq];exact⟨trivial,g,trivial⟩)
 |.fn f a b,sc,st',l,fps,s,L,cl,v,K,nm,p,i,g,h=>by
  cases cl<;>simp only [ef]at h<;>try (simp [M.run]at h;done)
  rename_i f' a' b';obtain⟨hf,h2⟩:=M.aN h;clear h;have hf:=À hf;subst hf;have h:=h2;clear h2;simp only [ax]at g;obtain⟨va,vb,rfl,ha,hb⟩:=g;obtain⟨s1,aj,A1,d1,l1,h,r,e1,x1,c1,r1⟩:=pV q a p i ha h;obtain⟨s2,t,A2,d2,l2,h,u,e2,x2,c2,r2⟩:=pV q b r c1 hb h;refine⟨s2,t,A1++A2,d1++d2,l2,h,by rw [Env.dj,<-Á];exact u,by rw [e2,e1];simp,x1.trans x2,by rw [<-Á];exact c2, ?_⟩
  simp only [aq];exact⟨va,vb,d1,d2,A1,A2,rfl,rfl,rfl,r1.mono x2.rl x2.bl,r2⟩
theorem pV (q:Inv w0 F R si θ w): ∀(ks:List CK) {sc st':St} {l:Log} {fps:List Nat} {s:CS} {L:Env} {cs:List Cell} {vs:List Value} {K:CS->M β} {nm:Nat->Nat} {j:Nat},bJ w0 F R θ w si sc fps->eW si θ s L->aI (hp w) R si θ cs vs->
  (jS nm j ks cs s K).run sc=some (y,st',l)->gq w0 F R θ w si fps s L K y st' (fun s' ds A=>bq (hp w) (Rl R θ s'.cv) (Bl θ s'.bm) false L nm j ks ds vs A)
 | [],sc,st',l,fps,s,L,cs,vs,K,nm,j,p,i,g,h=>by
  cases cs with
  |cons _ _=>simp [jS,M.run]at h
  |nil=>
   simp only [jS]at h;simp only [aI]at g;exact jz p i h (by simp only [bq];exact⟨trivial,g,trivial⟩)
 |k::ks,sc,st',l,fps,s,L,cs,vs,K,nm,j,p,i,g,h=>by
  cases cs with
  |nil=>simp [jS,M.run]at h
  |cons c cs=>
   simp only [jS]at h;simp only [aI]at g;obtain⟨v,az,rfl,hv,a1⟩:=g;obtain⟨s1,aj,A1,d1,l1,h,r,e1,x1,c1,r1⟩:=xE q k p i hv.1 h;obtain⟨s2,t,A2,d2,l2,h,u,e2,x2,c2,r2⟩:=pV q ks r c1 a1 h;refine⟨s2,t,A1++A2,d1++d2,l2,h,by rw [Env.dj,<-Á];exact u,by rw [e2,e1];simp,x1.trans x2,by rw [<-Á];exact c2, ?_⟩
   simp only [bq];exact⟨v,az,d1,d2,A1,A2,rfl,rfl,rfl,hv.2,r1.mono x2.rl x2.bl,r2⟩
end
theorem xF (r:Inv w0 F R si θ w): ∀(ks:List bk) {sc st':St} {l:Log} {fps:List Nat} {s:CS} {L:Env} {cs:List TV} {vs:List Value} {K:CS->M β} {nm:Nat->Nat} {j:Nat},bJ w0 F R θ w si sc fps->eW si θ s L->bT (hp w) R si θ cs vs->
  (gn nm j ks cs s K).run sc=some (y,st',l)->gq w0 F R θ w si fps s L K y st' (fun s' ds A=>cr (hp w) (Rl R θ s'.cv) (Bl θ s'.bm) false L nm j ks ds vs A)
 | [],sc,st',l,fps,s,L,cs,vs,K,nm,j,t,u,z,h=>by
  cases cs with
  |cons _ _=>simp [gn,M.run]at h
  |nil=>
   simp only [gn]at h;simp only [bT]at z;exact jz t u h (by simp only [cr];exact⟨trivial,z,trivial⟩)
 |k::ks,sc,st',l,fps,s,L,cs,vs,K,nm,j,t,u,z,h=>by
  cases cs with
  |nil=>cases k<;>simp [gn,M.run]at h
  |cons c cs=>
   simp only [bT]at z;obtain⟨v,i,rfl,m,p⟩:=z;cases k with
   |aP _=>simp [gn,M.run]at h
   |agg f=>
    cases c with
    |one _=>simp [gn,M.run]at h
    |aP _=>simp [gn,M.run]at h
    |agg cc=>
     simp only [gn]at h;simp only [aU]at m;obtain⟨arr,rfl,m⟩:=m;obtain⟨s1,aj,A1,d1,l1,h,q,e1,x1,c1,r1⟩:=pV r f t u m h;obtain⟨s2,b,A2,d2,l2,h,d,e2,g,c2,r2⟩:=xF r ks q c1 p h;refine⟨s2,b,A1++A2,d1++d2,l2,h,by rw [Env.dj,<-Á];exact d,by rw [e2,e1];simp,x1.trans g,by rw [<-Á];exact c2, ?_⟩
     simp only [cr];exact⟨arr,i,d1,d2,A1,A2,rfl,rfl,rfl,r1.mono g.rl g.bl,r2⟩
   |one f=>
    have ah:f=.undef->(gn nm (j+1) ks cs s K).run sc=some (y,st',l):=fun e=>by
     subst e;simpa only [gn]using h
    by_cases hk:f=.undef
    .have h':=ah hk
     clear h ah;subst hk;obtain⟨s2,b,A2,d2,l2,h,d,e2,g,c2,r2⟩:=xF r ks t u p h';refine⟨s2,b,A2,d2,l2,h,d,e2,g,c2, ?_⟩
     simp only [cr];exact⟨v,i,[],d2,[],A2,rfl,rfl,rfl,.inl trivial,by simp only [aq];exact⟨trivial,trivial⟩,by simpa using r2⟩
    .cases c with
     |agg _=>cases f<;>simp [gn,M.run]at h hk
     |aP _=>cases f<;>simp [gn,M.run]at h hk
     |one cc=>
      have h':(ef (nm j) f cc s fun s=>gn nm (j+1) ks cs s K).run sc=some (y,st',l):=by
       cases f<;>first|exact absurd rfl hk|simpa only [gn]using h
      simp only [aU]at m;obtain⟨s1,aj,A1,d1,l1,h,q,e1,x1,c1,r1⟩:=xE r f t u m.1 h';obtain⟨s2,b,A2,d2,l2,h,d,e2,g,c2,r2⟩:=xF r ks q c1 p h;refine⟨s2,b,A1++A2,d1++d2,l2,h,by rw [Env.dj,<-Á];exact d,by rw [e2,e1];simp,x1.trans g,by rw [<-Á];exact c2, ?_⟩
      simp only [cr];refine⟨v,i,d1,d2,A1,A2,rfl,rfl,rfl, ?_,r1.mono g.rl g.bl,r2⟩
      rcases m.2 with e|e
      .subst e
       cases f<;>first|exact absurd rfl hk|simp [ef,fa,M.run]at h'
      .exact .inr e
theorem Dd (t:Inv w0 F R si θ w) (k:bk) {sc st':St} {l:Log} {fps:List Nat} {s:CS} {L:Env} {c:TV} {v:Value} {K:CS->M β} {nm:Nat->Nat} (q:bJ w0 F R θ w si sc fps) (r:eW si θ s L) (b:aU (hp w) R si θ c v)
  (h:(iX nm k c s K).run sc=some (y,st',l)):gq w0 F R θ w si fps s L K y st' (fun s' ds A=>bU (hp w) (Rl R θ s'.cv) (Bl θ s'.bm) false L nm k ds v A):=by
 cases k with
 |aP ks=>
  cases c with
  |one _=>simp [iX,M.run]at h
  |agg _=>simp [iX,M.run]at h
  |aP cs=>
   simp only [iX]at h;simp only [aU]at b;obtain⟨arr,rfl,b⟩:=b;obtain⟨s1,d,A1,d1,i,h,f,j,m,c1,p⟩:=xF t ks q r b h;exact⟨s1,d,A1,d1,i,h,f,j,m,c1,by simp only [bU];exact⟨arr,rfl,p⟩⟩
 |agg ks=>
  cases c with
  |one _=>simp [iX,M.run]at h
  |aP _=>simp [iX,M.run]at h
  |agg cs=>
   simp only [iX]at h;simp only [aU]at b;obtain⟨arr,rfl,b⟩:=b;obtain⟨s1,d,A1,d1,i,h,f,j,m,c1,p⟩:=pV t ks q r b h;exact⟨s1,d,A1,d1,i,h,f,j,m,c1,by simp only [bU];exact⟨arr,rfl,p⟩⟩
 |one g=>
  by_cases hk:g=.undef
  .subst hk
   simp only [iX]at h;exact jz q r h (by simp only [bU,aq];exact⟨.inl trivial,trivial,trivial⟩)
  .cases c with
   |agg _=>cases g<;>simp [iX,M.run]at h hk
   |aP _=>cases g<;>simp [iX,M.run]at h hk
   |one z=>
    have u:(ef (nm 0) g z s K).run sc=some (y,st',l):=by
     cases g<;>first|exact absurd rfl hk|simpa only [iX]using h
    simp only [aU]at b;obtain⟨s1,d,A1,d1,i,h,f,j,m,c1,p⟩:=xE t g q r b.1 u;refine⟨s1,d,A1,d1,i,h,f,j,m,c1, ?_⟩
    simp only [bU];refine⟨?_,p⟩
    rcases b.2 with e|e
    .subst e
     cases g<;>first|exact absurd rfl hk|simp [ef,fa,M.run]at u
    .exact .inr e
end
end Go.Ev
namespace Go.Ev
theorem pW {c:CT} {x z:Interp c} (h:dY c c x=some z):x=z:=by
 obtain⟨e,h⟩:=jx h;exact h
def St.de (s:St) (Bb:Nat->Option (List Cell)):St:={s with boxes:=Bb}
structure iu (w0:World) (F R:Nat->Prop) (B:Nat->Nat->Prop) (nal:Bool) (Bb:Nat->Option (List Cell)) (w:World) (su:St) (θ:Asg) (L:Env):Prop where
 inv:Inv w0 F R (su.de Bb) θ w
 env:nal=false-> ∀e∈L,(su.aj e.1).bj.isSome=true/\θ.ob e.1=e.2.1/\θ.fp e.1=e.2.2
 bx: ∀m g,B m g->(su.boxes m).isSome=true->(Bb m).isSome=true/\θ.bx m=g
structure fe (w0:World) (F:Nat->Prop) (st:St) (θ:Asg) (fps:List Nat):Prop where
 nodup:fps.Nodup
 free: ∀g∈fps,¬cU st θ g/\(F g\/w0.heap.size<=g)
section
variable {w0 w:World} {F R:Nat→Prop} {B:Nat→Nat→Prop} {nal:Bool} {Bb:Nat→Option (List Cell)} {β γ:Type}
def rn (w0:World) (F R:Nat->Prop) (B:Nat->Nat->Prop) (nal:Bool) (Bb:Nat->Option (List Cell)) (w:World) (su:St) (θ:Asg) (L A:Env) (K:γ->List DV->M β) (rest:List DV) (y:β) (st':St) (rel:St->Asg->γ->Prop):Prop:=
 ∃x b θ' d,(K x rest).run b=some (y,st',d)/\b.boxes=su.boxes/\b.tmps=su.tmps/\iu w0 F R B nal Bb w b θ' (L++A)/\
  Step R (su.de Bb) θ (hp w) (b.de Bb) θ' (hp w)/\rel b θ' x/\θ'.bx=θ.bx/\ ∀g,cU (b.de Bb) θ' g->cU (su.de Bb) θ g\/g∈A.fps
theorem iv {su st':St} {θ:Asg} {L:Env} {K:γ->List DV->M β} {rest:List DV} {y:β} {l:Log} {rel:St->Asg->γ->Prop} {x:γ} (hu:iu w0 F R B nal Bb w su θ L) (h:(K x rest).run su=some (y,st',l)) (b:rel su θ x):
  rn w0 F R B nal Bb w su θ L [] K rest y st' rel:=
 ⟨x,su,θ,l,h,rfl,rfl,by simpa using hu,Step.refl _ _ _ _,b,rfl,fun _ h=>.inl h⟩
theorem fe.split {st st1:St} {θ θ1:Asg} {A1 A2:Env} (h:fe w0 F st θ (Env.fps (A1++A2))) (i: ∀g,cU st1 θ1 g->cU st θ g\/g∈A1.fps):fe w0 F st1 θ1 A2.fps:=by
 rw [Env.dj]at h;obtain⟨m,j,k⟩:=Ä.1 h.nodup;refine⟨j,fun g b=>⟨fun d=> ?_,(h.free g (by simp [b])).2⟩⟩
 rcases i g d with f|f
 .exact(h.free g (by simp [b])).1 f
 .exact k g f g b rfl
theorem fe.left {st:St} {θ:Asg} {A1 A2:Env} (h:fe w0 F st θ (Env.fps (A1++A2))):fe w0 F st θ A1.fps:=by
 rw [Env.dj]at h;exact⟨(Ä.1 h.nodup).1,fun g b=>h.free g (by simp [b])⟩
theorem XA {su st':St} {θ:Asg} {L:Env} {c:CT} {x:Interp c} {v:Value} {fp:List Nat} {nm:Nat} {K:Cell->List DV->M β} {rest:List DV} {y:β} {l:Log} (hu:iu w0 F R B nal Bb w su θ L) (q:bM c=true) (r:aC (hp w) R true (enc c x) v fp)
  (m:fe w0 F (su.de Bb) θ fp) (h:(fS nm c x fun v=>K v rest).run su=some (y,st',l)):
  rn w0 F R B nal Bb w su θ L [(nm,v,fp)] K rest y st' (fun i θ' cl=>ax (hp w) R (i.de Bb) θ' cl v):=by
 obtain⟨p,s,h⟩:=LJ h;obtain⟨i1,i2⟩:=hu.inv.newObj (k:=nm) (d:=⟨c,x⟩) (hd:=v) (fp:=fp) (w':=w) p q ((su.aj nm).aG+1) 0 (Nat.lt_succ_self _) (Ô _) rfl rfl rfl (fun _ _ _=>rfl) r m.nodup m.free
 refine⟨_,_,{θ with ob:=aS θ.ob nm v,fp:=aS θ.fp nm fp},s,h,rfl,rfl,⟨i1,fun t e he=> ?_,hu.bx⟩,i2, ?_,rfl,fun g f=> ?_⟩
 .rcases Ã.1 he with he|he
  .obtain⟨k1,k2,k3⟩:=hu.env t e he
   have j:e.1≠nm:=fun u=>by rw [u,p]at k1;cases k1
   simp only [aX _ _ j];exact⟨k1,k2,k3⟩
  .simp only [List.mem_singleton]at he
   subst he;simp [bB]
 .simp [ax,St.de,bB]
 .rcases f with⟨b,z,e⟩|⟨k,hk,f⟩
  .exact .inl (.inl ⟨b,z,e⟩)
  .by_cases e:k=nm
   .subst e;simp only [bB]at f;right;simpa [Env.fps]using f
   .simp only [St.de,aX _ _ e]at hk f
    exact .inl (.inr ⟨k,hk,f⟩)
mutual
theorem De: ∀(k:CK) {su st':St} {θ:Asg} {L:Env} {nm:Nat} {ds rest:List DV} {v:Value} {A:Env} {K:Cell->List DV->M β} {y:β} {l:Log},iu w0 F R B nal Bb w su θ L->aq (hp w) R B nal L nm k ds v A->fe w0 F (su.de Bb) θ A.fps->
  (fG nm k (ds++rest) K).run su=some (y,st',l)->rn w0 F R B nal Bb w su θ L A K rest y st' (fun s θ' cl=>ax (hp w) R (s.de Bb) θ' cl v)
 |.undef,su,st',θ,L,nm,ds,rest,v,A,K,y,l,hu,hk,p,h=>by
  simp only [aq]at hk;obtain⟨rfl,rfl⟩:=hk;simp only [Â,fG]at h;exact iv hu h (by simp [ax])
 |.bool,su,st',θ,L,nm,ds,rest,v,A,K,y,l,hu,hk,p,h=>by
  simp only [aq]at hk;obtain⟨x,rfl,rfl,rfl⟩:=hk;simp only [Ö,Â,fG]at h;obtain⟨z,q,h⟩:=M.eI h;obtain rfl:=pW q;exact iv hu h (by simp [ax])
 |.int k,su,st',θ,L,nm,ds,rest,v,A,K,y,l,hu,hk,p,h=>by
  simp only [aq]at hk;obtain⟨x,rfl,rfl,r,rfl⟩:=hk;simp only [Ö,Â,fG]at h;obtain⟨z,q,h⟩:=M.eI h;obtain rfl:=pW q;exact iv hu h (by simp only [ax];exact⟨trivial,r⟩)
 |.str,su,st',θ,L,nm,ds,rest,v,A,K,y,l,hu,hk,p,h=>by
  simp only [aq]at hk;obtain⟨x,rfl,rfl,r,rfl⟩:=hk;simp only [Ö,Â,fG]at h;obtain⟨z,q,h⟩:=M.eI h;obtain rfl:=pW q;exact iv hu h (by simp only [ax];exact⟨trivial,r⟩)
 |.er,su,st',θ,L,nm,ds,rest,v,A,K,y,l,hu,hk,p,h=>by
  simp only [aq]at hk;obtain⟨x,rfl,r,rfl⟩:=hk;simp only [Ö,Â,fG]at h;obtain⟨z,q,h⟩:=M.eI h;obtain rfl:=pW q;exact iv hu h (by simp only [ax];exact r)
 |.sh c,su,st',θ,L,nm,ds,rest,v,A,K,y,l,hu,hk,p,h=>by
  simp only [aq]at hk;obtain⟨x,rfl,hs,r,rfl⟩:=hk;simp only [Ö,Â,fG]at h;obtain⟨z,q,h⟩:=M.eI h;obtain rfl:=pW q;exact iv hu h (by simp only [ax];exact⟨hs,r⟩)
 |.own c,su,st',θ,L,nm,ds,rest,v,A,K,y,l,hu,hk,p,h=>by
  simp only [aq]at hk;obtain⟨x,fp,rfl,hs,r,rfl⟩:=hk;simp only [Ö,Â,fG]at h;obtain⟨z,q,h⟩:=M.eI h;obtain rfl:=pW q;exact XA hu hs r (by simpa [Env.fps]using p) h
 |.nl,su,st',θ,L,nm,ds,rest,v,A,K,y,l,hu,hk,p,h=>by
  simp only [aq]at hk;obtain⟨rfl,rfl,rfl⟩:=hk;simp only [Â,fG]at h;exact iv hu h (by simp [ax])
 |.al m,su,st',θ,L,nm,ds,rest,v,A,K,y,l,hu,hk,p,h=>by
  simp only [aq]at hk;obtain⟨hn,rfl,rfl,fp,hm⟩:=hk;simp only [Â,fG]at h;obtain⟨l1,h⟩:=M.fH h;obtain⟨i,h⟩:=M.aN h;simp only [Õ]at i;have hv:=À i.2;obtain⟨k1,k2,k3⟩:=hu.env hn _ hm;refine iv hu h ?_
  simp only [ax,St.de];exact⟨Ĉ hv.symm,fun _ _=>k2.symm⟩
 |.gs m c,su,st',θ,L,nm,ds,rest,v,A,K,y,l,hu,hk,p,h=>by
  simp only [aq]at hk;obtain⟨hn,rfl,x,hd,fp,rfl,hs,hm,r⟩:=hk;simp only [Ö,Â,fG]at h;obtain⟨z,q,h⟩:=M.eI h;obtain rfl:=pW q;obtain⟨l1,h⟩:=M.fH h;obtain⟨i,h⟩:=M.aN h;simp only [Õ]at i;have hv:=À i.2.1;obtain⟨k1,k2,k3⟩:=hu.env hn _ hm;refine iv hu h ?_
  simp only [ax,St.de];refine⟨hs,Ĉ hv.symm,fun _=>⟨ø _,fun _ d _=>⟨?_,by simp⟩⟩⟩
  simp only at k3;rw [k3];exact r
 |.pb m off,su,st',θ,L,nm,ds,rest,v,A,K,y,l,hu,hk,p,h=>by
  simp only [aq]at hk;obtain⟨rfl,rfl,g,hb,rfl⟩:=hk;simp only [Â,fG]at h;obtain⟨cs,l1,ai,h⟩:=M.pQ h;obtain⟨k1,k2⟩:=hu.bx m g hb (by simp [ai])
  refine iv hu h ?_
  simp only [ax,St.de];exact⟨k1,by rw [k2]⟩
 |.eT,su,st',θ,L,nm,ds,rest,v,A,K,y,l,hu,hk,p,h=>by
  simp only [aq]at hk;obtain⟨rfl,rfl,rfl⟩:=hk;simp only [Â,fG]at h;exact iv hu h (by simp [ax])
 |.fl,su,st',θ,L,nm,ds,rest,v,A,K,y,l,hu,hk,p,h=>by
  simp only [aq]at hk;obtain⟨rfl,rfl,rfl⟩:=hk;simp only [Â,fG]at h;exact iv hu h (by simp [ax])
 |.fn f a b,su,st',θ,L,nm,ds,rest,v,A,K,y,l,hu,hk,p,h=>by
  simp only [aq]at hk;obtain⟨va,vb,d1,d2,A1,A2,rfl,rfl,rfl,h1,h2⟩:=hk;simp only [fG,Á]at h;obtain⟨xs,ao,θ1,l1,h,b1,t1,u1,s1,r1,x1,o1⟩:=pX a hu h1 p.left h;obtain⟨ys,t,u,l2,h,b2,t2,u2,s2,r2,x2,o2⟩:=pX b u1 h2 (p.split o1) h;refine⟨.fn f xs ys,t,u,l2,h,b2.trans b1,t2.trans t1,by rw [<-Á];exact u2,s1.trans s2, ?_,x2.trans x1,fun g i=> ?_⟩
  .simp only [ax]
   exact⟨va,vb,rfl,aI.step s2 _ _ r1,r2⟩
  .rw [Env.dj]
   rcases o2 g i with i|i
   .rcases o1 g i with i|i
    .exact .inl i
    .exact .inr (by simp [i])
   .exact .inr (by simp [i])
theorem pX: ∀(ks:List CK) {su st':St} {θ:Asg} {L:Env} {nm:Nat->Nat} {j:Nat} {ds rest:List DV} {vs:List Value} {A:Env} {K:List Cell->List DV->M β} {y:β} {l:Log},iu w0 F R B nal Bb w su θ L->bq (hp w) R B nal L nm j ks ds vs A->fe w0 F (su.de Bb) θ A.fps->
  (lF nm j ks (ds++rest) K).run su=some (y,st',l)->rn w0 F R B nal Bb w su θ L A K rest y st' (fun s θ' cs=>aI (hp w) R (s.de Bb) θ' cs vs)
 | [],su,st',θ,L,nm,j,ds,rest,vs,A,K,y,l,hu,hk,p,h=>by
  simp only [bq]at hk;obtain⟨rfl,rfl,rfl⟩:=hk;simp only [Â,lF]at h;exact iv hu h (by simp [aI])
 |k::ks,su,st',θ,L,nm,j,ds,rest,vs,A,K,y,l,hu,hk,p,h=>by
  simp only [bq]at hk;obtain⟨v,bf,d1,d2,A1,A2,rfl,rfl,rfl,h0,h1,h2⟩:=hk;simp only [lF,Á]at h;obtain⟨x,ao,θ1,l1,h,b1,t1,u1,s1,r1,x1,o1⟩:=De k hu h1 p.left h;obtain⟨ys,t,u,l2,h,b2,t2,u2,s2,r2,x2,o2⟩:=pX ks u1 h2 (p.split o1) h;refine⟨x::ys,t,u,l2,h,b2.trans b1,t2.trans t1,by rw [<-Á];exact u2,s1.trans s2, ?_,x2.trans x1,fun g i=> ?_⟩
  .simp only [aI]
   exact⟨v,bf,rfl,⟨ax.step s2 _ _ r1,h0⟩,r2⟩
  .rw [Env.dj]
   rcases o2 g i with i|i
   .rcases o1 g i with i|i
    .exact .inl i
    .exact .inr (by simp [i])
   .exact .inr (by simp [i])
end
theorem xG: ∀(ks:List bk) {su st':St} {θ:Asg} {L:Env} {nm:Nat->Nat} {j:Nat} {ds rest:List DV} {vs:List Value} {A:Env} {K:List TV->List DV->M β} {y:β} {l:Log},iu w0 F R B nal Bb w su θ L->cr (hp w) R B nal L nm j ks ds vs A->fe w0 F (su.de Bb) θ A.fps->
  (pF nm j ks (ds++rest) K).run su=some (y,st',l)->rn w0 F R B nal Bb w su θ L A K rest y st' (fun ah θ' cs=>bT (hp w) R (ah.de Bb) θ' cs vs)
 | [],su,st',θ,L,nm,j,ds,rest,vs,A,K,y,l,hu,hk,m,h=>by
  simp only [cr]at hk;obtain⟨rfl,rfl,rfl⟩:=hk;simp only [Â,pF]at h;exact iv hu h (by simp [bT])
 |.one k::ks,su,st',θ,L,nm,j,ds,rest,vs,A,K,y,l,hu,hk,m,h=>by
  simp only [cr]at hk;obtain⟨v,i,d1,d2,A1,A2,rfl,rfl,rfl,p,q,h2⟩:=hk;simp only [pF,Á]at h;rcases p with p|p
  .subst p
   simp only [aq]at q;obtain⟨rfl,rfl⟩:=q;simp only [Â,fG]at h;obtain⟨r,d,f,s,h,t,t2,u,s2,z,x2,o2⟩:=xG ks hu (by simpa using h2) m h
   refine⟨.one .undef::r,d,f,s,h,t,t2,u,s2, ?_,x2,o2⟩
   simp only [bT];exact⟨v,i,rfl,lH _,z⟩
  .obtain⟨x,ai,θ1,l1,h,b1,t1,u1,s1,r1,x1,o1⟩:=De k hu q m.left h
   obtain⟨r,d,f,s,h,t,t2,u,s2,z,x2,o2⟩:=xG ks u1 h2 (m.split o1) h;refine⟨.one x::r,d,f,s,h,t.trans b1,t2.trans t1,by rw [<-Á];exact u,s1.trans s2, ?_,x2.trans x1,fun g b=> ?_⟩
   .simp only [bT,aU]
    exact⟨v,i,rfl,⟨ax.step s2 _ _ r1,.inr p⟩,z⟩
   .rw [Env.dj]
    rcases o2 g b with b|b
    .rcases o1 g b with b|b
     .exact .inl b
     .exact .inr (by simp [b])
    .exact .inr (by simp [b])
 |.agg kk::ks,su,st',θ,L,nm,j,ds,rest,vs,A,K,y,l,hu,hk,m,h=>by
  simp only [cr]at hk;obtain⟨arr,i,d1,d2,A1,A2,rfl,rfl,rfl,q,h2⟩:=hk;simp only [pF,Á]at h;obtain⟨x,ai,θ1,l1,h,b1,t1,u1,s1,r1,x1,o1⟩:=pX kk hu q m.left h;obtain⟨r,d,f,s,h,t,t2,u,s2,z,x2,o2⟩:=xG ks u1 h2 (m.split o1) h;refine⟨.agg x::r,d,f,s,h,t.trans b1,t2.trans t1,by rw [<-Á];exact u,s1.trans s2, ?_,x2.trans x1,fun g b=> ?_⟩
  .simp only [bT,aU]
   exact⟨.agg arr,i,rfl,⟨arr,rfl,aI.step s2 _ _ r1⟩,z⟩
  .rw [Env.dj]
   rcases o2 g b with b|b
   .rcases o1 g b with b|b
    .exact .inl b
    .exact .inr (by simp [b])
   .exact .inr (by simp [b])
 |.aP _::_,su,st',θ,L,nm,j,ds,rest,vs,A,K,y,l,hu,hk,m,h=>by simp only [cr]at hk
theorem LY (k:bk) {su st':St} {θ:Asg} {L:Env} {nm:Nat->Nat} {ds rest:List DV} {v:Value} {A:Env} {K:TV->List DV->M β} {y:β} {l:Log} (hu:iu w0 F R B nal Bb w su θ L) (hk:bU (hp w) R B nal L nm k ds v A) (q:fe w0 F (su.de Bb) θ A.fps)
  (h:(qY nm k (ds++rest) K).run su=some (y,st',l)):rn w0 F R B nal Bb w su θ L A K rest y st' (fun r θ' c=>aU (hp w) R (r.de Bb) θ' c v):=by
 cases k with
 |one k=>
  simp only [bU]at hk;obtain⟨d,hk⟩:=hk;simp only [qY]at h;rcases d with d|d
  .subst d
   simp only [aq]at hk;obtain⟨rfl,rfl⟩:=hk;simp only [Â,fG]at h;exact iv hu h (lH _)
  .obtain⟨x,b,θ1,f,h,g,t1,i,s1,j,m,p⟩:=De k hu hk q h
   exact⟨.one x,b,θ1,f,h,g,t1,i,s1,⟨j,.inr d⟩,m,p⟩
 |agg ks=>
  simp only [bU]at hk;obtain⟨arr,rfl,hk⟩:=hk;simp only [qY]at h;obtain⟨x,b,θ1,f,h,g,t1,i,s1,j,m,p⟩:=pX ks hu hk q h;exact⟨.agg x,b,θ1,f,h,g,t1,i,s1,⟨arr,rfl,j⟩,m,p⟩
 |aP ks=>
  simp only [bU]at hk;obtain⟨arr,rfl,hk⟩:=hk;simp only [qY]at h;obtain⟨x,b,θ1,f,h,g,t1,i,s1,j,m,p⟩:=xG ks hu hk q h;exact⟨.aP x,b,θ1,f,h,g,t1,i,s1,⟨arr,rfl,j⟩,m,p⟩
end
end Go.Ev
