/- A verified evaluator of the machine's code, part 2: no program in sight. -/
import Derived.Test.YtfledcdkafkgaaaGreatDoorEv1
import Derived.Laws.IdiomStrings
import Derived.Laws.Tables
open Nat renaming eq_of_beq_eq_true->À,le_of_ble_eq_true->È,mul_le_mul_right->É,le_refl->Ò,min_eq_left->Ù,zero_mul->Ý,add_mul->Δ,succ_mul->Η,zero_le->Τ,beq->Χ,le_of_eq->ο,beq_refl->π,ble->Ϗ,zero_add->ϙ,mul_one->Ϟ
open List renaming append_assoc->Á,nil_append->Â,mem_append->Ã,nodup_append->Ä,eq_nil_of_length_eq_zero->Å,nodup_nil->Æ,length_cons->Í,map_cons->Î,replicate->Ï,nodup_cons->Ñ,cons_append->Ó,getElem?_eq_getElem->Ø,take_take->Ú,take_of_length_le->Ü,mem_cons->Γ,append_nil->Ε,length_append->Ι,sublist_append_left->Ν,drop_of_length_le->Ο,take_append_drop->Ρ,drop_drop->Υ,getElem?_take->ι,extract->κ,flatMap_cons->ν,map_nil->ξ,take_append->σ,length_take->τ,range'_succ->υ,take_left'->ϊ,length_map->ϋ,drop_take->ώ,map_map->ϗ,mem_map->Ϙ,flatMap->Ϛ,range'->Ϝ,map->ϝ
open Go.Builtin renaming firstCells->Ç,append_->Ì,zeroCells->Μ,lenOf->ζ,nextslicecap->Ϡ,min_->ϣ,min2->Ϥ,max_->ϥ,max2->Ϧ
open Option.some renaming injEq->Ê,inj->ϡ
open Option renaming map_eq_some_iff->Ë,isSome_iff_exists->Ô,map_some->ω
open Go.Instr renaming sliceBounds->Ð,sliceBound->Α,fill->Β,sliceAt->ε,buildSlice->φ,slice->χ,makeSlice->ό,sureAddr->ύ
open Bool renaming and_eq_true->Õ,or_eq_true->Ö,false_eq_true->η
open Go.IntKind renaming signed->Û,bits->Ζ,min->Κ,max->Λ,wrap->ϛ,i64->ϟ
open Array renaming ext'->Θ,toArray_toList->Φ,length_toList->Ω,range->ψ
open Go.Addr renaming add_lit->Ξ,add->Ϣ
open Go.Value renaming int->Ψ
open Bool renaming true->å,false->ä
open Option renaming some->ã,none->â
open Decidable renaming decide->á
namespace Go.Ev
section
variable {P:Program} {T:TypeId→Option TyI} {w0 w:World} {F R:Nat→Prop} {st st':St} {θ:Asg} {a:Act} {o:Oper} {v:TV} {l:Log}
theorem QE (b:Ok P T) {s:TypeId} {fs:List (Nat×TypeId)} {i:TyI} (hi:T s=ã i) (hu:i.u=.struct fs) {f off:Nat} {t:TypeId} (d:fs[f]? =ã (off,t)):
  ∃fields,P.underlying s=ã (.struct fields)/\ ∃fd:Field,fields[f]? =ã fd/\fd.offset=off/\fd.type=t/\ ∃inf,P.info? t=ã inf/\inf.size≠0:=by
 have k:=(b.eY s _ hi).u;rw [hu]at k;simp only [nX]at k;obtain⟨fields,g,h⟩:=k;exact⟨fields,g,h.at_ f off t d⟩
theorem aeW (ah:Ok P T) (hI:Inv w0 F R st θ w) (hT:Tm (hp w) R st θ a) {s:TypeId} {x:Operand} {f:Nat} (ho:o.op=.fieldAddr s x f) {fs:List (Nat×TypeId)} {i:TyI} (hi:T s=ã i) (hu:i.u=.struct fs) {off:Nat} {t:TypeId} (hf:fs[f]? =ã (off,t))
  (h:(vD off (bE st x)).run st=ã (v,st',l)):aZ P w0 F R st θ w o a v st':=by
 obtain⟨fields,h1,fd,h2,h3,h4,inf,h5,h6⟩:=QE ah hi hu hf;have j: ∀g q,a.eval x=.pointer (ã ⟨g,q,â⟩)->(execOp a.eval o).run P w=.ok (.value (.pointer (ã ⟨g,q+off,â⟩))) w:=by
  intro g q e;simp only [execOp,ho];refine ic ?_
  simp [Instr.fieldAt,run_underlying h1,h2,ύ,e,fieldPlace,sizeOf,typeInfo,h4,h5,h6,h3,Ξ]
 cases z:bE st x with
 |agg _=>rw [z]at h;simp [vD,M.run]at h
 |aM _=>rw [z]at h;simp [vD,M.run]at h
 |one p=>
  rw [z]at h;cases p<;>simp only [vD]at h
  case pb b of=>
   obtain⟨rfl,rfl⟩:=cM h;have r:=(dK hT z Ż).1
   simp only [aB]at r;refine aZ.pure hI (j _ _ r.2) (fx ?_ rfl)
   simp [aB,r.1]
  case pe k aH ix of=>
   obtain⟨rfl,rfl⟩:=cM h;have r:=(dK hT z Ż).1
   simp only [aB]at r;obtain⟨⟨g,q,e⟩,r1,m⟩:=r;refine aZ.pure hI (j _ _ e) (fx ?_ rfl)
   simp only [aB];refine⟨⟨_,_,rfl⟩,r1,fun hv d hd=> ?_⟩
   obtain⟨g',len,cap,k1,k2,k3⟩:=m hv d hd;rw [e]at k3;simp only [Value.pointer.injEq,Ê,Addr.mk.injEq,and_true]at k3;obtain⟨rfl,rfl⟩:=k3;exact⟨g,len,cap,k1,k2,æ⟩
  case pr ts e of=>
   obtain⟨rfl,rfl⟩:=cM h;have r:=(dK hT z Ż).1
   simp only [aB]at r;obtain⟨g,q,cur,ty,frz,e1,m,r3,r4,r5⟩:=r;refine aZ.pure hI (j _ _ e1) (fx ?_ rfl)
   simp only [aB];exact⟨g,q,cur,ty,frz,æ,m,r3,r4,r5⟩
  case pg k aH wv ts e of=>
   obtain⟨rfl,rfl⟩:=cM h;have r:=(dK hT z Ż).1
   simp only [aB]at r;obtain⟨⟨g,q,e1⟩,r1,m⟩:=r;refine aZ.pure hI (j _ _ e1) (fx ?_ rfl)
   simp only [aB];refine⟨⟨_,_,rfl⟩,r1,fun hv=>⟨(m hv).1,fun hw hd=> ?_⟩⟩
   obtain⟨g',q',cur,ty,frz,e2,m,r3,r4,r5⟩:=(m hv).2 hw hd;rw [e1]at e2;simp only [Value.pointer.injEq,Ê,Addr.mk.injEq,and_true]at e2;obtain⟨rfl,rfl⟩:=e2;exact⟨g,q',cur,ty,frz,æ,m,r3,r4,r5⟩
  all_goals simp [M.run]at h
theorem aeX (j:Ok P T) (hI:Inv w0 F R st θ w) (hT:Tm (hp w) R st θ a) {s:TypeId} {x:Operand} {f:Nat} (ho:o.op=.field s x f) {fs:List (Nat×TypeId)} {i:TyI} (hi:T s=ã i) (hu:i.u=.struct fs) {off:Nat} {t:TypeId} (hf:fs[f]? =ã (off,t)) {b:TyI} (p:T t=ã b)
  {cs:List Cell} (hx:bE st x=.agg cs) (h:(M.gd (Ϗ (off+b.size) cs.length) (.ret (lV (kC b) (sub cs off b.size)))).run st=ã (v,st',l)):aZ P w0 F R st θ w o a v st':=by
 obtain⟨fields,q,fd,h2,h3,h4,inf,h5,h6⟩:=QE j hi hu hf;obtain⟨hg,h⟩:=M.aP h;obtain⟨rfl,rfl⟩:=M.gn h;have hg:=È hg;have g:=iN hT x;rw [hx]at g;simp only [aV]at g;obtain⟨arr,e,g⟩:=g;have hl:=g.length;have r:=(g.drop off).take b.size;have d:=j.eY t b p;have k: ∃u,(part t arr off).run P w=.ok u w/\(if kC b=å then u=.agg ((arr.toList.drop off).take b.size).toArray else ∃v,(arr.toList.drop off).take b.size=[v]/\u=v):=by
  cases z:kC b with
  |true=>
   refine⟨.agg ((arr.toList.drop off).take b.size).toArray, ?_,Ż⟩
   simp only [part,Sem.run_bind,zW d,Result.andThen_ok,z,if_true,GK d,Sem.run_pure];congr 2
   apply Θ
   simp [κ]
  |false=>
   have q:b.size=1:=by
    have:=d.one;unfold kC at z;cases e:b.u<;>simp_all
   have m:off<arr.toList.length:=ž
   refine⟨arr.toList[off], ?_, ?_⟩
   .have:arr[off]? =ã arr.toList[off]:=by simp at m |-
    simp only [part,Sem.run_bind,zW d,Result.andThen_ok,z,η,if_false,this,Sem.run_pure]
   .simp only [η,if_false]
    refine⟨_, ?_,rfl⟩
    rw [List.drop_eq_getElem_cons m,q];simp
 obtain⟨u,k1,k2⟩:=k;refine aZ.pure hI (u:=u) ?_ (GI r k2)
 simp only [execOp,ho];refine ic ?_
 simp [Instr.field,run_underlying q,h2,asAgg,e,h4,h3,k1]
theorem ch.get {H:Heap}: ∀ {vs:List TV} {us:List Value} {i:Nat} {x:TV},ch H R st θ vs us->vs[i]? =ã x-> ∃u,us[i]? =ã u/\aV H R st θ x u
 | [],us,i,x,h,b=>by simp at b
 |c::cs,us,i,x,h,b=>by
  simp only [ch]at h;obtain⟨u,d,rfl,f,g⟩:=h;cases i with
  |zero=>simp at b;subst b;exact⟨u,rfl,f⟩
  |succ i=>
   obtain⟨j,k1,k2⟩:=ch.get g ł
   exact⟨j,ġ,k2⟩
theorem aeY (d:Inv w0 F R st θ w) (f:Tm (hp w) R st θ a) {x:Operand} {i:Nat} (g:o.op=.extract x i) {vs:List TV} (j:bE st x=.aM vs) {y:TV} (hy:vs[i]? =ã y)
  (h:(M.ret y).run st=ã (v,st',l)):aZ P w0 F R st θ w o a v st':=by
 obtain⟨rfl,rfl⟩:=M.gn h;have b:=iN f x;rw [j]at b;simp only [aV]at b;obtain⟨arr,e,b⟩:=b;obtain⟨u,k,m⟩:=b.get hy;refine aZ.pure d (u:=u) ?_ m
 simp only [execOp,g];refine ic ?_
 have:arr[i]? =ã u:=ý
 simp [Instr.extract,e,this]
theorem GL (b:Ok P T) {t:TypeId} {c:CT} (h:fw T t=ã c): ∃e,P.underlying t=ã (.slice e)/\ ∀w:World,(sizeOf e).run P w=.ok (ay c).size w:=by
 obtain⟨-,e,d,inf,z,f,g, -⟩:=tb b h;exact⟨e,d,fun w=>by simp [sizeOf,typeInfo,f,g]⟩
theorem vW (s:Inv w0 F R st θ w) {n aH:Nat} {vw:Option Nat} {d:DV} {v:Value} (r:aB (hp w) R st θ (.ob n aH vw) v) (hd:(st.ar n).bj=ã d) (t:aH=(st.ar n).aH) (k:kx d.c vw d.x=å):
  bP d.c=å/\aE (hp w) (fun b=>b∈θ.fp n) ä (enc d.c (cz d.c vw d.x)) v []/\aF d.c (cz d.c vw d.x)<=aF d.c d.x/\ ∃a len cap,θ.ob n=.slice a len cap/\v=.slice a (aF d.c (cz d.c vw d.x)) cap:=by
 simp only [aB]at r;have k3:=r.2 t š
 obtain⟨q1,q2,q3⟩:=s.ar n d hd;have i:=q2.share (R':=fun b=>b∈θ.fp n) (fun b u=>u)
 obtain⟨g,f,j,e4,e5⟩:=q2.ia q1;cases vw with
 |none=>
  simp only at k3;subst k3;exact⟨q1,i,Ò _,g,_,f,j,j⟩
 |some m=>
  simp only at k3;obtain⟨ad,len,cap,p,e2⟩:=k3;subst e2;rw [p]at j;cases j;have hm:m<=aF d.c d.x:=by simpa [kx]using k
  have q:aF d.c (cz d.c (ã m) d.x)=m:=Ą
  rw [p]at i;have:=aE.cut (l:=0) (h:=m) (m:=f) q1 i (Τ _) hm ž e5 g (fun _=>by
   cases g with
   |none=>rfl
   |some z=>simp [Ϣ])
  have hz:gL d.c 0 d.x=d.x:=by
   cases d with
   |mk c x=>cases c<;>simp [gL]
  rw [hz]at this;exact⟨q1,this,ž,g,_,f,p,by rw [q]⟩
theorem zZ {H:Heap} {n aH wv:Nat} {pl:Option (Nat×Nat)} {c:CT} {x:Interp c} {d:DV} {v:Value} (f:aB H R st θ (.gs n aH wv pl c x) v) (hd:(st.ar n).bj=ã d) (g:aH=(st.ar n).aH) (hw:wv=(st.ar n).wv):
  bP c=å/\aE H (fun b=>b∈θ.fp n) ä (enc c x) v []:=by
 simp only [aB]at f;exact⟨f.1,((f.2.2 g).2 hw d hd).1⟩
theorem QF {c:CT} {x:Interp c} {n:Int} {e:bc (ay c)} (h:qO c x n=ã e):0<=n/\kY c x n.toNat=ã e:=by
 unfold qO at h;cases b:á (0<=n)with
 |false=>simp [b]at h
 |true=>simp only [b,Y]at h;exact⟨of_decide_eq_true b,h⟩
theorem GM {α:Type} {n aH wv:Nat} {pl:Option (Nat×Nat)} {c:CT} {x:Interp c} {k:(c:CT)->Interp c->M α} {y:α} (h:(fv (.gs n aH wv pl c x) .fail k).run st=ã (y,st',l)):
  ∃d b,(st.ar n).bj=ã d/\aH=(st.ar n).aH/\wv=(st.ar n).wv/\(k c x).run st=ã (y,st',b):=by
 simp only [fv]at h;obtain⟨b,h⟩:=M.fR h;cases hd:(st.ar n).bj with
 |none=>simp [hd,M.run]at h
 |some d=>
  simp only [hd]at h;obtain⟨f,h⟩:=M.aP h;obtain⟨hw,h⟩:=M.aP h;exact⟨d,b,rfl,À f,À hw,h⟩
theorem aeZ (ao:Ok P T) (hI:Inv w0 F R st θ w) (s:Tm (hp w) R st θ a) {t:TypeId} {x i:Operand} (ho:o.op=.indexAddr t x i)
  (h:(Gt (fw T t) (bE st x) (bE st i)).run st=ã (v,st',l)):aZ P w0 F R st θ w o a v st':=by
 have f: ∀(c:CT) (k:IntKind) (n:Int) (g q len cap:Nat),fw T t=ã c->a.eval i=.int k n->0<=n->n<len->a.eval x=.slice (ã ⟨g,q,â⟩) len cap->
   (execOp a.eval o).run P w=.ok (.value (.pointer (ã ⟨g,q+n.toNat*(ay c).size,â⟩))) w:=by
  intro c k n g q len cap j hi h0 h1 p;obtain⟨e,k1,k2⟩:=GL ao j;simp only [execOp,ho];refine ic ?_
  simp [Instr.indexAt,hi,asIntOf,run_underlying k1,p,h0,h1,k2,Ξ]
 have ag: ∀(c:CT) (y:Interp c) (k:IntKind) (n:Int) (e:bc (ay c)),fw T t=ã c->bP c=å->aE (hp w) R ä (enc c y) (a.eval x) []->a.eval i=.int k n->qO c y n=ã e->v=.one (.pr (ay c) e 0)->st'=st->aZ P w0 F R st θ w o a v st':=by
  intro c y k n e j hs u hi b e1 e2;subst e1;subst e2;obtain⟨h0,b⟩:=QF b;obtain⟨ad,cap,ex, -, -⟩:=u.ia hs;rw [ex]at u;obtain⟨g,off,rfl,z⟩:=u.elem hs b;have:=zQ b;refine aZ.pure hI (f c k n g off _ cap j hi h0 ž ex) (fx ?_ rfl)
  simpa only [aB]using z
 unfold Gt at h;split at h
 .rename_i c y k n p hi
  obtain⟨j,h⟩:=M.aP h;obtain⟨e,b,h⟩:=M.eO h;have m:=cM h;have r:=(dK s p Ż).1
  simp only [aB]at r;exact ag c y k n e (na j) r.1 r.2 (fF s hi).1 b m.1 m.2
 .rename_i c y k n p hi
  obtain⟨j,h⟩:=M.aP h;obtain⟨e,b,h⟩:=M.eO h;have m:=cM h;have r:=(dK s p Ż).1
  simp only [aB]at r;exact ag c y k n e (na j) r.1 r.2.1 (fF s hi).1 b m.1 m.2
 .rename_i k aH vw ik n p hi
  obtain⟨l1,h⟩:=M.fR h;cases hd:(st.ar k).bj with
  |none=>simp [hd,M.run]at h
  |some d=>
   simp only [hd]at h;obtain⟨hv,h⟩:=M.aP h;obtain⟨av,h⟩:=M.aP h;obtain⟨j,h⟩:=M.aP h;obtain⟨hn,h⟩:=M.aP h;obtain⟨rfl,rfl⟩:=cM h;have hn:=of_decide_eq_true hn;have hv:=À hv;have r:=(dK s p Ż).1
   obtain⟨q1,q2,q3,ad,len,cap,e1,e2⟩:=vW hI r hd hv av;obtain⟨p1,p2,p3⟩:=hI.ar k d hd;obtain⟨bf,ax,e3,p4,p5,p6⟩:=p2.sZ p1;rw [e1]at e3;cases e3;rcases p6 with⟨p6, -⟩|⟨g,cur,ty,frz,fps,rfl,p7, -⟩
   .omega
   .refine aZ.pure hI (f d.c ik n g 0 _ cap (na j) (fF s hi).1 hn.1 hn.2 e2) (fx ?_ rfl)
    simp only [aB];refine⟨⟨_,_,rfl⟩,ž,fun _ d' aj=> ?_⟩
    rw [hd]at aj;cases aj;exact⟨g,_,cap,e1,ž,Ż⟩
 .rename_i k aH wv pl c y ik n p hi
  obtain⟨j,h⟩:=M.aP h;obtain⟨d,l1,hd,hv,hw,h⟩:=GM h;obtain⟨e,b,h⟩:=M.eO h;obtain⟨rfl,rfl⟩:=cM h;have r:=(dK s p Ż).1
  obtain⟨hs,u⟩:=zZ r hd hv hw;obtain⟨h0,b⟩:=QF b;obtain⟨ad,cap,ex, -, -⟩:=u.ia hs;rw [ex]at u;obtain⟨g,off,rfl,z⟩:=u.elem hs b;have:=zQ b;refine aZ.pure hI (f c ik n g off _ cap (na j) (fF s hi).1 h0 ž ex) (fx ?_ rfl)
  simp only [aB];exact⟨⟨_,_,rfl⟩,ž,fun _=>⟨ž,fun _ _=>z⟩⟩
 .simp [M.run]at h
end
end Go.Ev
namespace Go.Ev
section
variable {P:Program} {T:TypeId→Option TyI} {w0 w:World} {F R:Nat→Prop} {st st':St} {θ:Asg} {a:Act} {o:Oper} {v:TV} {l:Log}
theorem tc {u:Value} {k:IntKind} {n:Int} {y:Nat} (hu:u=.int k n) (b:0<=n) (d:n<=y) (code:BoundsCode):(Α u y code).run P w=.ok n.toNat w:=by
 subst hu;simp [Α,asIntOf,b,d]
theorem pL {H:Heap} (p:Tm H R st θ a) {len cap:Nat} (z:len<=cap) {lo hi:Option Operand} {k:Nat->Nat->M TV} {r:TV×St×Log} (h:(mW len (lo.map (bE st)) (hi.map (bE st)) k).run st=ã r):
  ∃x y,x<=y/\y<=len/\(k x y).run st=ã r/\(lo=â->x=0)/\ ∀b,(Ð b len cap (lo.map a.eval) (hi.map a.eval) â).run P w=.ok (x,y,cap) w:=by
 unfold mW at h;split at h
 .rename_i i j
  have f:lo=â:=by cases lo<;>simp_all
  have g:hi=â:=by cases hi<;>simp_all
  subst f g;exact⟨0,len,Τ _,Ò _,h,fun _=>rfl,fun b=>by simp [Ð]⟩
 .rename_i k n i j
  have f:lo=â:=by cases lo<;>simp_all
  subst f;obtain⟨c,rfl,q⟩:=Ë.1 j;obtain⟨d,h⟩:=M.aP h;have d:=of_decide_eq_true d;have m:=(fF p q).1;exact⟨0,n.toNat,Τ _,ž,h,fun _=>rfl,fun b=>by simp [Ð,tc (P:=P) (w:=w) (y:=cap) m d.1 ž]⟩
 .rename_i k n i j
  have g:hi=â:=by cases hi<;>simp_all
  subst g;obtain⟨c,rfl,s⟩:=Ë.1 i;obtain⟨d,h⟩:=M.aP h;have d:=of_decide_eq_true d;have m:=(fF p s).1;exact⟨n.toNat,len,ž,Ò _,h,Ż,fun b=>by simp [Ð,tc (P:=P) (w:=w) (y:=len) m d.1 d.2]⟩
 .rename_i k n k' u i j
  obtain⟨c,rfl,s⟩:=Ë.1 i;obtain⟨c',rfl,q⟩:=Ë.1 j;obtain⟨d,h⟩:=M.aP h;have d:=of_decide_eq_true d;have m:=(fF p s).1;have t:=(fF p q).1;exact⟨n.toNat,u.toNat,ž,ž,h,Ż,fun b=>by simp [Ð,tc (P:=P) (w:=w) (y:=cap) t ž ž,tc (P:=P) (w:=w) (y:=u.toNat) m d.1 ž]⟩
 .simp [M.run]at h
theorem extract_mk (s:O) (x y:Nat):(⟨s.toArray⟩:ByteArray).extract x y=⟨((s.drop x).take (y-x)).toArray⟩:=by
 apply ByteArray.ext
 rw [ByteArray.data_extract];apply Θ
 simp [κ]
theorem afA (aj:Ok P T) (hI:Inv w0 F R st θ w) (j:Tm (hp w) R st θ a) {t:TypeId} {x:Operand} {lo hi:Option Operand} (ho:o.op=.slice t x lo hi â)
  (h:(Gr (T t) (fw T t) (bE st x) (lo.map (bE st)) (hi.map (bE st))).run st=ã (v,st',l)):aZ P w0 F R st θ w o a v st':=by
 have f: ∀(c:CT) (b:Option Addr) (len cap p q:Nat),fw T t=ã c->a.eval x=.slice b len cap->(Ð å len cap (lo.map a.eval) (hi.map a.eval) â).run P w=.ok (p,q,cap) w->
   (execOp a.eval o).run P w=.ok (.value (.slice (if cap=p then b else b.map (·.add (p*(ay c).size))) (q-p) (cap-p))) w:=by
  intro c b len cap p q g k i;obtain⟨e,k1,k2⟩:=GL aj g;simp only [execOp,ho];refine ic ?_
  simp [ε,χ,run_underlying k1,k,i,k2]
 have m: ∀(c:CT) (y:Interp c) (R':Nat->Prop) (p q cap:Nat) (b:Option Addr),bP c=å->aE (hp w) R' ä (enc c y) (.slice b (aF c y) cap) []->p<=q->q<=aF c y->
   aE (hp w) R' ä (enc c (gk c (q-p) (gL c p y))) (.slice (if cap=p then b else b.map (·.add (p*(ay c).size))) (q-p) (cap-p)) []:=by
  intro c y R' p q cap b g hr h1 h2;obtain⟨ak,al,e,h3,h4⟩:=hr.ia g;cases e;refine hr.cut g h1 h2 ž ž _ (fun bd=> ?_)
  rw [if_neg ž]
 unfold Gr at h;split at h
 .rename_i s k
  obtain⟨hu,h⟩:=M.aP h;have hu:=zY aj hu;have aw:=rj j k;obtain⟨p,q,h1,h2,h, -,i⟩:=pL (P:=P) (w:=w) j (Ò _) h;obtain⟨rfl,rfl⟩:=cM h;refine aZ.pure hI (u:=.string ⟨((s.drop p).take (q-p)).toArray⟩) ?_ (rk ź)
  simp only [execOp,ho];refine ic ?_
  have i:=i ä;simp [ε,χ,run_underlying hu,aw.1,show(⟨s.toArray⟩:ByteArray).size=s.length from rfl,i,extract_mk]
 .rename_i k
  obtain⟨g,h⟩:=M.aP h;obtain⟨c,g⟩:=Ô.1 g;have r:=(dK j k Ż).1
  simp only [aB]at r;obtain⟨p,q,h1,h2,h, -,i⟩:=pL (P:=P) (w:=w) (cap:=0) j (Ò _) h;obtain⟨rfl,rfl⟩:=cM h;have hm:=f c â 0 0 p q g r (i å);have:p=0:=ž
  subst this;have:q=0:=ž
  subst this;exact aZ.pure hI hm (fx Ś rfl)
 .rename_i k
  obtain⟨g,h⟩:=M.aP h;obtain⟨c,g⟩:=Ô.1 g;have r:=(dK j k Ż).1
  simp only [aB]at r;obtain⟨b,r⟩:=r;obtain⟨p,q,h1,h2,h, -,i⟩:=pL (P:=P) (w:=w) (cap:=0) j (Ò _) h;obtain⟨rfl,rfl⟩:=cM h;have hm:=f c b 0 0 p q g r (i å);have:p=0:=ž
  subst this;have:q=0:=ž
  subst this;exact aZ.pure hI hm (fx Ś rfl)
 .rename_i c y k
  obtain⟨g,h⟩:=M.aP h;have r:=(dK j k Ż).1
  simp only [aB]at r;obtain⟨b,cap,e,h3,h4⟩:=r.2.ia r.1;obtain⟨p,q,h1,h2,h, -,i⟩:=pL (P:=P) (w:=w) j h3 h;obtain⟨rfl,rfl⟩:=cM h;have r2:=r.2;rw [e]at r2;refine aZ.pure hI (f c b _ cap p q (na g) e (i å)) (fx ?_ rfl)
  simp only [aB];exact⟨r.1,m c y R p q cap b r.1 r2 h1 h2⟩
 .rename_i c y k
  obtain⟨g,h⟩:=M.aP h;have r:=(dK j k Ż).1
  simp only [aB]at r;obtain⟨b,cap,e,h3,h4⟩:=r.2.1.ia r.1;obtain⟨p,q,h1,h2,h, -,i⟩:=pL (P:=P) (w:=w) j h3 h;obtain⟨rfl,rfl⟩:=cM h;have r2:=r.2.1;rw [e]at r2;refine aZ.pure hI (f c b _ cap p q (na g) e (i å)) (fx ?_ rfl)
  simp only [aB];refine⟨r.1,m c y R p q cap b r.1 r2 h1 h2, ?_⟩
  obtain⟨ak,l',m',e'⟩:=r.2.2;rw [e]at e';cases e';by_cases ax:cap=p<;>simp [ax]
 .rename_i n aH wv pl c y k
  obtain⟨g,h⟩:=M.aP h;obtain⟨d,l1,hd,hv,hw,h⟩:=GM h;have r:=(dK j k Ż).1
  obtain⟨hs,hr⟩:=zZ r hd hv hw;obtain⟨b,cap,e,h3,h4⟩:=hr.ia hs;obtain⟨p,q,h1,h2,h, -,i⟩:=pL (P:=P) (w:=w) j h3 h;obtain⟨rfl,rfl⟩:=cM h;rw [e]at hr;refine aZ.pure hI (f c b _ cap p q (na g) e (i å)) (fx ?_ rfl)
  simp only [aB];exact⟨hs,ž,fun _=>⟨ž,fun _ d' a1=>⟨m c y _ p q cap b hs hr h1 h2,Ż⟩⟩⟩
 .rename_i n aH vw k
  obtain⟨l1,h⟩:=M.fR h;cases hd:(st.ar n).bj with
  |none=>simp [hd,M.run]at h
  |some d=>
   simp only [hd]at h;obtain⟨hv,h⟩:=M.aP h;obtain⟨a6,h⟩:=M.aP h;obtain⟨g,h⟩:=M.aP h;have hv:=À hv;have r:=(dK j k Ż).1
   obtain⟨q1,q2,q3,b,len,cap,e1,e2⟩:=vW hI r hd hv a6;obtain⟨ak,al,e3,h3,h4⟩:=q2.ia q1;rw [e2]at e3;cases e3;cases lo with
   |none=>
    simp only [Option.map_none]at h;obtain⟨p,q,h1,h2,h,h0,i⟩:=pL (P:=P) (w:=w) (lo:=â) j h3 h;obtain⟨rfl,rfl⟩:=cM h;have a7:=h0 rfl;subst a7;refine aZ.pure hI (f d.c b _ cap 0 q (na g) e2 (i å)) (fx ?_ rfl)
    simp only [aB];refine⟨ž,fun _ _=>⟨b,len,cap,e1, ?_⟩⟩
    cases b with
    |none=>simp
    |some z=>simp [Ϣ]
   |some lo=>
    simp only [ω]at h;obtain⟨p,q,h1,h2,h, -,i⟩:=pL (P:=P) (w:=w) (lo:=ã lo) j h3 h;obtain⟨rfl,rfl⟩:=cM h;rw [e2]at q2;refine aZ.pure hI (f d.c b _ cap p q (na g) e2 (i å)) (fx ?_ rfl)
    simp only [aB];refine⟨q1,ž,fun _=>⟨Ò _,fun _ d' a1=>⟨m d.c _ _ p q cap b q1 q2 h1 h2,Ż⟩⟩⟩
 .simp [M.run]at h
theorem afB (g:Ok P T) (j:Inv w0 F R st θ w) (m:Tm (hp w) R st θ a) {t:TypeId} {x hi mx:Operand} (ho:o.op=.slice t x â (ã hi) (ã mx)) {k k':IntKind} {p q:Int} {c:Cell}
  (e1:bE st hi=.one (.i k p)) (e2:bE st mx=.one (.i k' q)) (e3:bE st x=.one c)
  (h:(M.gd (á (p=0/\q=0)) (M.gd (fw T t).isSome (fv c (c1 .z0) fun _ _=>c1 .z0))).run st=ã (v,st',l)):aZ P w0 F R st θ w o a v st':=by
 obtain⟨hg,h'⟩:=M.aP h;clear h;obtain⟨s,u⟩:=of_decide_eq_true hg;clear hg;subst s u;obtain⟨z,hz⟩:=M.aP h';clear h';obtain⟨d,hc⟩:=Ô.1 z;have r:=(dK m e3 (by rintro rfl;simp [fv,M.run]at hz)).1
 have h1:=(fF m e1).1;have h2:=(fF m e2).1;have b: ∀(f:Option Addr) (len cap:Nat),a.eval x=.slice f len cap->(execOp a.eval o).run P w=.ok (.value (.slice f 0 0)) w:=by
  intro f len cap hx;obtain⟨e,k1,k2⟩:=GL g hc;simp only [execOp,ho];refine ic ?_
  have hb: ∀(code:BoundsCode) (y:Nat),(Α (.int k 0) y code).run P w=.ok 0 w:=fun code y=>tc (P:=P) (w:=w) rfl ž ž code
  have ae: ∀(code:BoundsCode) (y:Nat),(Α (.int k' 0) y code).run P w=.ok 0 w:=fun code y=>tc (P:=P) (w:=w) rfl ž ž code
  simp [ε,χ,run_underlying k1,hx,h1,h2,Ð,hb,ae,k2]
 rcases zR j r hz with⟨⟨f,e⟩,h⟩|⟨c',y,l1,R',h,hs,hr, -⟩
 .obtain⟨rfl,rfl⟩:=cM h
  exact aZ.pure j (b f 0 0 e) (fx Ś rfl)
 .obtain⟨rfl,rfl⟩:=cM h
  obtain⟨f,cap,e, -, -⟩:=hr.ia hs;exact aZ.pure j (b f _ cap e) (fx Ś rfl)
theorem GN (b:Tm (hp w) R st θ a): ∀ {xs:List Operand} {cs:List Cell},py (xs.map (bE st))=ã cs->aJ (hp w) R st θ cs (xs.map a.eval)
 | [],cs,h=>by simp [py]at h;subst h;simp [aJ]
 |x::xs,cs,h=>by
  simp only [Î]at h;unfold py at h;split at h
  .rename_i e;cases e
  .cases h
  .rename_i c r f e
   simp only [List.cons.injEq]at e;obtain⟨g,d,rfl⟩:=Ë.1 h;rw [<-e.2]at d;simp only [Î,aJ];have:=dK b e.1 (fun i=>f (by rw [i]))
   exact⟨_,_,rfl,this,GN b d⟩
  .cases h
theorem afC (i:Inv w0 F R st θ w) (g:Tm (hp w) R st θ a) {f:FuncId} {xs b:Array Operand} (j:o.op=.makeFunc (.func f) xs b) {p q:List Cell}
  (d:py (xs.toList.map (bE st))=ã p) (k:py (b.toList.map (bE st))=ã q)
  (h:(c1 (.fn f p q)).run st=ã (v,st',l)):aZ P w0 F R st θ w o a v st':=by
 obtain⟨rfl,rfl⟩:=cM h;refine aZ.pure i (u:=.func (.func f) (xs.map a.eval) (b.map a.eval)) ?_ (fx ?_ rfl)
 .simp only [execOp,j]
  refine ic ?_
  simp [Instr.makeFunc]
 .simp only [aB]
  exact⟨_,_,rfl,by simpa using GN g d,by simpa using GN g k⟩
theorem afD (p:Inv w0 F R st θ w) (j:Tm (hp w) R st θ a) {cl:Call} {x y:Operand} (q:o.op=.call cl) (f:cl.callee=.builtin .min) (r:cl.args.toList=[x,y]) {k k':IntKind} {m n:Int}
  (d:bE st x=.one (.i k m)) (hy:bE st y=.one (.i k' n)) (h:(M.gd (á (k=k')) (c1 (.i k (cond (á (n<m)) n m)))).run st=ã (v,st',l)):aZ P w0 F R st θ w o a v st':=by
 obtain⟨hk,s⟩:=M.aP h;clear h;have hk:=of_decide_eq_true hk;subst hk;obtain⟨rfl,rfl⟩:=cM s;have g:cl.args= #[x,y]:=ó
 have d:=fF j d;have hy:=fF j hy;refine aZ.pure p (u:=.int k (cond (á (n<m)) n m)) ?_ (ib ?_)
 .by_cases b:n<m<;>simp [execOp,q,resolve,f,g,invoke,builtin,ϣ,Ϥ,d.1,hy.1,b]
 .by_cases b:n<m<;>simp [b,d.2,hy.2]
theorem afE (p:Inv w0 F R st θ w) (j:Tm (hp w) R st θ a) {cl:Call} {x y:Operand} (q:o.op=.call cl) (f:cl.callee=.builtin .max) (r:cl.args.toList=[x,y]) {k k':IntKind} {m n:Int}
  (d:bE st x=.one (.i k m)) (hy:bE st y=.one (.i k' n)) (h:(M.gd (á (k=k')) (c1 (.i k (cond (á (m<n)) n m)))).run st=ã (v,st',l)):aZ P w0 F R st θ w o a v st':=by
 obtain⟨hk,s⟩:=M.aP h;clear h;have hk:=of_decide_eq_true hk;subst hk;obtain⟨rfl,rfl⟩:=cM s;have g:cl.args= #[x,y]:=ó
 have d:=fF j d;have hy:=fF j hy;refine aZ.pure p (u:=.int k (cond (á (m<n)) n m)) ?_ (ib ?_)
 .by_cases b:m<n<;>simp [execOp,q,resolve,f,g,invoke,builtin,ϥ,Ϧ,d.1,hy.1,b]
 .by_cases b:m<n<;>simp [b,d.2,hy.2]
end
end Go.Ev
namespace Go.Ev
structure bL (w0:World) (F R:Nat->Prop) (θ:Asg) (w:World) (st st2:St) (fps:List Nat):Prop where
 inv:Inv w0 F R st2 θ w
 step:Step R st θ (hp w) st2 θ (hp w)
 boxes:st2.boxes=st.boxes
 tmps:st2.tmps=st.tmps
 rm: ∀k,st2.ar k=st.ar k\/(st2.ar k).bj=â
 nodup:fps.Nodup
 was: ∀g∈fps,cQ st θ g
 free: ∀g∈fps,¬cQ st2 θ g
section
variable {P:Program} {T:TypeId→Option TyI} {w0 w:World} {F R:Nat→Prop} {st st' st2 st3:St} {θ:Asg} {a:Act} {o:Oper} {v:TV} {l:Log} {α:Type} {f1 f2:List Nat}
theorem bL.refl (b:Inv w0 F R st θ w):bL w0 F R θ w st st []:=
 ⟨b,Step.refl _ _ _ _,rfl,rfl,fun _=>.inl rfl,Æ,Ż,Ż⟩
theorem bL.owned (t:bL w0 F R θ w st st2 f1) {g:Nat} (h:cQ st2 θ g):cQ st θ g:=by
 rcases h with⟨b,d,e⟩|⟨k,hk,f⟩
 .rw [t.boxes]at d;exact .inl ⟨b,d,e⟩
 .rcases t.rm k with e|e
  .rw [e]at hk;exact .inr ⟨k,hk,f⟩
  .simp [e]at hk
theorem bL.trans (t:bL w0 F R θ w st st2 f1) (u:bL w0 F R θ w st2 st3 f2):bL w0 F R θ w st st3 (f1++f2) where
 inv:=u.inv
 step:=t.step.trans u.step
 boxes:=u.boxes.trans t.boxes
 tmps:=u.tmps.trans t.tmps
 rm:=fun k=>by
  rcases u.rm k with e|e
  .rw [e];exact t.rm k
  .exact .inr e
 nodup:=Ä.2 ⟨t.nodup,u.nodup,fun x d y hy e=>by subst e;exact t.free x d (u.was x hy)⟩
 was:=fun g b=>(Ã.1 b).elim (t.was g) fun h=>t.owned (u.was g h)
 free:=fun g b=>(Ã.1 b).elim (fun h k=>t.free g h (u.owned k)) (u.free g)
theorem bL.own (t:bL w0 F R θ w st st2 f1) (d:Inv w0 F R st θ w) {g:Nat} (b:g∈f1): ¬cQ st2 θ g/\(F g\/w0.heap.size<=g):=⟨t.free g b,d.own g (t.was g b)⟩
theorem tf {H:Heap} {c:CT} (b:bP c=å) {d:Option Addr}:aE H R å (enc c (eh c)) (.slice d 0 0) []:=by
 have f:aF c (eh c)=0:=by cases c<;>simp [bP]at b<;>simp [aF,eh]
 have:=aE.pI (H:=H) (R:=R) (c:=c) (x:=eh c) (a:=d) (cap:=0) (fp:=[]) b ž (by simp [maxLen]) (.inl ⟨rfl,rfl⟩)
 rwa [f]at this
theorem aE.QG {H:Heap} {c:CT} {x:Interp c} {d:Option Addr} {len cap m:Nat} {fp:List Nat} (f:bP c=å) (h:aE H R å (enc c x) (.slice d len cap) fp) (hm:m<=aF c x) (r:fp.Nodup):
  ∃i,aE H R å (enc c (gk c m x)) (.slice d m cap) i/\i.Nodup/\ ∀g∈i,g∈fp:=by
 obtain⟨a,s,e,h1,t,j⟩:=h.sZ f;cases e;have k:aF c (gk c m x)=m:=by rw [vA];omega
 rcases j with⟨j,h4⟩|⟨g,cur,ty,frz,fps,rfl,k1,k2,k3,k4,u⟩
 .refine⟨[], ?_,Æ,Ż⟩
  have:=aE.pI (H:=H) (R:=R) (c:=c) (x:=gk c m x) (a:=d) (cap:=cap) (fp:=[]) f ž t (.inl ⟨j,rfl⟩)
  rwa [k]at this
 .subst k4
  have p:cv c x=(cv c x).take (m*(ay c).size)++(cv c x).drop (m*(ay c).size):=(Ρ _ _).symm;rw [p]at u;obtain⟨f1,f2,e,z,j2⟩:=u.split;refine⟨g::f1, ?_, ?_,fun b q=> ?_⟩
  .have hle:=É (ay c).size hm
   have hlen:((cv c x).take (m*(ay c).size)).length=m*(ay c).size:=ĝ
   rw [hlen,Ú,Ù hle,<-zG]at z;have:=aE.pI (H:=H) (R:=R) (c:=c) (x:=gk c m x) (a:=ã ⟨g,0,â⟩) (cap:=cap) (fp:=g::f1) f ž t (.inr ⟨g,cur,ty,frz,f1,rfl,k1,k2,k3,rfl,by rw [k];exact z⟩)
   rwa [k]at this
  .rw [e]at r
   exact r.sublist (List.Sublist.cons_cons _ (Ν f1 f2))
  .rw [e]
   rcases Γ.1 q with rfl|q
   .simp
   .simp [q]
theorem az.at_ {H:Heap} {own:Bool}: ∀ {ds:List bf} {vs:List Value} {f:List Nat} {j:Nat} {d:bf},az H R own ds vs f->ds[j]? =ã d-> ∃v b,vs[j]? =ã v/\aE H R own d v b/\b.Sublist f
 | [],_,_,_,_,_,h=>by simp at h
 |d0::ds,vs,f,j,d,h,hj=>by
  simp only [az]at h;obtain⟨v,r,f1,f2,rfl,rfl,g,i⟩:=h;cases j with
  |zero=>
   simp only [List.getElem?_cons_zero,Ê]at hj
   subst hj;exact⟨v,f1,rfl,g,Ν _ _⟩
  |succ j=>
   obtain⟨k,b,k1,k2,k3⟩:=az.at_ i (j:=j) Ŗ
   exact⟨k,b,ġ,k2,k3.trans (List.sublist_append_right _ _)⟩
theorem afF {H:Heap} {fp:List Nat} {hd:Value} {d:DV} {i j:Nat} {c:CT} {x:Interp c} {v:Value} (u:bP d.c=å) (h:aE H R å (enc d.c d.x) hd fp) (z:fp.Nodup) (hp:Qn H fp hd d i j c x v):
  ∃f,aE H R å (enc c x) v f/\f.Nodup/\ ∀g∈f,g∈fp:=by
 obtain⟨e,g,len,cap,cur,ty,frz,q,r,h3,h4,h5,h6⟩:=hp;obtain⟨a,s,k, -, -,h7⟩:=h.sZ u;rcases h7 with⟨-,rfl⟩|⟨g',ll,ai,t,fps,k1,k2,k3,k4,rfl,k5⟩
 .cases h4
 .rw [h3,k1]at k
  simp only [Value.slice.injEq,Ê,Addr.mk.injEq,and_true]at k;obtain⟨rfl, -, -⟩:=k;rw [h5]at k2;simp only [Ê,Obj.cells.injEq]at k2;obtain⟨rfl, -, -⟩:=k2;have hj:j<(ay d.c).size:=by
   have:=(List.getElem?_eq_some_iff.1 r).1
   rwa [lT]at this
  have hi:=zQ q;have hm:(i+1)*(ay d.c).size<=aF d.c d.x*(ay d.c).size:=É _ hi;rw [Δ,Nat.one_mul]at hm;have m:(cv d.c d.x)[i*(ay d.c).size+j]? =ã (enc c x):=by
   rw [Gj q];have hl:((cv d.c d.x).take (i*(ay d.c).size)).length=i*(ay d.c).size:=ĝ
   rw [List.getElem?_append_right ž,hl,Nat.add_sub_cancel_left,List.getElem?_append_left (by rw [lT];exact hj)]
   exact r
  obtain⟨v',f,q1,q2,q3⟩:=k5.at_ m;rw [ι,if_pos ž,h6]at q1
  cases q1;have p:fps.Nodup:=(Ñ.1 z).2;exact⟨f,q2,p.sublist q3,fun b hb=>by simp [q3.subset hb]⟩
theorem vX (f:Inv w0 F R st θ w) {c:CT} {cl:Cell} {v:Value} (i:aB (hp w) R st θ cl v) {k:Interp c->M α} {y:α} (h:(mV c cl k).run st=ã (y,st',l)):
  ∃x st2 fps t,(k x).run st2=ã (y,st',t)/\bL w0 F R θ w st st2 fps/\bP c=å/\aE (hp w) R å (enc c x) v fps:=by
 unfold mV at h;split at h
 .obtain⟨r,h⟩:=M.aP h
  simp only [aB]at i;subst i;exact⟨_,st,[],l,h,bL.refl f,r,tf r⟩
 .obtain⟨r,h⟩:=M.aP h
  simp only [aB]at i;obtain⟨ad,rfl⟩:=i;exact⟨_,st,[],l,h,bL.refl f,r,tf r⟩
 .rename_i n aH vw
  obtain⟨t,h⟩:=M.fR h;cases hd:(st.ar n).bj with
  |none=>simp [hd,M.run]at h
  |some d=>
   simp only [hd]at h;obtain⟨j,h⟩:=M.aP h;obtain⟨p,h⟩:=M.aP h;obtain⟨u,h⟩:=M.pK h;obtain⟨z,hz,h⟩:=M.eO h;have j:=À j;obtain⟨i1,i2,i3⟩:=f.kill hd ((st.ar n).aH+1) 0 (.inl ž)
   obtain⟨q1,q2,q3⟩:=f.ar n d hd;obtain⟨aq,q4,q5,ad,len,cap,e1,e2⟩:=vW f i hd j p;obtain⟨ec,s⟩:=kA hz;subst ec;simp only at s;subst s;have key: ∃b,aE (hp w) R å (enc d.c (cz d.c vw d.x)) v b/\b.Nodup/\ ∀g∈b,g∈θ.fp n:=by
    cases vw with
    |none=>
     refine⟨θ.fp n, ?_,q3,fun _ h=>h⟩
     obtain⟨au,ak,e3, -, -⟩:=q2.ia q1;rw [e1]at e3;cases e3;have:v=θ.ob n:=by rw [e1,e2];rfl
     rw [this];exact q2
    |some m=>
     rw [e1]at q2;obtain⟨b,k1,k2,k3⟩:=q2.QG (m:=m) q1 (by simpa [kx]using p) q3
     refine⟨b, ?_,k2,k3⟩
     have hm:m<=aF d.c d.x:=by simpa [kx]using p
     have:aF d.c (cz d.c (ã m) d.x)=m:=Ą
     rw [e2,this];exact k1
   obtain⟨b,k1,k2,k3⟩:=key;refine⟨_,_,b,u,h,⟨i1,i2,rfl,rfl,fun k=> ?_,k2,fun g q=>.inr ⟨n,š,k3 g q⟩,fun g q=>i3.free g (k3 g q)⟩,q1,k1⟩
   by_cases e:k=n
   .subst e;right;simp [bC]
   .left;simp [aY _ _ e]
 .rename_i n aH wv pl c' x0
  obtain⟨t,h⟩:=M.fR h;cases hd:(st.ar n).bj with
  |none=>simp [hd,M.run]at h
  |some d=>
   simp only [hd]at h;obtain⟨j,h⟩:=M.aP h;obtain⟨hw,h⟩:=M.aP h;obtain⟨u,h⟩:=M.pK h;obtain⟨z,hz,h⟩:=M.eO h;have j:=À j;have hw:=À hw;obtain⟨i1,i2,i3⟩:=f.kill hd ((st.ar n).aH+1) 0 (.inl ž)
   obtain⟨q1,q2,q3⟩:=f.ar n d hd;obtain⟨ec,s⟩:=kA hz;subst ec;simp only at s;subst s;simp only [aB]at i;obtain⟨r1, -,r2⟩:=i;have ai:=((r2 j).2 hw d hd).2 pl.1 pl.2 rfl;obtain⟨b,k1,k2,k3⟩:=afF q1 q2 q3 ai;refine⟨_,_,b,u,h,⟨i1,i2,rfl,rfl,fun k=> ?_,k2,fun g q=>.inr ⟨n,š,k3 g q⟩,fun g q=>i3.free g (k3 g q)⟩,r1,k1⟩
   by_cases e:k=n
   .subst e;right;simp [bC]
   .left;simp [aY _ _ e]
 .simp [M.run]at h
theorem vY {k:IntKind} {n:Int} (h:k.min<=n/\n<=k.max):kr k (vv k n)=n:=by
 cases k<;>simp only [kr,vv]
 simp only [Κ,Λ,Û,Ζ]at h;simp at h
 rw [UInt8.toNat_ofNat'];omega
theorem Aa (d:Inv w0 F R st θ w) {c:CT} {cl:Cell} {v:Value} (b:aB (hp w) R st θ cl v) {k:Interp c->M α} {y:α} (h:(sR c cl k).run st=ã (y,st',l)):
  ∃x st2 fps f,(k x).run st2=ã (y,st',f)/\bL w0 F R θ w st st2 fps/\aE (hp w) R å (enc c x) v fps:=by
 unfold sR at h;split at h
 .simp only [aB]at b
  exact⟨_,st,[],l,h,bL.refl d,by simp [enc,aE,b]⟩
 .obtain⟨hk,g⟩:=M.aP h
  have hk:=of_decide_eq_true hk;subst hk;simp only [aB]at b;exact⟨_,st,[],l,g,bL.refl d,by simp [enc,aE,b,vY b.2]⟩
 .simp only [aB]at b
  exact⟨_,st,[],l,h,bL.refl d,by simp [enc,aE,b]⟩
 .obtain⟨x,st2,fps,f,i,g, -,j⟩:=vX d b h
  exact⟨x,st2,fps,f,i,g,j⟩
 .obtain⟨x,st2,fps,f,i,g, -,j⟩:=vX d b h
  exact⟨x,st2,fps,f,i,g,j⟩
 .simp [M.run]at h
theorem QH {y:α}: ∀ {ts:aR} {cs:List Cell} {vs:List Value} {k:bc ts->M α} {st st':St} {l:Log},Inv w0 F R st θ w->aJ (hp w) R st θ cs vs->(po ts cs k).run st=ã (y,st',l)->
  ∃x st2 fps g,(k x).run st2=ã (y,st',g)/\bL w0 F R θ w st st2 fps/\az (hp w) R å (bI ts x) vs fps
 |.one c,cs,vs,k,st,st',l,i,d,h=>by
  match cs,h with
  | [cl],h=>
   simp only [po]at h;simp only [aJ]at d;obtain⟨v,f,rfl,j,rfl⟩:=d;obtain⟨x,st2,fps,g,k1,k2,k3⟩:=Aa i j.1 h;exact⟨x,st2,fps,g,k1,k2,by simp only [bI,az];exact⟨v,[],fps,[],rfl,Ż,k3,rfl,rfl⟩⟩
  | [],h=>simp [po,M.run]at h
  |_::_::_,h=>simp [po,M.run]at h
 |.cons c ts,cs,vs,k,st,st',l,i,d,h=>by
  match cs,h with
  |cl::cs,h=>
   simp only [po]at h;simp only [aJ]at d;obtain⟨v,f,rfl,j,m⟩:=d;obtain⟨x,st2,fps,g,k1,k2,k3⟩:=Aa i j.1 h;obtain⟨p,st3,b,q,r,s,t⟩:=QH k2.inv (aJ.step k2.step _ _ m) k1;exact⟨(x,p),st3,fps++b,q,r,k2.trans s,by simp only [bI,az];exact⟨v,f,fps,b,rfl,rfl,k3,t⟩⟩
  | [],h=>simp [po,M.run]at h
theorem GP {y:α}: ∀ {ts:aR} {off:Nat} {cs:List Cell} {vs us:List Value} {e:bc ts} {f:List Nat} {k:bc ts->M α} {st st':St} {l:Log},Inv w0 F R st θ w->aJ (hp w) R st θ cs vs->az (hp w) R å (bI ts e) us f->(la ts off cs e k).run st=ã (y,st',l)->
  ∃t st2 fps p l1,(k t).run st2=ã (y,st',l1)/\bL w0 F R θ w st st2 fps/\off+vs.length<=ts.size/\az (hp w) R å (bI ts t) (us.take off++(vs++us.drop (off+vs.length))) p/\
   (∀g∈p,g∈f\/g∈fps)/\(f.Nodup->(∀g∈f,g∉fps)->p.Nodup)
 |.one c,off,cs,vs,us,e,f,k,st,st',l,q,i,hd,h=>by
  match off,cs,h with
  |0,[cl],h=>
   simp only [la]at h;simp only [aJ]at i;obtain⟨v,r,rfl,h1,rfl⟩:=i;obtain⟨x,st2,fps,l1,k1,k2,k3⟩:=Aa q h1.1 h;simp only [bI,az]at hd;obtain⟨u,j,g1,g2,rfl,rfl, -,rfl,rfl⟩:=hd;refine⟨x,st2,fps,fps,l1,k1,k2,by simp [aR.size], ?_,fun g b=>.inr b,fun _ _=>k2.nodup⟩
   simp only [bI,az];exact⟨v,[],fps,[],Ż,Ż,k3,rfl,rfl⟩
  |0,[],h=>
   simp only [aJ]at i;subst i;simp only [la]at h;exact⟨e,st,[],f,l,h,bL.refl q,Ż,by simpa using hd,fun g b=>.inl b,fun h _=>h⟩
  |_+1,[],h=>simp [la,M.run]at h
  |0,_::_::_,h=>simp [la,M.run]at h
  |_+1,_::_,h=>simp [la,M.run]at h
 |.cons c ts,0,[],vs,us,e,f,k,st,st',l,q,i,hd,h=>by
  simp only [la]at h;simp only [aJ]at i;subst i;exact⟨e,st,[],f,l,h,bL.refl q,Ż,by simpa using hd,fun g b=>.inl b,fun h _=>h⟩
 |.cons c ts,0,cl::cs,vs,us,e,f,k,st,st',l,q,i,hd,h=>by
  simp only [la]at h;simp only [aJ]at i;obtain⟨v,r,rfl,h1,h2⟩:=i;simp only [bI,az]at hd;obtain⟨u,j,g1,g2,rfl,rfl,d1,d2⟩:=hd;obtain⟨x,st2,fps,l1,k1,k2,k3⟩:=Aa q h1.1 h;obtain⟨t,st3,m,p,l2,j1,j2,j3,j4,z,j6⟩:=GP k2.inv (aJ.step k2.step _ _ h2) d2 k1;refine⟨(x,t),st3,fps++m,fps++p,l2,j1,k2.trans j2,by simp only [aR.size,Í];omega, ?_, ?_, ?_⟩
  .simp only [bI,az]
   refine⟨v,r++j.drop r.length,fps,p,by simp [Nat.add_comm 0],rfl,k3,by simpa using j4⟩
  .intro g b
   rcases Ã.1 b with b|b
   .exact .inr ũ
   .rcases z g b with b|b
    .exact .inl ũ
    .exact .inr ũ
  .intro hn d
   have ao:=(Ä.1 hn).2.1;refine Ä.2 ⟨k2.nodup,j6 ao (fun g b s=>d g ũ (by simp [s])),fun x hx y hy e=> ?_⟩
   subst e;rcases z x hy with hy|hy
   .exact d x (by simp [hy]) (by simp [hx])
   .exact k2.free x hx (j2.was x hy)
 |.cons c ts,off+1,cs,vs,us,e,f,k,st,st',l,q,i,hd,h=>by
  simp only [la]at h;simp only [bI,az]at hd;obtain⟨u,j,g1,g2,rfl,rfl,d1,d2⟩:=hd;obtain⟨t,st3,m,p,l2,j1,j2,j3,j4,z,j6⟩:=GP q i d2 h;refine⟨(e.1,t),st3,m,g1++p,l2,j1,j2,by simp only [aR.size];omega, ?_, ?_, ?_⟩
  .simp only [bI,az]
   refine⟨u,j.take off++(vs++j.drop (off+vs.length)),g1,p, ?_,rfl,d1,j4⟩
   have:off+1+vs.length=(off+vs.length)+1:=ž
   simp [this]
  .intro g b
   rcases Ã.1 b with b|b
   .exact .inl ũ
   .rcases z g b with b|b
    .exact .inl ũ
    .exact .inr b
  .intro hn d
   obtain⟨n1,n2,n3⟩:=Ä.1 hn;refine Ä.2 ⟨n1,j6 n2 (fun g b s=>d g ũ s),fun x hx y hy e=> ?_⟩
   subst e;rcases z x hy with hy|hy
   .exact n3 x hx x hy rfl
   .exact d x (by simp [hx]) hy
end
end Go.Ev
namespace Go.Ev
theorem setRow_size (w:World) (g:Nat) (cs:Array Value):(w.setRow g cs).heap.size=w.heap.size:=by simp [World.setRow]
theorem afG {β:Type} (L V:List β) (A sz off n b:Nat) (d:V.length=n) (h:off+n<=sz) (j:A+sz<=b) (k:b<=L.length):
  L.take A++((((L.take b).drop A).take sz).take off++(V++(((L.take b).drop A).take sz).drop (off+n))++((L.take b).drop A).drop sz)=(L.take (A+off)++(V++L.drop (A+off+n))).take b:=by
 have f:(((L.take b).drop A).take sz).take off=(L.drop A).take off:=by
  rw [Ú,Ù ž,ώ,Ú,Ù ž]
 have g: ∀X:List β,(X.take sz).drop (off+n)++X.drop sz=X.drop (off+n):=fun X=>by
  by_cases m:sz<=X.length
  .conv=>rhs;rw [<-Ρ sz X]
   rw [List.drop_append_of_le_length ŭ]
  .rw [Ü ž,Ο (i:=sz) ž,Ε]
 rw [Á,Á,g,f,<-Á,<-List.take_add];rw [σ,σ,τ,Ù ž,Ú,Nat.min_eq_right ž,Ü (l:=V) ž,Υ,d,ώ]
 congr 3
 .omega
 .rw [Nat.add_assoc]
section
variable {P:Program} {T:TypeId→Option TyI} {w0 w:World} {F R:Nat→Prop} {st st' st2 st3:St} {θ:Asg} {a:Act} {o:Oper} {v:TV} {l:Log} {α:Type} {f1 f2:List Nat}
theorem QI {t:TypeId} {p x:Operand} (f:o.op=.store t p x) {d:Addr} (b:a.eval p=.pointer (ã d)) {w':World} (h:(storeVar t d (a.eval x)).run P w=.ok () w'):(execOp a.eval o).run P w=.ok .skip w':=by
 simp only [execOp,f];refine aeD ?_
 simp [Instr.storeAt,ύ,b,h]
theorem afH (bm:Ok P T) (hI:Inv w0 F R st θ w) (hT:Tm (hp w) R st θ a) {t:TypeId} {p x:Operand} (ho:o.op=.store t p x) {i:TyI} (hi:T t=ã i)
  (h:(M.ji (bE st p) fun q=>pn (bE st x) fun cs=>stM i.size q cs).run st=ã (v,st',l)):aZ P w0 F R st θ w o a v st':=by
 have aw:=bm.eY t i hi;cases ep:bE st p with
 |agg _=>rw [ep]at h;simp [M.ji,M.run]at h
 |aM _=>rw [ep]at h;simp [M.ji,M.run]at h
 |one q=>
  rw [ep]at h;simp only [M.ji]at h;obtain⟨vs,h2,hr⟩:=zX (R:=R) (θ:=θ) h;clear h;have hr:=hr _ _ (iN hT x);simp only [stM]at h2;obtain⟨hn,h⟩:=M.aP h2;clear h2;have hn:=À hn;have hlen:=hr.length;have al:(a.eval x).cells.size=i.size:=by simpa [hn]using hlen.symm
  cases q<;>simp only at h
  case pb b off=>
   obtain⟨cs,l1,f,h⟩:=M.nY h;obtain⟨hg,h⟩:=M.aP h;obtain⟨cs0,l2, -,h⟩:=M.Qs h;obtain⟨rfl,rfl⟩:=M.gn h;have hg:=È hg;have r:=(dK hT ep Ż).1
   simp only [aB]at r;obtain⟨arr,ty,frz,k1,k2,k3⟩:=hI.boxes b cs f;have hl:=k3.length;have cm:cs.length=arr.size:=by simpa using hl
   have ao:=QA (P:=P) (off:=off) aw k1 k2 al ž hr.one
   obtain⟨h1,h2⟩:=hI.Qo (cs:=cs.take off++(vs++cs.drop (off+i.size))) (arr:=(arr.toList.take off++((a.eval x).cells.toList++arr.toList.drop (off+i.size))).toArray) f (setRow_size w _ _) rfl rfl rfl (setRow_heap w _ _ _ _ _ k1)
    (by rw [show (arr.toList.take off++((a.eval x).cells.toList++arr.toList.drop (off+i.size))).toArray.size=arr.size by simp;omega];exact k2) (fun g hg=>setRow_other w _ g _ hg) (by simpa using (k3.take off).append (hr.append (k3.drop (off+i.size))))
   exact⟨undef,_,θ,.inr ⟨QI ho r.2 ao,rfl⟩,h1,h2,mZ _⟩
  case pe k aH j off=>
   obtain⟨l1,h⟩:=M.fR h;cases hd:(st.ar k).bj with
   |none=>simp [hd,M.run]at h
   |some d=>
    simp only [hd]at h;obtain⟨hv,h⟩:=M.aP h;obtain⟨e,he,h⟩:=M.eO h;have hv:=À hv;have r:=(dK hT ep Ż).1
    simp only [aB]at r;obtain⟨g,len,cap,k1,k2,k3⟩:=r.2.2 hv d hd;obtain⟨q1,q2,q3⟩:=hI.ar k d hd;rw [k1]at q2;obtain⟨ad,bz,e1,k4,k5,k6⟩:=q2.sZ q1;cases e1;rcases k6 with⟨k6, -⟩|⟨g',cur,ty,frz,fps,e2,k7,k8,k9,z,a6⟩
    .omega
    cases e2;have bq:=Gj he;have hle:=É (ay d.c).size (show j+1<=aF d.c d.x from k2);have cf:=É (ay d.c).size k4;have ct:(j+1)*(ay d.c).size=j*(ay d.c).size+(ay d.c).size:=Η _ _;rw [bq]at a6;obtain⟨g1,gr,eg,d1,dr⟩:=a6.split;obtain⟨g2,g3,a7,d2,d3⟩:=dr.split;have ha:((cv d.c d.x).take (j*(ay d.c).size)).length=j*(ay d.c).size:=ĝ
    rw [ha]at d1 d2 d3;rw [lT]at d2 d3;rw [Ú,Ù ž]at d1
    obtain⟨e',st2,tk,f',l2,h,t1,t2,t3,t4,t5⟩:=GP hI hr d2 h;obtain⟨l3,h⟩:=M.fR h;obtain⟨br,h⟩:=M.aP h;obtain⟨l4,h⟩:=M.pK h;obtain⟨rfl,rfl⟩:=M.gn h;have s:st2.ar k=st.ar k:=(t1.rm k).resolve_right (fun e=>by simp [e]at br)
    have a8:(a.eval x).cells.toList.length=i.size:=by simpa using al
    rw [a8]at t2 t3;have ao:=QA (P:=P) (off:=j*(ay d.c).size+off) aw k7 k9.1 al ž hr.one
    have bb:cQ st2 θ g:=.inr ⟨k,by rw [s];simp [hd],by simp [z]⟩
    have bc:=q3;rw [z,eg,a7]at bc;obtain⟨ag,bs⟩:=Ñ.1 bc;obtain⟨n1,n2,n3⟩:=Ä.1 bs;obtain⟨n4,n5,n6⟩:=Ä.1 n2;have m: ∀b,b∈g1++(g2++g3)->b∈θ.fp k:=fun b f=>by rw [z,eg,a7];exact List.mem_cons_of_mem _ f
    have au: ∀b,b∈θ.fp k->cQ st2 θ b:=fun b f=>.inr ⟨k,by rw [s];simp [hd],f⟩
    have bt:f'.Nodup:=t5 n4 (fun b f bu=>t1.free b bu (au b (m b ļ)))
    have bd:g∉f':=fun f=>by
     rcases t4 g f with f|f
     .exact ag ļ
     .exact t1.free g f bb
    have bf:(g1++(f'++g3)).Nodup:=by
     refine Ä.2 ⟨n1,Ä.2 ⟨bt,n5,fun b f c u e=> ?_⟩,fun b f c u e=> ?_⟩
     .subst e
      rcases t4 b f with f|f
      .exact n6 b f b u rfl
      .exact t1.free b f (au b (m b (by simp [u])))
     .subst e
      rcases Ã.1 u with u|u
      .rcases t4 b u with u|u
       .exact n3 b f b (by simp [u]) rfl
       .exact t1.free b u (au b (m b ļ))
      .exact n3 b f b (by simp [u]) rfl
    have ae:g∉g1++(f'++g3):=fun f=>by
     simp only [Ã]at f ag;rcases f with f|f|f
     .exact ag (.inl f)
     .exact bd f
     .exact ag (.inr (.inr f))
    have aj: ∀b,b≠g->hp (w.setRow g (cur.toList.take (j*(ay d.c).size+off)++((a.eval x).cells.toList++cur.toList.drop (j*(ay d.c).size+off+i.size))).toArray) b=hp w b:=fun b f=>setRow_other w g b _ f
    have bw: ∀b,R b->b≠g:=fun b f e=>t1.inv.vV bb (e▸f)
    have ah:=(d1.append (t3.append d3));have ai:=ah.frame (H':=hp (w.setRow g (cur.toList.take (j*(ay d.c).size+off)++((a.eval x).cells.toList++cur.toList.drop (j*(ay d.c).size+off+i.size))).toArray)) (R':=R)
     (fun b f=>aj b (f.elim (fun h e=>ae (e▸h)) (bw b))) (fun _ h=>h)
    have bg:aE (hp (w.setRow g (cur.toList.take (j*(ay d.c).size+off)++((a.eval x).cells.toList++cur.toList.drop (j*(ay d.c).size+off+i.size))).toArray)) R å (enc d.c (mU d.c d.x j e')) (.slice (ã ⟨g,0,â⟩) (aF d.c d.x) cap) (g::(g1++(f'++g3))):=by
     have:=aE.pI (R:=R) (c:=d.c) (x:=mU d.c d.x j e') (a:=ã ⟨g,0,â⟩) (cap:=cap) (fp:=g::(g1++(f'++g3)))
      (H:=hp (w.setRow g (cur.toList.take (j*(ay d.c).size+off)++((a.eval x).cells.toList++cur.toList.drop (j*(ay d.c).size+off+i.size))).toArray)) q1 (by rw [zH];exact k4) k5
      (.inr ⟨g,_,ty,frz,_,rfl,setRow_heap w g _ _ _ _ k7, ?_, ?_,rfl, ?_⟩)
     .rwa [zH]at this
     .simp;omega
     .have:(cur.toList.take (j*(ay d.c).size+off)++((a.eval x).cells.toList++cur.toList.drop (j*(ay d.c).size+off+i.size))).toArray.size=cur.size:=by simp;omega
      rw [this];exact k9
     .rw [adM q1 e' k2,zH]
      have hA:(cur.toList.take (j*(ay d.c).size)).length=j*(ay d.c).size:=Ģ
      refine Eq.mp (congrArg (fun l=>az _ R å _ l _) ?_) ai
      exact afG _ _ _ _ _ _ _ a8 t2 ž ź
    have af:=t1.inv.setObj (k:=k) (d0:=d) (d:=⟨d.c,mU d.c d.x j e'⟩) (fp:=g::(g1++(f'++g3))) (by rw [s];exact hd) rfl (zH _ _ _) ((st2.ar k).wv+1) ž
     (setRow_size w g _) rfl rfl rfl (fun b f=>aj b (fun e=>f (by rw [e,z];simp))) (by rw [k1];exact bg) (Ñ.2 ⟨ae,bf⟩) (fun b f=>by
      rcases Γ.1 f with rfl|f
      .left;rw [z];simp
      .simp only [Ã]at f
       rcases f with f|f|f
       .left;exact m b ļ
       .rcases t4 b f with f|f
        .left;exact m b ļ
        .right;exact t1.own hI f
       .left;exact m b ļ)
    rw [s]at af;exact⟨undef,_,_,.inr ⟨QI ho k3 ao,rfl⟩,af.1,t1.step.trans af.2,mZ _⟩
  all_goals simp [M.run]at h
end
end Go.Ev
namespace Go.Ev
theorem QJ (off:Nat): ∀(vs:List Value) (k:Nat) (cells:Array Value),off+k+vs.length<=cells.size->
  ((vs.zipIdx k).foldl (fun cs (p:Value×Nat)=>cs.setIfInBounds (off+p.2) p.1) cells).toList=cells.toList.take (off+k)++(vs++cells.toList.drop (off+k+vs.length))
 | [],k,cells,h=>Ż
 |v::vs,k,cells,h=>by
  simp only [List.zipIdx_cons,List.foldl_cons];simp only [Í]at h;rw [QJ off vs (k+1) _ ź]
  have hk:off+k<cells.toList.length:=ź
  simp only [Array.toList_setIfInBounds,Í];rw [show off+(k+1)=(off+k)+1 from ž,List.take_succ_eq_append_getElem (by simpa using hk),List.take_set_of_le ž,List.drop_set_of_lt ž]
  simp
  omega
theorem QK (cells:Array Value) (v:Value) (off:Nat) (h:off+v.cells.size<=cells.size):
  (v.cells.zipIdx.foldl (fun cs (p:Value×Nat)=>cs.setIfInBounds (off+p.2) p.1) cells)=(cells.toList.take off++(v.cells.toList++cells.toList.drop (off+v.cells.size))).toArray:=by
 apply Θ
 rw [<-Array.foldl_toList,Array.toList_zipIdx];have:=QJ off v.cells.toList 0 cells Ű
 simpa using this
theorem row_step {β:Type} (L V X:List β) (A s n:Nat) (d:V.length=s) (h:A+s+n<=L.length):
  ((L.take A++(V++L.drop (A+s))).take (A+s))++(X++(L.take A++(V++L.drop (A+s))).drop (A+s+n))=L.take A++((V++X)++L.drop (A+s+n)):=by
 have b:(L.take A++V).length=A+s:=by rw [Ι,τ,d];omega
 rw [<-Á (L.take A),ϊ b];have:(L.take A++V++L.drop (A+s)).drop (A+s+n)=L.drop (A+s+n):=by
  rw [<-Υ,List.drop_left' b,Υ]
 rw [this];simp
theorem QL (size:Nat): ∀(b:List (Nat×Value)) (j:Nat) (cells:Array Value),b.map (·.1)=Ϝ j b.length->(∀p∈b,p.2.cells.size=size)->(j+b.length)*size<=cells.size->
  ∃cs,Β (fun i=>ã (i*size,size)) cells b=ã cs/\cs.toList=cells.toList.take (j*size)++(b.flatMap (fun p=>p.2.cells.toList)++cells.toList.drop ((j+b.length)*size))
 | [],j,cells,_,_,_=>⟨cells,rfl,Ż⟩
 |(i,v)::b,j,cells,hi,g,h=>by
  simp only [Î,Í,υ,List.cons.injEq]at hi;obtain⟨rfl,hi⟩:=hi;have d:v.cells.size=size:=g (i,v) Ż
  simp only [Í]at h;have k:(i+(b.length+1))*size=i*size+size+b.length*size:=by rw [Δ,Η];omega
  have m:(i+1+b.length)*size=i*size+size+b.length*size:=by rw [Δ,Η]
  have f:=QK cells v (i*size) ž
  obtain⟨cs,q,r⟩:=QL size b (i+1) (cells.toList.take (i*size)++(v.cells.toList++cells.toList.drop (i*size+v.cells.size))).toArray hi (fun p hp=>g p (by simp [hp])) ź
  refine⟨cs, ?_, ?_⟩
  .have t: ¬((v.cells.size≠size)=å||decide (i*size+v.cells.size>cells.size))=å:=by simp [d];omega
   simp only [Β];rw [if_neg (by simp [d];omega)]
   exact(congrArg (fun z=>Β _ z b) f).trans q
  .rw [r]
   simp only [ν,Í];have u:(cells.toList.take (i*size)).length=i*size:=Ģ
   have s:v.cells.toList.length=size:=Ľ
   rw [m,k,show(i+1)*size=i*size+size from Η _ _,d];exact row_step _ _ _ _ _ _ s ź
theorem afI (w:World) (o:Obj):hp (w.alloc o) w.heap.size=ã o:=heap_alloc_new w o
theorem QM (w:World) (o:Obj) {g:Nat} (h:g<w.heap.size):hp (w.alloc o) g=hp w g:=zN w o h
section
variable {P:Program} {T:TypeId→Option TyI} {w0 w w':World} {F R:Nat→Prop} {st st' st2 st3:St} {θ:Asg} {a:Act} {o:Oper} {v:TV} {l:Log} {α:Type} {fps fp:List Nat}
theorem QN {nm:Nat} {c:CT} {x:Interp c} {k:Cell->M α} {y:α} (h:(gm nm c x k).run st=ã (y,st',l)):
  (st.ar nm).bj=â/\ ∃b,(k (.ob nm ((st.ar nm).aH+1) â)).run {st with ar:=aS st.ar nm ⟨(st.ar nm).aH+1,0,ã ⟨c,x⟩⟩}=ã (y,st',b):=by
 simp only [gm]at h;obtain⟨b,h⟩:=M.fR h;cases hd:(st.ar nm).bj with
 |some d=>simp [hd,M.run]at h
 |none=>
  simp only [hd]at h;obtain⟨f,h⟩:=M.pK h;exact⟨rfl,f,h⟩
theorem Ab (q:Inv w0 F R st θ w) (b:bL w0 F R θ w st st2 fps) {c:CT} {x:Interp c} {hd:Value} {nm:Nat} (r:bP c=å)
  (i:w.heap.size<=w'.heap.size) (j:w'.os=w.os) (m:w'.tape=w.tape) (f:w'.output=w.output)
  (hold: ∀g,g<w.heap.size->g∉fp->hp w' g=hp w g) (p:aE (hp w') R å (enc c x) hd fp) (s:fp.Nodup) (t: ∀g∈fp,g∈fps\/w.heap.size<=g)
  (he:(execOp a.eval o).run P w=.ok (.value hd) w') (h:(gm nm c x c1).run st2=ã (v,st',l)):aZ P w0 F R st θ w o a v st':=by
 obtain⟨u,l1,h⟩:=QN h;obtain⟨rfl,rfl⟩:=cM h;obtain⟨z,i2⟩:=b.inv.newObj (k:=nm) (d:=⟨c,x⟩) (hd:=hd) (fp:=fp) u r ((st2.ar nm).aH+1) 0 ž i j m f hold p s (fun g hg=>by
  rcases t g hg with h|h
  .exact b.own q h
  .exact⟨fun ho=>by have:=b.inv.kz ho;omega,.inr (Nat.le_trans b.inv.size h)⟩)
 refine⟨hd,w',_,.inl he,z,b.step.trans i2,fx ?_ p.cx⟩
 simp [aB,bC]
theorem aE.fresh {w:World} {c:CT} {x:Interp c} {arr:Array Value} {ty:TypeId} {frz:Nat×Nat} {cap:Nat} (g:bP c=å) (i:aF c x<=cap) (j:cap<=maxLen) (d:arr.size=cap*(ay c).size) (k:pj (ay c).size arr.size frz)
  (f:az (hp w) R å (cv c x) (arr.toList.take (aF c x*(ay c).size)) fps) (m: ∀b,R b->b<w.heap.size):
  aE (hp (w.alloc (.cells arr ty frz))) R å (enc c x) (.slice (ã ⟨w.heap.size,0,â⟩) (aF c x) cap) (w.heap.size::fps):=by
 refine aE.pI g i j (.inr ⟨w.heap.size,arr,ty,frz,fps,rfl,afI w _,d,k,rfl, ?_⟩)
 exact f.frame (fun b p=>QM w _ (p.elim (fun h=>f.sY (fun _ _ h=>pF h) b h) (m b))) (fun _ h=>h)
theorem afJ (n:Nat):gM n (0,0):=fun o _=>Ż
theorem pM (sz n:Nat):pj sz n (0,0):=⟨afJ n,.inr rfl⟩
theorem Ac (j:Inv w0 F R st θ w) (u:bL w0 F R θ w st st2 fps) {c:CT} {x:Interp c} {nm cap:Nat} (s:bP c=å) {arr:Array Value} {ty:TypeId} {frz:Nat×Nat} {wd:World} (hw:wd.heap=w.heap) (k:wd.os=w.os) (m:wd.tape=w.tape) (d:wd.output=w.output)
  (z:aF c x<=cap) (h3:cap<=maxLen) (p:arr.size=cap*(ay c).size) (hz:pj (ay c).size arr.size frz) {fq:List Nat}
  (q:az (hp w) R å (cv c x) (arr.toList.take (aF c x*(ay c).size)) fq) (hn:fq.Nodup) (hf: ∀g∈fq,g∈fps)
  (he:(execOp a.eval o).run P w=.ok (.value (.slice (ã ⟨w.heap.size,0,â⟩) (aF c x) cap)) (wd.alloc (.cells arr ty frz))) (h:(gm nm c x c1).run st2=ã (v,st',l)):aZ P w0 F R st θ w o a v st':=by
 have t:hp wd=hp w:=by funext b;simp [hp,hw]
 have r:=fun b (h:b∈fq)=>q.sY (fun _ _ h=>pF h) b h
 rw [<-t]at q;have f:=aE.fresh (w:=wd) (ty:=ty) s z h3 p hz q (fun b hb=>by rw [hw];exact Nat.lt_of_lt_of_le (j.rd b hb).1 j.size)
 rw [hw]at f;refine Ab (w':=wd.alloc (.cells arr ty frz)) j u s (by show _<=(wd.heap.push _).size;rw [hw];simp) k m d (fun g i _=> ?_) f (Ñ.2 ⟨fun hm=> ?_,hn⟩) (fun g i=> ?_) he h
 .rw [QM wd _ (by rw [hw];exact i),t]
 .exact Nat.lt_irrefl _ (r _ hm)
 .rcases Γ.1 i with rfl|i
  .exact .inr (Ò _)
  .exact .inl (hf g i)
theorem afK {c:CT} (e:bc (ay c)) (x:Interp c) (h:bP c=å):cv c (qN c e x)=bI (ay c) e++cv c x:=by
 simp [cv,Qb e x h]
theorem afL {c:CT} (e:bc (ay c)) (x:Interp c) (h:bP c=å):aF c (qN c e x)=aF c x+1:=by
 rw [jg,jg,Qb e x h,Í]
theorem QO {c:CT} (f:bP c=å) {y:TV}: ∀ {d:List (Nat×TV)} {us:List Value} {j:Nat} {k:Interp c->M TV} {st st':St} {l:Log},Inv w0 F R st θ w->ch (hp w) R st θ (d.map (·.2)) us->(sU c j d k).run st=ã (y,st',l)->
  ∃xs st2 fps q,(k xs).run st2=ã (y,st',q)/\bL w0 F R θ w st st2 fps/\aF c xs=d.length/\az (hp w) R å (cv c xs) (us.flatMap (fun u=>u.cells.toList)) fps/\d.map (·.1)=Ϝ j d.length/\ ∀u∈us,u.cells.size=(ay c).size
 | [],us,j,k,st,st',l,g,b,h=>by
  simp only [sU]at h;simp only [ξ,ch]at b;subst b;have r:aF c (eh c)=0:=by rw [jg,zF];rfl
  exact⟨_,st,[],l,h,bL.refl g,r,by simp [cv,zF,az],rfl,Ż⟩
 |(i,tv)::d,us,j,k,st,st',l,g,b,h=>by
  simp only [sU]at h;simp only [Î,ch]at b;obtain⟨u,s,rfl,hu,b⟩:=b;obtain⟨hi,h⟩:=M.aP h;have hi:=À hi;subst hi;obtain⟨vs,h,t⟩:=zX (R:=R) (θ:=θ) h;obtain⟨e,st2,f1,q,h,t1,d1⟩:=QH g (t _ _ hu) h;obtain⟨xs,st3,f2,z,h,t2,hl,d2,hm,m⟩:=QO f t1.inv (ch.step t1.step _ _ b) h;refine⟨qN c e xs,st3,f1++f2,z,h,t1.trans t2,by rw [afL e xs f,hl];rfl, ?_, ?_, ?_⟩
  .rw [afK e xs f,ν]
   exact d1.append d2
  .simp only [Î,Í,υ]
   rw [hm]
  .intro x p
   rcases Γ.1 p with rfl|p
   .have:=d1.length
    rw [lT]at this;simpa using this.symm
   .exact m x p
theorem Ad (b:Tm (hp w) R st θ a): ∀xs:List Operand,ch (hp w) R st θ (xs.map (bE st)) (xs.map a.eval)
 | []=>by simp [ch]
 |x::xs=>by
  simp only [Î,ch];exact⟨_,_,rfl,iN b x,Ad b xs⟩
theorem afM (ad:Ok P T) (hI:Inv w0 F R st θ w) (hT:Tm (hp w) R st θ a) {t:TypeId} {len nm:Nat} {parts:Array (Nat×Operand)} (ho:o.op=.buildSlice t len parts) {c:CT} (ae:fw T t=ã c)
  (h:(M.gd (Χ len parts.toList.length&&Ϗ (len*(ay c).size) 16777216) (sU c 0 (parts.toList.map fun p=>(p.1,bE st p.2)) fun xs=>gm nm c xs c1)).run st=ã (v,st',l)):aZ P w0 F R st θ w o a v st':=by
 obtain⟨hc,e,hu,inf,z,hi,d,au,hz,aw, -⟩:=tb ad ae;obtain⟨hg,h⟩:=M.aP h;simp only [Õ]at hg;have hlen:=À hg.1;have hle:=È hg.2;have ag:ch (hp w) R st θ ((parts.toList.map fun p=>(p.1,bE st p.2)).map (·.2)) ((parts.toList.map (·.2)).map a.eval):=by
  have:=Ad hT (parts.toList.map (·.2))
  simpa [ϗ,Function.comp_def]using this
 obtain⟨xs,st2,fps,l1,h,tk,hl,hd,hm,hs⟩:=QO hc hI ag h;have g:aF c xs=len:=by rw [hl,hlen];simp
 have k:=aR.size_pos (ay c);let cs:Array Value:=((ϝ a.eval (parts.toList.map (·.2))).flatMap (fun u=>u.cells.toList)).toArray
 have m:cs.toList=(ϝ a.eval (parts.toList.map (·.2))).flatMap (fun u=>u.cells.toList):=rfl
 have f: ∀b:Array Value,b.size=len*(ay c).size->Β (fun i=>ã (i*(ay c).size,(ay c).size)) b (parts.toList.map fun p=>(p.1,a.eval p.2))=ã cs:=by
  intro b r;obtain⟨a1,ah,ai⟩:=QL (ay c).size (parts.toList.map fun p=>(p.1,a.eval p.2)) 0 b (by simpa [ϗ,Function.comp_def]using hm)
   (fun p hp=>by
    simp only [Ϙ]at hp;obtain⟨q,hq,rfl⟩:=hp;exact hs _ (by simp only [Ϙ];exact⟨q.2,⟨q,hq,rfl⟩,rfl⟩)) (by simp [r,hlen])
  rw [ah];congr 1
  apply Θ
  rw [ai];simp only [Ý,List.take_zero,Â,ϙ,ϋ];rw [Ο (by simp [r,hlen]),Ε]
  simp [cs,List.flatMap_map]
 have s:=hd.length;rw [<-m,jh,g]at s;refine Ac hI tk (c:=c) (x:=xs) (cap:=len) (arr:=cs) (ty:=e) (frz:=(0,0)) (wd:=w) hc rfl rfl rfl rfl ž ?_ (by simpa using s.symm) (pM _ _) (fq:=fps) ?_ tk.nodup (fun _ h=>h) ?_ h
 .have:len*1<=len*(ay c).size:=Nat.mul_le_mul_left _ k
  simp only [maxLen];omega
 .rw [g,Ü ž,m]
  exact hd
 .simp only [execOp,ho]
  refine ic ?_
  have j: ¬(16777216<len*(ay c).size):=ž
  by_cases h0:len*(ay c).size=0
  .have:=f ((ψ (len*(ay c).size)).map fun _=>default) Ż
   simp [φ,run_underlying hu,sizeOf,typeInfo,hi,d,h0]at this |-
   simp [this,newRow,g]
  .have:=f ((ψ (len*(ay c).size)).map fun x=>z.cells[x%z.cells.size]!) Ż
   simp [φ,run_underlying hu,sizeOf,typeInfo,hi,d,j,h0,zeroValue,hz]
   simp [this,newRow,g]
end
end Go.Ev
namespace Go.Ev
theorem mapM_some {α β:Type} {f:α->Option β} {g:α->β}: ∀ {l:List α},(∀x∈l,f x=ã (g x))->l.mapM f=ã (l.map g)
 | [],_=>rfl
 |x::xs,h=>by
  rw [List.mapM_cons,h x Ż,mapM_some (fun y hy=>h y (by simp [hy]))]
  rfl
section
variable {P:Program} {T:TypeId→Option TyI} {w0 w w':World} {F R:Nat→Prop} {st st' st2 st3:St} {θ:Asg} {a:Act} {o:Oper} {v:TV} {l:Log} {α:Type} {fps fp:List Nat}
theorem QP (hT:Tm (hp w) R st θ a) {fs:List (Nat×TypeId)} {places:Nat->Option (Nat×Nat)} (f: ∀i off t k,fs[i]? =ã (off,t)->T t=ã k->places i=ã (off,k.size)):
  ∀(g:List (Nat×Operand)) {cs:List Cell} {cells:Array Value} {v:TV} {l:Log},aJ (hp w) R st θ cs cells.toList->(sS T fs cs (g.map fun p=>(p.1,bE st p.2))).run st=ã (v,st',l)->
   st'=st/\ ∃d b,v=.agg d/\Β places cells (g.map fun p=>(p.1,a.eval p.2))=ã b/\aJ (hp w) R st θ d b.toList
 | [],cs,cells,v,l,j,h=>by
  simp only [ξ,sS]at h;obtain⟨rfl,rfl⟩:=M.gn h;exact⟨rfl,_,cells,rfl,rfl,j⟩
 |(i,x)::g,cs,cells,v,l,j,h=>by
  simp only [Î,sS]at h;cases m:fs[i]? with
  |none=>simp [m,M.run]at h
  |some q=>
   obtain⟨off,t⟩:=q;cases s:T t with
   |none=>simp [m,s,M.run]at h
   |some k=>
    simp only [m,s]at h;obtain⟨vs,h,r⟩:=zX (R:=R) (θ:=θ) h;have r:=r _ _ (iN hT x);obtain⟨h1,h⟩:=M.aP h;obtain⟨h2,h⟩:=M.aP h;have h1:=À h1;have h2:=È h2;have u:(a.eval x).cells.size=vs.length:=by simpa using r.length.symm
    have ai:cs.length=cells.size:=by simpa using j.length
    have ad:=QK cells (a.eval x) off ž
    have ae:aJ (hp w) R st θ (cs.take off++(vs++cs.drop (off+vs.length))) (cells.toList.take off++((a.eval x).cells.toList++cells.toList.drop (off+(a.eval x).cells.size))).toArray.toList:=by
     rw [u];exact(j.take off).append (r.append (j.drop _))
    obtain⟨e,d,b,e1,e2,e3⟩:=QP hT f g ae h;refine⟨e,d,b,e1, ?_,e3⟩
    simp only [Î,Β,f i off t k m s];rw [if_neg ź]
    exact(congrArg (fun z=>Β _ z (g.map fun p=>(p.1,a.eval p.2))) ad).trans e2
theorem afN (d:Ok P T) (hI:Inv w0 F R st θ w) (hT:Tm (hp w) R st θ a) {t:TypeId} {parts:Array (Nat×Operand)} (ho:o.op=.build t parts) {fs:List (Nat×TypeId)} {i:TyI} (hi:T t=ã i) (hu:i.u=.struct fs)
  (h:(sS T fs i.zero (parts.toList.map fun p=>(p.1,bE st p.2))).run st=ã (v,st',l)):aZ P w0 F R st θ w o a v st':=by
 have g:=d.eY t i hi;have hk:=g.u;rw [hu]at hk;simp only [nX]at hk;obtain⟨fields,k1,k2⟩:=hk;obtain⟨inf,z,j1,j2, -,j3,j4, -⟩:=g.info;have j: ∀f∈fields.toList,(P.info? f.type).map (fun i=>(f.offset,i.size))=ã (f.offset,((P.info? f.type).map (·.size)).getD 0):=by
  intro f r;obtain⟨n,hn,e⟩:=List.mem_iff_getElem.1 r;have s:n<fs.length:=by rw [<-k2.len];simpa using hn
  obtain⟨fd,m1,m2,m3,k,m4, -⟩:=k2.at_ n fs[n].1 fs[n].2 (by simp [Ø s])
  have:fd=f:=by
   have q:fields.toList[n]? =ã fd:=by simpa using m1
   rw [Ø hn,e]at q
   exact(ϡ q).symm
  subst this;rw [m3,m4];rfl
 have m:=mapM_some j;obtain⟨rfl,ao,b,rfl,e2,e3⟩:=QP (cells:=z.cells) (places:=fun x=>(fields.toList.map fun f=>(f.offset,((P.info? f.type).map (·.size)).getD 0)).toArray[x]?) hT (fun n off t' ti r ht=>by
  obtain⟨fd,m1,m2,m3, -⟩:=k2.at_ n off t' r;obtain⟨k,z',n1,n2, -⟩:=(d.eY t' ti ht).info;have q:fields.toList[n]? =ã fd:=by simpa using m1
  simp only [List.getElem?_toArray,List.getElem?_map,q,ω,m2,m3,n1,n2,Option.getD_some]) parts.toList (GJ j4) h
 refine aZ.pure hI (u:=.agg b) ?_ ?_
 .simp only [execOp,ho]
  refine ic (run_build w t _ b ?_)
  have ad:(parts.map fun x=>(x.1,a.eval x.2)).toList=parts.toList.map fun p=>(p.1,a.eval p.2):=Ż
  simp only [Program.built,j1,k1,j3,m,ad];exact e2
 .simp only [aV]
  exact⟨_,rfl,e3⟩
theorem QQ: ∀y:List (bc (.one (.int .u8))),Ϛ (bI (.one (.int .u8))) y=ϝ (fun b:bc (.one (.int .u8))=>bf.i .u8 (UInt8.toNat b:Int)) y
 | []=>rfl
 |b::y=>congrArg (List.cons (bf.i .u8 (UInt8.toNat b:Int))) (QQ y)
theorem GQ (x:O):cv cB x=x.map fun b=>bf.i .u8 (b.toNat:Int):=by
 have d:(dE cB x:List (bc (.one (.int .u8))))=x:=List.map_id' _;exact(congrArg (Ϛ (bI (.one (.int .u8)))) d).trans (QQ x)
theorem az.bytes {H:Heap} {own:Bool} {fp:List Nat}: ∀ {x:O} {vs:List Value},az H R own (x.map fun b=>bf.i .u8 (b.toNat:Int)) vs fp->vs=x.map fun b=>Ψ .u8 (b.toNat:Int)
 | [],vs,h=>by
  simp only [ξ,az]at h;simp [h.1]
 |b::x,vs,h=>by
  simp only [Î,az]at h;obtain⟨v,f,f1,f2,rfl,rfl,d,g⟩:=h;simp only [aE]at d;rw [Î,az.bytes g,d.1]
theorem afO (p:Ok P T) (q:Inv w0 F R st θ w) (hT:Tm (hp w) R st θ a) {s t:TypeId} {x:Operand} (ho:o.op=.convert s t x) {c:Cell} (ht:jL T t=ã .str) (hx:bE st x=.one c)
  (h:(M.gd (ld (fw T s) cB) (fv c (c1 (.s [])) fun c x=>.opt (dW c cB x) fun y=>c1 (.s y))).run st=ã (v,st',l)):aZ P w0 F R st θ w o a v st':=by
 obtain⟨hc,h⟩:=M.aP h;obtain⟨-,e,hu,inf,z,hi,ah,ax,hz,az,k⟩:=tb p (na hc);have k:P.underlying e=ã (.int .u8):=k;have hd:P.underlying t=ã .string:=by
  simp only [jL,Ë]at ht;obtain⟨i,hi,e⟩:=ht;have:=(p.eY t i hi).u;rw [e]at this;exact this
 have hr:=iN hT x;rw [hx]at hr;simp only [aV]at hr;have d: ∀(y:O) (b:Addr) (cap:Nat),a.eval x=.slice (ã b) y.length cap->(∀j (hj:j<y.length),w.cell? (b.add j)=ã (.int .u8 (y[j].toNat:Int)))->(execOp a.eval o).run P w=.ok (.value (.string ⟨y.toArray⟩)) w:=by
  intro y b cap f m;simp only [execOp,ho];refine ic ?_
  rw [f];exact run_convert_bytes_back w s t e b cap y hu k hd m
 have r:a.eval x=.slice â 0 0\/(∃b,a.eval x=.slice (ã b) 0 0)->(execOp a.eval o).run P w=.ok (.value (.string ⟨#[]⟩)) w:=by
  rintro(f|⟨b,f⟩)
  .simp only [execOp,ho]
   refine ic ?_
   simp [convert,run_underlying hu,run_underlying hd,run_underlying k,f,Conv.bytesToString]
   rfl
  .exact d [] b 0 f Ż
 rcases zR q hr.1 h with⟨⟨b,f⟩,h⟩|⟨c',y,l1,R',h,ae,hy, -⟩
 .obtain⟨rfl,rfl⟩:=cM h
  refine aZ.pure q (r ?_) (rk (x:=[]) (by simp [maxLen]))
  cases b with
  |none=>exact .inl f
  |some b=>exact .inr ⟨b,f⟩
 .obtain⟨y',aj,h⟩:=M.eO h
  obtain⟨rfl,rfl⟩:=cM h;obtain⟨ec,ey⟩:=kA aj;subst ec;simp only at ey;subst ey;obtain⟨z,hz⟩: ∃z:O,z=y:=⟨y,rfl⟩
  subst hz;obtain⟨b,cap,f,h1,h2⟩:=hy.ia ae;have hlen:aF cB z=z.length:=rfl;have hle:z.length<=maxLen:=by rw [<-hlen];omega
  rw [f]at hy;by_cases h0:z.length=0
  .have:z=[]:=Å h0
   subst this;cases b with
   |some b=>exact aZ.pure q (d [] b cap f Ż) (rk hle)
   |none=>
    refine aZ.pure q (u:=.string ⟨#[]⟩) ?_ (rk (x:=[]) hle)
    simp only [execOp,ho];refine ic ?_
    simp [convert,run_underlying hu,run_underlying hd,run_underlying k,f,Conv.bytesToString]
    rfl
  .obtain⟨g,off,cur,ty,frz,rfl,k1,k2,k3,k4⟩:=hy.zP ae (by rw [hlen];exact h0)
   refine aZ.pure q (d z _ cap f (fun j hj=> ?_)) (rk hle)
   rw [Ξ,cell_of_row w g (off+j) cur ty frz k2];rw [GQ]at k4;have hb:=k4.bytes;have h3:((cur.toList.drop off).take (aF cB z*(ay cB).size))[j]? =ã (.int .u8 (z[j].toNat:Int)):=by
    rw [hb];simp [Ø hj]
   rw [ι]at h3
   split at h3
   .rw [List.getElem?_drop]at h3
    simpa using h3
   .cases h3
end
end Go.Ev
namespace Go.Ev
theorem QR {z:Array Value} {s:Nat} (b:z.size=s): ∀n:Nat,((List.range (n*s)).map fun i=>z[i%s]!)=(Ï n z.toList).flatten
 |0=>Ż
 |n+1=>by
  rw [Η,List.range_add,List.map_append,QR b n,List.replicate_succ'];simp [List.flatten_nil]
  apply List.ext_getElem?
  intro i;by_cases h:i<s;all_goals simp_all [Nat.mod_eq_of_lt]
section
variable {H:Heap} {R:Nat→Prop} {own:Bool}
theorem QS {c:CT} {v:Value} (h:zeroV c v=å):aE H R å (enc c (eh c)) v []:=by
 cases c with
 |bool=>
  grind [zeroV,enc,eh,aE]
 |int k=>
  cases v<;>simp [zeroV]at h
  obtain⟨rfl,rfl⟩:=h;cases k<;>simp [enc,eh,PT,aE,kr,Κ,Λ,Û,Ζ]
 |str=>
  cases v<;>simp [zeroV]at h
  simp_all [enc,eh,aE]
 |sl ts=>
  unfold zeroV at h;split at h<;>simp_all
  exact tf (c:=.sl _) rfl
 |tree fs=>
  unfold zeroV at h;split at h<;>simp_all
  exact tf (c:=.tree _) rfl
theorem Ae: ∀ {ts:aR} {vs:List Value},mY ts vs=å->az H R å (bI ts (qM ts)) vs []
 |.one c,vs,h=>by
  match vs,h with
  | [v],h=>
   exact⟨v,[],[],[],rfl,rfl,QS h,rfl,rfl⟩
  | [],h=>grind [mY]
  |_::_::_,h=>grind [mY]
 |.cons c ts,vs,h=>by
  match vs,h with
  |v::vs,h=>
   simp [mY]at h
   exact⟨v,vs,[],[],rfl,rfl,QS h.1,Ae h.2⟩
  | [],h=>grind [mY]
theorem QT {c:CT} (b:bP c=å) (n:Nat):dE c (qR c n)=Ï n (qM (ay c)):=by
 cases c<;>simp [bP]at b
 all_goals simp [dE,qR,Gh]
theorem QU {ts:aR} {b:List Value} (h:mY ts b=å): ∀n:Nat,az H R å ((Ï n (qM ts)).flatMap (bI ts)) (Ï n b).flatten []
 |0=>Č
 |n+1=>by
  exact(Ae h).append (QU h n)
mutual
theorem QV: ∀ {ts:aR} {x:bc ts} {vs:List Value} {R':Nat->Prop} {fp:List Nat},pw ts=å->az H R' own (bI ts x) vs fp->az H R å (bI ts x) vs []
 |.one c,x,vs,R',fp,d,h=>by
  simp only [pw]at d;simp only [bI,az]at h |-;obtain⟨v,f,f1,f2,rfl,rfl,b,rfl,rfl⟩:=h;refine⟨v,[],[],[],rfl,rfl, ?_,rfl,rfl⟩
  cases c<;>simp [bP]at d<;>simp only [enc,aE]at b |-
  .exact⟨b.1,trivial⟩
  .exact⟨b.1,b.2.1,trivial⟩
  .exact⟨b.1,b.2.1,trivial⟩
 |.cons c ts,x,vs,R',fp,d,h=>by
  simp only [pw,Õ]at d;simp only [bI,az]at h |-;obtain⟨v,f,f1,f2,rfl,rfl,b,g⟩:=h;refine⟨v,f,[],[],rfl,rfl, ?_,QV d.2 g⟩
  have d:=d.1;cases c<;>simp [bP]at d<;>simp only [enc,aE]at b |-
  .exact⟨b.1,trivial⟩
  .exact⟨b.1,b.2.1,trivial⟩
  .exact⟨b.1,b.2.1,trivial⟩
end
theorem QW {ts:aR} (b:pw ts=å) {R':Nat->Prop}: ∀ {xs:List (bc ts)} {vs:List Value} {fp:List Nat},az H R' own (xs.flatMap (bI ts)) vs fp->az H R å (xs.flatMap (bI ts)) vs []
 | [],vs,fp,h=>by simp_all [az]
 |x::xs,vs,fp,h=>by
  obtain⟨f1,f2, -,d,f⟩:=h.split;have:=(QV (R:=R) b d).append (QW b f);simp_all
theorem GR: ∀x:O,az H R å (x.map fun b=>bf.i .u8 (b.toNat:Int)) (x.map fun b=>Ψ .u8 (b.toNat:Int)) []
 | []=>Č
 |b::x=>by
  refine⟨_,_,[],[],rfl,rfl, ?_,GR x⟩
  simp only [aE];have:=b.toNat_lt;grind [Κ,Λ,Û,Ζ]
end
section
variable {P:Program} {T:TypeId→Option TyI} {w0 w w':World} {F R:Nat→Prop} {st st' st2 st3:St} {θ:Asg} {a:Act} {o:Oper} {v:TV} {l:Log} {α:Type} {fps fp:List Nat}
theorem GS {n:Nat} (h:n<=big):n<=maxLen:=by grind [big,maxLen]
theorem afP (d:Ok P T) (hI:Inv w0 F R st θ w) (hT:Tm (hp w) R st θ a) {s t:TypeId} {x:Operand} (ho:o.op=.convert s t x) {z:O} (hs:jL T s=ã .str) {c:CT} (j:fw T t=ã c) (hx:bE st x=.one (.s z)) {nm:Nat}
  (h:(M.opt (dW cB c z) fun y=>.gd (Ϗ z.length big) (gm nm c y c1)).run st=ã (v,st',l)):aZ P w0 F R st θ w o a v st':=by
 obtain⟨y,hy,h⟩:=M.eO h;obtain⟨k,h⟩:=M.aP h;have k:=È k;obtain⟨ec,ey⟩:=kA hy;subst ec;subst ey;obtain⟨-,e,hu,inf,zz,hi,m,ao,hz,aq,p⟩:=tb d j;have q:P.underlying s=ã .string:=by
  simp [jL]at hs
  obtain⟨i,hi,e⟩:=hs;have:=(d.eY s i hi).u;rw [e]at this;exact this
 have r:=rj hT hx;have f:=run_bytes_of_string (P:=P) w s t e ⟨z.toArray⟩ q hu p;have ad:(⟨z.toArray⟩:ByteArray).size=z.length:=rfl;have ae:=grownCap_ge w z.length 0 e;have hle:=grownCap_le_maxLen w z.length 0 e (GS k);have hl:(bytesRow ⟨z.toArray⟩ (grownCap w z.length 0 e)).toList=(z.map fun b=>Ψ .u8 (b.toNat:Int))++Ï (grownCap w z.length 0 e-z.length) (.int .u8 0):=by
  simp [bytesRow,ad]
 have g:(bytesRow ⟨z.toArray⟩ (grownCap w z.length 0 e)).size=grownCap w z.length 0 e:=by
  grind [Ω]
 refine Ac hI (bL.refl hI) (c:=cB) (x:=z) (cap:=grownCap w z.length 0 e) (arr:=bytesRow ⟨z.toArray⟩ (grownCap w z.length 0 e)) (ty:=e) (frz:=((bytesRow ⟨z.toArray⟩ (grownCap w z.length 0 e)).size,(bytesRow ⟨z.toArray⟩ (grownCap w z.length 0 e)).size+1)) (wd:=w.drew) rfl rfl rfl rfl rfl ae hle (by rw [g];exact(Ϟ _).symm) ⟨(fun o h1 h2=>ž),.inl rfl⟩ (fq:=[]) ?_ Æ Ż ?_ h
 .rw [GQ]
  have:aF cB z*(ay cB).size=(z.map fun b=>Ψ .u8 (b.toNat:Int)).length:=by rw [ϋ];exact Ϟ _
  simp_all [GR]
 .simp only [execOp,ho]
  refine ic ?_
  rw [r.1];exact f
theorem afQ (af:Ok P T) (hI:Inv w0 F R st θ w) (hT:Tm (hp w) R st θ a) {t:TypeId} {x y:Operand} (ho:o.op=.makeSlice t x y) {c:CT} (ag:fw T t=ã c) {n m:Int} (hx:bE st x=.one (.i .i64 n)) (hy:bE st y=.one (.i .i64 m)) {nm:Nat}
  (h:(M.gd (á (0<=n/\n<=m/\m<=big)) (gm nm c (qR c n.toNat) c1)).run st=ã (v,st',l)):aZ P w0 F R st θ w o a v st':=by
 obtain⟨hg,h⟩:=M.aP h;have hg:=of_decide_eq_true hg;obtain⟨hc,e,hu,inf,z,hi,b,az,hz,ai, -⟩:=tb af ag;have d:=fF hT hx;have g:=fF hT hy;have au:=aR.size_pos (ay c);have j:z.cells.size=(ay c).size:=by
  have:=(Ae (H:=hp w) (R:=R) ai).length;simp_all [lT]
 have hl:aF c (qR c n.toNat)=n.toNat:=by rw [jg,QT hc,List.length_replicate]
 have p:ϟ.wrap n=n:=by
  grind [Κ,Λ,Û,Ζ,ϛ]
 have q:ϟ.wrap m=m:=by
  grind [Κ,Λ,Û,Ζ,ϛ]
 let arr:Array Value:=(Ï m.toNat z.cells.toList).flatten.toArray
 have r:m.toNat<=big:=ž
 have ak: ∀k:Nat,(Ï k z.cells.toList).flatten.length=k*(ay c).size:=fun k=>by
  simp_all
 refine Ac hI (bL.refl hI) (c:=c) (x:=qR c n.toNat) (cap:=m.toNat) (arr:=arr) (ty:=e) (frz:=(0,0)) (wd:=w) hc rfl rfl rfl rfl ž (GS r) Ŵ (pM _ _) (fq:=[]) ?_ Æ Ż ?_ h
 .rw [hl]
  have:cv c (qR c n.toNat)=(Ï n.toNat (qM (ay c))).flatMap (bI (ay c)):=by rw [cv,QT hc]
  rw [this];have e2:m.toNat=n.toNat+(m.toNat-n.toNat):=ž
  have e3:arr.toList.take (n.toNat*(ay c).size)=(Ï n.toNat z.cells.toList).flatten:=by
   simp [arr]
   rw [e2,<-List.replicate_append_replicate,List.flatten_append];grind
  grind [QU]
 .simp only [execOp,ho]
  refine ic ?_
  have s: ¬(281474976710656<(inf.bytes:Int)*m):=by
   have h1:(inf.bytes:Int)*m<=1024*m:=Int.mul_le_mul_of_nonneg_right ž ž
   grind [big]
  have a7:=QR (z:=z.cells) j m.toNat;have av: ∀f:Nat->Value,(∀i,f i=z.cells[i%(ay c).size]!)->(ψ (m.toNat*(ay c).size)).map f=arr:=fun f hf=>by
   grind
  have u: ¬(m<n):=ž
  have ad: ¬(n<0):=ž
  have ae: ¬(m<0):=ž
  by_cases h0:m.toNat*(ay c).size=0
  .have a8:m.toNat=0:=(Nat.mul_eq_zero.1 h0).resolve_right ž
   have ha:arr= #[]:=Ŵ
   simp [ό,run_underlying hu,d.1,g.1,asInt,asIntOf,typeInfo,hi,p,q,s,u,ad,ae,sizeOf,b,h0,newRow,hl,ha]
   grind
  .simp [ό,run_underlying hu,d.1,g.1,asInt,asIntOf,typeInfo,hi,p,q,s,u,ad,ae,sizeOf,b,h0,newRow,hl,zeroValue,hz,j]
   simp_all
end
end Go.Ev
namespace Go.Ev
section
variable {P:Program} {T:TypeId→Option TyI} {w0 w w':World} {F R:Nat→Prop} {st st' st2 st3:St} {θ:Asg} {a:Act} {o:Oper} {v:TV} {l:Log} {α:Type} {fps fp:List Nat}
theorem GU {b:Option Addr} {g off len cap n s:Nat} {cur:Array Value} {ty:TypeId} {frz:Nat×Nat} {wd:World} (d:b=ã ⟨g,off,â⟩) (f:hp wd g=ã (.cells cur ty frz)) (h:off+n*s<=cur.size):
  (Ç s n (.slice b len cap)).run P wd=.ok ((cur.toList.drop off).take (n*s)).toArray wd:=by
 subst d;exact Qp f h
theorem vZ {b:Option Addr} {len cap s:Nat} {wd:World}:(Ç s 0 (.slice b len cap)).run P wd=.ok #[] wd:=by
 cases b with
 |none=>simp [Ç]
 |some x=>simp [Ç,loadCells,loadCellsFrom]
structure Src (P:Program) (w:World) (R:Nat->Prop) (c:CT) (u:Value) (y:Interp c) (news:List Value) (fq:List Nat):Prop where
 len:(ζ u).run P w=.ok (aF c y) w
 first: ∀wd:World,wd.heap=w.heap->(Ç (ay c).size (aF c y) u).run P wd=.ok news.toArray wd
 rel:az (hp w) R å (cv c y) news fq
theorem Src.empty {c:CT} (_:bP c=å) {d:Option Addr} {cap:Nat}:Src P w R c (.slice d 0 cap) (eh c) [] []:=by
 have b:aF c (eh c)=0:=by rw [jg,zF];rfl
 refine⟨by simp [ζ,b],fun wd _=>by rw [b];exact vZ,by simp [cv,zF,az]⟩
theorem QX (m:Inv w0 F R st θ w) {c:CT} (r:bP c=å) {z:TV} {u:Value} (d:aV (hp w) R st θ z u) {k:Interp c->M α} {y:α} (h:(px c z k).run st=ã (y,st',l)):
  ∃x st2 fps f news fq,(k x).run st2=ã (y,st',f)/\bL w0 F R θ w st st2 fps/\Src P w R c u x news fq/\fq.Nodup/\ ∀g∈fq,g∈fps:=by
 cases z with
 |agg _=>simp [px,M.run]at h
 |aM _=>simp [px,M.run]at h
 |one cl=>
  simp only [aV]at d;have d:=d.1;have i: ∀(cl:Cell),aB (hp w) R st θ cl u->(cond (pw (ay c)) (fv cl (k (eh c)) fun q x=>.opt (dW q c x) k) (mV c cl k)).run st=ã (y,st',l)->
    ∃x st2 fps f news fq,(k x).run st2=ã (y,st',f)/\bL w0 F R θ w st st2 fps/\Src P w R c u x news fq/\fq.Nodup/\ ∀g∈fq,g∈fps:=by
   intro cl d h;cases hf:pw (ay c)with
   |true=>
    simp only [hf,Y]at h;rcases zR m d h with⟨⟨ad,rfl⟩,h⟩|⟨q,x,f,R',h,ar,t, -⟩
    .exact⟨_,st,[],l,[],[],h,bL.refl m,Src.empty r,Æ,Ż⟩
    .obtain⟨x',j,h⟩:=M.eO h
     obtain⟨ec,ex⟩:=kA j;subst ec;simp only at ex;subst ex;obtain⟨ad,cap,rfl,h1,h2⟩:=t.ia r;by_cases p:aF q x=0
     .refine⟨x,st,[],f,[],[],h,bL.refl m,⟨ğ,fun wd _=>by rw [p];exact vZ, ?_⟩,Æ,Ż⟩
      have:cv q x=[]:=Å (by rw [jh,p,Ý])
      rw [this];simp [az]
     .obtain⟨g,off,cur,ty,frz,e1,k1,k2,k3,k4⟩:=t.zP r p
      refine⟨x,st,[],f,_,[],h,bL.refl m,⟨ğ,fun wd hw=> ?_,QW (ts:=ay q) hf k4⟩,Æ,Ż⟩
      exact GU e1 (by simpa only [hp,hw]using k2) k3
   |false=>
    simp only [hf,ez]at h;obtain⟨x,st2,fps,f,h,tk, -,t⟩:=vX m d h;obtain⟨ad,cap,rfl,h1,h2,h3⟩:=t.sZ r;rcases h3 with⟨h3,rfl⟩|⟨g,cur,ty,frz,fq,e1,k1,k2,k3,rfl,k4⟩
    .have p:aF c x=0:=by omega
     refine⟨x,st2,[],f,[],[],h,tk,⟨ğ,fun wd _=>by rw [p];exact vZ, ?_⟩,Æ,Ż⟩
     have:cv c x=[]:=Å (by rw [jh,p,Ý])
     rw [this];simp [az]
    .have hle:=É (ay c).size h1
     refine⟨x,st2,_,f,_,fq,h,tk,⟨ğ,fun wd hw=> ?_,k4⟩,(Ñ.1 tk.nodup).2,fun g hg=>by simp [hg]⟩
     have:=GU (P:=P) (off:=0) (n:=aF c x) (s:=(ay c).size) (len:=aF c x) (cap:=cap) (wd:=wd) e1 (by simpa only [hp,hw]using k1) ž
     simpa using this
  unfold px at h;split at h
  .rename_i s e
   cases e;obtain⟨x',j,h⟩:=M.eO h;obtain⟨ec,ex⟩:=kA j;subst ec;simp only at ex;subst ex;simp only [aB]at d;obtain⟨rfl,hle⟩:=d;have al:(⟨s.toArray⟩:ByteArray).size=s.length:=rfl;refine⟨s,st,[],l,s.map (fun b=>Ψ .u8 (b.toNat:Int)),[],h,bL.refl m,⟨by simp [ζ,al];rfl,fun wd _=> ?_,by rw [GQ];exact GR s⟩,Æ,Ż⟩
   have e:aF cB s=s.length:=rfl;have e2:s.extract 0 s.length=s:=by simp [κ]
   simp only [Ç,Sem.run_pure];rw [e,extract_mk];simp
  .rename_i e
   cases e;exact i _ d h
  .rename_i h1 h2
   exact absurd rfl (h2 _)
theorem GV {t t2 e:TypeId} {tyr:TypeId} {inf:TypeInfo} {c:CT} {y:Interp c} {u:Value} {news:List Value} {fq:List Nat} (j:P.underlying t=ã (.slice e)) (f:(∃x,P.underlying t2=ã (.slice x))\/P.underlying t2=ã .string) (hi:P.info? e=ã inf) (k:inf.size=(ay c).size)
  {base:Option Addr} {sLen sCap:Nat} (d:Src P w R c u y news fq) (b:sLen+aF c y<=sCap) {w':World}
  (i: ∀h,base=ã h->(storeCells (h.add (sLen*(ay c).size)) news).run P w=.ok () w') (g:base=â->w'=w):
  (Ì #[t,t2] tyr #[.slice base sLen sCap,u]).run P w=.ok (.slice base (sLen+aF c y) sCap) w':=by
 have m:=d.first w rfl;rcases f with⟨x,f⟩|f
 .cases base with
  |none=>
   obtain rfl:=g rfl;simp [Ì,run_underlying j,run_underlying f,sizeOf,typeInfo,hi,d.len,b,k,m]
  |some h=>
   simp [Ì,run_underlying j,run_underlying f,sizeOf,typeInfo,hi,d.len,b,k,m,i h rfl]
 .cases base with
  |none=>
   obtain rfl:=g rfl;simp [Ì,run_underlying j,run_underlying f,sizeOf,typeInfo,hi,d.len,b,k,m]
  |some h=>
   simp [Ì,run_underlying j,run_underlying f,sizeOf,typeInfo,hi,d.len,b,k,m,i h rfl]
theorem afR {t t2 e:TypeId} {tyr:TypeId} {inf:TypeInfo} {z:Value} {c:CT} {y:Interp c} {u:Value} {news olds:List Value} {fq:List Nat} (i:P.underlying t=ã (.slice e)) (b:(∃x,P.underlying t2=ã (.slice x))\/P.underlying t2=ã .string) (hi:P.info? e=ã inf) (j:inf.size=(ay c).size) (h:inf.bytes<=1024) (k:inf.zero=ã z)
  {base:Option Addr} {sLen sCap:Nat} (d:Src P w R c u y news fq) (s:sCap<sLen+aF c y) (m:sLen+aF c y<=big)
  (hold: ∀wd:World,wd.heap=w.heap->(Ç (ay c).size sLen (.slice base sLen sCap)).run P wd=.ok olds.toArray wd):
  (Ì #[t,t2] tyr #[.slice base sLen sCap,u]).run P w=
   .ok (.slice (ã ⟨w.heap.size,0,â⟩) (sLen+aF c y) (grownCap w (sLen+aF c y) sCap e))
    (w.drew.alloc (.cells (olds++(news++(Μ z.cells (grownCap w (sLen+aF c y) sCap e-(sLen+aF c y))).toList)).toArray e)):=by
 have p: ¬(sLen+aF c y<=sCap):=ž
 have g: ¬(9223372036854775807<((sLen:Int)+(aF c y:Int))):=by simp only [big]at m;omega
 have f: ¬(281474976710656<Ϡ (sLen+aF c y) sCap*inf.bytes):=by
  have:=growslice_fits (bytes:=inf.bytes) s (by
   have:(sLen+aF c y)*inf.bytes<=big*1024:=Nat.mul_le_mul m h;simp only [big]at this;omega)
  omega
 have q:=d.first w.drew rfl;have r:=hold w.drew rfl;rcases b with⟨x,b⟩|b
 .simp [Ì,run_underlying i,run_underlying b,sizeOf,typeInfo,zeroValue,hi,k,d.len,p,g,f,j,Question.forced,q,r,newRow,grownCap]
  congr 2
  apply Θ
  simp
 .simp [Ì,run_underlying i,run_underlying b,sizeOf,typeInfo,zeroValue,hi,k,d.len,p,g,f,j,Question.forced,q,r,newRow,grownCap]
  congr 2
  apply Θ
  simp
end
end Go.Ev
namespace Go.Ev
theorem afS {α:Type} (f:Nat->α) (k:Nat) (u v:α):aS (aS f k u) k v=aS f k v:=by
 funext i
 by_cases h:i=k
 .subst h;rw [bC,bC]
 .rw [aY _ _ h,aY _ _ h,aY _ _ h]
section
variable {P:Program} {T:TypeId→Option TyI} {w0 w w':World} {F R:Nat→Prop} {st st' st2 st3:St} {θ:Asg} {a:Act} {o:Oper} {v:TV} {l:Log} {α:Type} {fps fp:List Nat}
theorem QY (j:Inv w0 F R st θ w) {n aH:Nat} {vw:Option Nat} {d:DV} {v:Value} (r:aB (hp w) R st θ (.ob n aH vw) v) (hd:(st.ar n).bj=ã d) (s:aH=(st.ar n).aH) (b:kx d.c vw d.x=å):
  ∃f,aE (hp w) R å (enc d.c (cz d.c vw d.x)) v f/\f.Nodup/\(∀g∈f,g∈θ.fp n)/\(vw=â->v=θ.ob n/\f=θ.fp n):=by
 obtain⟨q1,q2,q3⟩:=j.ar n d hd;obtain⟨t,q4,q5,z,len,cap,i,k⟩:=vW j r hd s b;cases vw with
 |none=>
  obtain⟨u,p,q, -, -⟩:=q2.ia q1;rw [i]at q;cases q;have:v=θ.ob n:=by rw [i,k];rfl
  refine⟨θ.fp n, ?_,q3,fun _ h=>h,fun _=>⟨this,rfl⟩⟩
  rw [this];exact q2
 |some m=>
  rw [i]at q2;obtain⟨f,k1,k2,k3⟩:=q2.QG (m:=m) q1 (by simpa [kx]using b) q3
  refine⟨f, ?_,k2,k3,Ż⟩
  have hm:m<=aF d.c d.x:=by simpa [kx]using b
  have:aF d.c (cz d.c (ã m) d.x)=m:=Ą
  rw [k,this];exact k1
theorem bL.kill (b:Inv w0 F R st θ w) {n:Nat} {d:DV} (hd:(st.ar n).bj=ã d):bL w0 F R θ w st {st with ar:=aS st.ar n ⟨(st.ar n).aH,(st.ar n).wv+1,â⟩} (θ.fp n):=by
 obtain⟨f,i2,i3⟩:=b.kill hd (st.ar n).aH ((st.ar n).wv+1) (.inr ⟨rfl,ž⟩)
 refine⟨f,i2,rfl,rfl,fun k=> ?_,(b.ar n d hd).2.2,fun g h=>.inr ⟨n,š,h⟩,i3.free⟩
 by_cases e:k=n
 .subst e;right;simp [bC]
 .left;simp [aY _ _ e]
theorem afT {nm:Nat} {c:CT} {x:Interp c} (h:(st.ar nm).bj=â):
  (gm nm c x c1).run st=ã (.one (.ob nm ((st.ar nm).aH+1) â),{st with ar:=aS st.ar nm ⟨(st.ar nm).aH+1,0,ã ⟨c,x⟩⟩},⟨[2*nm+1],[2*nm+1]⟩):=by
 simp [gm,M.run,h,c1,Log.none,Log.r,Log.w]
theorem afU (a7:Ok P T) (hI:Inv w0 F R st θ w) (hT:Tm (hp w) R st θ a) {cl:Call} {s x:Operand} {t t2:TypeId} (ho:o.op=.call cl) (cb:cl.callee=.builtin .append) (ha:cl.args.toList=[s,x]) (cc:cl.argTypes.toList=[t,t2]) {c:CT} (cd:fw T t=ã c) {d:Nat}
  (h:(M.gd (uS (T t2)||qQ (T t2)) (Gu c d (bE st s) (bE st x))).run st=ã (v,st',l)):aZ P w0 F R st θ w o a v st':=by
 obtain⟨hc,e,hu,inf,z,hi,q,cf,hz,cg, -⟩:=tb a7 cd;have ch:cl.args= #[s,x]:=by rw [<-Φ (xs:=cl.args),ha]
 have bh:cl.argTypes= #[t,t2]:=by rw [<-Φ (xs:=cl.argTypes),cc]
 obtain⟨r,h⟩:=M.aP h;have r:(∃x,P.underlying t2=ã (.slice x))\/P.underlying t2=ã .string:=by
  rw [Ö]at r;exact r.imp (zU a7) (zY a7)
 have ag: ∀ {u:Value} {w':World},(Ì #[t,t2] o.type #[a.eval s,a.eval x]).run P w=.ok u w'->(execOp a.eval o).run P w=.ok (.value u) w':=by
  intro u w' hr;simp [execOp,ho,resolve,cb,ch,bh,invoke,builtin,hr]
 have c4:=aR.size_pos (ay c);have cj:z.cells.size=(ay c).size:=by
  have:=(Ae (H:=hp w) (R:=R) cg).length;rw [lT]at this;simpa using this.symm
 have bk:=iN hT x;have grow: ∀ {y:Interp c} {X:Interp c} {news olds:List Value} {st2:St} {fps fq:List Nat} {nm sCap sLen:Nat} {base:Option Addr} {l1:Log},bL w0 F R θ w st st2 fps->Src P w R c (a.eval x) y news []\/(∃f,Src P w R c (a.eval x) y news f)->a.eval s=.slice base sLen sCap->sCap<sLen+aF c y->sLen+aF c y<=big->
   (∀wd:World,wd.heap=w.heap->(Ç (ay c).size sLen (.slice base sLen sCap)).run P wd=.ok olds.toArray wd)->aF c X=sLen+aF c y->az (hp w) R å (cv c X) (olds++news) fq->fq.Nodup->(∀g∈fq,g∈fps)->(gm nm c X c1).run st2=ã (v,st',l1)->aZ P w0 F R st θ w o a v st':=by
  intro y X news olds st2 fps fq nm sCap sLen base l1 tk j hs hg k hold hX a1 hn hf h;obtain⟨f,j⟩: ∃f,Src P w R c (a.eval x) y news f:=j.elim (fun h=>⟨_,h⟩) id
  have m:=afR (P:=P) (tyr:=o.type) hu r hi q cf hz j hg k hold;rw [<-hs]at m;have bm:=grownCap_ge w (sLen+aF c y) sCap e;have hle:=grownCap_le_maxLen w (sLen+aF c y) sCap e (GS k);have au:=a1.length;rw [jh,hX]at au;have hm:=ag m;rw [<-hX]at hm bm hle;rw [<-hX]at au;refine Ac hI tk (c:=c) (x:=X) (cap:=grownCap w (aF c X) sCap e) (arr:=(olds++(news++(Μ z.cells (grownCap w (aF c X) sCap e-aF c X)).toList)).toArray) (ty:=e) (frz:=(0,0)) (wd:=w.drew) hc rfl rfl rfl rfl bm hle ?_ (pM _ _) (fq:=fq) ?_ hn hf hm h
  .rw [List.size_toArray,<-Á,Ι,<-au,Ω,size_zeroCells,cj,<-Δ]
   congr 1
   omega
  .have:(olds++(news++(Μ z.cells (grownCap w (aF c X) sCap e-aF c X)).toList)).toArray.toList.take (aF c X*(ay c).size)=olds++news:=by
    rw [au,<-Á];exact List.take_left
   rw [this];exact a1
 have aj: ∀ {ad:Option Addr},a.eval s=.slice ad 0 0->(px c (bE st x) fun y=>.gd (Ϗ (aF c y) big) (gm (ft d 0) c y c1)).run st=ã (v,st',l)->aZ P w0 F R st θ w o a v st':=by
  intro ad hs h;obtain⟨y,st2,fps,l1,news,fq,h,tk,j,hn,hf⟩:=QX (P:=P) hI hc bk h;obtain⟨k,h⟩:=M.aP h;have k:=È k;by_cases h0:aF c y=0
  .have ae:news=[]:=Å (by rw [<-j.rel.length,jh,h0,Ý])
   subst ae;have m:=GV (P:=P) (tyr:=o.type) (base:=ad) (sLen:=0) (sCap:=0) (w':=w) hu r hi q j ž (fun _ _=>rfl) (fun _=>rfl)
   rw [<-hs,h0]at m;refine Ab (w':=w) (fp:=[]) (hd:=.slice ad 0 0) hI tk hc (Ò _) rfl rfl rfl (fun _ _ _=>rfl) ?_ Æ Ż (ag m) h
   have:=aE.pI (H:=hp w) (R:=R) (c:=c) (x:=y) (a:=ad) (cap:=0) (fp:=[]) hc ž (by simp [maxLen]) (.inl ⟨rfl,rfl⟩)
   rwa [h0]at this
  .exact grow (y:=y) (X:=y) (olds:=[]) tk (.inr ⟨_,j⟩) hs ž ž (fun wd _=>vZ) ž (by simpa using j.rel) hn hf h
 have p:=iN hT s;unfold Gu at h;split at h
 .rename_i e1
  rw [e1]at p;simp only [aV,aB]at p;exact aj p.1 h
 .rename_i e1
  rw [e1]at p;simp only [aV,aB]at p;obtain⟨ad,p⟩:=p.1;exact aj p h
 .rename_i n aH vw e1
  rw [e1]at p;simp only [aV]at p;have p:=p.1;obtain⟨y,st2,fps,l1,news,fq,h,tk,j,hn,hf⟩:=QX (P:=P) hI hc bk h;obtain⟨l2,h⟩:=M.fR h;cases hd:(st2.ar n).bj with
  |none=>simp [hd,M.run]at h
  |some dd=>
   simp only [hd]at h;obtain⟨hv,h⟩:=M.aP h;obtain⟨cp,h⟩:=M.aP h;obtain⟨x0,ak,h⟩:=M.eO h;obtain⟨k,h⟩:=M.aP h;obtain⟨l3,h⟩:=M.pK h;obtain⟨rfl,rfl⟩:=cM h;have k:=È k;have hv:=À hv;have bo:=aB.step tk.step _ _ p;obtain⟨f',r1,r2,r3, -⟩:=QY tk.inv bo hd hv cp;obtain⟨ec,ex⟩:=kA ak;subst ec;simp only at ex;subst ex;have bb:=tk.trans (bL.kill tk.inv hd);have al:(gm n dd.c (ku dd.c (cz dd.c vw dd.x) y) c1).run {st2 with ar:=aS st2.ar n ⟨(st2.ar n).aH,(st2.ar n).wv+1,â⟩}=
     ã (.one (.ob n ((st2.ar n).aH+1) â),{st2 with ar:=aS st2.ar n ⟨(st2.ar n).aH+1,0,ã ⟨dd.c,ku dd.c (cz dd.c vw dd.x) y⟩⟩},⟨[2*n+1],[2*n+1]⟩):=by
    rw [afT (by simp [bC])]
    simp [bC,afS]
   have av:=adN (c:=dd.c) (cz dd.c vw dd.x) y hc;have bq:=adL (c:=dd.c) (cz dd.c vw dd.x) y hc;have ao: ∀b∈f',b∉fq:=fun b k cr=>tk.free b (hf b cr) (.inr ⟨n,š,r3 b k⟩)
   obtain⟨ad,cap,es,p1,p2,p3⟩:=r1.sZ hc;by_cases af:aF dd.c (cz dd.c vw dd.x)+aF dd.c y<=cap
   .rcases p3 with⟨p3,p4⟩|⟨g,cur,ty,frz,bc,rfl,k1,k2,k3,k4,k5⟩
    . --nothing there,nothing put
     have cu:aF dd.c y=0:=ž
     have ak:aF dd.c (cz dd.c vw dd.x)=0:=ž
     have ae:news=[]:=Å (by rw [<-j.rel.length,jh,cu,Ý])
     subst ae;have m:=GV (P:=P) (tyr:=o.type) (base:=ad) (w':=w) hu r hi q j af (fun _ _=>rfl) (fun _=>rfl)
     rw [<-es]at m;refine Ab (w':=w) (fp:=[]) (hd:=.slice ad (aF dd.c (cz dd.c vw dd.x)+aF dd.c y) cap) hI bb hc (Ò _) rfl rfl rfl (fun _ _ _=>rfl) ?_ Æ Ż (ag m) al
     rw [<-av];exact aE.pI hc ž p2 (.inl ⟨p3,rfl⟩)
    .have hle:=É (ay dd.c).size af
     rw [Δ]at hle;have cw:news.length=aF dd.c y*(ay dd.c).size:=by rw [<-j.rel.length,jh]
     have bs:=GG (P:=P) (g:=g) (o:=aF dd.c (cz dd.c vw dd.x)*(ay dd.c).size) (vs:=news) (i:=0) (w:=w) k1 k3.1 ž j.rel.cx
     rw [Nat.add_zero]at bs;have m:=GV (P:=P) (tyr:=o.type) (base:=ã ⟨g,0,â⟩) (sLen:=aF dd.c (cz dd.c vw dd.x)) (sCap:=cap) hu r hi q j af (fun dj e'=>by cases e';rw [Ξ,ϙ];exact bs) Ż
     rw [<-es]at m;have bt:=r2;rw [k4]at bt;obtain⟨bu,cy⟩:=Ñ.1 bt;have bw:g∉fq:=ao g (by rw [k4];simp)
     have c0:cQ st2 θ g:=.inr ⟨n,š,r3 g (by rw [k4];simp)⟩
     have a6: ∀b,b≠g->hp (w.setRow g (cur.toList.take (aF dd.c (cz dd.c vw dd.x)*(ay dd.c).size)++(news++cur.toList.drop (aF dd.c (cz dd.c vw dd.x)*(ay dd.c).size+news.length))).toArray) b=hp w b:=fun b k=>setRow_other w g b _ k
     have ax:=(k5.append j.rel).frame (H':=hp (w.setRow g (cur.toList.take (aF dd.c (cz dd.c vw dd.x)*(ay dd.c).size)++(news++cur.toList.drop (aF dd.c (cz dd.c vw dd.x)*(ay dd.c).size+news.length))).toArray)) (R':=R)
      (fun b k=>a6 b (fun e=>by
       subst e;rcases k with k|k
       .rcases Ã.1 k with k|k
        .exact bu k
        .exact bw k
       .exact tk.inv.vV c0 k)) (fun _ h=>h)
     have c2:(cur.toList.take (aF dd.c (cz dd.c vw dd.x)*(ay dd.c).size)).length=aF dd.c (cz dd.c vw dd.x)*(ay dd.c).size:=Ģ
     refine Ab (fp:=g::(bc++fq)) (hd:=.slice (ã ⟨g,0,â⟩) (aF dd.c (cz dd.c vw dd.x)+aF dd.c y) cap) hI bb hc (ο (setRow_size w g _).symm) rfl rfl rfl (fun b _ k=>a6 b (fun e=>k Ţ)) ?_ ?_ ?_ (ag m) al
     .rw [<-av]
      refine aE.pI hc ž p2 (.inr ⟨g,_,ty,frz,_,rfl,setRow_heap w g _ _ _ _ k1, ?_, ?_,rfl, ?_⟩)
      .simp;omega
      .have:(cur.toList.take (aF dd.c (cz dd.c vw dd.x)*(ay dd.c).size)++(news++cur.toList.drop (aF dd.c (cz dd.c vw dd.x)*(ay dd.c).size+news.length))).toArray.size=cur.size:=by simp;omega
       rw [this];exact k3
      .rw [bq]
       have e3:((cur.toList.take (aF dd.c (cz dd.c vw dd.x)*(ay dd.c).size)++(news++cur.toList.drop (aF dd.c (cz dd.c vw dd.x)*(ay dd.c).size+news.length))).toArray.toList).take (aF dd.c (ku dd.c (cz dd.c vw dd.x) y)*(ay dd.c).size)=cur.toList.take (aF dd.c (cz dd.c vw dd.x)*(ay dd.c).size)++news:=by
        rw [av,Δ];show(_++(news++_)).take _=_;rw [<-Á];exact ϊ (by rw [Ι,c2,cw])
       rw [e3];exact ax
     .refine Ñ.2 ⟨fun hm=> ?_,Ä.2 ⟨cy,hn,fun b k c' bd e=> ?_⟩⟩
      .rcases Ã.1 hm with hm|hm
       .exact bu hm
       .exact bw hm
      .subst e;exact ao b (by rw [k4];simp [k]) bd
     .intro b k
      left
      rcases Γ.1 k with rfl|k
      .exact Ã.2 (.inr (r3 _ (by rw [k4];simp)))
      .rcases Ã.1 k with k|k
       .exact Ã.2 (.inr (r3 _ (by rw [k4];simp [k])))
       .exact Ã.2 (.inl (hf b k))
   .have olds: ∃olds fo,(∀wd:World,wd.heap=w.heap->(Ç (ay dd.c).size (aF dd.c (cz dd.c vw dd.x)) (.slice ad (aF dd.c (cz dd.c vw dd.x)) cap)).run P wd=.ok olds.toArray wd)/\az (hp w) R å (cv dd.c (cz dd.c vw dd.x)) olds fo/\fo.Nodup/\ ∀b∈fo,b∈f':=by
     rcases p3 with⟨p3,p4⟩|⟨g,cur,ty,frz,bc,e2,k1,k2,k3,k4,k5⟩
     .have ak:aF dd.c (cz dd.c vw dd.x)=0:=by omega
      refine⟨[],[],fun wd _=>by rw [ak];exact vZ, ?_,Æ,Ż⟩
      have:cv dd.c (cz dd.c vw dd.x)=[]:=Å (by rw [jh,ak,Ý])
      rw [this];simp [az]
     .have hle:=É (ay dd.c).size p1
      refine⟨_,bc,fun wd hw=> ?_,k5,by rw [k4]at r2;exact(Ñ.1 r2).2,fun b k=>by rw [k4];simp [k]⟩
      have:=GU (P:=P) (off:=0) (n:=aF dd.c (cz dd.c vw dd.x)) (s:=(ay dd.c).size) (len:=aF dd.c (cz dd.c vw dd.x)) (cap:=cap) (wd:=wd) e2 (by simpa only [hp,hw]using k1) ž
      simpa using this
    obtain⟨olds,fo,o1,o2,o3,o4⟩:=olds;refine grow (y:=y) (X:=ku dd.c (cz dd.c vw dd.x) y) (olds:=olds) (fq:=fo++fq) bb (.inr ⟨_,j⟩) es ž k o1 av (by rw [bq];exact o2.append j.rel) ?_ ?_ al
    .exact Ä.2 ⟨o3,hn,fun b k c' bd e=>by subst e;exact ao b (o4 b k) bd⟩
    .intro b k
     rcases Ã.1 k with k|k
     .exact Ã.2 (.inr (r3 _ (o4 b k)))
     .exact Ã.2 (.inl (hf b k))
 .simp [M.run]at h
end
end Go.Ev
namespace Go.Ev
abbrev Env:=List (Nat×Value×List Nat)
def Env.fps (L:Env):List Nat:=L.flatMap (·.2.2)
theorem Env.dm (L A:Env):Env.fps (L++A)=L.fps++A.fps:=List.flatMap_append
section
variable (H:Heap) (R:Nat→Prop) (B:Nat→Nat→Prop) (nal:Bool)
mutual
def ax:Env->Nat->CK->List DV->Value->Env->Prop
 |_,_,.undef,ds,_,A=>ds=[]/\A=[]
 |_,_,.bool,ds,v,A=> ∃x:Bool,ds=[⟨.bool,x⟩]/\v=.bool x/\A=[]
 |_,_,.int k,ds,v,A=> ∃x:qK k,ds=[⟨.int k,x⟩]/\v=.int k (kr k x)/\(k.min<=kr k x/\kr k x<=k.max)/\A=[]
 |_,_,.str,ds,v,A=> ∃x:O,ds=[⟨.str,x⟩]/\v=.string ⟨x.toArray⟩/\x.length<=maxLen/\A=[]
 |_,_,.er,ds,v,A=> ∃x:Bool,ds=[⟨.bool,x⟩]/\((x=ä/\v=.nilIface)\/(x=å/\ ∃t u,v=.iface t u))/\A=[]
 |_,_,.sh c,ds,v,A=> ∃x,ds=[⟨c,x⟩]/\bP c=å/\aE H R ä (enc c x) v []/\A=[]
 |_,nm,.own c,ds,v,A=> ∃x fp,ds=[⟨c,x⟩]/\bP c=å/\aE H R å (enc c x) v fp/\A=[(nm,v,fp)]
 |_,_,.nl,ds,v,A=>ds=[]/\v=.slice â 0 0/\A=[]
 |L,_,.al m,ds,v,A=>nal=ä/\ds=[]/\A=[]/\ ∃fp,(m,v,fp)∈L
 |L,_,.gs m c,ds,v,A=>nal=ä/\A=[]/\ ∃x hd fp,ds=[⟨c,x⟩]/\bP c=å/\(m,hd,fp)∈L/\aE H (fun b=>b∈fp) ä (enc c x) v []
 |_,_,.pb m off,ds,v,A=>ds=[]/\A=[]/\ ∃g,B m g/\v=.pointer (ã ⟨g,off,â⟩)
 |_,_,.ff,ds,v,A=>ds=[]/\v=.pointer â/\A=[]
 |_,_,.fE,ds,v,A=>ds=[]/\v=.nilFunc/\A=[]
 |L,_,.fn f a b,ds,v,A=> ∃h vb d1 d2 A1 A2,ds=d1++d2/\A=A1++A2/\v=.func (.func f) h vb/\bq L (fun _=>0) 0 a d1 h.toList A1/\bq (L++A1) (fun _=>0) 0 b d2 vb.toList A2
def bq:Env->(Nat->Nat)->Nat->List CK->List DV->List Value->Env->Prop
 |_,_,_,[],ds,vs,A=>ds=[]/\vs=[]/\A=[]
 |L,nm,j,c::cs,ds,vs,A=> ∃v d d1 d2 A1 A2,ds=d1++d2/\vs=v::d/\A=A1++A2/\cx v=å/\ax L (nm j) c d1 v A1/\bq (L++A1) nm (j+1) cs d2 d A2
end
def cp:Env->(Nat->Nat)->Nat->List bg->List DV->List Value->Env->Prop
 |_,_,_,[],ds,vs,A=>ds=[]/\vs=[]/\A=[]
 |L,nm,j,.one c::cs,ds,vs,A=> ∃v b d1 d2 A1 A2,ds=d1++d2/\vs=v::b/\A=A1++A2/\(c=.undef\/cx v=å)/\ax H R B nal L (nm j) c d1 v A1/\cp (L++A1) nm (j+1) cs d2 b A2
 |L,nm,j,.agg ks::cs,ds,vs,A=> ∃arr b d1 d2 A1 A2,ds=d1++d2/\vs=.agg arr::b/\A=A1++A2/\bq H R B nal L nm j ks d1 arr.toList A1/\cp (L++A1) nm (j+ks.length) cs d2 b A2
 |_,_,_,.aM _::_,_,_,_=>False
def bU (L:Env) (nm:Nat->Nat):bg->List DV->Value->Env->Prop
 |.one c,ds,v,A=>(c=.undef\/cx v=å)/\ax H R B nal L (nm 0) c ds v A
 |.agg ks,ds,v,A=> ∃arr,v=.agg arr/\bq H R B nal L nm 0 ks ds arr.toList A
 |.aM cs,ds,v,A=> ∃arr,v=.tuple arr/\cp H R B nal L nm 0 cs ds arr.toList A
end
section
variable {H:Heap} {R R':Nat→Prop} {B B':Nat→Nat→Prop} {nal:Bool}
theorem aE.mono (f: ∀b,R b->R' b) {own:Bool} {d:bf} {v:Value} {fp:List Nat} (h:aE H R own d v fp):aE H R' own d v fp:=h.frame (fun _ _=>rfl) f
mutual
theorem ax.mono (r: ∀b,R b->R' b) (s: ∀m g,B m g->B' m g): ∀(k:CK) {L:Env} {nm:Nat} {ds:List DV} {v:Value} {A:Env},ax H R B nal L nm k ds v A->ax H R' B' nal L nm k ds v A
 |.undef,_,_,_,_,_,h=>Ź
 |.bool,_,_,_,_,_,h=>Ź
 |.int _,_,_,_,_,_,h=>Ź
 |.str,_,_,_,_,_,h=>Ź
 |.er,_,_,_,_,_,h=>Ź
 |.sh c,_,_,_,_,_,h=>by
  simp only [ax]at h |-;obtain⟨x,d,i,p,q⟩:=h;exact⟨x,d,i,p.mono r,q⟩
 |.own c,_,_,_,_,_,h=>by
  simp only [ax]at h |-;obtain⟨x,fp,d,i,p,q⟩:=h;exact⟨x,fp,d,i,p.mono r,q⟩
 |.nl,_,_,_,_,_,h=>Ź
 |.al _,_,_,_,_,_,h=>Ź
 |.gs _ _,_,_,_,_,_,h=>Ź
 |.pb _ _,_,_,_,_,_,h=>by
  simp only [ax]at h |-;obtain⟨d,i,g,p,q⟩:=h;exact⟨d,i,g,s _ _ p,q⟩
 |.ff,_,_,_,_,_,h=>Ź
 |.fE,_,_,_,_,_,h=>Ź
 |.fn f a b,_,_,_,_,_,h=>by
  simp only [ax]at h |-;obtain⟨z,vb,d1,d2,A1,A2,d,i,p,q,t⟩:=h;exact⟨z,vb,d1,d2,A1,A2,d,i,p,bq.mono r s a q,bq.mono r s b t⟩
theorem bq.mono (r: ∀b,R b->R' b) (s: ∀m g,B m g->B' m g): ∀(ks:List CK) {L:Env} {nm:Nat->Nat} {j:Nat} {ds:List DV} {vs:List Value} {A:Env},bq H R B nal L nm j ks ds vs A->bq H R' B' nal L nm j ks ds vs A
 | [],_,_,_,_,_,_,h=>ħ
 |c::cs,_,_,_,_,_,_,h=>by
  simp only [bq]at h |-;obtain⟨v,u,d1,d2,A1,A2,d,i,p,q,t,h6⟩:=h;exact⟨v,u,d1,d2,A1,A2,d,i,p,q,ax.mono r s c t,bq.mono r s cs h6⟩
end
theorem cp.mono (f: ∀b,R b->R' b) (i: ∀m g,B m g->B' m g): ∀(ks:List bg) {L:Env} {nm:Nat->Nat} {j:Nat} {ds:List DV} {vs:List Value} {A:Env},cp H R B nal L nm j ks ds vs A->cp H R' B' nal L nm j ks ds vs A
 | [],_,_,_,_,_,_,h=>û
 |.one c::cs,_,_,_,_,_,_,h=>by
  simp only [cp]at h |-;obtain⟨v,d,d1,d2,A1,A2,k,p,q,t,r,s⟩:=h;exact⟨v,d,d1,d2,A1,A2,k,p,q,t,ax.mono f i c r,cp.mono f i cs s⟩
 |.agg ks::cs,_,_,_,_,_,_,h=>by
  simp only [cp]at h |-;obtain⟨arr,d,d1,d2,A1,A2,k,p,q,r,s⟩:=h;exact⟨arr,d,d1,d2,A1,A2,k,p,q,bq.mono f i ks r,cp.mono f i cs s⟩
 |.aM _::_,_,_,_,_,_,_,h=>by simp only [cp]at h
theorem bU.mono (d: ∀b,R b->R' b) (f: ∀m g,B m g->B' m g) {k:bg} {L:Env} {nm:Nat->Nat} {ds:List DV} {v:Value} {A:Env} (h:bU H R B nal L nm k ds v A):bU H R' B' nal L nm k ds v A:=by
 cases k with
 |one c=>simp only [bU]at h |-;exact⟨h.1,h.2.mono d f⟩
 |agg ks=>simp only [bU]at h |-;obtain⟨arr,i,j⟩:=h;exact⟨arr,i,j.mono d f⟩
 |aM ks=>simp only [bU]at h |-;obtain⟨arr,i,j⟩:=h;exact⟨arr,i,j.mono d f⟩
mutual
theorem ax.iO: ∀(k:CK) {L:Env} {nm:Nat} {ds:List DV} {v:Value} {A:Env},ax H R B å L nm k ds v A-> ∀(L':Env) (d:Nat),∃s,ax H R B å L' d k ds v s/\s.fps=A.fps
 |.undef,_,_,_,_,_,h,_,_=>by simp only [ax]at h;exact⟨[],by simp only [ax];exact⟨h.1,trivial⟩,by rw [h.2]⟩
 |.bool,_,_,_,_,A,h,_,_=>Ő
 |.int _,_,_,_,_,A,h,_,_=>Ŭ
 |.str,_,_,_,_,A,h,_,_=>Ŭ
 |.er,_,_,_,_,A,h,_,_=>Ő
 |.sh _,_,_,_,_,A,h,_,_=>Ŭ
 |.own _,_,_,_,v,A,h,_,d=>by
  simp only [ax]at h;obtain⟨x,fp,g,i,m,q⟩:=h;exact⟨[(d,v,fp)],by simp only [ax];exact⟨x,fp,g,i,m,rfl⟩,by rw [q];rfl⟩
 |.nl,_,_,_,_,A,h,_,_=>ŧ
 |.al _,_,_,_,_,A,h,_,_=>by simp [ax]at h
 |.gs _ _,_,_,_,_,A,h,_,_=>by simp [ax]at h
 |.pb _ _,_,_,_,_,A,h,_,_=>by simp only [ax]at h;exact⟨[],by simp only [ax];exact⟨h.1,trivial,h.2.2⟩,by rw [h.2.1]⟩
 |.ff,_,_,_,_,A,h,_,_=>ŧ
 |.fE,_,_,_,_,A,h,_,_=>ŧ
 |.fn f a b,_,_,_,_,A,h,L',d=>by
  simp only [ax]at h;obtain⟨va,vb,d1,d2,A1,A2,g,i,m,q,u⟩:=h;obtain⟨p,k1,k2⟩:=bq.iO a q L' (fun _=>0) 0
  obtain⟨r,k3,z⟩:=bq.iO b u (L'++p) (fun _=>0) 0
  exact⟨p++r,by simp only [ax];exact⟨va,vb,d1,d2,p,r,g,rfl,m,k1,k3⟩,by rw [i,Env.dm,Env.dm,k2,z]⟩
theorem bq.iO: ∀(ks:List CK) {L:Env} {nm:Nat->Nat} {j:Nat} {ds:List DV} {vs:List Value} {A:Env},bq H R B å L nm j ks ds vs A-> ∀(L':Env) (d:Nat->Nat) (t:Nat),∃s,bq H R B å L' d t ks ds vs s/\s.fps=A.fps
 | [],_,_,_,_,_,_,h,_,_,_=>by simp only [bq]at h;exact⟨[],by simp only [bq];exact⟨h.1,h.2.1,trivial⟩,by rw [h.2.2]⟩
 |c::cs,_,_,_,_,_,_,h,L',d,t=>by
  simp only [bq]at h;obtain⟨v,ad,d1,d2,A1,A2,g,i,m,q,u,h6⟩:=h;obtain⟨p,k1,k2⟩:=ax.iO c u L' (d t);obtain⟨r,k3,z⟩:=bq.iO cs h6 (L'++p) d (t+1);exact⟨p++r,by simp only [bq];exact⟨v,ad,d1,d2,p,r,g,i,rfl,q,k1,k3⟩,by rw [m,Env.dm,Env.dm,k2,z]⟩
end
theorem cp.iO: ∀(ks:List bg) {L:Env} {nm:Nat->Nat} {j:Nat} {ds:List DV} {vs:List Value} {A:Env},cp H R B å L nm j ks ds vs A-> ∀(L':Env) (b:Nat->Nat) (g:Nat),∃t,cp H R B å L' b g ks ds vs t/\t.fps=A.fps
 | [],_,_,_,_,_,_,h,_,_,_=>by simp only [cp]at h;exact⟨[],by simp only [cp];exact⟨h.1,h.2.1,trivial⟩,by rw [h.2.2]⟩
 |.one c::cs,_,_,_,_,_,_,h,L',b,g=>by
  simp only [cp]at h;obtain⟨v,i,d1,d2,A1,A2,k,m,p,u,q,r⟩:=h;obtain⟨d,k1,k2⟩:=ax.iO c q L' (b g);obtain⟨f,k3,s⟩:=cp.iO cs r (L'++d) b (g+1);exact⟨d++f,by simp only [cp];exact⟨v,i,d1,d2,d,f,k,m,rfl,u,k1,k3⟩,by rw [p,Env.dm,Env.dm,k2,s]⟩
 |.agg ks::cs,_,_,_,_,_,_,h,L',b,g=>by
  simp only [cp]at h;obtain⟨v,i,d1,d2,A1,A2,k,m,p,q,r⟩:=h;obtain⟨d,k1,k2⟩:=bq.iO ks q L' b g;obtain⟨f,k3,s⟩:=cp.iO cs r (L'++d) b (g+ks.length);exact⟨d++f,by simp only [cp];exact⟨v,i,d1,d2,d,f,k,m,rfl,k1,k3⟩,by rw [p,Env.dm,Env.dm,k2,s]⟩
 |.aM _::_,_,_,_,_,_,_,h,_,_,_=>by simp only [cp]at h
theorem bU.iO {k:bg} {L:Env} {nm:Nat->Nat} {ds:List DV} {v:Value} {A:Env} (h:bU H R B å L nm k ds v A) (L':Env) (b:Nat->Nat): ∃d,bU H R B å L' b k ds v d/\d.fps=A.fps:=by
 cases k with
 |one c=>simp only [bU]at h;obtain⟨d,f,g⟩:=ax.iO c h.2 L' (b 0);exact⟨d,by simp only [bU];exact⟨h.1,f⟩,g⟩
 |agg ks=>simp only [bU]at h;obtain⟨arr,i,h⟩:=h;obtain⟨d,f,g⟩:=bq.iO ks h L' b 0;exact⟨d,by simp only [bU];exact⟨arr,i,f⟩,g⟩
 |aM ks=>simp only [bU]at h;obtain⟨arr,i,h⟩:=h;obtain⟨d,f,g⟩:=cp.iO ks h L' b 0;exact⟨d,by simp only [bU];exact⟨arr,i,f⟩,g⟩
end
end Go.Ev
namespace Go.Ev
theorem QZ {m n v:Nat}: ∀ {l:List (Nat×Nat×Nat×Nat)},vF m n v l=å-> ∃wv,lX m n v wv l=å
 | [],h=>by simp [vF]at h
 |(a,b,c,d)::r,h=>by
  simp only [vF,Ö]at h;rcases h with h|h
  .refine⟨d, ?_⟩
   simp only [lX,Ö];left
   simp only [Õ]at h |-;exact⟨h.1,h.2.1,h.2.2,π d⟩
  .obtain⟨wv,h⟩:=QZ h
   exact⟨wv,by simp only [lX,Ö];exact .inr h⟩
theorem GW {m b:Nat}: ∀ {l:List (Nat×Nat)},look m l=ã b->vE b l=å
 | [],h=>by simp [look]at h
 |(a,c)::r,h=>by
  simp only [look]at h;simp only [vE,Ö];cases d:Χ a m with
  |true=>simp only [d,Y,Ê]at h;left;rw [h];exact π b
  |false=>simp only [d,ez]at h;right;exact GW h
structure eZ (si:St) (θ:Asg) (s:CS) (L:Env):Prop where
 used: ∀m n v wv,lX m n v wv s.used=å->(si.ar n).bj.isSome=å/\(si.ar n).aH=v/\(si.ar n).wv=wv/\(m,θ.ob n,θ.fp n)∈L
 bm: ∀m b,look m s.bm=ã b->(si.boxes b).isSome=å\/s.jM=ä
 inj: ∀m m' b,look m s.bm=ã b->look m' s.bm=ã b->m=m'
def Rl (R:Nat->Prop) (θ:Asg) (cj:List Nat) (b:Nat):Prop:=R b\/ ∃n∈cj,b∈θ.fp n
def Bl (θ:Asg) (bm:List (Nat×Nat)) (m g:Nat):Prop:= ∃b,look m bm=ã b/\θ.bx b=g
structure gp (s s':CS):Prop where
 bm: ∀m b,look m s.bm=ã b->look m s'.bm=ã b
 cj: ∀n∈s.cj,n∈s'.cj
 jM:s'.jM=s.jM
 pN:s.jM=ä->s'.cj=s.cj
theorem gp.refl (s:CS):gp s s:=⟨fun _ _ h=>h,fun _ h=>h,rfl,fun _=>rfl⟩
theorem gp.trans {s s' d:CS} (a:gp s s') (b:gp s' d):gp s d:=⟨fun m c h=>b.bm m c (a.bm m c h),fun n h=>b.cj n (a.cj n h),b.jM.trans a.jM,fun h=>(b.pN (a.jM.trans h)).trans (a.pN h)⟩
theorem gp.rl {R:Nat->Prop} {θ:Asg} {s s':CS} (a:gp s s'): ∀b,Rl R θ s.cj b->Rl R θ s'.cj b:=fun _ h=>h.imp id fun⟨n,d,f⟩=>⟨n,a.cj n d,f⟩
theorem gp.bl {θ:Asg} {s s':CS} (a:gp s s'): ∀m g,Bl θ s.bm m g->Bl θ s'.bm m g:=fun m _ ⟨b,d,f⟩=>⟨b,a.bm m b d,f⟩
section
variable {w0 w:World} {F R:Nat→Prop} {si sc st':St} {θ:Asg} {l:Log} {β:Type} {fps:List Nat} {y:β} {nal:Bool}
def gO (w0:World) (F R:Nat->Prop) (θ:Asg) (w:World) (si:St) (fps:List Nat) (s:CS) (L:Env) (K:CS->M β) (y:β) (st':St) (rel:CS->List DV->Env->Prop):Prop:=
 ∃s' b A ds d,(K s').run b=ã (y,st',d)/\bL w0 F R θ w si b (fps++A.fps)/\s'.dv=ds.reverse++s.dv/\gp s s'/\eZ si θ s' (L++A)/\rel s' ds A
theorem bL.rel {fps:List Nat} (t:bL w0 F R θ w si sc fps) {cl:Cell} {v:Value} (h:aB (hp w) R si θ cl v):aB (hp w) R sc θ cl v:=aB.step t.step _ _ h
theorem kD {s:CS} {L:Env} {K:CS->M β} {rel:CS->List DV->Env->Prop} (b:bL w0 F R θ w si sc fps) (d:eZ si θ s L) (h:(K s).run sc=ã (y,st',l)) (f:rel s [] []):gO w0 F R θ w si fps s L K y st' rel:=
 ⟨s,sc,[],[],l,h,by simpa [Env.fps]using b,rfl,gp.refl s,Ľ,f⟩
theorem rn {s:CS} {L:Env} {K:CS->M β} {rel:CS->List DV->Env->Prop} (f:bL w0 F R θ w si sc fps) (b:eZ si θ s L) {d:DV} (h:(K (s.push d)).run sc=ã (y,st',l)) (g:rel (s.push d) [d] []):gO w0 F R θ w si fps s L K y st' rel:=
 ⟨s.push d,sc,[],[d],l,h,by simpa [Env.fps]using f,rfl,⟨fun _ _ h=>h,fun _ h=>h,rfl,fun _=>rfl⟩,by simpa using (⟨b.used,b.bm,b.inj⟩:eZ si θ (s.push d) L),g⟩
theorem Ra {c b:CT} {x:Interp c} {z:Interp b} (h:dW c b x=ã z):(⟨c,x⟩:DV)=⟨b,z⟩:=by
 obtain⟨e,h⟩:=kA h;subst e;simp only at h;rw [h]
theorem afV (_:Inv w0 F R si θ w) (p:bL w0 F R θ w si sc fps) {s:CS} {L:Env} (q:eZ si θ s L) {c:CT} {cl:Cell} {v:Value} (g:aB (hp w) R si θ cl v) {K:CS->M β} {nm:Nat}
  (h:(ei nm (.sh c) cl s K).run sc=ã (y,st',l)):gO w0 F R θ w si fps s L K y st' (fun s' ds A=>ax (hp w) (Rl R θ s'.cj) (Bl θ s'.bm) nal L nm (.sh c) ds v A):=by
 have r:=p.rel g;have plain: ∀cl,aB (hp w) R si θ cl v->(∀n aH vw,cl≠ .ob n aH vw)->(∀n aH wv pl f x,cl≠ .gs n aH wv pl f x)->(fv cl (.gd (bP c) (K (s.push ⟨c,eh c⟩))) fun f x=>.opt (dW f c x) fun y=>K (s.push ⟨c,y⟩)).run sc=ã (y,st',l)->
   gO w0 F R θ w si fps s L K y st' (fun s' ds A=>ax (hp w) (Rl R θ s'.cj) (Bl θ s'.bm) nal L nm (.sh c) ds v A):=by
  intro cl g n1 n2 h;have t: ∀ {f:CT} {x:Interp f},bP f=å->aE (hp w) R ä (enc f x) v []->(M.opt (dW f c x) fun y=>K (s.push ⟨c,y⟩)).run sc=ã (y,st',l)->
    gO w0 F R θ w si fps s L K y st' (fun s' ds A=>ax (hp w) (Rl R θ s'.cj) (Bl θ s'.bm) nal L nm (.sh c) ds v A):=by
   intro f x k u h;obtain⟨z,j,h⟩:=M.eO h;obtain⟨e,j⟩:=kA j;subst e;simp only at j;subst j;exact rn p q h (by simp only [ax];exact⟨x,rfl,k,u.mono (fun b hb=>.inl hb),trivial⟩)
  have m: ∀ad,v=.slice ad 0 0->(M.gd (bP c) (K (s.push ⟨c,eh c⟩))).run sc=ã (y,st',l)->
    gO w0 F R θ w si fps s L K y st' (fun s' ds A=>ax (hp w) (Rl R θ s'.cj) (Bl θ s'.bm) nal L nm (.sh c) ds v A):=by
   intro ad e h;obtain⟨k,h⟩:=M.aP h;refine rn p q h ?_
   simp only [ax];refine⟨_,rfl,k, ?_,trivial⟩
   subst e;exact(tf (R:=R) k).share Ż
  cases cl<;>simp only [fv]at h
  case nl=>simp only [aB]at g;exact m â g h
  case z0=>simp only [aB]at g;obtain⟨ad,g⟩:=g;exact m ad g h
  case sh f x=>simp only [aB]at g;exact t g.1 g.2 h
  case lU f x=>simp only [aB]at g;exact t g.1 g.2.1 h
  case ob n aH vw=>exact absurd rfl (n1 n aH vw)
  case gs n aH wv pl f x=>exact absurd rfl (n2 n aH wv pl f x)
  all_goals simp [M.run]at h
 have i: ∀ {f:CT} {x:Interp f} {n:Nat},s.jM=å->bP f=å->aE (hp w) (fun b=>b∈θ.fp n) ä (enc f x) v []-> ∀ {l:Log},(M.opt (dW f c x) fun y=>K {s.push ⟨c,y⟩with cj:=n::s.cj}).run sc=ã (y,st',l)->
   gO w0 F R θ w si fps s L K y st' (fun s' ds A=>ax (hp w) (Rl R θ s'.cj) (Bl θ s'.bm) nal L nm (.sh c) ds v A):=by
  intro f x n hle k u l h;obtain⟨z,j,h⟩:=M.eO h;obtain⟨e,j⟩:=kA j;subst e;simp only at j;subst j;refine⟨{s.push ⟨f,x⟩with cj:=n::s.cj},sc,[],[⟨f,x⟩],l,h,by simpa [Env.fps]using p,rfl,⟨fun _ _ h=>h,fun _ h=>ŏ,rfl,fun h=>by rw [hle]at h;cases h⟩,by simpa using (⟨q.used,q.bm,q.inj⟩:eZ si θ {s.push ⟨f,x⟩with cj:=n::s.cj} L), ?_⟩
  simp only [ax];exact⟨x,rfl,k,u.mono (fun b hb=>.inr ⟨n,Ż,hb⟩),trivial⟩
 cases cl<;>simp only [ei]at h
 case ob n aH vw=>
  obtain⟨hle,h⟩:=M.aP h;simp only [fv]at h;obtain⟨l1,h⟩:=M.fR h;cases hd:(sc.ar n).bj with
  |none=>simp [hd,M.run]at h
  |some d=>
   simp only [hd]at h;obtain⟨hv,h⟩:=M.aP h;obtain⟨ah,h⟩:=M.aP h;obtain⟨q1,q2, -, -⟩:=vW p.inv r hd (À hv) ah;exact i hle q1 q2 h
 case gs n aH wv pl f x=>
  obtain⟨hle,h⟩:=M.aP h;obtain⟨d,l1,hd,hv,hw,h⟩:=GM h;obtain⟨k,u⟩:=zZ r hd hv hw;exact i hle k u h
 all_goals exact plain _ g Ż Ż h
theorem afW (_:Inv w0 F R si θ w) (i:bL w0 F R θ w si sc fps) {s:CS} {L:Env} (f:eZ si θ s L) {c:CT} {cl:Cell} {v:Value} (p:aB (hp w) R si θ cl v) {K:CS->M β} {nm:Nat}
  (h:(ei nm (.own c) cl s K).run sc=ã (y,st',l)):gO w0 F R θ w si fps s L K y st' (fun s' ds A=>ax (hp w) (Rl R θ s'.cj) (Bl θ s'.bm) nal L nm (.own c) ds v A):=by
 have ae:=i.rel p;have j: ∀ad,v=.slice ad 0 0-> ∀ {l:Log},(M.gd (bP c) (K (s.push ⟨c,eh c⟩))).run sc=ã (y,st',l)->
   gO w0 F R θ w si fps s L K y st' (fun s' ds A=>ax (hp w) (Rl R θ s'.cj) (Bl θ s'.bm) nal L nm (.own c) ds v A):=by
  intro ad e l h;obtain⟨hs,h⟩:=M.aP h;refine⟨s.push ⟨c,eh c⟩,sc,[(nm,v,[])],[⟨c,eh c⟩],l,h,by simpa [Env.fps]using i,rfl,⟨fun _ _ h=>h,fun _ h=>h,rfl,fun _=>rfl⟩,⟨fun m n v wv hu=> ?_,f.bm,f.inj⟩, ?_⟩
  .obtain⟨k1,k2,k3,q⟩:=f.used m n v wv hu
   exact⟨k1,k2,k3,Ě⟩
  .simp only [ax]
   subst e;exact⟨_,[],rfl,hs,tf hs,rfl⟩
 cases cl<;>simp only [ei]at h
 case nl=>simp only [aB]at p;exact j â p h
 case z0=>simp only [aB]at p;obtain⟨ad,p⟩:=p;exact j ad p h
 case ob n aH vw=>
  obtain⟨l1,h⟩:=M.fR h;simp only [mV]at h;obtain⟨l2,h⟩:=M.fR h;cases hd:(sc.ar n).bj with
  |none=>simp [hd,M.run]at h
  |some d=>
   simp only [hd]at h;obtain⟨hv,h⟩:=M.aP h;obtain⟨al,h⟩:=M.aP h;have hv:=À hv;obtain⟨l3,h⟩:=M.pK h;obtain⟨z,t,h⟩:=M.eO h;obtain⟨u,r1,r2,r3,r4⟩:=QY i.inv ae hd hv al;obtain⟨e,t⟩:=kA t;subst e;simp only at t;subst t;obtain⟨i1,i2,i3⟩:=i.inv.kill hd ((sc.ar n).aH+1) 0 (.inl ž)
   have r:bL w0 F R θ w sc {sc with ar:=aS sc.ar n ⟨(sc.ar n).aH+1,0,â⟩} u:=by
    refine⟨i1,i2,rfl,rfl,fun k=> ?_,r2,fun g hg=>.inr ⟨n,š,r3 g hg⟩,fun g hg=>i3.free g (r3 g hg)⟩
    by_cases e:k=n
    .subst e;right;simp [bC]
    .left;simp [aY _ _ e]
   have af:si.ar n=sc.ar n:=((i.rm n).resolve_right (fun e=>by simp [hd]at e)).symm
   refine⟨_,_,[(nm,v,u)],[⟨d.c,cz d.c vw d.x⟩],l3,h,by simpa [Env.fps]using i.trans r,rfl,⟨fun _ _ h=>h,fun _ h=>h,rfl,fun _=>rfl⟩,⟨fun m n' v' wv hu=> ?_,f.bm,f.inj⟩, ?_⟩
   .cases vw with
    |some _=>
     obtain⟨k1,k2,k3,q⟩:=f.used m n' v' wv hu;exact⟨k1,k2,k3,Ě⟩
    |none=>
     simp only [Option.isNone_none,Y,lX,Ö,Õ]at hu;rcases hu with⟨h1,h2,h3,h4⟩|hu
     .have h1:=À h1
      have h2:=À h2;have h3:=À h3;have h4:=À h4;subst h1 h2 h3 h4;rw [af];refine⟨š,hv.symm,rfl, ?_⟩
      obtain⟨r5,r6⟩:=r4 rfl;rw [<-r5,<-r6];simp
     .obtain⟨k1,k2,k3,q⟩:=f.used m n' v' wv hu
      exact⟨k1,k2,k3,Ě⟩
   .simp only [ax]
    exact⟨_,u,rfl,(i.inv.ar n d hd).1,r1.mono (fun b hb=>.inl hb),rfl⟩
 case gs n aH wv pl c' x=>
  obtain⟨z,st2,u,l1,h,r,hs,t⟩:=vX i.inv ae h;refine⟨_,_,[(nm,v,u)],[⟨c,z⟩],l1,h,by simpa [Env.fps]using i.trans r,rfl,⟨fun _ _ h=>h,fun _ h=>h,rfl,fun _=>rfl⟩,⟨fun m n' v' wv hu=> ?_,f.bm,f.inj⟩, ?_⟩
  .obtain⟨k1,k2,k3,q⟩:=f.used m n' v' wv hu
   exact⟨k1,k2,k3,Ě⟩
  .simp only [ax]
   exact⟨z,u,rfl,hs,t.mono (fun b hb=>.inl hb),rfl⟩
 all_goals simp [M.run]at h
end
end Go.Ev
namespace Go.Ev
section
variable {w0 w:World} {F R:Nat→Prop} {si:St} {θ:Asg} {β:Type} {y:β}
theorem afX {nal:Bool} {sc st':St} {l:Log} {fps:List Nat} (tk:bL w0 F R θ w si sc fps) {s:CS} {L:Env} (u:eZ si θ s L) {m off b j:Nat} {v:Value} (z:aB (hp w) R si θ (.pb b j) v) {K:CS->M β} {nm:Nat}
  (h:(ei nm (.pb m off) (.pb b j) s K).run sc=ã (y,st',l)):gO w0 F R θ w si fps s L K y st' (fun s' ds A=>ax (hp w) (Rl R θ s'.cj) (Bl θ s'.bm) nal L nm (.pb m off) ds v A):=by
 simp only [ei]at h;obtain⟨ho,d⟩:=M.aP h;clear h;have ho:=À ho;subst ho;have h:=d;clear d;simp only [aB]at z;split at h
 .rename_i b' hb
  obtain⟨he,d⟩:=M.aP h;clear h;have he:=À he;subst he;refine kD tk u d ?_
  simp only [ax];exact⟨trivial,trivial,_,⟨b,hb,rfl⟩,z.2⟩
 .rename_i hb
  obtain⟨k,h⟩:=M.aP h;have k:vE b s.bm=ä:=ý
  have f: ∀m',look m' ((m,b)::s.bm)=cond (Χ m m') (ã b) (look m' s.bm):=fun _=>rfl
  have p: ∀m' b',look m' s.bm=ã b'->look m' ((m,b)::s.bm)=ã b':=fun m' b' g=>by
   rw [f];cases i:Χ m m' with
   |true=>rw [<-À i,hb]at g;cases g
   |false=>exact g
  refine⟨{s with bm:=(m,b)::s.bm},sc,[],[],l,h,by simpa [Env.fps]using tk,rfl,⟨p,fun _ h=>h,rfl,fun _=>rfl⟩, ?_, ?_⟩
  .rw [Ε]
   refine⟨u.used,fun m' b' g=> ?_,fun m1 m2 b' q d=> ?_⟩
   .simp only [f]at g
    cases i:Χ m m' with
    |true=>simp only [i,Y,Ê]at g;subst g;exact .inl z.1
    |false=>simp only [i,ez]at g;exact u.bm m' b' g
   .simp only [f]at q d
    cases r:Χ m m1<;>cases t:Χ m m2<;>simp only [r,t,Y,ez,Ê]at q d
    .exact u.inj m1 m2 b' q d
    .subst d;rw [GW q]at k;cases k
    .subst q;rw [GW d]at k;cases k
    .rw [<-À r,<-À t]
  .simp only [ax]
   refine⟨trivial,trivial,_,⟨b, ?_,rfl⟩,z.2⟩
   rw [f,π];rfl
mutual
theorem Af (q:Inv w0 F R si θ w): ∀(k:CK) {sc st':St} {l:Log} {fps:List Nat} {s:CS} {L:Env} {cl:Cell} {v:Value} {K:CS->M β} {nm:Nat},bL w0 F R θ w si sc fps->eZ si θ s L->aB (hp w) R si θ cl v->
  (ei nm k cl s K).run sc=ã (y,st',l)->gO w0 F R θ w si fps s L K y st' (fun s' ds A=>ax (hp w) (Rl R θ s'.cj) (Bl θ s'.bm) ä L nm k ds v A)
 |.undef,sc,st',l,fps,s,L,cl,v,K,nm,p,i,g,h=>by
  simp only [ei]at h;exact kD p i h ï
 |.bool,sc,st',l,fps,s,L,cl,v,K,nm,p,i,g,h=>by
  cases cl<;>simp only [ei]at h<;>try (simp [M.run]at h;done)
  simp only [aB]at g;exact rn p i h ú
 |.int k,sc,st',l,fps,s,L,cl,v,K,nm,p,i,g,h=>by
  cases cl<;>simp only [ei]at h<;>try (simp [M.run]at h;done)
  obtain⟨hk,h2⟩:=M.aP h;clear h;have hk:=of_decide_eq_true hk;subst hk;have h:=h2;clear h2;simp only [aB]at g;exact rn p i h (by simp only [ax];exact⟨_,rfl,by rw [vY g.2];exact g.1,by rw [vY g.2];exact g.2,trivial⟩)
 |.str,sc,st',l,fps,s,L,cl,v,K,nm,p,i,g,h=>by
  cases cl<;>simp only [ei]at h<;>try (simp [M.run]at h;done)
  simp only [aB]at g;exact rn p i h (by simp only [ax];exact⟨_,rfl,g.1,g.2,trivial⟩)
 |.er,sc,st',l,fps,s,L,cl,v,K,nm,p,i,g,h=>by
  cases cl<;>simp only [ei]at h<;>try (simp [M.run]at h;done)
  simp only [aB]at g;exact rn p i h ú
 |.sh c,sc,st',l,fps,s,L,cl,v,K,nm,p,i,g,h=>afV q p i g h
 |.own c,sc,st',l,fps,s,L,cl,v,K,nm,p,i,g,h=>afW q p i g h
 |.nl,sc,st',l,fps,s,L,cl,v,K,nm,p,i,g,h=>by
  cases cl<;>simp only [ei]at h<;>try (simp [M.run]at h;done)
  simp only [aB]at g;exact kD p i h Ł
 |.al m,sc,st',l,fps,s,L,cl,v,K,nm,p,i,g,h=>by
  cases cl with
  |ob n aH vw=>
   cases vw with
   |some _=>simp [ei,M.run]at h
   |none=>
    simp only [ei]at h;obtain⟨hu,h⟩:=M.aP h;obtain⟨wv,hu⟩:=QZ hu;obtain⟨k1,k2,k3,k4⟩:=i.used m n aH wv hu;simp only [aB]at g;have hv:=g.2 k2.symm k1;subst hv;exact kD p i h (by simp only [ax];exact⟨trivial,trivial,trivial,_,k4⟩)
  |_=>simp [ei,M.run]at h
 |.gs m c,sc,st',l,fps,s,L,cl,v,K,nm,p,i,g,h=>by
  cases cl<;>simp only [ei]at h<;>try (simp [M.run]at h;done)
  rename_i n aH wv pl c' x;obtain⟨hu,h⟩:=M.aP h;obtain⟨z,hz,h⟩:=M.eO h;obtain⟨e,hz⟩:=kA hz;subst e;simp only at hz;subst hz;obtain⟨k1,k2,k3,k4⟩:=i.used m n aH wv hu;obtain⟨d,hd⟩:=Ô.1 k1;obtain⟨q1,q2⟩:=zZ g hd k2.symm k3.symm;exact rn p i h (by simp only [ax];exact⟨trivial,trivial,x,_,_,rfl,q1,k4,q2⟩)
 |.pb m off,sc,st',l,fps,s,L,cl,v,K,nm,p,i,g,h=>by
  cases cl with
  |pb b a1=>exact afX p i g h
  |_=>simp [ei,M.run]at h
 |.ff,sc,st',l,fps,s,L,cl,v,K,nm,p,i,g,h=>by
  cases cl<;>simp only [ei]at h<;>try (simp [M.run]at h;done)
  simp only [aB]at g;exact kD p i h Ł
 |.fE,sc,st',l,fps,s,L,cl,v,K,nm,p,i,g,h=>by
  cases cl<;>simp only [ei]at h<;>try (simp [M.run]at h;done)
  simp only [aB]at g;exact kD p i h Ł
 |.fn f a b,sc,st',l,fps,s,L,cl,v,K,nm,p,i,g,h=>by
  cases cl<;>simp only [ei]at h<;>try (simp [M.run]at h;done)
  rename_i f' a' b';obtain⟨hf,h2⟩:=M.aP h;clear h;have hf:=À hf;subst hf;have h:=h2;clear h2;simp only [aB]at g;obtain⟨va,vb,rfl,ha,hb⟩:=g;obtain⟨s1,aj,A1,d1,l1,h,r,e1,x1,c1,r1⟩:=rp q a p i ha h;obtain⟨s2,t,A2,d2,l2,h,u,e2,x2,c2,r2⟩:=rp q b r c1 hb h;refine⟨s2,t,A1++A2,d1++d2,l2,h,by rw [Env.dm,<-Á];exact u,ā,x1.trans x2,ş, ?_⟩
  simp only [ax];exact⟨va,vb,d1,d2,A1,A2,rfl,rfl,rfl,r1.mono x2.rl x2.bl,r2⟩
theorem rp (q:Inv w0 F R si θ w): ∀(ks:List CK) {sc st':St} {l:Log} {fps:List Nat} {s:CS} {L:Env} {cs:List Cell} {vs:List Value} {K:CS->M β} {nm:Nat->Nat} {j:Nat},bL w0 F R θ w si sc fps->eZ si θ s L->aJ (hp w) R si θ cs vs->
  (lh nm j ks cs s K).run sc=ã (y,st',l)->gO w0 F R θ w si fps s L K y st' (fun s' ds A=>bq (hp w) (Rl R θ s'.cj) (Bl θ s'.bm) ä L nm j ks ds vs A)
 | [],sc,st',l,fps,s,L,cs,vs,K,nm,j,p,i,g,h=>by
  cases cs with
  |cons _ _=>simp [lh,M.run]at h
  |nil=>
   simp only [lh]at h;simp only [aJ]at g;exact kD p i h (by simp only [bq];exact⟨trivial,g,trivial⟩)
 |k::ks,sc,st',l,fps,s,L,cs,vs,K,nm,j,p,i,g,h=>by
  cases cs with
  |nil=>simp [lh,M.run]at h
  |cons c cs=>
   simp only [lh]at h;simp only [aJ]at g;obtain⟨v,ay,rfl,hv,az⟩:=g;obtain⟨s1,aj,A1,d1,l1,h,r,e1,x1,c1,r1⟩:=Af q k p i hv.1 h;obtain⟨s2,t,A2,d2,l2,h,u,e2,x2,c2,r2⟩:=rp q ks r c1 az h;refine⟨s2,t,A1++A2,d1++d2,l2,h,by rw [Env.dm,<-Á];exact u,ā,x1.trans x2,ş, ?_⟩
   simp only [bq];exact⟨v,ay,d1,d2,A1,A2,rfl,rfl,rfl,hv.2,r1.mono x2.rl x2.bl,r2⟩
end
theorem Ag (r:Inv w0 F R si θ w): ∀(ks:List bg) {sc st':St} {l:Log} {fps:List Nat} {s:CS} {L:Env} {cs:List TV} {vs:List Value} {K:CS->M β} {nm:Nat->Nat} {j:Nat},bL w0 F R θ w si sc fps->eZ si θ s L->ch (hp w) R si θ cs vs->
  (gN nm j ks cs s K).run sc=ã (y,st',l)->gO w0 F R θ w si fps s L K y st' (fun s' ds A=>cp (hp w) (Rl R θ s'.cj) (Bl θ s'.bm) ä L nm j ks ds vs A)
 | [],sc,st',l,fps,s,L,cs,vs,K,nm,j,t,u,z,h=>by
  cases cs with
  |cons _ _=>simp [gN,M.run]at h
  |nil=>
   simp only [gN]at h;simp only [ch]at z;exact kD t u h (by simp only [cp];exact⟨trivial,z,trivial⟩)
 |k::ks,sc,st',l,fps,s,L,cs,vs,K,nm,j,t,u,z,h=>by
  cases cs with
  |nil=>cases k<;>simp [gN,M.run]at h
  |cons c cs=>
   simp only [ch]at z;obtain⟨v,i,rfl,m,p⟩:=z;cases k with
   |aM _=>simp [gN,M.run]at h
   |agg f=>
    cases c with
    |one _=>simp [gN,M.run]at h
    |aM _=>simp [gN,M.run]at h
    |agg cc=>
     simp only [gN]at h;simp only [aV]at m;obtain⟨arr,rfl,m⟩:=m;obtain⟨s1,aj,A1,d1,l1,h,q,e1,x1,c1,r1⟩:=rp r f t u m h;obtain⟨s2,b,A2,d2,l2,h,d,e2,g,c2,r2⟩:=Ag r ks q c1 p h;refine⟨s2,b,A1++A2,d1++d2,l2,h,by rw [Env.dm,<-Á];exact d,ā,x1.trans g,ş, ?_⟩
     simp only [cp];exact⟨arr,i,d1,d2,A1,A2,rfl,rfl,rfl,r1.mono g.rl g.bl,r2⟩
   |one f=>
    have ah:f=.undef->(gN nm (j+1) ks cs s K).run sc=ã (y,st',l):=fun e=>by
     subst e;simpa only [gN]using h
    by_cases hk:f=.undef
    .have h':=ah hk
     clear h ah;subst hk;obtain⟨s2,b,A2,d2,l2,h,d,e2,g,c2,r2⟩:=Ag r ks t u p h';refine⟨s2,b,A2,d2,l2,h,d,e2,g,c2, ?_⟩
     simp only [cp];exact⟨v,i,[],d2,[],A2,rfl,rfl,rfl,.inl trivial,ï,by simpa using r2⟩
    .cases c with
     |agg _=>cases f<;>simp [gN,M.run]at h hk
     |aM _=>cases f<;>simp [gN,M.run]at h hk
     |one cc=>
      have h':(ei (nm j) f cc s fun s=>gN nm (j+1) ks cs s K).run sc=ã (y,st',l):=by
       cases f<;>first|exact absurd rfl hk|simpa only [gN]using h
      simp only [aV]at m;obtain⟨s1,aj,A1,d1,l1,h,q,e1,x1,c1,r1⟩:=Af r f t u m.1 h';obtain⟨s2,b,A2,d2,l2,h,d,e2,g,c2,r2⟩:=Ag r ks q c1 p h;refine⟨s2,b,A1++A2,d1++d2,l2,h,by rw [Env.dm,<-Á];exact d,ā,x1.trans g,ş, ?_⟩
      simp only [cp];refine⟨v,i,d1,d2,A1,A2,rfl,rfl,rfl, ?_,r1.mono g.rl g.bl,r2⟩
      rcases m.2 with e|e
      .subst e
       cases f<;>first|exact absurd rfl hk|simp [ei,fv,M.run]at h'
      .exact .inr e
theorem Ah (t:Inv w0 F R si θ w) (k:bg) {sc st':St} {l:Log} {fps:List Nat} {s:CS} {L:Env} {c:TV} {v:Value} {K:CS->M β} {nm:Nat->Nat} (q:bL w0 F R θ w si sc fps) (r:eZ si θ s L) (b:aV (hp w) R si θ c v)
  (h:(jN nm k c s K).run sc=ã (y,st',l)):gO w0 F R θ w si fps s L K y st' (fun s' ds A=>bU (hp w) (Rl R θ s'.cj) (Bl θ s'.bm) ä L nm k ds v A):=by
 cases k with
 |aM ks=>
  cases c with
  |one _=>simp [jN,M.run]at h
  |agg _=>simp [jN,M.run]at h
  |aM cs=>
   simp only [jN]at h;simp only [aV]at b;obtain⟨arr,rfl,b⟩:=b;obtain⟨s1,d,A1,d1,i,h,f,j,m,c1,p⟩:=Ag t ks q r b h;exact⟨s1,d,A1,d1,i,h,f,j,m,c1,by simp only [bU];exact⟨arr,rfl,p⟩⟩
 |agg ks=>
  cases c with
  |one _=>simp [jN,M.run]at h
  |aM _=>simp [jN,M.run]at h
  |agg cs=>
   simp only [jN]at h;simp only [aV]at b;obtain⟨arr,rfl,b⟩:=b;obtain⟨s1,d,A1,d1,i,h,f,j,m,c1,p⟩:=rp t ks q r b h;exact⟨s1,d,A1,d1,i,h,f,j,m,c1,by simp only [bU];exact⟨arr,rfl,p⟩⟩
 |one g=>
  by_cases hk:g=.undef
  .subst hk
   simp only [jN]at h;exact kD q r h (by simp only [bU,ax];exact⟨.inl trivial,trivial,trivial⟩)
  .cases c with
   |agg _=>cases g<;>simp [jN,M.run]at h hk
   |aM _=>cases g<;>simp [jN,M.run]at h hk
   |one z=>
    have u:(ei (nm 0) g z s K).run sc=ã (y,st',l):=by
     cases g<;>first|exact absurd rfl hk|simpa only [jN]using h
    simp only [aV]at b;obtain⟨s1,d,A1,d1,i,h,f,j,m,c1,p⟩:=Af t g q r b.1 u;refine⟨s1,d,A1,d1,i,h,f,j,m,c1, ?_⟩
    simp only [bU];refine⟨?_,p⟩
    rcases b.2 with e|e
    .subst e
     cases g<;>first|exact absurd rfl hk|simp [ei,fv,M.run]at u
    .exact .inr e
end
end Go.Ev
namespace Go.Ev
theorem rq {c:CT} {x z:Interp c} (h:dW c c x=ã z):x=z:=by
 obtain⟨e,h⟩:=kA h;exact h
def St.cW (s:St) (Bb:Nat->Option (List Cell)):St:={s with boxes:=Bb}
structure jl (w0:World) (F R:Nat->Prop) (B:Nat->Nat->Prop) (nal:Bool) (Bb:Nat->Option (List Cell)) (w:World) (su:St) (θ:Asg) (L:Env):Prop where
 inv:Inv w0 F R (su.cW Bb) θ w
 env:nal=ä-> ∀e∈L,(su.ar e.1).bj.isSome=å/\θ.ob e.1=e.2.1/\θ.fp e.1=e.2.2
 bx: ∀m g,B m g->(su.boxes m).isSome=å->(Bb m).isSome=å/\θ.bx m=g
structure fy (w0:World) (F:Nat->Prop) (st:St) (θ:Asg) (fps:List Nat):Prop where
 nodup:fps.Nodup
 free: ∀g∈fps,¬cQ st θ g/\(F g\/w0.heap.size<=g)
section
variable {w0 w:World} {F R:Nat→Prop} {B:Nat→Nat→Prop} {nal:Bool} {Bb:Nat→Option (List Cell)} {β γ:Type}
def tg (w0:World) (F R:Nat->Prop) (B:Nat->Nat->Prop) (nal:Bool) (Bb:Nat->Option (List Cell)) (w:World) (su:St) (θ:Asg) (L A:Env) (K:γ->List DV->M β) (rest:List DV) (y:β) (st':St) (rel:St->Asg->γ->Prop):Prop:=
 ∃x b θ' d,(K x rest).run b=ã (y,st',d)/\b.boxes=su.boxes/\b.tmps=su.tmps/\jl w0 F R B nal Bb w b θ' (L++A)/\
  Step R (su.cW Bb) θ (hp w) (b.cW Bb) θ' (hp w)/\rel b θ' x/\θ'.bx=θ.bx/\ ∀g,cQ (b.cW Bb) θ' g->cQ (su.cW Bb) θ g\/g∈A.fps
theorem jm {su st':St} {θ:Asg} {L:Env} {K:γ->List DV->M β} {rest:List DV} {y:β} {l:Log} {rel:St->Asg->γ->Prop} {x:γ} (hu:jl w0 F R B nal Bb w su θ L) (h:(K x rest).run su=ã (y,st',l)) (b:rel su θ x):
  tg w0 F R B nal Bb w su θ L [] K rest y st' rel:=
 ⟨x,su,θ,l,h,rfl,rfl,by simpa using hu,Step.refl _ _ _ _,b,rfl,fun _ h=>.inl h⟩
theorem fy.split {st st1:St} {θ θ1:Asg} {A1 A2:Env} (h:fy w0 F st θ (Env.fps (A1++A2))) (i: ∀g,cQ st1 θ1 g->cQ st θ g\/g∈A1.fps):fy w0 F st1 θ1 A2.fps:=by
 rw [Env.dm]at h;obtain⟨m,j,k⟩:=Ä.1 h.nodup;refine⟨j,fun g b=>⟨fun d=> ?_,(h.free g ũ).2⟩⟩
 rcases i g d with f|f
 .exact(h.free g ũ).1 f
 .exact k g f g b rfl
theorem fy.left {st:St} {θ:Asg} {A1 A2:Env} (h:fy w0 F st θ (Env.fps (A1++A2))):fy w0 F st θ A1.fps:=by
 rw [Env.dm]at h;exact⟨(Ä.1 h.nodup).1,fun g b=>h.free g ũ⟩
theorem afY {su st':St} {θ:Asg} {L:Env} {c:CT} {x:Interp c} {v:Value} {fp:List Nat} {nm:Nat} {K:Cell->List DV->M β} {rest:List DV} {y:β} {l:Log} (hu:jl w0 F R B nal Bb w su θ L) (q:bP c=å) (r:aE (hp w) R å (enc c x) v fp)
  (m:fy w0 F (su.cW Bb) θ fp) (h:(gm nm c x fun v=>K v rest).run su=ã (y,st',l)):
  tg w0 F R B nal Bb w su θ L [(nm,v,fp)] K rest y st' (fun i θ' cl=>aB (hp w) R (i.cW Bb) θ' cl v):=by
 obtain⟨p,s,h⟩:=QN h;obtain⟨t,i2⟩:=hu.inv.newObj (k:=nm) (d:=⟨c,x⟩) (hd:=v) (fp:=fp) (w':=w) p q ((su.ar nm).aH+1) 0 (Nat.lt_succ_self _) (Ò _) rfl rfl rfl (fun _ _ _=>rfl) r m.nodup m.free
 refine⟨_,_,{θ with ob:=aS θ.ob nm v,fp:=aS θ.fp nm fp},s,h,rfl,rfl,⟨t,fun u e he=> ?_,hu.bx⟩,i2, ?_,rfl,fun g f=> ?_⟩
 .rcases Ã.1 he with he|he
  .obtain⟨k1,k2,k3⟩:=hu.env u e he
   have j:e.1≠nm:=fun z=>by rw [z,p]at k1;cases k1
   simp only [aY _ _ j];exact⟨k1,k2,k3⟩
  .simp only [List.mem_singleton]at he
   subst he;simp [bC]
 .simp [aB,St.cW,bC]
 .rcases f with⟨b,hb,e⟩|⟨k,hk,f⟩
  .exact .inl (.inl ⟨b,hb,e⟩)
  .by_cases e:k=nm
   .subst e;simp only [bC]at f;right;simpa [Env.fps]using f
   .simp only [St.cW,aY _ _ e]at hk f
    exact .inl (.inr ⟨k,hk,f⟩)
mutual
theorem GX: ∀(k:CK) {su st':St} {θ:Asg} {L:Env} {nm:Nat} {ds rest:List DV} {v:Value} {A:Env} {K:Cell->List DV->M β} {y:β} {l:Log},jl w0 F R B nal Bb w su θ L->ax (hp w) R B nal L nm k ds v A->fy w0 F (su.cW Bb) θ A.fps->
  (fQ nm k (ds++rest) K).run su=ã (y,st',l)->tg w0 F R B nal Bb w su θ L A K rest y st' (fun s θ' cl=>aB (hp w) R (s.cW Bb) θ' cl v)
 |.undef,su,st',θ,L,nm,ds,rest,v,A,K,y,l,hu,hk,p,h=>by
  simp only [ax]at hk;obtain⟨rfl,rfl⟩:=hk;simp only [Â,fQ]at h;exact jm hu h Ś
 |.bool,su,st',θ,L,nm,ds,rest,v,A,K,y,l,hu,hk,p,h=>by
  simp only [ax]at hk;obtain⟨x,rfl,rfl,rfl⟩:=hk;simp only [Ó,Â,fQ]at h;obtain⟨z,q,h⟩:=M.eO h;obtain rfl:=rq q;exact jm hu h Ś
 |.int k,su,st',θ,L,nm,ds,rest,v,A,K,y,l,hu,hk,p,h=>by
  simp only [ax]at hk;obtain⟨x,rfl,rfl,r,rfl⟩:=hk;simp only [Ó,Â,fQ]at h;obtain⟨z,q,h⟩:=M.eO h;obtain rfl:=rq q;exact jm hu h (by simp only [aB];exact⟨trivial,r⟩)
 |.str,su,st',θ,L,nm,ds,rest,v,A,K,y,l,hu,hk,p,h=>by
  simp only [ax]at hk;obtain⟨x,rfl,rfl,r,rfl⟩:=hk;simp only [Ó,Â,fQ]at h;obtain⟨z,q,h⟩:=M.eO h;obtain rfl:=rq q;exact jm hu h (by simp only [aB];exact⟨trivial,r⟩)
 |.er,su,st',θ,L,nm,ds,rest,v,A,K,y,l,hu,hk,p,h=>by
  simp only [ax]at hk;obtain⟨x,rfl,r,rfl⟩:=hk;simp only [Ó,Â,fQ]at h;obtain⟨z,q,h⟩:=M.eO h;obtain rfl:=rq q;exact jm hu h (by simp only [aB];exact r)
 |.sh c,su,st',θ,L,nm,ds,rest,v,A,K,y,l,hu,hk,p,h=>by
  simp only [ax]at hk;obtain⟨x,rfl,hs,r,rfl⟩:=hk;simp only [Ó,Â,fQ]at h;obtain⟨z,q,h⟩:=M.eO h;obtain rfl:=rq q;exact jm hu h (by simp only [aB];exact⟨hs,r⟩)
 |.own c,su,st',θ,L,nm,ds,rest,v,A,K,y,l,hu,hk,p,h=>by
  simp only [ax]at hk;obtain⟨x,fp,rfl,hs,r,rfl⟩:=hk;simp only [Ó,Â,fQ]at h;obtain⟨z,q,h⟩:=M.eO h;obtain rfl:=rq q;exact afY hu hs r (by simpa [Env.fps]using p) h
 |.nl,su,st',θ,L,nm,ds,rest,v,A,K,y,l,hu,hk,p,h=>by
  simp only [ax]at hk;obtain⟨rfl,rfl,rfl⟩:=hk;simp only [Â,fQ]at h;exact jm hu h Ś
 |.al m,su,st',θ,L,nm,ds,rest,v,A,K,y,l,hu,hk,p,h=>by
  simp only [ax]at hk;obtain⟨hn,rfl,rfl,fp,hm⟩:=hk;simp only [Â,fQ]at h;obtain⟨l1,h⟩:=M.fR h;obtain⟨i,h⟩:=M.aP h;simp only [Õ]at i;have hv:=À i.2;obtain⟨k1,k2,k3⟩:=hu.env hn _ hm;refine jm hu h ?_
  simp only [aB,St.cW];exact⟨ο hv.symm,fun _ _=>k2.symm⟩
 |.gs m c,su,st',θ,L,nm,ds,rest,v,A,K,y,l,hu,hk,p,h=>by
  simp only [ax]at hk;obtain⟨hn,rfl,x,hd,fp,rfl,hs,hm,r⟩:=hk;simp only [Ó,Â,fQ]at h;obtain⟨z,q,h⟩:=M.eO h;obtain rfl:=rq q;obtain⟨l1,h⟩:=M.fR h;obtain⟨i,h⟩:=M.aP h;simp only [Õ]at i;have hv:=À i.2.1;obtain⟨k1,k2,k3⟩:=hu.env hn _ hm;refine jm hu h ?_
  simp only [aB,St.cW];refine⟨hs,ο hv.symm,fun _=>⟨Τ _,fun _ d _=>⟨?_,Ż⟩⟩⟩
  simp only at k3;rw [k3];exact r
 |.pb m off,su,st',θ,L,nm,ds,rest,v,A,K,y,l,hu,hk,p,h=>by
  simp only [ax]at hk;obtain⟨rfl,rfl,g,hb,rfl⟩:=hk;simp only [Â,fQ]at h;obtain⟨cs,l1,ai,h⟩:=M.nY h;obtain⟨k1,k2⟩:=hu.bx m g hb (by simp [ai])
  refine jm hu h ?_
  simp only [aB,St.cW];exact⟨k1,by rw [k2]⟩
 |.ff,su,st',θ,L,nm,ds,rest,v,A,K,y,l,hu,hk,p,h=>by
  simp only [ax]at hk;obtain⟨rfl,rfl,rfl⟩:=hk;simp only [Â,fQ]at h;exact jm hu h Ś
 |.fE,su,st',θ,L,nm,ds,rest,v,A,K,y,l,hu,hk,p,h=>by
  simp only [ax]at hk;obtain⟨rfl,rfl,rfl⟩:=hk;simp only [Â,fQ]at h;exact jm hu h Ś
 |.fn f a b,su,st',θ,L,nm,ds,rest,v,A,K,y,l,hu,hk,p,h=>by
  simp only [ax]at hk;obtain⟨va,vb,d1,d2,A1,A2,rfl,rfl,rfl,h1,h2⟩:=hk;simp only [fQ,Á]at h;obtain⟨xs,ao,θ1,l1,h,b1,t1,u1,s1,r1,x1,o1⟩:=rz a hu h1 p.left h;obtain⟨ys,t,u,l2,h,b2,t2,u2,s2,r2,x2,o2⟩:=rz b u1 h2 (p.split o1) h;refine⟨.fn f xs ys,t,u,l2,h,b2.trans b1,t2.trans t1,by rw [<-Á];exact u2,s1.trans s2, ?_,x2.trans x1,fun g i=> ?_⟩
  .simp only [aB]
   exact⟨va,vb,rfl,aJ.step s2 _ _ r1,r2⟩
  .rw [Env.dm]
   rcases o2 g i with i|i
   .rcases o1 g i with i|i
    .exact .inl i
    .exact .inr Ĥ
   .exact .inr Ĥ
theorem rz: ∀(ks:List CK) {su st':St} {θ:Asg} {L:Env} {nm:Nat->Nat} {j:Nat} {ds rest:List DV} {vs:List Value} {A:Env} {K:List Cell->List DV->M β} {y:β} {l:Log},jl w0 F R B nal Bb w su θ L->bq (hp w) R B nal L nm j ks ds vs A->fy w0 F (su.cW Bb) θ A.fps->
  (mX nm j ks (ds++rest) K).run su=ã (y,st',l)->tg w0 F R B nal Bb w su θ L A K rest y st' (fun s θ' cs=>aJ (hp w) R (s.cW Bb) θ' cs vs)
 | [],su,st',θ,L,nm,j,ds,rest,vs,A,K,y,l,hu,hk,p,h=>by
  simp only [bq]at hk;obtain⟨rfl,rfl,rfl⟩:=hk;simp only [Â,mX]at h;exact jm hu h (by simp [aJ])
 |k::ks,su,st',θ,L,nm,j,ds,rest,vs,A,K,y,l,hu,hk,p,h=>by
  simp only [bq]at hk;obtain⟨v,bb,d1,d2,A1,A2,rfl,rfl,rfl,h0,h1,h2⟩:=hk;simp only [mX,Á]at h;obtain⟨x,ao,θ1,l1,h,b1,t1,u1,s1,r1,x1,o1⟩:=GX k hu h1 p.left h;obtain⟨ys,t,u,l2,h,b2,t2,u2,s2,r2,x2,o2⟩:=rz ks u1 h2 (p.split o1) h;refine⟨x::ys,t,u,l2,h,b2.trans b1,t2.trans t1,by rw [<-Á];exact u2,s1.trans s2, ?_,x2.trans x1,fun g i=> ?_⟩
  .simp only [aJ]
   exact⟨v,bb,rfl,⟨aB.step s2 _ _ r1,h0⟩,r2⟩
  .rw [Env.dm]
   rcases o2 g i with i|i
   .rcases o1 g i with i|i
    .exact .inl i
    .exact .inr Ĥ
   .exact .inr Ĥ
end
theorem Ai: ∀(ks:List bg) {su st':St} {θ:Asg} {L:Env} {nm:Nat->Nat} {j:Nat} {ds rest:List DV} {vs:List Value} {A:Env} {K:List TV->List DV->M β} {y:β} {l:Log},jl w0 F R B nal Bb w su θ L->cp (hp w) R B nal L nm j ks ds vs A->fy w0 F (su.cW Bb) θ A.fps->
  (qV nm j ks (ds++rest) K).run su=ã (y,st',l)->tg w0 F R B nal Bb w su θ L A K rest y st' (fun ah θ' cs=>ch (hp w) R (ah.cW Bb) θ' cs vs)
 | [],su,st',θ,L,nm,j,ds,rest,vs,A,K,y,l,hu,hk,m,h=>by
  simp only [cp]at hk;obtain⟨rfl,rfl,rfl⟩:=hk;simp only [Â,qV]at h;exact jm hu h (by simp [ch])
 |.one k::ks,su,st',θ,L,nm,j,ds,rest,vs,A,K,y,l,hu,hk,m,h=>by
  simp only [cp]at hk;obtain⟨v,i,d1,d2,A1,A2,rfl,rfl,rfl,p,q,h2⟩:=hk;simp only [qV,Á]at h;rcases p with p|p
  .subst p
   simp only [ax]at q;obtain⟨rfl,rfl⟩:=q;simp only [Â,fQ]at h;obtain⟨r,d,f,s,h,t,t2,u,s2,z,x2,o2⟩:=Ai ks hu (by simpa using h2) m h
   refine⟨.one .undef::r,d,f,s,h,t,t2,u,s2, ?_,x2,o2⟩
   simp only [ch];exact⟨v,i,rfl,mZ _,z⟩
  .obtain⟨x,ai,θ1,l1,h,b1,t1,u1,s1,r1,x1,o1⟩:=GX k hu q m.left h
   obtain⟨r,d,f,s,h,t,t2,u,s2,z,x2,o2⟩:=Ai ks u1 h2 (m.split o1) h;refine⟨.one x::r,d,f,s,h,t.trans b1,t2.trans t1,by rw [<-Á];exact u,s1.trans s2, ?_,x2.trans x1,fun g b=> ?_⟩
   .simp only [ch,aV]
    exact⟨v,i,rfl,⟨aB.step s2 _ _ r1,.inr p⟩,z⟩
   .rw [Env.dm]
    rcases o2 g b with b|b
    .rcases o1 g b with b|b
     .exact .inl b
     .exact .inr ũ
    .exact .inr ũ
 |.agg kk::ks,su,st',θ,L,nm,j,ds,rest,vs,A,K,y,l,hu,hk,m,h=>by
  simp only [cp]at hk;obtain⟨arr,i,d1,d2,A1,A2,rfl,rfl,rfl,q,h2⟩:=hk;simp only [qV,Á]at h;obtain⟨x,ai,θ1,l1,h,b1,t1,u1,s1,r1,x1,o1⟩:=rz kk hu q m.left h;obtain⟨r,d,f,s,h,t,t2,u,s2,z,x2,o2⟩:=Ai ks u1 h2 (m.split o1) h;refine⟨.agg x::r,d,f,s,h,t.trans b1,t2.trans t1,by rw [<-Á];exact u,s1.trans s2, ?_,x2.trans x1,fun g b=> ?_⟩
  .simp only [ch,aV]
   exact⟨.agg arr,i,rfl,⟨arr,rfl,aJ.step s2 _ _ r1⟩,z⟩
  .rw [Env.dm]
   rcases o2 g b with b|b
   .rcases o1 g b with b|b
    .exact .inl b
    .exact .inr ũ
   .exact .inr ũ
 |.aM _::_,su,st',θ,L,nm,j,ds,rest,vs,A,K,y,l,hu,hk,m,h=>by simp only [cp]at hk
theorem Rb (k:bg) {su st':St} {θ:Asg} {L:Env} {nm:Nat->Nat} {ds rest:List DV} {v:Value} {A:Env} {K:TV->List DV->M β} {y:β} {l:Log} (hu:jl w0 F R B nal Bb w su θ L) (hk:bU (hp w) R B nal L nm k ds v A) (q:fy w0 F (su.cW Bb) θ A.fps)
  (h:(sV nm k (ds++rest) K).run su=ã (y,st',l)):tg w0 F R B nal Bb w su θ L A K rest y st' (fun r θ' c=>aV (hp w) R (r.cW Bb) θ' c v):=by
 cases k with
 |one k=>
  simp only [bU]at hk;obtain⟨d,hk⟩:=hk;simp only [sV]at h;rcases d with d|d
  .subst d
   simp only [ax]at hk;obtain⟨rfl,rfl⟩:=hk;simp only [Â,fQ]at h;exact jm hu h (mZ _)
  .obtain⟨x,b,θ1,f,h,g,t1,i,s1,j,m,p⟩:=GX k hu hk q h
   exact⟨.one x,b,θ1,f,h,g,t1,i,s1,⟨j,.inr d⟩,m,p⟩
 |agg ks=>
  simp only [bU]at hk;obtain⟨arr,rfl,hk⟩:=hk;simp only [sV]at h;obtain⟨x,b,θ1,f,h,g,t1,i,s1,j,m,p⟩:=rz ks hu hk q h;exact⟨.agg x,b,θ1,f,h,g,t1,i,s1,⟨arr,rfl,j⟩,m,p⟩
 |aM ks=>
  simp only [bU]at hk;obtain⟨arr,rfl,hk⟩:=hk;simp only [sV]at h;obtain⟨x,b,θ1,f,h,g,t1,i,s1,j,m,p⟩:=Ai ks hu hk q h;exact⟨.aM x,b,θ1,f,h,g,t1,i,s1,⟨arr,rfl,j⟩,m,p⟩
end
end Go.Ev
namespace Go.Ev
theorem th: ∀xs b:List DV,qZ xs b=xs.reverse++b
 | [],b=>rfl
 |x::xs,b=>by rw [qZ,th xs];simp
section
variable (H:Heap) (R:Nat→Prop) (B:Nat→Nat→Prop) (nal:Bool)
def bY (bl:Nat->Nat):Env->List (Nat×List CK)->List DV->Env->Prop
 |_,[],ds,A=>ds=[]/\A=[]
 |L,(m,ks)::rest,ds,A=> ∃arr ty frz d1 d2 A1 A2,ds=d1++d2/\A=A1++A2/\H (bl m)=ã (.cells arr ty frz)/\gM arr.size frz/\
   bq H R B nal L (pk m) 0 ks d1 arr.toList A1/\bY bl (L++A1) rest d2 A2
def eJ (val:Nat->Value):Env->List (Nat×bg)->List DV->Env->Prop
 |_,[],ds,A=>ds=[]/\A=[]
 |L,(t,k)::rest,ds,A=> ∃d1 d2 A1 A2,ds=d1++d2/\A=A1++A2/\bU H R B nal L (ft t) k d1 (val t) A1/\eJ val (L++A1) rest d2 A2
end
section
variable {H:Heap} {R R':Nat→Prop} {B B':Nat→Nat→Prop} {nal:Bool}
theorem bY.mono (d: ∀b,R b->R' b) (f: ∀m g,B m g->B' m g) {bl:Nat->Nat}: ∀ {bx:List (Nat×List CK)} {L:Env} {ds:List DV} {A:Env},bY H R B nal bl L bx ds A->bY H R' B' nal bl L bx ds A
 | [],_,_,_,h=>h
 |(m,ks)::rest,_,_,_,h=>by
  obtain⟨arr,ty,frz,d1,d2,A1,A2,i,j,k,p,q,r⟩:=h;exact⟨arr,ty,frz,d1,d2,A1,A2,i,j,k,p,q.mono d f,r.mono d f⟩
theorem eJ.mono (d: ∀b,R b->R' b) (f: ∀m g,B m g->B' m g) {val:Nat->Value}: ∀ {ts:List (Nat×bg)} {L:Env} {ds:List DV} {A:Env},eJ H R B nal val L ts ds A->eJ H R' B' nal val L ts ds A
 | [],_,_,_,h=>h
 |(m,ks)::rest,_,_,_,h=>by
  obtain⟨d1,d2,A1,A2,i,j,k,p⟩:=h;exact⟨d1,d2,A1,A2,i,j,k.mono d f,p.mono d f⟩
end
section
variable {w0 w:World} {F R:Nat→Prop} {si:St} {θ:Asg} {β:Type} {y:β}
theorem Rc (p:Inv w0 F R si θ w) (val:Nat->Value): ∀(ks:List bg) {t:Nat} {sc st':St} {l:Log} {fps:List Nat} {s:CS} {L:Env} {cs:List TV} {K:CS->M β},bL w0 F R θ w si sc fps->eZ si θ s L->(∀i c,cs[i]? =ã c->aV (hp w) R si θ c (val (t+i)))->
  (vG t ks cs s K).run sc=ã (y,st',l)->gO w0 F R θ w si fps s L K y st' (fun s' ds A=>eJ (hp w) (Rl R θ s'.cj) (Bl θ s'.bm) ä val L (jk t ks) ds A/\cs.length=ks.length)
 | [],t,sc,st',l,fps,s,L,cs,K,b,d,f,h=>by
  cases cs with
  |cons _ _=>grind [vG,M.run]
  |nil=>
   exact kD b d h ⟨by simp [jk,eJ],rfl⟩
 |k::ks,t,sc,st',l,fps,s,L,cs,K,b,d,f,h=>by
  cases cs with
  |nil=>grind [vG,M.run]
  |cons c cs=>
   obtain⟨s1,q,A1,d1,l1,h,g,e1,r,c1,u⟩:=Ah p k b d (f 0 c rfl) h;obtain⟨s2,j,A2,d2,z,h,ad,e2,m,c2,r2,r3⟩:=Rc p val ks (t:=t+1) g c1 (fun i c' hi=>by
    have:=f (i+1) c' (by assumption)
    grind) h
   refine⟨s2,j,A1++A2,d1++d2,z,h,by simp_all [Env.dm],ť,r.trans m,ť, ?_,Ŵ⟩
   exact⟨d1,d2,A1,A2,rfl,rfl,u.mono m.rl m.bl,r2⟩
theorem Re (j:Inv w0 F R si θ w) (val:Nat->Value) {tmps:Nat->TV} (m: ∀t,aV (hp w) R si θ (tmps t) (val t)): ∀(ks:List (Nat×bg)) {sc st':St} {l:Log} {fps:List Nat} {s:CS} {L:Env} {K:CS->M β},bL w0 F R θ w si sc fps->eZ si θ s L->
  (GB tmps ks s K).run sc=ã (y,st',l)->gO w0 F R θ w si fps s L K y st' (fun s' ds A=>eJ (hp w) (Rl R θ s'.cj) (Bl θ s'.bm) ä val L ks ds A)
 | [],sc,st',l,fps,s,L,K,b,d,h=>by
  exact kD b d h (by simp [eJ])
 |(t,k)::ks,sc,st',l,fps,s,L,K,b,d,h=>by
  obtain⟨s1,p,A1,d1,l1,h,f,e1,q,c1,r⟩:=Ah j k b d (m t) h;obtain⟨s2,g,A2,d2,u,h,z,e2,i,c2,r2⟩:=Re j val m ks f c1 h;refine⟨s2,g,A1++A2,d1++d2,u,h,by simp_all [Env.dm],ť,q.trans i,ť, ?_⟩
  exact⟨d1,d2,A1,A2,rfl,rfl,r.mono i.rl i.bl,r2⟩
def fi (θ:Asg) (bm:List (Nat×Nat)) (m:Nat):Nat:=θ.bx ((look m bm).getD 0)
theorem bY.ext {H:Heap} {B:Nat->Nat->Prop} {nal:Bool} {bl ln:Nat->Nat}: ∀ {bx:List (Nat×List CK)} {L:Env} {ds:List DV} {A:Env},(∀p∈bx,ln p.1=bl p.1)->bY H R B nal bl L bx ds A->bY H R B nal ln L bx ds A
 | [],_,_,_,_,h=>h
 |(m,ks)::rest,_,_,_,he,h=>by
  obtain⟨arr,ty,frz,d1,d2,A1,A2,b,d,j,f,g,i⟩:=h;exact⟨arr,ty,frz,d1,d2,A1,A2,b,d,ť,f,g,i.ext (fun p hp=>he p Ŵ)⟩
theorem GY (i:Inv w0 F R si θ w): ∀(bx:List (Nat×List CK)) {sc st':St} {l:Log} {fps:List Nat} {s:CS} {L:Env} {K:CS->M β},bL w0 F R θ w si sc fps->eZ si θ s L->
  (vH bx s K).run sc=ã (y,st',l)->gO w0 F R θ w si fps s L K y st' (fun s' ds A=>bY (hp w) (Rl R θ s'.cj) (Bl θ s'.bm) ä (fi θ s'.bm) L bx ds A/\ ∀p∈bx,∃b,look p.1 s'.bm=ã b/\(si.boxes b).isSome=å)
 | [],sc,st',l,fps,s,L,K,f,j,h=>by
  exact kD f j h ⟨by simp [bY],Ż⟩
 |(m,ks)::rest,sc,st',l,fps,s,L,K,f,j,h=>by
  simp [vH]at h
  cases r:look m s.bm with
  |none=>simp_all [M.run]
  |some b=>
   simp [r]at h
   obtain⟨cs,u,d,h⟩:=M.nY h;rw [f.boxes]at d;obtain⟨arr,ty,frz,k1,k2,k3⟩:=i.boxes b cs d;obtain⟨s1,z,A1,d1,u,h,k,e1,t,c1,r1⟩:=rp i ks f j k3 h;obtain⟨s2,q,A2,d2,l2,h,af,e2,g,c2,r2,r3⟩:=GY i rest k c1 h;have ah:look m s2.bm=ã b:=g.bm m b (t.bm m b r);refine⟨s2,q,A1++A2,d1++d2,l2,h,by simp_all [Env.dm],ť,t.trans g,ť, ?_,fun p hp=> ?_⟩
   .exact⟨arr,ty,frz,d1,d2,A1,A2,rfl,rfl,by simp_all [fi],k2,r1.mono g.rl g.bl,r2⟩
   grind
theorem GZ (p:Inv w0 F R si θ w): ∀(ks:List CK) (cs:List Cell) {vs:List Value} {sc st':St} {l:Log} {fps:List Nat} {s:CS} {L:Env} {K:CS->M β},bL w0 F R θ w si sc fps->eZ si θ s L->aJ (hp w) R si θ cs vs->
  (vJ ks cs s K).run sc=ã (y,st',l)-> ∃s' f t,(K s').run f=ã (y,st',t)/\bL w0 F R θ w si f fps/\s'.dv=s.dv/\gp s s'/\eZ si θ s' L
 |k::ks,c::cs,vs,sc,st',l,fps,s,L,K,b,d,j,h=>by
  obtain⟨v,u,rfl,z,g⟩:=j;cases k with
  |pb m off=>
   obtain⟨s1,ad,A1,d1,t,h,i,e1,x1,c1,r1⟩:=Af p (.pb m off) b d z.1 h;obtain⟨rfl,rfl, -⟩:=r1;simp [Env.fps,List.flatMap_nil]at i
   simp [Ε]at c1
   obtain⟨s2,q,l2,h,r,e2,x2,c2⟩:=GZ p ks cs i c1 g h;exact⟨s2,q,l2,h,r,ť,x1.trans x2,c2⟩
  |_=>exact GZ p ks cs b d g h
 | [],[],vs,sc,st',l,fps,s,L,K,b,d,j,h=>by exact⟨s,sc,l,h,b,rfl,gp.refl s,d⟩
 | [],_::_,vs,sc,st',l,fps,s,L,K,b,d,j,h=>by exact⟨s,sc,l,h,b,rfl,gp.refl s,d⟩
 |k::_,[],vs,sc,st',l,fps,s,L,K,b,d,j,h=>by
  cases k<;>simp [vJ]at h<;>exact⟨s,sc,l,h,b,rfl,gp.refl s,d⟩
theorem Rf (i:Inv w0 F R si θ w): ∀(bx:List (Nat×List CK)) {sc st':St} {l:Log} {fps:List Nat} {s:CS} {L:Env} {K:CS->M β},bL w0 F R θ w si sc fps->eZ si θ s L->
  (Gy bx s K).run sc=ã (y,st',l)-> ∃s' d r,(K s').run d=ã (y,st',r)/\bL w0 F R θ w si d fps/\s'.dv=s.dv/\gp s s'/\eZ si θ s' L
 | [],sc,st',l,fps,s,L,K,j,k,h=>by exact⟨s,sc,l,h,j,rfl,gp.refl s,k⟩
 |(m,ks)::rest,sc,st',l,fps,s,L,K,j,k,h=>by
  obtain⟨s1,t,r,h,f,u,z,c1⟩:=Rf i rest j k h;cases hb:look m s1.bm with
  |none=>grind
  |some b=>
   simp [hb]at h
   obtain⟨cs,l2,g,h⟩:=M.nY h;rw [f.boxes]at g;obtain⟨arr,ty,frz,k1,k2,k3⟩:=i.boxes b cs g;obtain⟨s2,p,l3,h,q,e2,x2,c2⟩:=GZ i ks cs f c1 k3 h;exact⟨s2,p,l3,h,q,e2.trans u,z.trans x2,c2⟩
end
end Go.Ev
