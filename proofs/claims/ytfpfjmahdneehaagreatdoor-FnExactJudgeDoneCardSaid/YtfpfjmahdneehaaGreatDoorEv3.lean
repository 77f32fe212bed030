/- A verified evaluator of the machine's code, part 3: no program in sight. -/
import Derived.Test.YtfpfjmahdneehaaGreatDoorEv2
open Bool renaming and_eq_true->À,or_eq_false_iff->Ð,not_eq_true'->Ø,or_eq_true->õ,false_or->ý
open Array renaming getD_eq_getD_getElem?->Á,getElem?_setIfInBounds_ne->Ô,getElem?_setIfInBounds_self_of_lt->Ù,mem_toList_iff->Û,getElem?_eq_getElem->Ü,replicate->æ,all_eq_true'->ÿ,ext'->Č
open List renaming append_assoc->Â,nodup_append->Ã,getD_eq_getElem?_getD->Æ,mem_cons->Ç,mem_map->È,mem_append->É,append_nil->Ë,getElem?_eq_getElem->Í,all_eq_true->Î,map_cons->Ï,nodup_iff_pairwise_ne->Ó,map_congr_left->Õ,getElem?_eq_none->Ö,reverse_reverse->Ú,mem_filterMap->ß,pairwise_map->à,nil_append->ä,replicate->è,sublist_append_right->ê,sublist_append_left->í,elem_eq_mem->ð,cons_append->ñ,map_map->ó,reverse_singleton->ô,singleton_append->ö,mem_append_left->ø,mem_of_getElem?->ù,pairwise_append->ú,mapM_cons->û,getElem?_range->ü,pairwise_cons->Ā,range->ā,ext_getElem?->Ă,getElem?_map->ă,length_cons->Ą,mem_filter->ą,mem_range->ć,all_cons->Ĉ
open Nat renaming eq_of_beq_eq_true->Ä,le_of_ble_eq_true->á,beq->ç,lt_of_lt_of_le->é,le_refl->ì,le_trans->ĉ,zero_add->Ċ,blt->Ď
open Option.some renaming injEq->Å,inj->Þ
open Go.Region renaming ready->Ê,binds->Ò,wanted->ï
open Go.Region.linearise renaming go->Ì
open Option renaming bind_eq_some_iff->Ñ,getD_some->â,isSome_iff_exists->î,map_eq_some_iff->ò,isNone_some->þ,map_some->Ć
open List.Pairwise renaming imp_of_mem->Ý
open Prod.mk renaming injEq->ã
open List.cons renaming injEq->å
open Classical renaming byContradiction->ë,choose_spec->ċ,choose->č
namespace Go.Ev
theorem ur: ∀xs b:List DV,qc xs b=xs.reverse++b
 | [],b=>rfl
 |x::xs,b=>by rw [qc,ur xs];simp
section
variable (H:Heap) (R:Nat→Prop) (B:Nat→Nat→Prop) (nal:Bool)
def bT (bl:Nat->Nat):Env->List (Nat×List CK)->List DV->Env->Prop
 |_,[],ds,A=>ds=[]/\A=[]
 |L,(m,ks)::rest,ds,A=> ∃arr ty frz d1 d2 A1 A2,ds=d1++d2/\A=A1++A2/\H (bl m)=some (.cells arr ty frz)/\ir arr.size frz/\
   bw H R B nal L (nZ m) 0 ks d1 arr.toList A1/\bT bl (L++A1) rest d2 A2
def dQ (val:Nat->Value):Env->List (Nat×bq)->List DV->Env->Prop
 |_,[],ds,A=>ds=[]/\A=[]
 |L,(t,k)::rest,ds,A=> ∃d1 d2 A1 A2,ds=d1++d2/\A=A1++A2/\bX H R B nal L (fH t) k d1 (val t) A1/\dQ val (L++A1) rest d2 A2
end
section
variable {H:Heap} {R R':Nat→Prop} {B B':Nat→Nat→Prop} {nal:Bool}
theorem bT.mono (d: ∀b,R b->R' b) (f: ∀m g,B m g->B' m g) {bl:Nat->Nat}: ∀ {bx:List (Nat×List CK)} {L:Env} {ds:List DV} {A:Env},bT H R B nal bl L bx ds A->bT H R' B' nal bl L bx ds A
 | [],_,_,_,h=>h
 |(m,ks)::rest,_,_,_,h=>by
  simp only [bT]at h |-;obtain⟨arr,ty,frz,d1,d2,A1,A2,i,j,k,p,q,r⟩:=h;exact⟨arr,ty,frz,d1,d2,A1,A2,i,j,k,p,q.mono d f,r.mono d f⟩
theorem dQ.mono (d: ∀b,R b->R' b) (f: ∀m g,B m g->B' m g) {val:Nat->Value}: ∀ {ts:List (Nat×bq)} {L:Env} {ds:List DV} {A:Env},dQ H R B nal val L ts ds A->dQ H R' B' nal val L ts ds A
 | [],_,_,_,h=>h
 |(m,ks)::rest,_,_,_,h=>by
  simp only [dQ]at h |-;obtain⟨d1,d2,A1,A2,i,j,k,p⟩:=h;exact⟨d1,d2,A1,A2,i,j,k.mono d f,p.mono d f⟩
end
section
variable {w0 w:World} {F R:Nat→Prop} {si:St} {θ:Asg} {β:Type} {y:β}
theorem Na (q:Inv w0 F R si θ w) (val:Nat->Value): ∀(ks:List bq) {t:Nat} {sc st':St} {l:Log} {fps:List Nat} {s:CS} {L:Env} {cs:List TV} {K:CS->M β},bK w0 F R θ w si sc fps->eY si θ s L->(∀i c,cs[i]? =some c->aV (hp w) R si θ c (val (t+i)))->
  (pY t ks cs s K).run sc=some (y,st',l)->gw w0 F R θ w si fps s L K y st' (fun s' ds A=>dQ (hp w) (Rl R θ s'.cx) (Bl θ s'.bm) false val L (gu t ks) ds A/\cs.length=ks.length)
 | [],t,sc,st',l,fps,s,L,cs,K,b,d,f,h=>by
  cases cs with
  |cons _ _=>simp [pY,M.run]at h
  |nil=>
   simp only [pY]at h;exact jF b d h ⟨by simp only [gu,dQ];exact⟨trivial,trivial⟩,rfl⟩
 |k::ks,t,sc,st',l,fps,s,L,cs,K,b,d,f,h=>by
  cases cs with
  |nil=>simp [pY,M.run]at h
  |cons c cs=>
   simp only [pY]at h;obtain⟨s1,r,A1,d1,l1,h,g,u,z,c1,r1⟩:=DP q k b d (f 0 c rfl) h;obtain⟨s2,j,A2,d2,l2,h,m,e2,p,c2,r2,r3⟩:=Na q val ks (t:=t+1) g c1 (fun i c' hi=>by
    have:=f (i+1) c' (by simpa using hi)
    rwa [Nat.add_assoc,Nat.add_comm 1 i]) h
   refine⟨s2,j,A1++A2,d1++d2,l2,h,by rw [Env.dj,<-Â];exact m,by rw [e2,u];simp,z.trans p,by rw [<-Â];exact c2, ?_,by simp [r3]⟩
   simp only [gu,dQ];exact⟨d1,d2,A1,A2,rfl,rfl,r1.mono p.rl p.bl,r2⟩
theorem Nb (m:Inv w0 F R si θ w) (val:Nat->Value) {tmps:Nat->TV} (p: ∀t,aV (hp w) R si θ (tmps t) (val t)): ∀(ks:List (Nat×bq)) {sc st':St} {l:Log} {fps:List Nat} {s:CS} {L:Env} {K:CS->M β},bK w0 F R θ w si sc fps->eY si θ s L->
  (ud tmps ks s K).run sc=some (y,st',l)->gw w0 F R θ w si fps s L K y st' (fun s' ds A=>dQ (hp w) (Rl R θ s'.cx) (Bl θ s'.bm) false val L ks ds A)
 | [],sc,st',l,fps,s,L,K,b,d,h=>by
  simp only [ud]at h;exact jF b d h (by simp only [dQ];exact⟨trivial,trivial⟩)
 |(t,k)::ks,sc,st',l,fps,s,L,K,b,d,h=>by
  simp only [ud]at h;obtain⟨s1,q,A1,d1,l1,h,f,r,u,c1,z⟩:=DP m k b d (p t) h;obtain⟨s2,g,A2,d2,l2,h,i,e2,j,c2,r2⟩:=Nb m val p ks f c1 h;refine⟨s2,g,A1++A2,d1++d2,l2,h,by rw [Env.dj,<-Â];exact i,by rw [e2,r];simp,u.trans j,by rw [<-Â];exact c2, ?_⟩
  simp only [dQ];exact⟨d1,d2,A1,A2,rfl,rfl,z.mono j.rl j.bl,r2⟩
def fw (θ:Asg) (bm:List (Nat×Nat)) (m:Nat):Nat:=θ.bx ((look m bm).getD 0)
theorem bT.ext {H:Heap} {B:Nat->Nat->Prop} {nal:Bool} {bl kh:Nat->Nat}: ∀ {bx:List (Nat×List CK)} {L:Env} {ds:List DV} {A:Env},(∀p∈bx,kh p.1=bl p.1)->bT H R B nal bl L bx ds A->bT H R B nal kh L bx ds A
 | [],_,_,_,_,h=>h
 |(m,ks)::rest,_,_,_,he,h=>by
  simp only [bT]at h |-;obtain⟨arr,ty,frz,d1,d2,A1,A2,b,d,f,g,i,j⟩:=h;exact⟨arr,ty,frz,d1,d2,A1,A2,b,d,by rw [he (m,ks) (by simp)];exact f,g,i,j.ext (fun p hp=>he p (by simp [hp]))⟩
theorem DR (j:Inv w0 F R si θ w): ∀(bx:List (Nat×List CK)) {sc st':St} {l:Log} {fps:List Nat} {s:CS} {L:Env} {K:CS->M β},bK w0 F R θ w si sc fps->eY si θ s L->
  (rF bx s K).run sc=some (y,st',l)->gw w0 F R θ w si fps s L K y st' (fun s' ds A=>bT (hp w) (Rl R θ s'.cx) (Bl θ s'.bm) false (fw θ s'.bm) L bx ds A/\ ∀p∈bx,∃b,look p.1 s'.bm=some b/\(si.boxes b).isSome=true)
 | [],sc,st',l,fps,s,L,K,g,k,h=>by
  simp only [rF]at h;exact jF g k h ⟨by simp only [bT];exact⟨trivial,trivial⟩,by simp⟩
 |(m,ks)::rest,sc,st',l,fps,s,L,K,g,k,h=>by
  simp only [rF]at h;cases q:look m s.bm with
  |none=>simp [q,M.run]at h
  |some b=>
   simp only [q]at h;obtain⟨cs,l1,d,h⟩:=M.qk h;rw [g.boxes]at d;obtain⟨arr,ty,frz,k1,k2,k3⟩:=j.boxes b cs d;obtain⟨s1,ae,A1,d1,l1,h,r,e1,z,c1,r1⟩:=qp j ks g k k3 h;obtain⟨s2,t,A2,d2,l2,h,u,e2,i,c2,r2,r3⟩:=DR j rest r c1 h;have f:look m s2.bm=some b:=i.bm m b (z.bm m b q);refine⟨s2,t,A1++A2,d1++d2,l2,h,by rw [Env.dj,<-Â];exact u,by rw [e2,e1];simp,z.trans i,by rw [<-Â];exact c2, ?_,fun p hp=> ?_⟩
   .simp only [bT]
    exact⟨arr,ty,frz,d1,d2,A1,A2,rfl,rfl,by simpa [fw,f]using k1,k2,r1.mono i.rl i.bl,r2⟩
   .rcases Ç.1 hp with rfl|hp
    .exact⟨b,f,by simp [d]⟩
    .exact r3 p hp
theorem DS (p:Inv w0 F R si θ w): ∀(ks:List CK) (cs:List Cell) {vs:List Value} {sc st':St} {l:Log} {fps:List Nat} {s:CS} {L:Env} {K:CS->M β},bK w0 F R θ w si sc fps->eY si θ s L->aI (hp w) R si θ cs vs->
  (mW ks cs s K).run sc=some (y,st',l)-> ∃s' f t,(K s').run f=some (y,st',t)/\bK w0 F R θ w si f fps/\s'.dv=s.dv/\fW s s'/\eY si θ s' L
 |k::ks,c::cs,vs,sc,st',l,fps,s,L,K,b,d,g,h=>by
  simp only [aI]at g;obtain⟨v,z,rfl,hv,i⟩:=g;cases k with
  |pb m off=>
   simp only [mW]at h;obtain⟨s1,ae,A1,d1,t,h,j,e1,x1,c1,u⟩:=yf p (.pb m off) b d hv.1 h;simp only [aq]at u;obtain⟨rfl,rfl, -⟩:=u;simp only [Env.fps,List.flatMap_nil,Ë]at j;simp only [Ë]at c1;obtain⟨s2,q,l2,h,r,e2,x2,c2⟩:=DS p ks cs j c1 i h;exact⟨s2,q,l2,h,r,by rw [e2,e1];rfl,x1.trans x2,c2⟩
  |_=>simp only [mW]at h;exact DS p ks cs b d i h
 | [],[],vs,sc,st',l,fps,s,L,K,b,d,g,h=>by simp only [mW]at h;exact⟨s,sc,l,h,b,rfl,fW.refl s,d⟩
 | [],_::_,vs,sc,st',l,fps,s,L,K,b,d,g,h=>by simp only [mW]at h;exact⟨s,sc,l,h,b,rfl,fW.refl s,d⟩
 |k::_,[],vs,sc,st',l,fps,s,L,K,b,d,g,h=>by
  cases k<;>simp only [mW]at h<;>exact⟨s,sc,l,h,b,rfl,fW.refl s,d⟩
theorem Nc (i:Inv w0 F R si θ w): ∀(bx:List (Nat×List CK)) {sc st':St} {l:Log} {fps:List Nat} {s:CS} {L:Env} {K:CS->M β},bK w0 F R θ w si sc fps->eY si θ s L->
  (tY bx s K).run sc=some (y,st',l)-> ∃s' f j,(K s').run f=some (y,st',j)/\bK w0 F R θ w si f fps/\s'.dv=s.dv/\fW s s'/\eY si θ s' L
 | [],sc,st',l,fps,s,L,K,k,p,h=>by simp only [tY]at h;exact⟨s,sc,l,h,k,rfl,fW.refl s,p⟩
 |(m,ks)::rest,sc,st',l,fps,s,L,K,k,p,h=>by
  simp only [tY]at h;obtain⟨s1,q,j,h,d,u,z,c1⟩:=Nc i rest k p h;cases hb:look m s1.bm with
  |none=>simp only [hb]at h;exact⟨s1,q,j,h,d,u,z,c1⟩
  |some b=>
   simp only [hb]at h;obtain⟨cs,l2,g,h⟩:=M.qk h;rw [d.boxes]at g;obtain⟨arr,ty,frz,k1,k2,k3⟩:=i.boxes b cs g;obtain⟨s2,r,l3,h,t,e2,x2,c2⟩:=DS i ks cs d c1 k3 h;exact⟨s2,r,l3,h,t,e2.trans u,z.trans x2,c2⟩
end
end Go.Ev
namespace Go.Ev
section
variable {w0 w:World} {F R:Nat→Prop} {st:St} {θ:Asg}
theorem Inv.YO (h:Inv w0 F R st θ w) {b g:Nat} (hb:st.boxes b=none) {cs:List Cell} {arr:Array Value} {ty:TypeId} {frz:Nat×Nat} (hg:hp w g=some (.cells arr ty frz)) (hz:ir arr.size frz)
  (hr:aI (hp w) R st θ cs arr.toList) (t: ¬cU st θ g) (hF:F g\/w0.heap.size<=g):
  Inv w0 F R {st with boxes:=aS st.boxes b (some cs)} {θ with bx:=aS θ.bx b g} w/\Step R st θ (hp w) {st with boxes:=aS st.boxes b (some cs)} {θ with bx:=aS θ.bx b g} (hp w):=by
 have u: ∀b',(st.boxes b').isSome=true->b'≠b:=fun b' m e=>by subst e;simp [hb]at m
 have s:Step R st θ (hp w) {st with boxes:=aS st.boxes b (some cs)} {θ with bx:=aS θ.bx b g} (hp w):=by
  refine⟨fun _ _=>rfl,fun b' m=> ?_,fun k=>.inl ⟨rfl,fun hk=>⟨rfl,rfl,fun _ _=>rfl⟩⟩⟩
  simp only [aZ _ _ (u b' m)];exact⟨m,trivial⟩
 refine⟨h.next s (ì _) rfl rfl rfl (fun _ _ e=>absurd rfl e) ?_ (fun k d hd=>.inl ⟨hd,rfl,rfl,fun _ _=>rfl⟩) ?_ ?_ h.oo ?_,s⟩
 .intro b' ak f
  by_cases e:b'=b
  .subst e
   simp only [bC,Å]at f;subst f;exact .inr ⟨arr,ty,frz,by simp only [bC];exact hg,hz,aI.step s _ _ hr⟩
  .simp only [aZ _ _ e]at f
   exact .inl ⟨f,rfl⟩
 .intro p z i q e
  by_cases j:p=b<;>by_cases r:z=b
  .rw [j,r]
  .subst j
   simp only [aZ _ _ r,bC]at q e;exact absurd (.inl ⟨z,q,e.symm⟩) t
  .subst r
   simp only [aZ _ _ j,bC]at i e;exact absurd (.inl ⟨p,i,e⟩) t
  .simp only [aZ _ _ j,aZ _ _ r]at i q e
   exact h.bb p z i q e
 .intro p k i hk
  by_cases j:p=b
  .subst j
   simp only [bC];intro ad;exact t (.inr ⟨k,hk,ad⟩)
  .simp only [aZ _ _ j]at i |-
   exact h.bo p k i hk
 .rintro g' (⟨p,i,rfl⟩|⟨k,hk,ae⟩)
  .by_cases j:p=b
   .subst j;simp only [bC];exact hF
   .simp only [aZ _ _ j]at i |-
    exact h.own _ (.inl ⟨p,i,rfl⟩)
  .exact h.own _ (.inr ⟨k,hk,ae⟩)
theorem Inv.drop (h:Inv w0 F R st θ w) (θ':Asg):Inv w0 F R eC θ' w where
 size:=h.size
 same:=h.same
 os:=h.os
 tape:=h.tape
 out:=h.out
 rd:=h.rd
 boxes:=fun b cs f=>by simp [eC]at f
 aj:=fun k d hd=>by simp [eC]at hd
 bb:=fun b b' f=>by simp [eC]at f
 bo:=fun b k f=>by simp [eC]at f
 oo:=fun k k' g hk=>by simp [eC]at hk
 own:=fun g i=>by
  rcases i with⟨b,f, -⟩|⟨k,hk, -⟩
  .simp [eC]at f
  .simp [eC]at hk
theorem Nf {θ:Asg} {g:Nat}: ¬cU eC θ g:=by
 rintro(⟨b,d, -⟩|⟨k,hk, -⟩)
 .simp [eC]at d
 .simp [eC]at hk
end
section
variable {w0 w:World} {F R:Nat→Prop} {B:Nat→Nat→Prop} {nal:Bool} {β:Type} {bl:Nat→Nat}
structure mY (w0:World) (F R:Nat->Prop) (nal:Bool) (bl:Nat->Nat) (w:World) (su:St) (θ:Asg) (L:Env):Prop where
 inv:Inv w0 F R su θ w
 env:nal=false-> ∀e∈L,(su.aj e.1).bp.isSome=true/\θ.ob e.1=e.2.1/\θ.fp e.1=e.2.2
 bx: ∀m,(su.boxes m).isSome=true->θ.bx m=bl m
theorem mY.u (d: ∀m g,B m g->bl m=g) {su:St} {θ:Asg} {L:Env} (h:mY w0 F R nal bl w su θ L):iw w0 F R B nal su.boxes w su θ L:=
 ⟨h.inv,h.env,fun m g f b=>⟨b,(h.bx m b).trans (d m g f)⟩⟩
theorem fg.sub {st:St} {θ:Asg} {l l':List Nat} (h:fg w0 F st θ l) (b:l'.Sublist l):fg w0 F st θ l':=
 ⟨h.nodup.sublist b,fun g d=>h.free g (b.subset d)⟩
theorem Ng (hB: ∀m g,B m g->bl m=g): ∀(bx:List (Nat×List CK)) {su st':St} {θ:Asg} {L:Env} {ds rest:List DV} {A:Env} {K:List DV->M β} {y:β} {l:Log},mY w0 F R nal bl w su θ L->bT (hp w) R B nal bl L bx ds A->fg w0 F su θ (A.fps++bx.map fun p=>bl p.1)->
  (uf bx (ds++rest) K).run su=some (y,st',l)-> ∃j θ' l1,(K rest).run j=some (y,st',l1)/\mY w0 F R nal bl w j θ' (L++A)/\(∀p∈bx,(j.boxes p.1).isSome=true)/\(∀m,(su.boxes m).isSome=true->(j.boxes m).isSome=true)/\
   ∀g,cU j θ' g->cU su θ g\/g∈A.fps\/g∈bx.map fun p=>bl p.1
 | [],su,st',θ,L,ds,rest,A,K,y,l,hu,hk,t,h=>by
  simp only [bT]at hk;obtain⟨rfl,rfl⟩:=hk;simp only [ä,uf]at h;exact⟨su,θ,l,h,by simpa using hu,by simp,fun _ h=>h,fun _ h=>.inl h⟩
 |(b,ks)::bx,su,st',θ,L,ds,rest,A,K,y,l,hu,hk,t,h=>by
  simp only [bT]at hk;obtain⟨arr,ty,frz,d1,d2,A1,A2,rfl,rfl,h1,h2,h3,h4⟩:=hk;simp only [uf,Â]at h;rw [Env.dj]at t;simp only [Ï]at t;have ah:fg w0 F (su.cZ su.boxes) θ A1.fps:=t.sub (by simp [Â])
  obtain⟨cs,f,θ1,l1,h,b1,t1,u1,s1,r1,x1,o1⟩:=qs ks (hu.u hB) h3 ah h;obtain⟨ai,l2,h⟩:=M.Mp h;have aj:Inv w0 F R f θ1 w:=by
   have:=u1.inv;rwa [<-b1]at this
  have z: ∀g,cU f θ1 g->cU su θ g\/g∈A1.fps:=fun g d=>o1 g (by rw [<-b1];exact d)
  have ak:aI (hp w) R f θ1 cs arr.toList:=by rw [<-b1]at r1;exact r1
  have ae: ¬cU f θ1 (bl b):=fun i=>by
   rcases z _ i with i|i
   .exact(t.free (bl b) (by simp)).1 i
   .have:=t.nodup
    rw [Â]at this;exact(Ã.1 this).2.2 _ i _ (by simp) rfl
  obtain⟨i1,i2⟩:=aj.YO ai h1 h2 ak ae (t.free (bl b) (by simp)).2
  have al:mY w0 F R nal bl w {f with boxes:=aS f.boxes b (some cs)} {θ1 with bx:=aS θ1.bx b (bl b)} (L++A1):=by
   refine⟨i1,u1.env,fun m hm=> ?_⟩
   by_cases e:m=b
   .subst e;simp [bC]
   .simp only [aZ _ _ e]at hm |-
    rw [x1];exact hu.bx m (by rw [<-b1];exact hm)
  have q: ∀g,cU {f with boxes:=aS f.boxes b (some cs)} {θ1 with bx:=aS θ1.bx b (bl b)} g->cU su θ g\/g∈A1.fps\/g=bl b:=by
   rintro g (⟨b',af,e⟩|⟨k,hk,d⟩)
   .by_cases e':b'=b
    .subst e';simp only [bC]at e;exact .inr (.inr e.symm)
    .simp only [aZ _ _ e']at af e
     exact(z g (.inl ⟨b',af,e⟩)).imp id .inl
   .exact(z g (.inr ⟨k,hk,d⟩)).imp id .inl
  have ao:fg w0 F {f with boxes:=aS f.boxes b (some cs)} {θ1 with bx:=aS θ1.bx b (bl b)} (A2.fps++bx.map fun p=>bl p.1):=by
   have r:(A2.fps++bx.map fun p=>bl p.1).Sublist (A1.fps++A2.fps++(bl b::bx.map fun p=>bl p.1)):=by
    rw [Â];exact(List.Sublist.append_left (List.sublist_cons_self _ _) _).trans (ê _ _)
   have s:=t.nodup;refine⟨s.sublist r,fun g d=>⟨fun i=> ?_,(t.free g (r.subset d)).2⟩⟩
   rcases q g i with i|i|i
   .exact(t.free g (r.subset d)).1 i
   .rw [Â]at s
    refine(Ã.1 s).2.2 g i g ?_ rfl
    rcases É.1 d with d|d
    .simp [d]
    .exact É.2 (.inr (List.mem_cons_of_mem _ d))
   .subst i
    rw [Â]at s;have h2:=(Ã.1 s).2.1;rcases É.1 d with d|d
    .exact(Ã.1 h2).2.2 _ d _ (by simp) rfl
    .exact(List.nodup_cons.1 (Ã.1 h2).2.1).1 d
  obtain⟨aq,ar,l3,h,n2,q1,q2,q3⟩:=Ng hB bx al h4 ao h;refine⟨aq,ar,l3,h,by rw [<-Â];exact n2,fun p hp=> ?_,fun m hm=>q2 m ?_,fun g d=> ?_⟩
  .rcases Ç.1 hp with rfl|hp
   .exact q2 _ (by simp [bC])
   .exact q1 p hp
  .by_cases e:m=b
   .subst e;simp [bC]
   .simp only [aZ _ _ e];rw [b1];exact hm
  .rw [Env.dj]
   simp only [Ï,Ç,É];rcases q3 g d with d|d|d
   .rcases q g d with d|d|d
    .exact .inl d
    .exact .inr (.inl (.inl d))
    .exact .inr (.inr (.inl d))
   .exact .inr (.inl (.inr d))
   .exact .inr (.inr (.inr d))
theorem Nh (hB: ∀m g,B m g->bl m=g) (val:Nat->Value): ∀(ts:List (Nat×bq)) {su st':St} {θ:Asg} {L:Env} {f:Nat->TV} {ds rest:List DV} {A:Env} {K:(Nat->TV)->M β} {y:β} {l:Log},mY w0 F R nal bl w su θ L->dQ (hp w) R B nal val L ts ds A->fg w0 F su θ A.fps->(∀t,aV (hp w) R su θ (f t) (val t))->
  (ue ts f (ds++rest) K).run su=some (y,st',l)-> ∃j d θ' l1,(K j).run d=some (y,st',l1)/\mY w0 F R nal bl w d θ' (L++A)/\d.boxes=su.boxes/\(∀t,aV (hp w) R d θ' (j t) (val t))
 | [],su,st',θ,L,f,ds,rest,A,K,y,l,hu,hk,p,q,h=>by
  simp only [dQ]at hk;obtain⟨rfl,rfl⟩:=hk;simp only [ue]at h;exact⟨f,su,θ,l,h,by simpa using hu,rfl,q⟩
 |(t,k)::ts,su,st',θ,L,f,ds,rest,A,K,y,l,hu,hk,p,q,h=>by
  simp only [dQ]at hk;obtain⟨d1,d2,A1,A2,rfl,rfl,h1,h2⟩:=hk;simp only [ue,Â]at h;obtain⟨x,b,θ1,l1,h,i,t1,u1,s1,r1,x1,o1⟩:=MZ k (hu.u hB) h1 (p.left (A2:=A2)) h;have r:=p.split (A1:=A1) (A2:=A2) (st1:=b) (θ1:=θ1) (fun g hg=>o1 g (by rw [<-i];exact hg))
  have n1:mY w0 F R nal bl w b θ1 (L++A1):=by
   refine⟨by have:=u1.inv;rwa [<-i]at this,u1.env,fun m hm=> ?_⟩
   rw [x1];exact hu.bx m (by rw [<-i];exact hm)
  have e1:b.cZ su.boxes=b:=by rw [<-i];rfl
  have s:Step R su θ (hp w) b θ1 (hp w):=by rw [e1]at s1;exact s1
  obtain⟨j,z,ad,l2,h,n2,b2,r2⟩:=Nh hB val ts n1 h2 r (f:=aS f t x) (fun t'=>by
   by_cases e:t'=t
   .subst e;rw [bC];rw [<-i]at r1;exact r1
   .rw [aZ _ _ e];exact aV.step s _ _ (q t')) h
  exact⟨j,z,ad,l2,h,by rw [<-Â];exact n2,b2.trans i,r2⟩
theorem YP (hB: ∀m g,B m g->bl m=g) (val:Nat->Value) {g:cI} {dB dT:List DV} {AB AT:Env} {uu:Asg} {K:(Nat->TV)->M β} {y:β} {st':St} {l:Log} (hI:Inv w0 F R eC uu w) (q:bT (hp w) R B nal bl [] g.boxes dB AB) (r:dQ (hp w) R B nal val AB g.tmps dT AT)
  (hn:((AB++AT).fps++g.boxes.map fun p=>bl p.1).Nodup) (ho: ∀b∈(AB++AT).fps++g.boxes.map fun p=>bl p.1,F b\/w0.heap.size<=b)
  (h:(Dz g (dB++dT) K).run eC=some (y,st',l)):
  ∃f su θ' l1,(K f).run su=some (y,st',l1)/\Inv w0 F R su θ' w/\(∀t,aV (hp w) R su θ' (f t) (val t))/\ ∀p∈g.boxes,(su.boxes p.1).isSome=true/\θ'.bx p.1=bl p.1:=by
 have n0:mY w0 F R nal bl w eC uu []:=⟨hI,fun _ e he=>by simp at he,fun m hm=>by simp [eC]at hm⟩
 have i:(AB.fps++g.boxes.map fun p=>bl p.1).Sublist ((AB++AT).fps++g.boxes.map fun p=>bl p.1):=by
  rw [Env.dj];exact List.Sublist.append_right (í _ _) _
 simp only [Dz]at h;obtain⟨su,θ1,l1,h,n1,q1,q2,q3⟩:=Ng hB g.boxes n0 q ⟨hn.sublist i,fun b j=>⟨Nf,ho b (i.subset j)⟩⟩ h
 have s:fg w0 F su θ1 AT.fps:=by
  have d:=hn;rw [Env.dj]at d;refine⟨d.sublist ((ê _ _).trans (í _ _)),fun b j=>⟨fun u=> ?_,ho b (by rw [Env.dj];simp [j])⟩⟩
  rcases q3 b u with k|k|k
  .exact Nf k
  .exact(Ã.1 (Ã.1 d).1).2.2 b k b j rfl
  .exact(Ã.1 d).2.2 b (by simp [j]) b k rfl
 rw [<-Ë dT]at h;obtain⟨f,z,ad,l2,h,n2,b2,r2⟩:=Nh hB val g.tmps n1 (by simpa using r) s (fun t=>lS _) h
 exact⟨f,z,ad,l2,h,n2.inv,r2,fun p hp=>⟨by rw [b2];exact q1 p hp,n2.bx p.1 (by rw [b2];exact q1 p hp)⟩⟩
end
end Go.Ev
namespace Go.Ev
mutual
def oF (pb:Bool):CK->Bool
 |.al _=>false
 |.gs _ _=>false
 |.pb _ _=>pb
 |.fn _ a b=>oG pb a&&oG pb b
 |_=>true
def oG (pb:Bool):List CK->Bool
 | []=>true
 |c::cs=>oF pb c&&oG pb cs
end
def okV (pb:Bool):bq->Bool
 |.one c=>oF pb c
 |.agg cs=>oG pb cs
 |.aP vs=>qt vs
where
 qt:List bq->Bool
  | []=>true
  |.one c::r=>oF pb c&&qt r
  |.agg cs::r=>oG pb cs&&qt r
  |.aP _::_=>false
def yi (pb:Bool):List bq->Bool
 | []=>true
 |c::cs=>okV pb c&&yi pb cs
def okB (pb:Bool):List (Nat×List CK)->Bool
 | []=>true
 |(_,ks)::r=>oG pb ks&&okB pb r
def dL:List (Nat×List CK)->List (List CK)->List (Nat×List CK)
 |(m,_)::bx,ks::r=>(m,ks)::dL bx r
 |_,_=>[]
section
variable {H:Heap} {R R':Nat→Prop} {B B':Nat→Nat→Prop} {pb:Bool}
theorem aD.fx {d:bf} {v:Value} {fp:List Nat} (h:aD H R true d v fp):aD H R' true d v fp:=by
 revert h
 refine bf.rec (motive_1:=fun d=> ∀(v:Value) (fp:List Nat),aD H R true d v fp->aD H R' true d v fp)
  (motive_2:=fun ds=> ∀(vs:List Value) (fp:List Nat),au H R true ds vs fp->au H R' true ds vs fp) ?_ ?_ ?_ ?_ ?_ ?_ d v fp
 .intro x v fp h;simpa only [aD]using h
 .intro k m v fp h;simpa only [aD]using h
 .intro x v fp h;simpa only [aD]using h
 .intro sz cs ih v fp h
  simp only [aD]at h |-;obtain⟨a,len,cap,b,f,i,j,s,h⟩:=h;refine⟨a,len,cap,b,f,i,j,s, ?_⟩
  rcases h with⟨-,h|⟨g,cur,ty,frz,fps,k1,k2,k3,t,u,z⟩⟩|⟨h, -⟩
  .exact .inl ⟨trivial,.inl h⟩
  .exact .inl ⟨trivial,.inr ⟨g,cur,ty,frz,fps,k1,k2,k3,t,u,ih _ _ z⟩⟩
  .simp at h
 .intro vs fp h;simpa only [au]using h
 .intro d ds p q vs fp h
  simp only [au]at h |-;obtain⟨v,r,f1,f2,b,f,i,j⟩:=h;exact⟨v,r,f1,f2,b,f,p _ _ i,q _ _ j⟩
mutual
theorem aq.up (d:pb=true-> ∀m g,B m g->B' m g): ∀(k:CK) {L L':Env} {nm:Nat} {ds:List DV} {v:Value} {A:Env} {nal:Bool},oF pb k=true->aq H R B nal L nm k ds v A->aq H R B' true L' nm k ds v A
 |.undef,_,_,_,_,_,_,_,_,h=>by simpa only [aq]using h
 |.bool,_,_,_,_,_,_,_,_,h=>by simpa only [aq]using h
 |.int _,_,_,_,_,_,_,_,_,h=>by simpa only [aq]using h
 |.str,_,_,_,_,_,_,_,_,h=>by simpa only [aq]using h
 |.er,_,_,_,_,_,_,_,_,h=>by simpa only [aq]using h
 |.sh _,_,_,_,_,_,_,_,_,h=>by simpa only [aq]using h
 |.own _,_,_,_,_,_,_,_,_,h=>by simpa only [aq]using h
 |.nl,_,_,_,_,_,_,_,_,h=>by simpa only [aq]using h
 |.al _,_,_,_,_,_,_,_,hk,_=>by simp [oF]at hk
 |.gs _ _,_,_,_,_,_,_,_,hk,_=>by simp [oF]at hk
 |.pb _ _,_,_,_,_,_,_,_,hk,h=>by
  simp only [oF]at hk;simp only [aq]at h |-;obtain⟨i,p,g,q,r⟩:=h;exact⟨i,p,g,d hk _ _ q,r⟩
 |.eV,_,_,_,_,_,_,_,_,h=>by simpa only [aq]using h
 |.ft,_,_,_,_,_,_,_,_,h=>by simpa only [aq]using h
 |.fn f a b,_,_,_,_,_,_,_,hk,h=>by
  simp only [oF,À]at hk;simp only [aq]at h |-;obtain⟨u,vb,d1,d2,A1,A2,i,p,q,r,s⟩:=h;exact⟨u,vb,d1,d2,A1,A2,i,p,q,bw.up d a hk.1 r,bw.up d b hk.2 s⟩
theorem bw.up (d:pb=true-> ∀m g,B m g->B' m g): ∀(ks:List CK) {L L':Env} {nm:Nat->Nat} {j:Nat} {ds:List DV} {vs:List Value} {A:Env} {nal:Bool},oG pb ks=true->bw H R B nal L nm j ks ds vs A->bw H R B' true L' nm j ks ds vs A
 | [],_,_,_,_,_,_,_,_,_,h=>by simpa only [bw]using h
 |c::cs,_,_,_,_,_,_,_,_,hk,h=>by
  simp only [oG,À]at hk;simp only [bw]at h |-;obtain⟨v,t,d1,d2,A1,A2,i,p,q,r,s,z⟩:=h;exact⟨v,t,d1,d2,A1,A2,i,p,q,r,aq.up d c hk.1 s,bw.up d cs hk.2 z⟩
end
theorem cu.up (d:pb=true-> ∀m g,B m g->B' m g): ∀(ks:List bq) {L L':Env} {nm:Nat->Nat} {j:Nat} {ds:List DV} {vs:List Value} {A:Env} {nal:Bool},okV.qt pb ks=true->cu H R B nal L nm j ks ds vs A->cu H R B' true L' nm j ks ds vs A
 | [],_,_,_,_,_,_,_,_,_,h=>by simpa only [cu]using h
 |.one c::cs,_,_,_,_,_,_,_,_,hk,h=>by
  simp only [okV.qt,À]at hk;simp only [cu]at h |-;obtain⟨v,b,d1,d2,A1,A2,f,i,k,r,p,q⟩:=h;exact⟨v,b,d1,d2,A1,A2,f,i,k,r,aq.up d c hk.1 p,cu.up d cs hk.2 q⟩
 |.agg s::cs,_,_,_,_,_,_,_,_,hk,h=>by
  simp only [okV.qt,À]at hk;simp only [cu]at h |-;obtain⟨v,b,d1,d2,A1,A2,f,i,k,p,q⟩:=h;exact⟨v,b,d1,d2,A1,A2,f,i,k,bw.up d s hk.1 p,cu.up d cs hk.2 q⟩
 |.aP _::_,_,_,_,_,_,_,_,_,hk,_=>by simp [okV.qt]at hk
theorem bX.up (b:pb=true-> ∀m g,B m g->B' m g) {k:bq} {L L':Env} {nm:Nat->Nat} {ds:List DV} {v:Value} {A:Env} {nal:Bool} (hk:okV pb k=true) (h:bX H R B nal L nm k ds v A):bX H R B' true L' nm k ds v A:=by
 cases k with
 |one c=>simp only [okV]at hk;simp only [bX]at h |-;exact⟨h.1,aq.up b c hk h.2⟩
 |agg ks=>simp only [okV]at hk;simp only [bX]at h |-;obtain⟨arr,d,f⟩:=h;exact⟨arr,d,bw.up b ks hk f⟩
 |aP ks=>simp only [okV]at hk;simp only [bX]at h |-;obtain⟨arr,d,f⟩:=h;exact⟨arr,d,cu.up b ks hk f⟩
theorem bT.up (b:pb=true-> ∀m g,B m g->B' m g) {bl:Nat->Nat}: ∀ {bx:List (Nat×List CK)} {L L':Env} {ds:List DV} {A:Env} {nal:Bool},okB pb bx=true->bT H R B nal bl L bx ds A->bT H R B' true bl L' bx ds A
 | [],_,_,_,_,_,_,h=>h
 |(m,ks)::rest,_,_,_,_,_,hk,h=>by
  simp only [okB,À]at hk;simp only [bT]at h |-;obtain⟨arr,ty,frz,d1,d2,A1,A2,d,f,i,j,k,p⟩:=h;exact⟨arr,ty,frz,d1,d2,A1,A2,d,f,i,j,bw.up b ks hk.1 k,bT.up b hk.2 p⟩
mutual
def kR (N:List Nat):CK->Bool
 |.al _=>false
 |.gs _ _=>false
 |.pb m _=>N.elem m
 |.fn _ a b=>lU N a&&lU N b
 |_=>true
def lU (N:List Nat):List CK->Bool
 | []=>true
 |c::cs=>kR N c&&lU N cs
end
mutual
theorem aq.rQ {N:List Nat} {bm:List (Nat×Nat)} (d: ∀m∈N,∀g,B m g-> ∀b,look m bm=some b->B' b g): ∀(k:CK) {L L':Env} {nm:Nat} {ds:List DV} {v:Value} {A:Env} {nal:Bool},kR N k=true->aq H R B nal L nm k ds v A->aq H R B' true L' nm (jd bm k) ds v A
 |.undef,_,_,_,_,_,_,_,_,h=>by simpa only [jd,aq]using h
 |.bool,_,_,_,_,_,_,_,_,h=>by simpa only [jd,aq]using h
 |.int _,_,_,_,_,_,_,_,_,h=>by simpa only [jd,aq]using h
 |.str,_,_,_,_,_,_,_,_,h=>by simpa only [jd,aq]using h
 |.er,_,_,_,_,_,_,_,_,h=>by simpa only [jd,aq]using h
 |.sh _,_,_,_,_,_,_,_,_,h=>by simpa only [jd,aq]using h
 |.own _,_,_,_,_,_,_,_,_,h=>by simpa only [jd,aq]using h
 |.nl,_,_,_,_,_,_,_,_,h=>by simpa only [jd,aq]using h
 |.al _,_,_,_,_,_,_,_,hk,_=>by simp [kR]at hk
 |.gs _ _,_,_,_,_,_,_,_,hk,_=>by simp [kR]at hk
 |.pb m _,_,_,_,_,_,_,_,hk,h=>by
  simp only [kR,ð,decide_eq_true_eq]at hk;simp only [aq]at h;obtain⟨i,p,g,q,r⟩:=h;simp only [jd];cases e:look m bm with
  |none=>simp only [aq];exact⟨i,p⟩
  |some b=>simp only [aq];exact⟨i,p,g,d m hk g q b e,r⟩
 |.eV,_,_,_,_,_,_,_,_,h=>by simpa only [jd,aq]using h
 |.ft,_,_,_,_,_,_,_,_,h=>by simpa only [jd,aq]using h
 |.fn f a b,_,_,_,_,_,_,_,hk,h=>by
  simp only [kR,À]at hk;simp only [jd,aq]at h |-;obtain⟨u,vb,d1,d2,A1,A2,i,p,q,r,s⟩:=h;exact⟨u,vb,d1,d2,A1,A2,i,p,q,bw.rQ d a hk.1 r,bw.rQ d b hk.2 s⟩
theorem bw.rQ {N:List Nat} {bm:List (Nat×Nat)} (d: ∀m∈N,∀g,B m g-> ∀b,look m bm=some b->B' b g): ∀(ks:List CK) {L L':Env} {nm:Nat->Nat} {j:Nat} {ds:List DV} {vs:List Value} {A:Env} {nal:Bool},lU N ks=true->bw H R B nal L nm j ks ds vs A->bw H R B' true L' nm j (mX bm ks) ds vs A
 | [],_,_,_,_,_,_,_,_,_,h=>by simpa only [mX,bw]using h
 |c::cs,_,_,_,_,_,_,_,_,hk,h=>by
  simp only [lU,À]at hk;simp only [mX,bw]at h |-;obtain⟨v,t,d1,d2,A1,A2,i,p,q,r,s,z⟩:=h;exact⟨v,t,d1,d2,A1,A2,i,p,q,r,aq.rQ d c hk.1 s,bw.rQ d cs hk.2 z⟩
end
mutual
theorem aq.mZ {N:List Nat} (d: ∀m∈N,∀g,B m g->B' m g): ∀(k:CK) {L L':Env} {nm:Nat} {ds:List DV} {v:Value} {A:Env} {nal:Bool},kR N k=true->aq H R B nal L nm k ds v A->aq H R B' true L' nm k ds v A
 |.undef,_,_,_,_,_,_,_,_,h=>by simpa only [aq]using h
 |.bool,_,_,_,_,_,_,_,_,h=>by simpa only [aq]using h
 |.int _,_,_,_,_,_,_,_,_,h=>by simpa only [aq]using h
 |.str,_,_,_,_,_,_,_,_,h=>by simpa only [aq]using h
 |.er,_,_,_,_,_,_,_,_,h=>by simpa only [aq]using h
 |.sh _,_,_,_,_,_,_,_,_,h=>by simpa only [aq]using h
 |.own _,_,_,_,_,_,_,_,_,h=>by simpa only [aq]using h
 |.nl,_,_,_,_,_,_,_,_,h=>by simpa only [aq]using h
 |.al _,_,_,_,_,_,_,_,hk,_=>by simp [kR]at hk
 |.gs _ _,_,_,_,_,_,_,_,hk,_=>by simp [kR]at hk
 |.pb m _,_,_,_,_,_,_,_,hk,h=>by
  simp only [kR,ð,decide_eq_true_eq]at hk;simp only [aq]at h |-;obtain⟨i,p,g,q,r⟩:=h;exact⟨i,p,g,d m hk g q,r⟩
 |.eV,_,_,_,_,_,_,_,_,h=>by simpa only [aq]using h
 |.ft,_,_,_,_,_,_,_,_,h=>by simpa only [aq]using h
 |.fn f a b,_,_,_,_,_,_,_,hk,h=>by
  simp only [kR,À]at hk;simp only [aq]at h |-;obtain⟨u,vb,d1,d2,A1,A2,i,p,q,r,s⟩:=h;exact⟨u,vb,d1,d2,A1,A2,i,p,q,bw.mZ d a hk.1 r,bw.mZ d b hk.2 s⟩
theorem bw.mZ {N:List Nat} (d: ∀m∈N,∀g,B m g->B' m g): ∀(ks:List CK) {L L':Env} {nm:Nat->Nat} {j:Nat} {ds:List DV} {vs:List Value} {A:Env} {nal:Bool},lU N ks=true->bw H R B nal L nm j ks ds vs A->bw H R B' true L' nm j ks ds vs A
 | [],_,_,_,_,_,_,_,_,_,h=>by simpa only [bw]using h
 |c::cs,_,_,_,_,_,_,_,_,hk,h=>by
  simp only [lU,À]at hk;simp only [bw]at h |-;obtain⟨v,t,d1,d2,A1,A2,i,p,q,r,s,z⟩:=h;exact⟨v,t,d1,d2,A1,A2,i,p,q,r,aq.mZ d c hk.1 s,bw.mZ d cs hk.2 z⟩
end
theorem bT.mZ {N:List Nat} (b: ∀m∈N,∀g,B m g->B' m g) {bl:Nat->Nat}: ∀ {bx:List (Nat×List CK)} {bP:List (List CK)} {L L':Env} {ds:List DV} {A:Env} {nal:Bool},bP.all (lU N)=true->bT H R B nal bl L (dL bx bP) ds A->bT H R B' true bl L' (dL bx bP) ds A
 | [],_,_,_,_,_,_,_,h=>by simpa only [dL,bT]using h
 |_::_,[],_,_,_,_,_,_,h=>by simpa only [dL,bT]using h
 |(m,_)::bx,ks::bP,_,_,_,_,_,hk,h=>by
  simp only [Ĉ,À]at hk;simp only [dL,bT]at h |-;obtain⟨arr,ty,frz,d1,d2,A1,A2,d,f,i,j,k,p⟩:=h;exact⟨arr,ty,frz,d1,d2,A1,A2,d,f,i,j,bw.mZ b ks hk.1 k,bT.mZ b hk.2 p⟩
theorem dQ.up (b:pb=true-> ∀m g,B m g->B' m g) {val:Nat->Value}: ∀ {ks:List bq} {t:Nat} {L L':Env} {ds:List DV} {A:Env} {nal:Bool},yi pb ks=true->dQ H R B nal val L (gu t ks) ds A->dQ H R B' true val L' (gu t ks) ds A
 | [],_,_,_,_,_,_,_,h=>h
 |k::rest,_,_,_,_,_,_,hk,h=>by
  simp only [yi,À]at hk;simp only [gu,dQ]at h |-;obtain⟨d1,d2,A1,A2,d,f,i,j⟩:=h;exact⟨d1,d2,A1,A2,d,f,i.up b hk.1,dQ.up b hk.2 j⟩
mutual
theorem aq.fx: ∀(k:CK) {L:Env} {nm:Nat} {ds:List DV} {v:Value} {A:Env},tZ k=false->aq H R B true L nm k ds v A->aq H R' B true L nm k ds v A
 |.undef,_,_,_,_,_,_,h=>by simpa only [aq]using h
 |.bool,_,_,_,_,_,_,h=>by simpa only [aq]using h
 |.int _,_,_,_,_,_,_,h=>by simpa only [aq]using h
 |.str,_,_,_,_,_,_,h=>by simpa only [aq]using h
 |.er,_,_,_,_,_,_,h=>by simpa only [aq]using h
 |.sh _,_,_,_,_,_,hk,_=>by simp [tZ]at hk
 |.own _,_,_,_,_,_,_,h=>by
  simp only [aq]at h |-;obtain⟨x,fp,d,g,i,m⟩:=h;exact⟨x,fp,d,g,i.fx,m⟩
 |.nl,_,_,_,_,_,_,h=>by simpa only [aq]using h
 |.al _,_,_,_,_,_,_,h=>by simpa only [aq]using h
 |.gs _ _,_,_,_,_,_,_,h=>by simpa only [aq]using h
 |.pb _ _,_,_,_,_,_,_,h=>by simpa only [aq]using h
 |.eV,_,_,_,_,_,_,h=>by simpa only [aq]using h
 |.ft,_,_,_,_,_,_,h=>by simpa only [aq]using h
 |.fn f a b,_,_,_,_,_,hk,h=>by
  simp only [tZ,Ð]at hk;simp only [aq]at h |-;obtain⟨r,vb,d1,d2,A1,A2,d,g,i,m,p⟩:=h;exact⟨r,vb,d1,d2,A1,A2,d,g,i,bw.fx a hk.1 m,bw.fx b hk.2 p⟩
theorem bw.fx: ∀(ks:List CK) {L:Env} {nm:Nat->Nat} {j:Nat} {ds:List DV} {vs:List Value} {A:Env},qb ks=false->bw H R B true L nm j ks ds vs A->bw H R' B true L nm j ks ds vs A
 | [],_,_,_,_,_,_,_,h=>by simpa only [bw]using h
 |c::cs,_,_,_,_,_,_,hk,h=>by
  simp only [qb,Ð]at hk;simp only [bw]at h |-;obtain⟨v,q,d1,d2,A1,A2,d,g,i,m,p,s⟩:=h;exact⟨v,q,d1,d2,A1,A2,d,g,i,m,aq.fx c hk.1 p,bw.fx cs hk.2 s⟩
end
theorem cu.fx: ∀(ks:List bq) {L:Env} {nm:Nat->Nat} {j:Nat} {ds:List DV} {vs:List Value} {A:Env},ua ks=false->cu H R B true L nm j ks ds vs A->cu H R' B true L nm j ks ds vs A
 | [],_,_,_,_,_,_,_,h=>by simpa only [cu]using h
 |.one c::cs,_,_,_,_,_,_,hk,h=>by
  simp only [ua,ot,Ð]at hk;simp only [cu]at h |-;obtain⟨v,b,d1,d2,A1,A2,d,f,g,m,i,k⟩:=h;exact⟨v,b,d1,d2,A1,A2,d,f,g,m,aq.fx c hk.1 i,cu.fx cs hk.2 k⟩
 |.agg p::cs,_,_,_,_,_,_,hk,h=>by
  simp only [ua,ot,Ð]at hk;simp only [cu]at h |-;obtain⟨v,b,d1,d2,A1,A2,d,f,g,i,k⟩:=h;exact⟨v,b,d1,d2,A1,A2,d,f,g,bw.fx p hk.1 i,cu.fx cs hk.2 k⟩
 |.aP _::_,_,_,_,_,_,_,_,h=>by simp only [cu]at h
theorem bX.fx {k:bq} {L:Env} {nm:Nat->Nat} {ds:List DV} {v:Value} {A:Env} (hk:ot k=false) (h:bX H R B true L nm k ds v A):bX H R' B true L nm k ds v A:=by
 cases k with
 |one c=>simp only [ot]at hk;simp only [bX]at h |-;exact⟨h.1,aq.fx c hk h.2⟩
 |agg ks=>simp only [ot]at hk;simp only [bX]at h |-;obtain⟨arr,b,d⟩:=h;exact⟨arr,b,bw.fx ks hk d⟩
 |aP ks=>simp only [ot]at hk;simp only [bX]at h |-;obtain⟨arr,b,d⟩:=h;exact⟨arr,b,cu.fx ks hk d⟩
theorem bT.fx {bl:Nat->Nat}: ∀ {bx:List (Nat×List CK)} {b:List (List CK)} {L:Env} {ds:List DV} {A:Env},xK b=false->bT H R B true bl L (dL bx b) ds A->bT H R' B true bl L (dL bx b) ds A
 | [],_,_,_,_,_,h=>by simpa only [dL,bT]using h
 |_::_,[],_,_,_,_,h=>by simpa only [dL,bT]using h
 |(m,_)::rest,ks::b,_,_,_,hk,h=>by
  simp only [xK,Ð]at hk;simp only [dL,bT]at h |-;obtain⟨arr,ty,frz,d1,d2,A1,A2,d,f,g,i,j,k⟩:=h;exact⟨arr,ty,frz,d1,d2,A1,A2,d,f,g,i,bw.fx ks hk.1 j,bT.fx hk.2 k⟩
end
def eQ (bl:Nat->Nat) (m g:Nat):Prop:=bl m=g
def rR (_ _:Nat):Prop:=False
structure bF where
 n:Nat
 w:World
structure oH (gl:bF) (w:World) (F:Nat->Prop):Prop where
 size:gl.n<=w.heap.size
 at_: ∀b,b<gl.n-> ¬F b/\hp w b=hp gl.w b
structure qu (gl:bF) (E:Entry) (w:World) (F R:Nat->Prop) (bl:Nat->Nat) (val:Nat->Value) (dB dA:List DV) (AB AA:Env):Prop where
 kb:bT (hp w) R (eQ bl) true bl [] E.bx dB AB
 kt:dQ (hp w) R (eQ bl) true val AB (gu 0 E.ins) dA AA
 nd:((AB++AA).fps++E.bx.map fun p=>bl p.1).Nodup
 own: ∀b∈(AB++AA).fps++E.bx.map fun p=>bl p.1,F b
 rd: ∀b,R b->b<w.heap.size/\ ¬F b
 gl:oH gl w F
structure iz (E:Entry) (w w':World) (F R:Nat->Prop) (bl:Nat->Nat) (r:bO E.bI) (u:Value):Prop where
 size:w.heap.size<=w'.heap.size
 same: ∀b,b<w.heap.size-> ¬F b->hp w' b=hp w b
 os:w'.os=w.os
 tape:w'.tape=w.tape
 out:w'.output=w.output
 res: ∃d1 A1 d2 A2,lO E.bI r=d1++d2/\bX (hp w') R rR true [] (fH 9000) E.outs d1 u A1/\bT (hp w') R (eQ bl) true bl A1 (dL E.bx E.bP) d2 A2/\
  ((A1++A2).fps++E.bx.map fun p=>bl p.1).Nodup/\ ∀b∈(A1++A2).fps,F b\/w.heap.size<=b
def cW (P:Program) (gl:bF) (E:Entry) (ds:List DV) (r:bO E.bI):Prop:=
 ∀(w:World) (F R:Nat->Prop) (bl:Nat->Nat) (args:Array Value) (dB dA:List DV) (AB AA:Env),ds=dB++dA->args.size=E.ins.length->qu gl E w F R bl (fun i=>args.getD i undef) dB dA AB AA->
  Calls P E.f args w fun
   |.returned u,w'=>match E.back with
    |none=>iz E w w' F R bl r u
    |some t=>u=.tuple #[]/\iz E w w' F R bl r (args.getD t undef)
   |_,_=>False
def ki (E:Entry):Bool:=
 yi true E.ins&&(okB true E.bx&&(okV false E.outs&&(E.bP.all (lU (E.bx.map (·.1)))&&(decide ((E.bx.map (·.1)).Nodup)&&(ç E.bx.length E.bP.length&&(E.back.isNone||(E.bx.isEmpty&&E.fn.results.isEmpty)))))))
end Go.Ev
namespace Go.Ev
section
variable {w0 w w':World} {F R:Nat→Prop} {st st':St} {θ:Asg} {β:Type} {y:β} {l:Log}
theorem Ni: ∀ {cx:List Nat} {k:M β} {l:Log},(Ev.alive cx k).run st=some (y,st',l)->(∀n∈cx,(st.aj n).bp.isSome=true)/\ ∃b,k.run st=some (y,st',b)
 | [],k,l,h=>⟨by simp,l,h⟩
 |n::r,k,l,h=>by
  simp only [Ev.alive]at h;obtain⟨b,h⟩:=M.fK h;obtain⟨d,h⟩:=M.aM h;obtain⟨f,g⟩:=Ni h;refine⟨fun m hm=> ?_,g⟩
  rcases Ç.1 hm with rfl|hm
  .exact d
  .exact f m hm
theorem Inv.YQ (m:Inv w0 F R st θ w) {Fc:Nat->Prop} {Bb:Nat->Option (List Cell)}
  (z:w.heap.size<=w'.heap.size) (ad:w'.os=w.os) (ae:w'.tape=w.tape) (q:w'.output=w.output)
  (f: ∀g,g<w.heap.size-> ¬Fc g->hp w' g=hp w g) (af: ∀g,Fc g->F g\/w0.heap.size<=g) (ag: ∀g,R g-> ¬Fc g) (ah: ∀k g,(st.aj k).bp.isSome=true->g∈θ.fp k-> ¬Fc g)
  (hB: ∀b,(Bb b=st.boxes b/\((st.boxes b).isSome=true-> ¬Fc (θ.bx b)))\/
   ((st.boxes b).isSome=true/\ ∃arr ty frz,Bb b=some (è arr.size .undef)/\hp w' (θ.bx b)=some (.cells arr ty frz)/\ir arr.size frz/\ ∀v∈arr.toList,cC v=true)):
  Inv w0 F R (st.cZ Bb) θ w'/\Step R st θ (hp w) (st.cZ Bb) θ (hp w'):=by
 have hR: ∀g,R g->hp w' g=hp w g:=fun g p=>f g (é (m.rd g p).1 m.size) (ag g p)
 have hO: ∀k,(st.aj k).bp.isSome=true-> ∀g∈θ.fp k,hp w' g=hp w g:=fun k hk g p=>f g (m.kd (.inr ⟨k,hk,p⟩)) (ah k g hk p)
 have j: ∀b,(Bb b).isSome=true->(st.boxes b).isSome=true:=fun b r=>by
  rcases hB b with⟨e, -⟩|⟨h, -⟩
  .rw [<-e];exact r
  .exact h
 have s:Step R st θ (hp w) (st.cZ Bb) θ (hp w'):=by
  refine⟨hR,fun b r=>⟨?_,rfl⟩,fun k=>.inl ⟨rfl,fun hk=>⟨rfl,rfl,hO k hk⟩⟩⟩
  rcases hB b with⟨e, -⟩|⟨h,arr,ty,frz,e, -⟩
  .show(Bb b).isSome=true
   rw [e];exact r
  .show(Bb b).isSome=true
   rw [e];rfl
 refine⟨m.next s z ad ae q (fun g p e=>ë fun hn=>e (f g p fun hf=>hn (af g hf))) ?_ (fun k d hd=>.inl ⟨hd,rfl,rfl,hO k (î.2 ⟨_,hd⟩)⟩)
  (fun b b' t h2=>m.bb b b' (j b t) (j b' h2)) (fun b k t=>m.bo b k (j b t)) m.oo ?_,s⟩
 .intro b cs i
  have i:Bb b=some cs:=i;rcases hB b with⟨e,hn⟩|⟨h,arr,ty,frz,e,t,h2,h3⟩
  .rw [e]at i
   exact .inl ⟨i,f _ (m.kd (.inl ⟨b,by simp [i],rfl⟩)) (hn (by simp [i]))⟩
  .rw [e]at i
   cases i;refine .inr ⟨arr,ty,frz,t,h2, ?_⟩
   have: ∀vs:List Value,(∀v∈vs,cC v=true)->aI (hp w') R (st.cZ Bb) θ (è vs.length .undef) vs:=by
    intro vs;induction vs with
    |nil=>intro _;simp [aI]
    |cons v vs ih=>
     intro hv;simp only [Ą,List.replicate_succ,aI];exact⟨v,vs,rfl,⟨by simp [az],hv v (by simp)⟩,ih (fun u hu=>hv u (by simp [hu]))⟩
   have:=this arr.toList h3;rwa [Array.length_toList]at this
 .rintro g (⟨b,r,rfl⟩|⟨k,hk,p⟩)
  .exact m.own _ (.inl ⟨b,j b r,rfl⟩)
  .exact m.own _ (.inr ⟨k,hk,p⟩)
theorem iw.any {B:Nat->Nat->Prop} {Bb:Nat->Option (List Cell)} {su:St} {L:Env} (h:iw w0 F R B true Bb w su θ L) (L':Env):iw w0 F R B true Bb w su θ L':=⟨h.inv,by simp,h.bx⟩
theorem Nj {bm:List (Nat×Nat)} {bl:Nat->Nat} {N:List Nat}: ∀(bx:List (Nat×List CK)) (bP:List (List CK)) {su st':St} {θ:Asg} {Bb:Nat->Option (List Cell)} {L:Env} {ds rest:List DV} {A:Env} {k:M β} {l:Log},iw w0 F R rR true Bb w su θ L->bP.all (lU N)=true->(∀p∈bx,p.1∈N)->bT (hp w) R (eQ bl) true bl L (dL bx bP) ds A->fg w0 F (su.cZ Bb) θ A.fps->
  (∀m∈N,∀b,look m bm=some b->(Bb b).isSome=true/\θ.bx b=bl m)->(qa bx bP bm (ds++rest) k).run su=some (y,st',l)->
  ∃f θ' j l1,k.run f=some (y,st',l1)/\f.tmps=su.tmps/\Inv w0 F R (f.cZ j) θ' w/\Step R (su.cZ Bb) θ (hp w) (f.cZ j) θ' (hp w)/\(∀b,Bb b=su.boxes b->j b=f.boxes b)/\(∀p∈bx,∀b,look p.1 bm=some b->j b=f.boxes b)/\(bx=[]->f=su)
 | [],[],su,st',θ,Bb,L,ds,rest,A,k,l,hu,s,hN,hk,z,q,h=>by
  simp only [qa]at h;exact⟨su,θ,Bb,l,h,rfl,hu.inv,Step.refl _ _ _ _,fun _ h=>h,by simp,fun _=>rfl⟩
 | [],_::_,su,st',θ,Bb,L,ds,rest,A,k,l,hu,s,hN,hk,z,q,h=>by simp [qa,M.run]at h
 |_::_,[],su,st',θ,Bb,L,ds,rest,A,k,l,hu,s,hN,hk,z,q,h=>by simp [qa,M.run]at h
 |(m,k0)::bx,ks::bP,su,st',θ,Bb,L,ds,rest,A,k,l,hu,s,hN,hk,z,q,h=>by
  simp only [dL,bT]at hk;obtain⟨arr,ty,frz,d1,d2,A1,A2,rfl,rfl,h1,h2,h3,h4⟩:=hk;simp only [qa]at h;cases r:look m bm with
  |none=>simp [r,M.run]at h
  |some b=>
   simp only [r,Â]at h;simp only [Ĉ,À]at s;have h3:=bw.rQ (bm:=bm) (B':=fun b g=> ∃m∈N,look m bm=some b/\bl m=g) (L':=L) (fun m hm g t b q=>⟨m,hm,q,t⟩) ks s.1 h3
   have hu:iw w0 F R (fun b g=> ∃m∈N,look m bm=some b/\bl m=g) true Bb w su θ L:=⟨hu.inv,by simp,fun b g t _=>by
    obtain⟨m,hm,e1,e2⟩:=t;exact⟨(q m hm b e1).1,by rw [(q m hm b e1).2,e2]⟩⟩
   obtain⟨ai,aj,ak⟩:=bw.hC (mX bm ks) h3 L (nZ b) 0;rw [Env.dj,<-ak,<-Env.dj]at z;obtain⟨cs,i,θ1,l1,h,b1,t1,u1,s1,r1,x1,o1⟩:=qs (mX bm ks) hu aj z.left h;obtain⟨cs0,l2,bn,h⟩:=M.Mo h;obtain⟨al,ao⟩:=q m (hN (m,k0) (by simp)) b r
   obtain⟨c0,ae⟩:=î.1 al;obtain⟨i1,i2⟩:=u1.inv.Mj (b:=b) (cs0:=c0) (cs:=cs) (arr:=arr) (ty:=ty) (frz:=frz) (w':=w) ae rfl rfl rfl rfl (by rw [x1,ao];exact h1) h2 (fun _ _=>rfl) r1
   have u:=z.split (A1:=ai) (A2:=A2) (st1:=i.cZ Bb) (θ1:=θ1) o1;have af: ∀g,cU ((i.cZ Bb).cZ (aS Bb b (some cs))) θ1 g->cU (i.cZ Bb) θ1 g:=by
    rintro g (⟨b',d,e⟩|t)
    .by_cases e':b'=b
     .subst e';exact .inl ⟨b',by show(Bb b').isSome=true;rw [ae];rfl,e⟩
     .have ag:(aS Bb b (some cs) b').isSome=true:=d
      rw [aZ _ _ e']at ag;exact .inl ⟨b',ag,e⟩
    .exact .inr t
   have u2:iw w0 F R rR true (aS Bb b (some cs)) w {i with boxes:=aS i.boxes b (some cs)} θ1 (L++A1):=⟨i1,by simp,fun m g hm=>hm.elim⟩
   obtain⟨aq,ar,au,l3,h,t2,j1,j2,j3,j4, -⟩:=Nj bx bP u2 s.2 (fun p hp=>hN p (by simp [hp])) h4 ⟨u.nodup,fun g t=>⟨fun s=>(u.free g t).1 (af g s),(u.free g t).2⟩⟩ (fun m' av b' d=>by
    obtain⟨q1,q2⟩:=q m' av b' d;refine⟨?_,by rw [x1];exact q2⟩
    by_cases e:b'=b
    .subst e;simp [bC]
    .rw [aZ _ _ e];exact q1) h
   refine⟨aq,ar,au,l3,h,t2.trans t1,j1,(s1.trans i2).trans j2,fun b' d=>j3 b' ?_,fun p hp b' d=> ?_,fun e=>by cases e⟩
   .by_cases e:b'=b
    .subst e;simp [bC]
    .simp only [aZ _ _ e];rw [d,b1]
   .rcases Ç.1 hp with rfl|hp
    .have:b'=b:=by
      have e:look m bm=some b':=d;rw [r]at e;exact(Þ e).symm
     subst this;exact j3 b' (by simp [bC])
    .exact j4 p hp b' d
end
end Go.Ev
namespace Go.Ev
section
variable {P:Program} {w0 w:World} {F R:Nat→Prop} {st st':St} {θ:Asg} {l:Log}
theorem bT.blocks {H:Heap} {R:Nat->Prop} {B:Nat->Nat->Prop} {nal:Bool} {bl:Nat->Nat}: ∀ {bx:List (Nat×List CK)} {d:List (List CK)} {L:Env} {ds:List DV} {A:Env},bx.length=d.length->bT H R B nal bl L (dL bx d) ds A->
  ∀p∈bx,∃arr ty frz,H (bl p.1)=some (.cells arr ty frz)/\ir arr.size frz/\ ∀v∈arr.toList,cC v=true
 | [],_,_,_,_,_,_=>by simp
 |(m,g)::bx,[],_,_,_,f,_=>by simp at f
 |(m,g)::bx,ks::d,_,_,_,f,h=>by
  simp only [dL,bT]at h;obtain⟨arr,ty,frz,d1,d2,A1,A2, -, -,i,k,q,r⟩:=h;intro p hp;rcases Ç.1 hp with rfl|hp
  .refine⟨arr,ty,frz,i,k, ?_⟩
   have: ∀(ks:List CK) (L:Env) (j:Nat) (ds:List DV) (vs:List Value) (A:Env),bw H R B nal L (nZ m) j ks ds vs A-> ∀v∈vs,cC v=true:=by
    intro ks;induction ks with
    |nil=>intro L j ds vs A h v b;simp only [bw]at h;rw [h.2.1]at b;cases b
    |cons c cs ih=>
     intro L j ds vs A h v b;simp only [bw]at h;obtain⟨v0,s,d1,d2,A1,A2, -,rfl, -,t, -,u⟩:=h;rcases Ç.1 b with rfl|b
     .exact t
     .exact ih _ _ _ _ _ u v b
   exact this _ _ _ _ _ _ q
  .exact bT.blocks (by simpa using f) r p hp
def uw (E:Entry) (vals:Array Value) (u b:Value):Prop:=
 match E.back with
 |none=>b=u
 |some t=>u=.tuple #[]/\b=vals.getD t undef
theorem bK.less {θ:Asg} {w:World} {st sc:St} {f g:List Nat} (h:bK w0 F R θ w st sc (f++g)):bK w0 F R θ w st sc f:=
 ⟨h.inv,h.step,h.boxes,h.tmps,h.qm,(Ã.1 h.nodup).1,fun b d=>h.was b (ø _ d),fun b d=>h.free b (ø _ d)⟩
theorem DT {β:Type} {θ:Asg} {w:World} {st st':St} {f:Nat->Nat} {k:M β} {y:β}: ∀(j:Nat) {sc:St} {fps:List Nat} {l:Log},bK w0 F R θ w st sc fps->(ub f j k).run sc=some (y,st',l)->
  ∃g b p,k.run g=some (y,st',p)/\bK w0 F R θ w st g (fps++b)
 |0,sc,fps,l,i,h=>⟨sc,[],l,h,by rw [Ë];exact i⟩
 |j+1,sc,fps,l,i,h=>by
  simp only [ub]at h;obtain⟨p,h⟩:=M.fK h;cases hd:(sc.aj (f j)).bp with
  |none=>simp only [hd]at h;exact DT j i h
  |some d=>
   simp only [hd]at h;obtain⟨r,h⟩:=M.oC h;obtain⟨g,b,q,h,m⟩:=DT j (i.trans (bK.kill i.inv hd)) h;exact⟨g,θ.fp (f j)++b,q,h,by rw [<-Â];exact m⟩
theorem DU {β:Type} {θ:Asg} {w:World} {st st':St} {bm:List (Nat×Nat)} {k:M β} {y:β}: ∀(bx:List (Nat×List CK)) {sc:St} {fps:List Nat} {l:Log},bK w0 F R θ w st sc fps->(uc bx bm k).run sc=some (y,st',l)->
  ∃d f q,k.run d=some (y,st',q)/\bK w0 F R θ w st d (fps++f)
 | [],sc,fps,l,g,h=>⟨sc,[],l,h,by rw [Ë];exact g⟩
 |(m,ks)::r,sc,fps,l,g,h=>by
  simp only [uc]at h;cases s:look m bm with
  |none=>simp only [s]at h;exact DU r g h
  |some b=>
   simp only [s]at h;obtain⟨t,f1,q,h,i⟩:=DT ks.length g h;obtain⟨j,f2,u,h,p⟩:=DU r i h;exact⟨j,f1++f2,u,h,by rw [<-Â];exact p⟩
theorem Nk {β:Type} {tab:Nat->Entry} {D:(e:Nat)->List DV->Option (bO (tab e).bI)} {e:Nat} {bg:List TV} {d:Nat} {K:TV->M β} {y:β} {vals:Array Value}
  {gl:bF} (bh:oH gl w0 F) (hD: ∀e ds r,D e ds=some r->cW P gl (tab e) ds r) (hE:ki (tab e)=true) (hI:Inv w0 F R st θ w) (hv: ∀i c,bg[i]? =some c->aV (hp w) R st θ c (vals.getD i undef)) (hlen:bg.length=vals.size)
  (h:(xM tab D e bg d K).run st=some (y,st',l)):
  Calls P (tab e).f vals w fun
   |.returned u,w'=> ∃uv st2 θ' v l2,uw (tab e) vals u uv/\(K v).run st2=some (y,st',l2)/\Inv w0 F R st2 θ' w'/\Step R st θ (hp w) st2 θ' (hp w')/\aV (hp w') R st2 θ' v uv/\
     ((tab e).bx=[]->st2.boxes=st.boxes/\ ∀b,(st.boxes b).isSome=true->hp w' (θ.bx b)=hp w (θ.bx b))
   |_,_=>False:=by
 unfold xM at h;have cc:=hE;simp only [ki,À,Î]at cc;obtain⟨c5,c6,ek,c7,au,bj, -⟩:=cc;have au:((tab e).bx.map (·.1)).Nodup:=of_decide_eq_true au
 have bj:=Ä bj;have c0:eY st θ ⟨[],[],[],true,[]⟩ []:=⟨fun m n v wv h=>by simp [lP]at h,fun m b h=>by simp [look]at h,fun m m' b h=>by simp [look]at h⟩
 obtain⟨s1,ep,AA,dA,l1,h,cf,e1,x1,c1,r1,bk⟩:=Na hI (fun i=>vals.getD i undef) (tab e).ins (t:=0) (bK.refl hI) c0 (fun i c hi=>by simpa using hv i c hi) h
 obtain⟨av,dz,er,h,cg,ch,aw,bn⟩:=Nc hI (tab e).bx cf c1 h;have r1:=r1.mono aw.rl aw.bl;rw [<-ch]at e1;have x1:=x1.trans aw;clear c1 cf aw ch;obtain⟨s2,ea,AB,dB,l2,h,a6,e2,x2,c2,r2,da⟩:=DR hI (tab e).bx (s:={av with dv:=[]}) cg ⟨bn.used,bn.bm,bn.inj⟩ h
 obtain⟨ae,ee,lf,h,z⟩:=DU (tab e).bx a6 h;have z:=z.less;clear a6;obtain⟨ao,h⟩:=M.aM h;obtain⟨cj,l3,h⟩:=Ni h;obtain⟨r,hr,h⟩:=M.eI h;simp only [Ë]at e1 e2;rw [e1,e2,ur,ur,Ú,Ú,Ë]at hr;simp only [ä]at z c2 r2;have ck:fW av s2:=⟨x2.bm,x2.cx,x2.jb,x2.qn⟩;let Fc:Nat->Prop:=fun b=>b∈AA.fps++AB.fps\/ ∃p∈(tab e).bx,b=fw θ s2.bm p.1
 have ad: ∀p∈(tab e).bx,∃b,look p.1 s2.bm=some b/\(ae.boxes b).isSome=true/\fw θ s2.bm p.1=θ.bx b:=fun p hp=>by
  obtain⟨b,j,hs⟩:=da p hp;exact⟨b,j,by rw [z.boxes];exact hs,by simp [fw,j]⟩
 have cl: ∀b,Fc b->cU st θ b:=fun b j=>by
  rcases j with j|⟨p,hp,rfl⟩
  .exact z.was b j
  .obtain⟨b',h1,h2,h3⟩:=ad p hp
   rw [h3];exact z.owned (.inl ⟨b',h2,rfl⟩)
 have bq: ∀b,Fc b->F b\/w0.heap.size<=b:=fun b j=>hI.own b (cl b j)
 have a7: ∀b,R b-> ¬Fc b:=fun b j hf=>hI.ui (cl b hf) j
 have aq: ∀k g,(ae.aj k).bp.isSome=true->g∈θ.fp k-> ¬Fc g:=fun k g hk hg hf=>by
  rcases hf with hf|⟨p,hp,rfl⟩
  .exact z.free g hf (.inr ⟨k,hk,hg⟩)
  .obtain⟨b',h1,h2,h3⟩:=ad p hp
   rw [h3]at hg;exact z.inv.bo b' k h2 hk hg
 have db:qu gl (tab e) w Fc (Rl R θ s2.cx) (fw θ s2.bm) (fun i=>vals.getD i undef) dB dA AB AA:=by
  have hB:(true=true-> ∀m g,Bl θ s2.bm m g->eQ (fw θ s2.bm) m g):=fun _ m g ⟨b,h1,h2⟩=>by simp [eQ,fw,h1,h2]
  have cm:oH gl w Fc:=⟨ĉ bh.size hI.size,fun b j=>by
   obtain⟨g1,g2⟩:=bh.at_ b j;have dc:b<w0.heap.size:=é j bh.size;refine⟨fun hf=> ?_,(hI.same b dc g1).trans g2⟩
   rcases bq b hf with h|h
   .exact g1 h
   .omega⟩
  refine⟨r2.up hB c6,dQ.up hB c5 (r1.mono ck.rl ck.bl), ?_,fun b j=> ?_,fun b j=> ?_,cm⟩
  .rw [Env.dj]
   refine Ã.2 ⟨List.perm_append_comm.nodup_iff.1 z.nodup, ?_,fun b j c hc e=> ?_⟩
   .rw [Ó,à]
    rw [Ó,à]at au;refine Ý ?_ au
    intro p q hp hq dd heq;obtain⟨b1,h1,h2,h3⟩:=ad p hp;obtain⟨b2,h4,h5,h6⟩:=ad q hq;rw [h3,h6]at heq;have:=z.inv.bb b1 b2 h2 h5 heq;subst this;exact dd (c2.inj _ _ _ h1 h4)
   .subst e
    obtain⟨p,hp,rfl⟩:=È.1 hc;obtain⟨b',h1,h2,h3⟩:=ad p hp;refine z.free _ (by rw [É]at j |-;exact j.symm) (.inl ⟨b',h2,h3.symm⟩)
  .rcases É.1 j with j|j
   .rw [Env.dj,É]at j
    exact .inl (É.2 j.symm)
   .obtain⟨p,hp,rfl⟩:=È.1 j
    exact .inr ⟨p,hp,rfl⟩
  .rcases j with j|⟨n,hn,j⟩
   .exact⟨é (hI.rd b j).1 hI.size,a7 b j⟩
   .exact⟨z.inv.kd (.inr ⟨n,cj n hn,j⟩),aq n b (cj n hn) j⟩
 have br:=hD e _ r hr w Fc (Rl R θ s2.cx) (fw θ s2.bm) vals dB dA AB AA rfl (by rw [<-bk,hlen]) db
 refine br.mono fun en w' ho=> ?_
 cases en with
 |panicked _=>exact ho
 |outgrown=>exact ho
 |returned u0=>
  obtain⟨u,de,ho⟩: ∃u,uw (tab e) vals u0 u/\iz (tab e) w w' Fc (Rl R θ s2.cx) (fw θ s2.bm) r u:=by
   simp only at ho;unfold uw;cases j:(tab e).back with
   |none=>rw [j]at ho;exact⟨u0,rfl,ho⟩
   |some t=>rw [j]at ho;exact⟨_,⟨ho.1,rfl⟩,ho.2⟩
  obtain⟨o1,o2,o3,o4,o5,d1,A1,d2,A2,df,k1,k2,cn,a8⟩:=ho;have dh:bX (hp w') R rR true [] (fH 9000) (tab e).outs d1 u A1/\bT (hp w') R (eQ (fw θ s2.bm)) true (fw θ s2.bm) A1 (dL (tab e).bx (tab e).bP) d2 A2:=by
   rw [õ]at ao;rcases ao with hl|hl
   .have hl:s2.cx=[]:=by simpa using hl
    have cp: ∀b,Rl R θ s2.cx b->R b:=fun b j=>by
     rw [hl]at j;exact j.resolve_right (by rintro⟨n,hn, -⟩;cases hn)
    exact⟨k1.mono cp (fun _ _ h=>h),k2.mono cp (fun _ _ h=>h)⟩
   .rw [Ø,Ð]at hl
    exact⟨k1.fx hl.1,k2.fx hl.2⟩
  obtain⟨k1,k2⟩:=dh;let ps:List Nat:=(tab e).bx.filterMap fun p=>look p.1 s2.bm
  let Bb:Nat->Option (List Cell):=fun b=>if b∈ps then(match hp w' (θ.bx b)with|some (.cells arr _ _)=>some (è arr.size .undef)|_=>none)else ae.boxes b
  have cq:=bT.blocks bj k2;have hB: ∀b,(Bb b=ae.boxes b/\b∉ps)\/((ae.boxes b).isSome=true/\ ∃arr ty frz,Bb b=some (è arr.size .undef)/\hp w' (θ.bx b)=some (.cells arr ty frz)/\ir arr.size frz/\ ∀v∈arr.toList,cC v=true):=by
   intro b;by_cases j:b∈ps
   .right
    obtain⟨p,hp,ar⟩:=ß.1 j;obtain⟨b',h1,h2,h3⟩:=ad p hp;rw [ar]at h1;cases h1;obtain⟨arr,ty,frz,j1,j2,j3⟩:=cq p hp;rw [h3]at j1;exact⟨h2,arr,ty,frz,by simp [Bb,j,j1],j1,j2,j3⟩
   .left;exact⟨by simp [Bb,j],j⟩
  have bw:=z.inv.YQ (w':=w') (Fc:=Fc) (Bb:=Bb) o1 o3 o4 o5 o2 bq a7 aq (fun b=>(hB b).imp (fun ⟨h1,h2⟩=>⟨h1,fun hs hf=>by
   rcases hf with hf|⟨p,hp,he⟩
   .exact z.free _ hf (.inl ⟨b,hs,rfl⟩)
   .obtain⟨b',j1,j2,j3⟩:=ad p hp
    rw [j3]at he;have:=z.inv.bb b b' hs j2 he;subst this;exact h2 (ß.2 ⟨p,hp,j1⟩)⟩) id)
  obtain⟨i1,i2⟩:=bw;rw [df]at h;obtain⟨di,dk,dm⟩:=k1.hC [] (fH d);have bz: ∀g,cU (ae.cZ Bb) θ g->cU ae θ g:=by
   rintro g (⟨b,j,e⟩|hg)
   .have j:(Bb b).isSome=true:=j
    rcases hB b with⟨h1, -⟩|⟨h1, -⟩
    .exact .inl ⟨b,by rw [<-h1];exact j,e⟩
    .exact .inl ⟨b,h1,e⟩
   .exact .inr hg
  have ca:fg w0 F (ae.cZ Bb) θ (Env.fps (A1++A2)):=by
   refine⟨(Ã.1 cn).1,fun g hg=>⟨fun ho=> ?_, ?_⟩⟩
   .have ho:=bz g ho
    rcases a8 g hg with hf|ct
    .rcases hf with hf|⟨p,hp,rfl⟩
     .exact z.free g hf ho
     .exact(Ã.1 cn).2.2 _ hg _ (È.2 ⟨p,hp,rfl⟩) rfl
    .have:=z.inv.kd ho
     omega
   .rcases a8 g hg with hf|ct
    .exact bq g hf
    .exact .inr (ĉ z.inv.size ct)
  have ai:fg w0 F (ae.cZ Bb) θ (Env.fps (di++A2)):=by
   rw [Env.dj,dm,<-Env.dj];exact ca
  have u0:iw w0 F R rR true Bb w' ae θ []:=⟨i1,by simp,fun m g hm=>hm.elim⟩
  obtain⟨x,dn,θ1,l4,h,b1,t1,u1,av,dp,xb,dq⟩:=MZ (tab e).outs u0 dk ai.left h;have az:=ai.split (st1:=dn.cZ Bb) (θ1:=θ1) dq;rw [<-Ë d2]at h;obtain⟨a1,dr,cu,l5,h,t2,j1,j2,j3,j4,j5⟩:=Nj (bl:=fw θ s2.bm) (N:=(tab e).bx.map (·.1)) (tab e).bx (tab e).bP (u1.any A1) (Î.2 c7) (fun p hp=>È.2 ⟨p,hp,rfl⟩) k2 az (fun m hm b ar=>by
   obtain⟨p,hp,rfl⟩:=È.1 hm;obtain⟨b',q1,q2,q3⟩:=ad p hp;rw [ar]at q1;cases q1;refine⟨?_,by rw [xb,q3]⟩
   rcases hB b with⟨h1, -⟩|⟨-,arr,ty,frz,h1, -⟩
   .rw [h1];exact q2
   .rw [h1];rfl) h
  have dt:cu=a1.boxes:=by
   funext b
   by_cases j:b∈ps
   .obtain⟨p,hp,ar⟩:=ß.1 j
    exact j4 p hp b ar
   .exact j3 b (by rw [b1];simp [Bb,j])
  have du:a1.cZ cu=a1:=by rw [dt];rfl
  rw [du]at j1 j2;refine⟨u,a1,dr,x,l5,de,h,j1,((z.step.trans i2).trans av).trans j2,aV.step j2 _ _ dp,fun bf=>⟨?_,fun b j=> ?_⟩⟩
  .rw [j5 bf,b1,z.boxes]
  .refine o2 _ (hI.kd (.inl ⟨b,j,rfl⟩)) fun hf=> ?_
   rcases hf with hf|⟨p,hp, -⟩
   .exact z.free _ hf (.inl ⟨b,by rw [z.boxes];exact j,rfl⟩)
   .rw [bf]at hp;cases hp
theorem YR (hI:Inv w0 F R st θ w) {n v:Nat} {d0:DV} (hd:(st.aj n).bp=some d0) (hv:v=(st.aj n).aG) {u:Value} (ha:θ.ob n=u) {st2:St} {θ':Asg} {w':World} (ae:Inv w0 F R st2 θ' w') (hs:Step R st θ (hp w) st2 θ' (hp w'))
  (ah:st2.boxes=st.boxes) (ai: ∀b,(st.boxes b).isSome=true->hp w' (θ.bx b)=hp w (θ.bx b)) {r y:TV} (hr:aV (hp w') R st2 θ' r u) (h:(Dy n v (st.aj n).wv d0 r).run st2=some (y,st',l)):
  ∃p,Inv w0 F R st' p w'/\Step R st θ (hp w) st' p (hp w')/\y=.aP []:=by
 unfold Dy at h;split at h
 .rename_i c
  simp only [aV]at hr;obtain⟨x,st3,fps,l1,h,f,ak,af⟩:=um ae hr.1 h;obtain⟨hlen,h⟩:=M.aM h;have hlen:=Ä hlen;obtain⟨l2,h⟩:=M.fK h;obtain⟨al,h⟩:=M.aM h;obtain⟨l3,h⟩:=M.oC h;obtain⟨rfl,rfl⟩:=M.gI h;have s3:=hs.trans f.step;let p:Asg:=⟨θ'.bx,aS θ'.ob n u,aS θ'.fp n fps⟩
  have q:Step R st θ (hp w) {st3 with aj:=aS st3.aj n ⟨v,(st.aj n).wv+1,some ⟨d0.c,x⟩⟩} p (hp w'):=by
   refine⟨s3.rd,fun b t=>s3.bx b t,fun k=> ?_⟩
   by_cases e:k=n
   .subst e
    refine .inr (.inr ⟨by simp only [bC];exact hv,by simp only [bC];omega,by rw [hd];rfl,fun d' h'=> ?_⟩)
    simp only [bC,Å]at h';subst h';exact⟨by show aS θ'.ob k u k=θ.ob k;rw [bC,ha],d0,hd,rfl,hlen⟩
   .have:=s3.ob k
    show(aS st3.aj n _ k=st.aj k/\(_->aS θ'.ob n u k=θ.ob k/\aS θ'.fp n fps k=θ.fp k/\_))\/_;simp only [aZ _ _ e];rcases this with h|h|⟨h1,h2,h3,h4⟩
    .exact .inl h
    .exact .inr (.inl h)
    .refine .inr (.inr ⟨h1,h2,h3,fun d' h'=> ?_⟩)
     obtain⟨q1,q2⟩:=h4 d' h';refine⟨?_,q2⟩
     show aS θ'.ob n u k=θ.ob k;rw [aZ _ _ e];exact q1
  have m: ∀g∈fps,¬cU st3 θ' g:=f.free
  refine⟨p,⟨f.inv.size,f.inv.same,f.inv.os,f.inv.tape,f.inv.out,f.inv.rd,fun b cs s=> ?_,fun k d hk=> ?_,fun b b'=>f.inv.bb b b',fun b k t hk=> ?_,fun k k' g hk z i j=> ?_,fun g i=> ?_⟩,q,rfl⟩
  .have s:st3.boxes b=some cs:=s
   rw [f.boxes,ah]at s;obtain⟨arr,ty,frz,k1,k2,k3⟩:=hI.boxes b cs s;have t:(st.boxes b).isSome=true:=by rw [s];rfl
   refine⟨arr,ty,frz, ?_,k2,aI.step q _ _ k3⟩
   show hp w' (θ'.bx b)=_;rw [(hs.bx b t).2,ai b t];exact k1
  .by_cases e:k=n
   .subst e
    simp only [bC,Å]at hk;subst hk;refine⟨ak, ?_, ?_⟩
    .show aD (hp w') R true _ (aS θ'.ob k u k) (aS θ'.fp k fps k)
     rw [bC,bC];exact af
    .show(aS θ'.fp k fps k).Nodup
     rw [bC];exact f.nodup
   .simp only [aZ _ _ e]at hk
    obtain⟨q1,q2,q3⟩:=f.inv.aj k d hk;refine⟨q1, ?_, ?_⟩
    .show aD (hp w') R true _ (aS θ'.ob n u k) (aS θ'.fp n fps k)
     rw [aZ _ _ e,aZ _ _ e];exact q2
    .show(aS θ'.fp n fps k).Nodup
     rw [aZ _ _ e];exact q3
  .show θ'.bx b∉aS θ'.fp n fps k
   by_cases e:k=n
   .subst e
    rw [bC];exact fun hm=>m _ hm (.inl ⟨b,t,rfl⟩)
   .rw [aZ _ _ e]
    simp only [aZ _ _ e]at hk;exact f.inv.bo b k t hk
  .have i:g∈aS θ'.fp n fps k:=i
   have j:g∈aS θ'.fp n fps k':=j;by_cases e:k=n<;>by_cases e':k'=n
   .rw [e,e']
   .subst e
    rw [bC]at i;rw [aZ _ _ e']at j;simp only [aZ _ _ e']at z;exact absurd (.inr ⟨k',z,j⟩) (m _ i)
   .subst e'
    rw [bC]at j;rw [aZ _ _ e]at i;simp only [aZ _ _ e]at hk;exact absurd (.inr ⟨k,hk,i⟩) (m _ j)
   .rw [aZ _ _ e]at i
    rw [aZ _ _ e']at j;simp only [aZ _ _ e]at hk;simp only [aZ _ _ e']at z;exact f.inv.oo k k' g hk z i j
  .rcases i with⟨b,t,e⟩|⟨k,hk,i⟩
   .exact f.inv.own g (.inl ⟨b,t,e⟩)
   .have i:g∈aS θ'.fp n fps k:=i
    by_cases e:k=n
    .subst e
     rw [bC]at i;exact ae.own g (f.was g i)
    .rw [aZ _ _ e]at i
     simp only [aZ _ _ e]at hk;exact f.inv.own g (.inr ⟨k,hk,i⟩)
 .simp [M.run]at h
theorem YS {tab:Nat->Entry} {gZ:FuncId->List Nat} {D:(e:Nat)->List DV->Option (bO (tab e).bI)} {f:FuncId} {j:List TV} {d:Nat} {v:TV} {vals:Array Value}
  {gl:bF} (m:oH gl w0 F) (hD: ∀e ds r,D e ds=some r->cW P gl (tab e) ds r) (hE: ∀e,ki (tab e)=true) (hI:Inv w0 F R st θ w) (hv: ∀i c,j[i]? =some c->aV (hp w) R st θ c (vals.getD i undef)) (hlen:j.length=vals.size)
  (h:(qd tab gZ D f j d).run st=some (v,st',l)):
  Calls P f vals w fun
   |.returned u,w'=> ∃θ',Inv w0 F R st' θ' w'/\Step R st θ (hp w) st' θ' (hp w')/\aV (hp w') R st' θ' v u
   |_,_=>False:=by
 unfold qd at h;split at h
 .simp [M.run]at h
 rename_i e he;obtain⟨hf,h⟩:=M.aM h;have hf:=Ä hf;rw [<-hf];split at h
 .rename_i s
  refine(Nk m hD (hE e) hI hv hlen h).mono fun en w' k=> ?_
  cases en with
  |panicked _=>exact k
  |outgrown=>exact k
  |returned u=>
   obtain⟨uv,st2,θ',x,l2,g,h2,h3,h4,h5, -⟩:=k;obtain⟨rfl,rfl⟩:=M.gI h2;unfold uw at g;rw [s]at g;simp only at g;subst g;exact⟨θ',h3,h4,h5⟩
 .rename_i t s
  split at h
  .rename_i n aG ht
   obtain⟨l1,h⟩:=M.fK h;split at h
   .rename_i d0 hd
    obtain⟨b,h⟩:=M.aM h;have b:=Ä b;have z:=hv t _ ht;simp only [aV,az]at z;have z:=(z.1.2 b (by rw [hd];rfl)).symm
    have p:(tab e).bx=[]:=by
     have q:=hE e;simp only [ki,À,Î]at q;have:=q.2.2.2.2.2.2;rw [s]at this;simp only [þ,ý,À,List.isEmpty_iff]at this;exact this.1
    refine(Nk m hD (hE e) hI hv hlen h).mono fun en w' k=> ?_
    cases en with
    |panicked _=>exact k
    |outgrown=>exact k
    |returned u=>
     obtain⟨uv,st2,θ',x,l2,g,h2,h3,h4,h5,h6⟩:=k;unfold uw at g;rw [s]at g;obtain⟨rfl,rfl⟩:=g;obtain⟨al,ao⟩:=h6 p;obtain⟨aq,q1,q2,rfl⟩:=YR hI hd b z h3 h4 al ao h5 h2;exact⟨aq,q1,q2,by simp only [aV,bW];exact⟨#[],rfl,rfl⟩⟩
   .simp [M.run]at h
  .simp [M.run]at h
end
end Go.Ev
namespace Go.Ev
def rS (P:Program) (w0:World) (F R:Nat->Prop) (st:St) (θ:Asg) (w:World) (o:Oper) (a:Act) (v:TV) (st':St):Prop:=
 ∀(K:Act->World->Prop) (Q:Exit->Act->World->Prop),(∀u w' θ',Inv w0 F R st' θ' w'->Step R st θ (hp w) st' θ' (hp w')->aV (hp w') R st' θ' v u->K (a.put o.dst u) w')->o.wp P a w K Q
section
variable {P:Program} {T:TypeId→Option TyI} {w0 w:World} {F R:Nat→Prop} {st st':St} {θ:Asg} {a:Act} {o:Oper} {v:TV} {l:Log}
theorem aY.ok (h:aY P w0 F R st θ w o a v st'):rS P w0 F R st θ w o a v st':=by
 intro K Q d;obtain⟨u,w',θ',b,f,g,i⟩:=h.out;unfold Oper.wp;rcases b with b|⟨b,rfl⟩
 .rw [b,Oper.upon_value]
  exact d u w' θ' f g i
 .rw [b,Oper.upon_skip]
  exact d _ w' θ' f g i
theorem YT {f:FuncId} {vals:Array Value} (he:(execOp a.eval o).run P w=.ok (.enter f vals) w)
  (b:Calls P f vals w fun
   |.returned u,w'=> ∃θ',Inv w0 F R st' θ' w'/\Step R st θ (hp w) st' θ' (hp w')/\aV (hp w') R st' θ' v u
   |_,_=>False):rS P w0 F R st θ w o a v st':=by
 intro K Q d;unfold Oper.wp;rw [he,Oper.upon_enter];refine b.mono fun e w' h=> ?_
 cases e with
 |returned u=>obtain⟨θ',g,i,j⟩:=h;exact d u w' θ' g i j
 |panicked _=>exact h.elim
 |outgrown=>exact h.elim
def Enters (P:Program) (f:FuncId):Prop:= ∃fn,P.funcs[f]? =some fn/\(fn.name== "runtime.NumGoroutine")=false/\fn.body.isNone=false
theorem YU {f:FuncId} (h:Enters P f) (vals:Array Value):(callFunc f vals).run P w=.ok (.enter f vals) w:=by
 obtain⟨fn,i,j,k⟩:=h;have d: ¬fn.name= "runtime.NumGoroutine" :=by simpa using j
 cases g:fn.body with
 |none=>simp [g]at k
 |some b=>simp [callFunc,i,d,g]
theorem aI.vs {H:Heap}: ∀ {cs:List Cell} {vs:List Value},aI H R st θ cs vs->bW H R st θ (cs.map .one) vs
 | [],vs,h=>by simp only [aI]at h;simp [bW,h]
 |c::cs,vs,h=>by
  simp only [aI]at h;obtain⟨v,b,rfl,d,f⟩:=h;simp only [Ï,bW];exact⟨v,b,rfl,⟨d.1,.inr d.2⟩,f.vs⟩
theorem bW.append {H:Heap}: ∀ {cs ds:List TV} {vs us:List Value},bW H R st θ cs vs->bW H R st θ ds us->bW H R st θ (cs++ds) (vs++us)
 | [],ds,vs,us,h,k=>by simp only [bW]at h;subst h;simpa using k
 |c::cs,ds,vs,us,h,k=>by
  simp only [bW]at h;obtain⟨v,b,rfl,d,f⟩:=h;simp only [ñ,bW];exact⟨v,b++us,rfl,d,f.append k⟩
theorem bW.length {H:Heap}: ∀ {cs:List TV} {vs:List Value},bW H R st θ cs vs->cs.length=vs.length
 | [],vs,h=>by simp only [bW]at h;simp [h]
 |c::cs,vs,h=>by
  simp only [bW]at h;obtain⟨v,b,rfl, -,d⟩:=h;simp [d.length]
theorem YV {tab:Nat->Entry} {gZ:FuncId->List Nat} {D:(e:Nat)->List DV->Option (bO (tab e).bI)} (j:Ok P T) {gl:bF} (ar:oH gl w0 F) (hD: ∀e ds r,D e ds=some r->cW P gl (tab e) ds r) (hE: ∀e,ki (tab e)=true) (hF: ∀e,Enters P (tab e).f)
  (hI:Inv w0 F R st θ w) (k:Tm (hp w) R st θ a) (h:(dp T (qd tab gZ D) (bE st) o).run st=some (v,st',l)):rS P w0 F R st θ w o a v st':=by
 have ai: ∀(f:FuncId) (ak:List TV) (vals:List Value) (d:Nat),bW (hp w) R st θ ak vals->(execOp a.eval o).run P w=(callFunc f vals.toArray).run P w->(qd tab gZ D f ak d).run st=some (v,st',l)->rS P w0 F R st θ w o a v st':=by
  intro f ak vals d hr he h;have au:Enters P f:=by
   have h':=h;unfold qd at h';split at h'
   .simp [M.run]at h'
   .rename_i e _
    obtain⟨hf, -⟩:=M.aM h';rw [<-Ä hf];exact hF e
  refine YT (f:=f) (vals:=vals.toArray) (by rw [he,YU au]) (YS ar hD hE hI (fun i c hi=> ?_) (by simpa using hr.length) h)
  obtain⟨u,hu,av⟩:=hr.get hi;have:vals.toArray.getD i undef=u:=by simp [Á,hu]
  rw [this];exact av
 cases hop:o.op with
 |move x=>simp only [dp,hop]at h;exact(My hI k (.inl hop) h).ok
 |assign x=>simp only [dp,hop]at h;exact(My hI k (.inr hop) h).ok
 |pick c x y=>
  simp only [dp,hop]at h;split at h
  .rename_i b hb;exact(Yb hI k hop hb h).ok
  .simp [M.run]at h
 |alloc t=>
  simp only [dp,hop]at h;split at h
  .rename_i i hi;exact(Yc j hI hop hi h).ok
  .simp [M.run]at h
 |box t x=>
  simp only [dp,hop]at h;split at h
  .exact(Yd hI k hop h).ok
  .simp [M.run]at h
 |build t parts=>
  simp only [dp,hop]at h;split at h
  .rename_i fs sz bd z c q hi;exact(YC j hI k hop hi rfl h).ok
  .simp [M.run]at h
 |buildSlice t len parts=>
  simp only [dp,hop]at h;split at h
  .rename_i c hc;exact(YB j hI k hop hc h).ok
  .simp [M.run]at h
 |load t x=>
  simp only [dp,hop]at h;split at h
  .rename_i i hi;exact(Ya j hI k hop hi h).ok
  .simp [M.run]at h
 |store t x y=>
  simp only [dp,hop]at h;split at h
  .rename_i i hi;exact(Yw j hI k hop hi h).ok
  .simp [M.run]at h
 |nilCheck x=>
  simp only [dp,hop]at h;split at h
  all_goals first
   |(rename_i hx;exact(Ye hI k hop hx trivial h).ok)
   |simp [M.run]at h
 |binOp op t x y t'=>
  simp only [dp,hop]at h;exact(XY j hI k hop h).ok
 |unOp op t x=>
  simp only [dp,hop]at h;split at h
  .rename_i hx;exact(Yf hI k hop hx h).ok
  .rename_i hx;exact(Yg hI k hop hx h).ok
  .simp [M.run]at h
 |convert s t x=>
  simp only [dp,hop]at h;split at h
  .rename_i h1 h2 h3;exact(Yh j hI k hop h1 h2 h3 h).ok
  .rename_i h1 h2 h3
   split at h
   .rename_i c hc;exact(YE j hI k hop h1 hc h3 h).ok
   .simp [M.run]at h
  .rename_i h1 h2 h3;exact(YD j hI k hop h2 h3 h).ok
  .rename_i h1 h2 h3;exact(Yi j hI k hop h1 h2 h3 h).ok
  .simp [M.run]at h
 |makeFunc fn x y=>
  cases fn with
  |func f=>
   simp only [dp,hop]at h;split at h
   .rename_i h1 h2;exact(Yr hI k hop h1 h2 h).ok
   .simp [M.run]at h
  |_=>simp [dp,hop,M.run]at h
 |makeSlice t x y=>
  simp only [dp,hop]at h;split at h
  .rename_i h1 h2 h3;exact(YF j hI k hop h1 h2 h3 h).ok
  .simp [M.run]at h
 |slice t x lo hi mx=>
  cases mx with
  |some m=>
   cases lo with
   |some _=>simp [dp,hop,M.run]at h
   |none=>
    cases hi with
    |none=>simp [dp,hop,M.run]at h
    |some hi=>
     simp only [dp,hop]at h;split at h
     .rename_i h1 h2 h3;exact(Yq j hI k hop h1 h2 h3 h).ok
     .simp [M.run]at h
  |none=>simp only [dp,hop]at h;exact(Yp j hI k hop h).ok
 |fieldAddr s x f=>
  simp only [dp,hop]at h;split at h
  .rename_i hi
   split at h
   .rename_i hf;exact(Yl j hI k hop hi rfl hf h).ok
   .simp [M.run]at h
  .simp [M.run]at h
 |field s x f=>
  simp only [dp,hop]at h;split at h
  .rename_i hi hx
   split at h
   .rename_i hf
    split at h
    .rename_i ti aw;exact(Ym j hI k hop hi rfl hf aw hx h).ok
    .simp [M.run]at h
   .simp [M.run]at h
  .simp [M.run]at h
 |indexAddr t x i=>simp only [dp,hop]at h;exact(Yo j hI k hop h).ok
 |index t x i=>simp only [dp,hop]at h;exact(Yj j hI k hop h).ok
 |extract x i=>
  simp only [dp,hop]at h;split at h
  .rename_i vs hx
   split at h
   .rename_i y hy;exact(Yn hI k hop hx hy h).ok
   .simp [M.run]at h
  .simp [M.run]at h
 |call c=>
  simp only [dp,hop]at h;split at h
  .rename_i hc
   split at h
   .rename_i h1 h2;exact(Yk j hI k hop hc h1 h2 h).ok
   .simp [M.run]at h
  .rename_i hc
   split at h
   .rename_i h1 h2
    split at h
    .rename_i ct ax;exact(YJ j hI k hop hc h1 h2 ax h).ok
    .simp [M.run]at h
   .simp [M.run]at h
  .rename_i hc
   split at h
   .rename_i h1
    split at h
    .rename_i h2 h3;exact(Ys hI k hop hc h1 h2 h3 h).ok
    .simp [M.run]at h
   .simp [M.run]at h
  .rename_i hc
   split at h
   .rename_i h1
    split at h
    .rename_i h2 h3;exact(Yt hI k hop hc h1 h2 h3 h).ok
    .simp [M.run]at h
   .simp [M.run]at h
  .rename_i f hc
   refine ai f _ (c.args.toList.map a.eval) _ (yd k _) ?_ h
   have hm:(c.args.toList.map a.eval).toArray=c.args.map a.eval:=Č (by simp)
   rw [hm];simp [execOp,hop,resolve,hc,Act.eval,Deferred.ofValue,invoke]
  .rename_i g bf hc
   split at h
   .rename_i f p q hx
    have hr:=(dK k hx (by simp)).1
    simp only [az]at hr;obtain⟨va,vb,e,h1,h2⟩:=hr;refine ai f _ (va.toList++(c.args.toList.map a.eval++vb.toList)) _ (h1.vs.append ((yd k _).append h2.vs)) ?_ h
    have hm:(va.toList++(c.args.toList.map a.eval++vb.toList)).toArray=va++c.args.map a.eval++vb:=Č (by simp)
    rw [hm];simp [execOp,hop,resolve,hc,e,Deferred.ofValue,invoke]
   .simp [M.run]at h
  .simp [M.run]at h
 |_=>simp [dp,hop,M.run]at h
end
end Go.Ev
namespace Go.Ev
def jG (all:Array Oper) (o:Oper) (st:St):Option Bool:=
 match o.guard with
 |none=>some true
 |some (j,want)=>match(all[j]?).bind (·.dst)with
  |some t=>match st.tmps t with
   |.one (.b x)=>some (x==want)
   |.aP []=>some false
   |_=>none
  |none=>none
def kj (opf:(Operand->TV)->Oper->M TV) (all:Array Oper) (o:Oper) (st:St):Option (St×Log):=
 match jG all o st with
 |some true=>((opf (bE st) o).run st).map fun r=>(r.2.1.put o.dst r.1,r.2.2)
 |some false=>some (st.put o.dst (.aP []),.none)
 |none=>none
def gx (opf:(Operand->TV)->Oper->M TV) (all:Array Oper):List Oper->St->List Log->St->Prop
 | [],st,ls,st'=>ls=[]/\st'=st
 |o::rest,st,ls,st'=> ∃st1 l b,ls=l::b/\kj opf all o st=some (st1,l)/\gx opf all rest st1 b st'
theorem YW {α:Type} (f:Nat->α) (k:Nat):aS f k (f k)=f:=by
 funext i
 by_cases h:i=k
 .subst h;rw [bC]
 .rw [aZ _ _ h]
theorem DW {st:St} {t:Nat} {x:Bool} (h:st.tmps t=.one (.b x)):ja st t x=st:=by
 unfold ja;rw [<-h,YW]
section
variable {R':Type} {opf:(Operand→TV)→Oper→M TV} {all:Array Oper}
theorem YX {o:Oper} {st:St} {yes no:St->Option R'} {r:R'} (h:Dw all o st yes no=some r):
  (jG all o st=some true/\yes st=some r)\/(jG all o st=some false/\no st=some r):=by
 unfold Dw at h;split at h
 .rename_i b
  exact .inl ⟨by simp [jG,b],h⟩
 .rename_i j want b
  split at h
  .rename_i t f
   split at h
   .rename_i x d
    have hw:jG all o st=some (x==want):=by simp [jG,b,f,d]
    cases x<;>cases want<;>simp only [Y,ez]at h<;>rw [DW d]at h<;>rw [hw]
    .exact .inl ⟨rfl,h⟩
    .exact .inr ⟨rfl,h⟩
    .exact .inr ⟨rfl,h⟩
    .exact .inl ⟨rfl,h⟩
   .rename_i d
    exact .inr ⟨by simp [jG,b,f,d],h⟩
   .cases h
  .cases h
def na:List Log->List Log->Prop
 | [],[]=>True
 |l::ls,l'::ls'=>l.sub l'/\na ls ls'
 |_,_=>False
theorem yj: ∀(rest:List Oper) {st:St} {acc:List Log} {K:St->List Log->Option R'} {r:R'},mV opf all rest st acc K=some r->
  ∃st' ls ls',gx opf all rest st ls st'/\na ls ls'/\K st' (ls'.reverse++acc)=some r
 | [],st,acc,K,r,h=>by
  simp only [mV]at h;exact⟨st,[],[],⟨rfl,rfl⟩,trivial,h⟩
 |o::rest,st,acc,K,r,h=>by
  simp only [mV]at h;rcases YX h with⟨hw,h⟩|⟨hw,h⟩
  .obtain⟨v,st1,i,l',b,h, -,j⟩:=M.jW _ _ _ _ _ h
   obtain⟨st',ls,ls',d,f,g⟩:=yj rest h;refine⟨st',i::ls,l'::ls',⟨_,i,ls,rfl, ?_,d⟩,⟨j,f⟩,by simpa using g⟩
   simp [kj,hw,b]
  .obtain⟨st',ls,ls',d,f,g⟩:=yj rest h
   refine⟨st',.none::ls,.none::ls',⟨_,.none,ls,rfl, ?_,d⟩,⟨⟨fun _ h=>h,fun _ h=>h⟩,f⟩,by simpa using g⟩
   simp [kj,hw]
end
section
variable {P:Program} {w0 w:World} {F R:Nat→Prop} {st st':St} {θ:Asg} {a:Act} {opf:(Operand→TV)→Oper→M TV} {all:Array Oper} {Q:Exit→Act→World→Prop}
theorem Tm.step {H H':Heap} {st':St} {θ':Asg} (s:Step R st θ H st' θ' H') (b:st'.tmps=st.tmps) (h:Tm H R st θ a):Tm H' R st' θ' a:=fun t=>by
 rw [b];exact aV.step s _ _ (h t)
theorem iA (st:St) (d:Option Nat) (v:TV):(st.put d v).boxes=st.boxes/\(st.put d v).aj=st.aj:=by cases d<;>exact⟨rfl,rfl⟩
theorem yk (H:Heap) (st:St) (θ:Asg) (d:Option Nat) (x:TV):Step R st θ H (st.put d x) θ H:=
 ⟨fun _ _=>rfl,fun b f=>⟨by rw [(iA st d x).1];exact f,rfl⟩,fun k=>.inl ⟨by rw [(iA st d x).2],fun _=>⟨rfl,rfl,fun _ _=>rfl⟩⟩⟩
theorem Inv.put (h:Inv w0 F R st θ w) (d:Option Nat) (x:TV):Inv w0 F R (st.put d x) θ w:=by
 have e:=iA st d x;refine h.next (yk (hp w) st θ d x) (ì _) rfl rfl rfl (fun _ _ e=>absurd rfl e) (fun b cs f=>.inl ⟨by rw [<-e.1];exact f,rfl⟩) (fun k dd hd=>.inl ⟨by rw [<-e.2];exact hd,rfl,rfl,fun _ _=>rfl⟩) ?_ ?_ ?_ ?_
 .rw [e.1];exact h.bb
 .rw [e.1,e.2];exact h.bo
 .rw [e.2];exact h.oo
 .rintro g (⟨b,j,i⟩|⟨k,hk,i⟩)
  .rw [e.1]at j;exact h.own g (.inl ⟨b,j,i⟩)
  .rw [e.2]at hk;exact h.own g (.inr ⟨k,hk,i⟩)
theorem Tm.put {H:Heap} (h:Tm H R st θ a) {d:Option Nat} {x:TV} {u:Value} (b:aV H R st θ x u) (hd: ∀t,d=some t->t<a.tmps.size):Tm H R (st.put d x) θ (a.put d u):=by
 intro t;refine aV.step (yk H st θ d x) _ _ ?_
 cases d with
 |none=>exact h t
 |some d=>
  simp only [St.put,Act.put];by_cases e:t=d
  .subst e
   have:=hd t rfl;rw [bC,Á,Ù this]
   exact b
  .rw [aZ _ _ e,Á,Ô (fun h=>e h.symm),<-Á]
   exact h t
theorem Nl {H:Heap} (p:Tm H R st θ a) {o:Oper} {x:Bool} (h:jG all o st=some x):ï o (yielded all a.tmps)=x:=by
 unfold jG at h;split at h
 .rename_i g
  cases h;simp [ï,g]
 .rename_i j want g
  split at h
  .rename_i t r
   split at h
   .rename_i b k
    cases h;have f:=p t;rw [k]at f;simp only [aV,az]at f;have d:=f.1;have m:a.tmps[t]? =some (.bool b):=by
     rw [Á]at d;cases i:a.tmps[t]? with
     |none=>rw [i]at d;simp [undef]at d
     |some q=>rw [i]at d;simp at d;rw [d]
    simp [ï,g,yielded,r,m]
   .rename_i k
    cases h;have f:=p t;rw [k]at f;simp only [aV,bW]at f;obtain⟨arr,d,s⟩:=f;have hy:yielded all a.tmps j=none:=by
     unfold yielded;rw [r];simp only [Z];cases i:a.tmps[t]? with
     |none=>rfl
     |some q=>
      rw [Á,i]at d;simp only [â]at d;rw [d]
    simp [ï,g,hy]
   .cases h
  .cases h
theorem YY (H:Heap) (R:Nat->Prop) (st:St) (θ:Asg):aV H R st θ (.aP []) undef:=by
 simp only [aV,bW];exact⟨#[],rfl,rfl⟩
structure Nt where
 n:Nat
 keep:List (Nat×Value)
def Sz (nt:Nt) (a:Act):Prop:=a.tmps.size=nt.n/\ ∀p∈nt.keep,a.tmps.getD p.1 undef=p.2
def Nt.ok (nt:Nt) (t:Nat):Prop:=t<nt.n/\ ∀p∈nt.keep,t≠p.1
theorem Sz.put {nt:Nt} {a:Act} (h:Sz nt a) {d:Option Nat} (hd: ∀t,d=some t->nt.ok t) (u:Value):Sz nt (a.put d u):=by
 cases d with
 |none=>exact h
 |some t=>
  refine⟨by rw [<-h.1];simp [Act.put],fun p hp=> ?_⟩
  rw [<-h.2 p hp];have b:=(hd t rfl).2 p hp;simp only [Act.put,Á,Ô b]
theorem yl (hop: ∀ {st st':St} {θ:Asg} {w:World} {a:Act} {o:Oper} {v:TV} {l:Log},Inv w0 F R st θ w->Tm (hp w) R st θ a->(opf (bE st) o).run st=some (v,st',l)->rS P w0 F R st θ w o a v st') {n:Nt}:
  ∀(j:List Nat) {ops:List Oper} {st:St} {ls:List Log} {θ:Asg} {w:World} {a:Act},j.map (all[·]?)=ops.map some->gx opf all ops st ls st'->Inv w0 F R st θ w->Tm (hp w) R st θ a->Sz n a->(∀o∈ops,∀t,o.dst=some t->n.ok t)->
   (∀θ' q w',Inv w0 F R st' θ' w'->Step R st θ (hp w) st' θ' (hp w')->Tm (hp w') R st' θ' q->Sz n q->q.defers=a.defers->Q .normal q w')->wpOps P all Q j a w
 | [],ops,st,ls,θ,w,a,hm,h,r,d,s,hd,z=>by
  cases ops with
  |cons _ _=>simp at hm
  |nil=>
   obtain⟨-,rfl⟩:=h;simp only [wpOps];exact z θ a w r (Step.refl _ _ _ _) d s rfl
 |i::j,ops,st,ls,θ,w,a,hm,h,r,d,s,hd,z=>by
  cases ops with
  |nil=>simp at hm
  |cons o ops=>
   simp only [Ï,å]at hm;obtain⟨st1,l,ao,rfl,he,h⟩:=h;simp only [wpOps,hm.1];have k: ∀t,o.dst=some t->t<a.tmps.size:=fun t ht=>by rw [s.1];exact(hd o (by simp) t ht).1
   have m: ∀u,Sz n (a.put o.dst u):=fun u=>s.put (hd o (by simp)) u
   have p: ∀u,(a.put o.dst u).defers=a.defers:=fun u=>by cases o.dst<;>rfl
   unfold kj at he;split at he
   .rename_i hw
    obtain⟨⟨v,eC,l0⟩,b,he⟩:=ò.1 he;simp only [ã]at he;obtain⟨rfl,rfl⟩:=he;rw [if_pos (Nl d hw)];left
    refine hop r d b _ _ fun u w' θ' h1 h2 h3=> ?_
    have hk:=(M.gY _ _ _ _ _ b).1;have ad:=(d.step h2 hk).put h3 k;refine yl hop j hm.2 h (h1.put o.dst v) ad (m u) (fun o' f=>hd o' (by simp [f])) fun g a2 w2 j1 j2 j3 j4 j5=>z g a2 w2 j1 ((h2.trans (yk _ _ _ _ _)).trans j2) j3 j4 (j5.trans (p u))
   .rename_i hw
    simp only [Å,ã]at he;obtain⟨rfl,rfl⟩:=he;rw [if_neg (by rw [Nl d hw];simp)]
    refine yl hop j hm.2 h (r.put o.dst _) (d.put (YY (hp w) R st θ) k) (m _) (fun o' f=>hd o' (by simp [f])) fun g a2 w2 j1 j2 j3 j4 j5=>z g a2 w2 j1 ((yk _ _ _ _ _).trans j2) j3 j4 (j5.trans (p _))
   .cases he
end
end Go.Ev
namespace Go.Ev
theorem DX {xs b:List Nat} (h:om xs b=true): ∀n,n∈xs->n∉b:=by
 intro n d hm;simp only [om,Î]at h;have:=h n d;simp at this
 exact this hm
theorem St.ext' {s t:St} (b:s.tmps=t.tmps) (d:s.boxes=t.boxes) (f:s.aj=t.aj):s=t:=by
 cases s;cases t;simp_all
section
variable {opf:(Operand→TV)→Oper→M TV} {all:Array Oper}
def lV (opf:(Operand->TV)->Oper->M TV) (all:Array Oper) (o:Oper) (st:St):Option (M TV):=
 match jG all o st with
 |some true=>some (opf (bE st) o)
 |some false=>some (.ret (.aP []))
 |none=>none
theorem DY {o:Oper} {st s1:St} {l:Log} (h:kj opf all o st=some (s1,l)): ∃m v d,lV opf all o st=some m/\m.run st=some (v,d,l)/\s1=d.put o.dst v:=by
 unfold kj at h;split at h
 .rename_i hw
  obtain⟨⟨v,eC,f⟩,b,he⟩:=ò.1 h;simp only [ã]at he;obtain⟨rfl,rfl⟩:=he;exact⟨_,v,eC,by simp [lV,hw],b,rfl⟩
 .rename_i hw
  simp only [Å,ã]at h;obtain⟨rfl,rfl⟩:=h;exact⟨.ret (.aP []),.aP [],st,by simp [lV,hw],rfl,rfl⟩
 .cases h
theorem Nn {o:Oper} {st d:St} {l:Log} {m:M TV} {v:TV} (h:lV opf all o st=some m) (b:m.run st=some (v,d,l)):kj opf all o st=some (d.put o.dst v,l):=by
 unfold lV at h;unfold kj;split at h
 .rename_i hw
  cases h;simp [b]
 .rename_i hw
  cases h;simp only [M.run,Å,ã]at b;obtain⟨rfl,rfl,rfl⟩:=b;simp
 .cases h
theorem No (f: ∀(ρ b:Operand->TV) (o:Oper),(∀x∈o.op.operands.toList,ρ x=b x)->opf ρ o=opf b o) {o:Oper} {st st':St} (h: ∀t∈pW o all,st.tmps t=st'.tmps t):lV opf all o st=lV opf all o st':=by
 have i:opf (bE st) o=opf (bE st') o:=f _ _ _ fun x k=>by
  cases x with
  |tmp t=>exact h t (by simp only [pW,É];left;exact ß.2 ⟨_,k,rfl⟩)
  |_=>rfl
 have m:jG all o st=jG all o st':=by
  unfold jG;cases p:o.guard with
  |none=>rfl
  |some g=>
   obtain⟨j,want⟩:=g;cases d:(all[j]?).bind (·.dst)with
   |none=>simp only [d]
   |some t=>
    have:=h t (by simp only [pW,p,É];right;simp [d])
    simp only [d,this]
 unfold lV;rw [i,m]
theorem ym (s:St) (d:Option Nat) (v:TV):(s.put d v).tmps=match d with|some d=>aS s.tmps d v|none=>s.tmps:=by cases d<;>rfl
theorem DZ {s:St} {d:Option Nat} {v:TV} {t:Nat} (h: ∀d',d=some d'->d'≠t):(s.put d v).tmps t=s.tmps t:=by
 cases d with
 |none=>rfl
 |some d=>exact aZ _ _ (fun e=>h d rfl e.symm)
theorem Ea {s s':St} {n:Nat} (d:Option Nat) (v:TV) (h:same s s' n):same s (s'.put d v) n:=by
 obtain⟨f,g⟩:=h;exact⟨fun b i=>by rw [(iA s' d v).1];exact f b i,fun k hk=>by rw [(iA s' d v).2];exact g k hk⟩
theorem Np {s s':St} {n:Nat} (d:Option Nat) (v:TV) (h:same s s' n):same (s.put d v) s' n:=by
 obtain⟨f,g⟩:=h;exact⟨fun b i=>by rw [(iA s d v).1];exact f b i,fun k hk=>by rw [(iA s d v).2];exact g k hk⟩
theorem same.symm {s s':St} {n:Nat} (h:same s s' n):same s' s n:=⟨fun b d=>(h.1 b d).symm,fun k hk=>(h.2 k hk).symm⟩
theorem YZ {p q:Oper} {lp lq:Log} (h:indep all p q lp lq=true):(∀d,p.dst=some d->d∉pW q all/\q.dst≠some d)/\(∀d,q.dst=some d->d∉pW p all)/\om lp.wr lq.rd=true/\om lp.wr lq.wr=true/\om lq.wr lp.rd=true:=by
 simp only [indep,À]at h;obtain⟨⟨⟨⟨b,f⟩,g⟩,i⟩,j⟩:=h;refine⟨fun d hd=> ?_,fun d hd=> ?_,g,i,j⟩
 .rw [hd]at b
  simp only [À,Ø]at b;refine⟨fun hm=> ?_,fun e=> ?_⟩
  .have:=b.1;simp at this;exact this hm
  .have:=b.2;rw [e]at this;simp at this
 .rw [hd]at f
  simp at f
  exact f
theorem Za (hc: ∀(ρ ad:Operand->TV) (o:Oper),(∀x∈o.op.operands.toList,ρ x=ad x)->opf ρ o=opf ad o) {p q:Oper} {st s1 s2:St} {lp lq ae af:Log} (h1:kj opf all p st=some (s1,lp)) (h2:kj opf all q s1=some (s2,lq))
  (hi:indep all p q ae af=true) (hp:lp.sub ae) (hq:lq.sub af): ∃ag,kj opf all q st=some (ag,lq)/\kj opf all p ag=some (s2,lp):=by
 obtain⟨i1,i2,i3,i4,i5⟩:=YZ hi;have d3: ∀n,n∈lp.wr->n∉lq.rd:=fun n j hm=>DX i3 n (hp.2 n j) (hq.1 n hm)
 have d4: ∀n,n∈lp.wr->n∉lq.wr:=fun n j hm=>DX i4 n (hp.2 n j) (hq.2 n hm)
 have d5: ∀n,n∈lq.wr->n∉lp.rd:=fun n j hm=>DX i5 n (hq.2 n j) (hp.1 n hm)
 obtain⟨mp,vp,sp,e1,r1,rfl⟩:=DY h1;obtain⟨mq,vq,sq,e2,r2,rfl⟩:=DY h2;obtain⟨ah,ai⟩:=M.gY _ _ _ _ _ r1;obtain⟨aw,aj⟩:=M.gY _ _ _ _ _ r2;have ax:lV opf all q st=some mq:=by
  rw [<-e2];refine No hc fun t ht=> ?_
  rw [DZ (fun d hd=>fun e=>(i1 d hd).1 (e▸ht)),ah]
 obtain⟨f,ak,s⟩:=M.mT _ _ _ _ _ r2 st (fun n j=>by
  have u:n∉lp.wr:=fun hw=>j.elim (d3 n hw) (d4 n hw)
  exact Np _ _ (ai n u).symm)
 obtain⟨r, -⟩:=M.gY _ _ _ _ _ ak;refine⟨_,Nn ax ak, ?_⟩
 have az:lV opf all p (f.put q.dst vq)=some mp:=by
  rw [<-e1];refine(No hc fun t ht=> ?_).symm
  rw [DZ (fun d hd=>fun e=>i2 d hd (e▸ht)),r]
 obtain⟨a6,al,ao⟩:=M.mT _ _ _ _ _ r1 (f.put q.dst vq) (fun n j=>by
  have u:n∉lq.wr:=fun hw=>j.elim (d5 n hw) (fun h=>d4 n h hw)
  exact Ea _ _ ((s n).2 u))
 obtain⟨aq, -⟩:=M.gY _ _ _ _ _ al;have ar:=Nn az al;rw [ar];congr 2
 have g: ∀n,same (sq.put q.dst vq) (a6.put p.dst vp) n:=by
  intro n;refine Np _ _ (Ea _ _ ?_)
  by_cases m:n∈lp.wr
  .have i:=d4 n m
   have z:=(ao n).1 m;have a2:=aj n i;exact⟨fun b g=>by rw [z.1 b g,a2.1 b g,(iA sp _ _).1],fun k hk=>by rw [z.2 k hk,a2.2 k hk,(iA sp _ _).2]⟩
  .have z:=(ao n).2 m
   by_cases i:n∈lq.wr
   .have a2:=(s n).1 i
    exact⟨fun b g=>by rw [z.1 b g,(iA f _ _).1,a2.1 b g],fun k hk=>by rw [z.2 k hk,(iA f _ _).2,a2.2 k hk]⟩
   .have a2:=(s n).2 i
    have a3:=aj n i;have a4:=ai n m;exact⟨fun b g=>by rw [z.1 b g,(iA f _ _).1,a2.1 b g,a3.1 b g,(iA sp _ _).1,a4.1 b g],fun k hk=>by rw [z.2 k hk,(iA f _ _).2,a2.2 k hk,a3.2 k hk,(iA sp _ _).2,a4.2 k hk]⟩
 refine St.ext' ?_ (funext fun b=>(g (2*b)).1 b rfl) (funext fun k=>(g (2*k+1)).2 k rfl)
 rw [ym,ym,aq,aw,ym,ym,r,ah];cases a7:p.dst with
 |none=>rfl
 |some d=>
  cases a8:q.dst with
  |none=>rfl
  |some d'=>exact XF _ _ _ (fun e=>(i1 d a7).2 (by rw [a8,e]))
theorem bubble (i: ∀(ρ b:Operand->TV) (o:Oper),(∀x∈o.op.operands.toList,ρ x=b x)->opf ρ o=opf b o) {o:Oper} {l l':Log} (j:l.sub l'): ∀(pre:List (Oper×Log×Log)) {post:List Oper} {st st':St} {ls:List Log},gx opf all (pre.map (·.1)++o::post) st (pre.map (·.2.1)++l::ls) st'->
  (∀x∈pre,x.2.1.sub x.2.2/\indep all x.1 o x.2.2 l'=true)->gx opf all (o::(pre.map (·.1)++post)) st (l::(pre.map (·.2.1)++ls)) st'
 | [],post,st,st',ls,h,_=>h
 |(p,lp,d)::pre,post,st,st',ls,h,k=>by
  simp only [Ï,ñ,gx]at h;obtain⟨s1,m,q,e,r,s⟩:=h;simp only [å]at e;obtain⟨rfl,rfl⟩:=e;have ih:=bubble i j pre s (fun x f=>k x (by simp [f]))
  simp only [gx]at ih;obtain⟨s2,m,t,e,u,z⟩:=ih;simp only [å]at e;obtain⟨rfl,rfl⟩:=e;obtain⟨q1,q2⟩:=k (p,lp,d) (by simp)
  obtain⟨g,j1,j2⟩:=Za i r u q2 q1 j;simp only [Ï,ñ,gx];exact⟨g,l,_,rfl,j1,s2,lp,_,rfl,j2,z⟩
end
end Go.Ev
namespace Go.Ev
section
variable {opf:(Operand→TV)→Oper→M TV} {all:Array Oper}
structure Nq (all:Array Oper) (f:Nat->Oper×Log×Log) (m:Nat->Nat):Prop where
 ops: ∀i,i<all.size->all[i]? =some (f i).1
 pairs: ∀i j,i<j->j<all.size->(m j).testBit i=true\/indep all (f i).1 (f j).1 (f i).2.2 (f j).2.2=true
 na: ∀i,i<all.size->(f i).2.1.sub (f i).2.2
 Nr: ∀j,j<all.size-> ∀e∈(f j).1.after.toList,Ò .any e=true->e.on<j
 bits: ∀j,j<all.size-> ∀p,(m j).testBit p=true-> ∃e∈(f j).1.after.toList,Ò .any e=true/\(p=e.on\/(m e.on).testBit p=true)
theorem Zb {listed:Array Bool} {i j:Nat} (d:Bool) (hi:i<listed.size):(listed.setIfInBounds i true).getD j d=if j=i then true else listed.getD j d:=by
 by_cases h:j=i
 .subst h
  rw [if_pos rfl,Á,Ù hi]
  rfl
 .rw [if_neg h,Á,Ô (fun e=>h e.symm),<-Á]
theorem Ns (hc: ∀(ρ al:Operand->TV) (o:Oper),(∀x∈o.op.operands.toList,ρ x=al x)->opf ρ o=opf al o) {f:Nat->Oper×Log×Log} {m:Nat->Nat} (r:Nq all f m):
  ∀(fuel t:Nat) {listed:Array Bool} {rem:List Nat} {st st':St},rem.Pairwise (·< ·)->(∀i∈rem,i<all.size)->listed.size=all.size->(∀i,i<all.size->(listed.getD i true=false↔i∈rem))->
   (∀j,j<all.size->j∉rem-> ∀p,(m j).testBit p=true->p∉rem)->rem.length<=fuel->gx opf all (rem.map fun i=>(f i).1) st (rem.map fun i=>(f i).2.1) st'->
   ∃ls,gx opf all ((Ì .any all fuel t listed []).map fun i=>(f i).1) st ls st'/\ ∀i∈Ì .any all fuel t listed [],i<all.size
 |0,t,listed,rem,st,st',hp,hr,hs,hl,af,hf,h=>by
  have:rem=[]:=List.eq_nil_of_length_eq_zero (by omega)
  subst this;exact⟨_,by simpa [Ì]using h,by simp [Ì]⟩
 |fuel+1,t,listed,rem,st,st',hp,hr,hs,hl,af,hf,h=>by
  have s: ∀i,i∈Ê .any all listed->i∈rem/\ ∀e∈(f i).1.after.toList,Ò .any e=true->e.on∉rem:=by
   intro i hi;simp only [Ê,ą,ć,À,Ø]at hi;obtain⟨g,h1,h2⟩:=hi;refine⟨(hl i g).1 h1,fun e he q hm=> ?_⟩
   rw [r.ops i g]at h2;simp only [Ć,â,ÿ]at h2;have h3:=h2 e (by simpa using he)
   rw [q]at h3;simp only [Bool.not_true,ý]at h3;have aq:=hr _ hm;have h4:=(hl e.on aq).2 hm;rw [Á]at h3 h4;have:listed[e.on]? =some listed[e.on]:=Ü (by omega)
   rw [this]at h3 h4;simp only [â]at h3 h4;rw [h3]at h4;cases h4
  simp only [Ì];change ∃ls,gx opf all ((match (Ê .any all listed)[t%(Ê .any all listed).length]? with
   |some i=>Ì .any all fuel (t/(Ê .any all listed).length) (listed.setIfInBounds i true) [i]
   |none=>[].reverse).map fun i=>(f i).1) st ls st'/\ ∀i∈(match (Ê .any all listed)[t%(Ê .any all listed).length]? with
   |some i=>Ì .any all fuel (t/(Ê .any all listed).length) (listed.setIfInBounds i true) [i]
   |none=>[].reverse),i<all.size
  cases hi:(Ê .any all listed)[t%(Ê .any all listed).length]? with
  |none=>
   have au:Ê .any all listed=[]:=by
    cases hq:Ê .any all listed with
    |nil=>rfl
    |cons x xs=>
     rw [hq]at hi;have g:t%(x::xs).length<(x::xs).length:=Nat.mod_lt _ (by simp)
     rw [Í g]at hi
     cases hi
   have av:rem=[]:=by
    cases rem with
    |nil=>rfl
    |cons x xs=>
     exfalso
     have hx:=hr x (by simp)
     have:x∈Ê .any all listed:=by
      simp only [Ê,ą,ć,À,Ø];refine⟨hx,(hl x hx).2 (by simp), ?_⟩
      rw [r.ops x hx];simp only [Ć,â,ÿ];intro e he;cases q:Ò .any e with
      |false=>rfl
      |true=>
       have g:=r.Nr x hx e (by simpa using he) q
       have a1:e.on∉x::xs:=fun hm=>by
        rcases Ç.1 hm with h|h
        .omega
        .have:=(Ā.1 hp).1 _ h;omega
       have h5:listed.getD e.on true≠false:=fun h=>a1 ((hl e.on (by omega)).1 h)
       rw [Á]at h5 |-;have h6:listed[e.on]? =some listed[e.on]:=Ü (by omega)
       rw [h6]at h5 |-;simpa using h5
     rw [au]at this;cases this
   subst av;exact⟨_,by simpa using h,by simp⟩
  |some i=>
   obtain⟨aw,a7⟩:=s i (ù hi);have d:=hr i aw;obtain⟨pre,post,rfl⟩:=List.append_of_mem aw;obtain⟨p1,p2,p3⟩:=ú.1 hp;obtain⟨p4,p5⟩:=Ā.1 p2;have k: ∀p,(m i).testBit p=true->p∉pre++i::post:=by
    intro p u;obtain⟨e,he,q,ag⟩:=r.bits i d p u;have ax:=a7 e he q;rcases ag with rfl|ag
    .exact ax
    .exact af e.on (Nat.lt_trans (r.Nr i d e he q) d) ax p ag
   have ad:=bubble (opf:=opf) (all:=all) hc (o:=(f i).1) (l:=(f i).2.1) (l':=(f i).2.2) (r.na i d) (pre.map f) (post:=post.map fun i=>(f i).1) (ls:=post.map fun i=>(f i).2.1) (st:=st) (st':=st')
    (by simpa [ó,Function.comp_def]using h) (fun x hx=>by
     obtain⟨j,hj,rfl⟩:=È.1 hx;refine⟨r.na j (hr j (by simp [hj])), ?_⟩
     exact(r.pairs j i (p3 j hj i (by simp)) d).resolve_left (fun q=>k j q (by simp [hj])))
   simp only [gx]at ad;obtain⟨s1,l1,bt,e,h1,h2⟩:=ad;simp only [å]at e;obtain⟨rfl,rfl⟩:=e;have z: ∀j,j∈pre++post↔j∈pre++i::post/\j≠i:=by
    intro j;simp only [É,Ç];constructor
    .rintro(h|h)
     .exact⟨.inl h,fun e=>by have:=p3 j h i (by simp);omega⟩
     .exact⟨.inr (.inr h),fun e=>by have:=p4 j h;omega⟩
    .rintro⟨h|h|h,bd⟩
     .exact .inl h
     .exact absurd h bd
     .exact .inr h
   obtain⟨ay,k1,k2⟩:=Ns hc r fuel (t/(Ê .any all listed).length) (listed:=listed.setIfInBounds i true) (rem:=pre++post) (st:=s1) (st':=st')
    (ú.2 ⟨p1,p5,fun a ha b q=>p3 a ha b (by simp [q])⟩) (fun j hj=>hr j ((z j).1 hj).1) (by simpa using hs)
    (fun j hj=>by
     rw [Zb _ (by omega),z]
     by_cases e:j=i
     .subst e;simp
     .simp only [ne_eq,e,not_false_eq_true,and_true];exact hl j hj)
    (fun j hj bf p u bg=>by
     have ae:=(z p).1 bg;by_cases e:j=i
     .subst e;exact k p u ae.1
     .exact af j hj (fun hm=>bf ((z j).2 ⟨hm,e⟩)) p u ae.1)
    (by simp only [List.length_append,Ą]at hf |-;omega)
    (by simpa [ó,Function.comp_def]using h2)
   refine⟨(f i).2.1::ay, ?_, ?_⟩
   .dsimp only
    rw [linearise_go_acc,ô,ö,Ï];exact⟨s1,_,ay,rfl,h1,k1⟩
   .dsimp only
    rw [linearise_go_acc,ô,ö];intro j hj;rcases Ç.1 hj with rfl|hj
    .exact d
    .exact k2 j hj
end
end Go.Ev
namespace Go.Ev
theorem Nu {T:TypeId->Option TyI} {call:FuncId->List TV->Nat->M TV} (ρ g:Operand->TV) (o:Oper) (h: ∀x∈o.op.operands.toList,ρ x=g x):dp T call ρ o=dp T call g o:=by
 obtain⟨dst,op,type,pos,after,guard⟩:=o;have pairs: ∀j:Array (Nat×Operand),(∀x∈j.map (·.2),ρ x=g x)->(j.toList.map fun p=>(p.1,ρ p.2))=(j.toList.map fun p=>(p.1,g p.2)):=fun j hp=>
  Õ fun p hm=>by rw [hp p.2 (Array.mem_map.2 ⟨p,by simpa using hm,rfl⟩)]
 cases op<;>simp only [Op.operands]at h<;>simp only [dp]
 case build t j=>rw [pairs j fun x i=>h x (by simpa using i)]
 case buildSlice t n j=>rw [pairs j fun x i=>h x (by simpa using i)]
 case makeFunc fn first captured=>
  have s:first.toList.map ρ=first.toList.map g:=Õ fun x i=>h x (by simp [Û.1 i])
  have u:captured.toList.map ρ=captured.toList.map g:=Õ fun x i=>h x (by simp [Û.1 i])
  cases fn<;>simp only [s,u]
 case slice t x lo hi mx=>cases lo<;>cases hi<;>cases mx<;>simp_all
 case call c=>
  have d: ∀x∈c.args.toList,ρ x=g x:=fun x i=>h x (by simp [Call.operands,Û.1 i])
  have q:c.args.toList.map ρ=c.args.toList.map g:=Õ d;cases z:c.callee with
  |invoke r m=>rfl
  |value f=>
   have hf:ρ f=g f:=h f (by simp [Call.operands,z])
   cases f<;>simp only [q,hf]
  |builtin b=>
   cases b<;>try rfl
   case len=>
    revert d
    cases c.args.toList with
    |nil=>intro _;rfl
    |cons x xs=>intro d;cases xs<;>cases c.argTypes.toList<;>first|rfl|simp only [d x (by simp)]
   case append=>
    revert d
    cases c.args.toList with
    |nil=>intro _;rfl
    |cons x xs=>
     intro d;cases xs with
     |nil=>rfl
     |cons y k=>
      cases c.argTypes.toList with
      |nil=>cases k<;>rfl
      |cons t ts=>
       cases ts with
       |nil=>cases k<;>rfl
       |cons t2 ts=>cases k<;>cases ts<;>first|rfl|simp only [d x (by simp),d y (by simp)]
   case min=>
    revert d
    cases c.args.toList with
    |nil=>intro _;rfl
    |cons x xs=>
     intro d;cases xs with
     |nil=>rfl
     |cons y k=>cases k<;>first|rfl|simp only [d x (by simp),d y (by simp)]
   case max=>
    revert d
    cases c.args.toList with
    |nil=>intro _;rfl
    |cons x xs=>
     intro d;cases xs with
     |nil=>rfl
     |cons y k=>cases k<;>first|rfl|simp only [d x (by simp),d y (by simp)]
 all_goals (first|rfl|(simp_all;done))
theorem Nv {acc:List Nat} {p:Nat}: ∀(es:List Edge) (s:Nat),(es.foldl (fun s e=>cond (Ò .any e) (s |||2^e.on |||acc.getD e.on 0) s) s).testBit p=true->
  s.testBit p=true\/ ∃e∈es,Ò .any e=true/\(p=e.on\/(acc.getD e.on 0).testBit p=true)
 | [],s,h=>.inl h
 |e::es,s,h=>by
  simp only [List.foldl_cons]at h;rcases Nv es _ h with h|⟨d,f,g,i⟩
  .cases b:Ò .any e with
   |false=>rw [b]at h;exact .inl h
   |true=>
    rw [b]at h;simp only [Y,Nat.testBit_or,õ,Nat.testBit_two_pow,decide_eq_true_eq]at h;rcases h with(h|h)|h
    .exact .inl h
    .exact .inr ⟨e,by simp,b,.inl h.symm⟩
    .exact .inr ⟨e,by simp,b,.inr h⟩
  .exact .inr ⟨d,by simp [f],g,i⟩
theorem Nw: ∀(ops:List Oper) (acc:List Nat) (k:Nat) (o:Oper),ops[k]? =some o-> ∃m,(jC ops acc)[k]? =some m/\
  ((∀e∈o.after.toList,Ò .any e=true->e.on<acc.length+k)-> ∀p,m.testBit p=true-> ∃e∈o.after.toList,Ò .any e=true/\(p=e.on\/((acc++jC ops acc).getD e.on 0).testBit p=true))
 | [],_,k,o,h=>by simp at h
 |i::ops,acc,0,o,h=>by
  simp only [List.getElem?_cons_zero,Å]at h
  subst h;refine⟨_,rfl,fun f p hp=> ?_⟩
  rcases Nv _ _ hp with h|⟨e,b,d,g⟩
  .simp at h
  .refine⟨e,b,d,g.imp id fun h=> ?_⟩
   have:=f e b d;rwa [Æ,List.getElem?_append_left (by omega),<-Æ]
 |i::ops,acc,k+1,o,h=>by
  obtain⟨m,b,d⟩:=Nw ops (acc++[_]) k o (by simpa using h)
  refine⟨m,by simp only [jC,List.getElem?_cons_succ];exact b,fun f p hp=> ?_⟩
  obtain⟨e,g,j,q⟩:=d (fun e he r=>by have:=f e he r;simp;omega) p hp
  refine⟨e,g,j,q.imp id fun h=> ?_⟩
  simp only [jC];simpa using h
end Go.Ev
namespace Go.Ev
theorem Nx {all:Array Oper} {x:Oper} {g:Log} {i:Nat}: ∀(os:List Oper) (ls:List Log) (ms:List Nat),xI all x g i os ls ms=true-> ∀(k:Nat) (o:Oper) (l:Log) (m:Nat),os[k]? =some o->ls[k]? =some l->ms[k]? =some m->m.testBit i=true\/indep all x o g l=true
 |o::os,l::ls,m::ms,h,k,j,l',m',b,d,f=>by
  simp only [xI,À,õ]at h;cases k with
  |zero=>simp at b d f;subst b d f;exact h.1
  |succ k=>exact Nx os ls ms h.2 k j l' m' (by simpa using b) (by simpa using d) (by simpa using f)
 | [],_,_,_,k,o,l,m,b,_,_=>by simp at b
 |_::_,[],_,_,k,o,l,m,_,d,_=>by simp at d
 |_::_,_::_,[],_,k,o,l,m,_,_,f=>by simp at f
theorem Ny {all:Array Oper}: ∀(os:List Oper) (ls:List Log) (ms:List Nat) (i:Nat),xJ all i os ls ms=true-> ∀(j:Nat) (o:Oper) (l:Log) (m:Nat),os[j]? =some o->ls[j]? =some l->ms[j]? =some m->
  Dx (i+j) o=true/\ ∀(k:Nat) (b:Oper) (l':Log) (m':Nat),j<k->os[k]? =some b->ls[k]? =some l'->ms[k]? =some m'->m'.testBit (i+j)=true\/indep all o b l l'=true
 |o::os,l::ls,m::ms,i,h,j,p,q,m1,d,f,g=>by
  simp only [xJ,À]at h;cases j with
  |zero=>
   simp at d f g
   subst d f g;refine⟨h.1.1,fun k b l' m' hk k1 k2 k3=> ?_⟩
   cases k with
   |zero=>omega
   |succ k=>exact Nx os ls ms h.1.2 k b l' m' (by simpa using k1) (by simpa using k2) (by simpa using k3)
  |succ j=>
   obtain⟨q1,q2⟩:=Ny os ls ms (i+1) h.2 j p q m1 (by simpa using d) (by simpa using f) (by simpa using g)
   rw [show i+(j+1)=i+1+j from by omega]
   refine⟨q1,fun k b l' m' hk k1 k2 k3=> ?_⟩
   cases k with
   |zero=>omega
   |succ k=>exact q2 k b l' m' (by omega) (by simpa using k1) (by simpa using k2) (by simpa using k3)
 | [],_,_,_,_,j,o,l,m,d,_,_=>by simp at d
 |_::_,[],_,_,_,j,o,l,m,_,f,_=>by simp at f
 |_::_,_::_,[],_,_,j,o,l,m,_,_,g=>by simp at g
theorem Nz: ∀(ops:List Oper) (acc:List Nat),(jC ops acc).length=ops.length
 | [],_=>rfl
 |o::ops,acc=>by simp [jC,Nz ops]
theorem Eb: ∀ {ls ls':List Log},na ls ls'->ls.length=ls'.length/\ ∀(i:Nat) (l:Log),ls[i]? =some l-> ∃l':Log,ls'[i]? =some l'/\l.sub l'
 | [],[],_=>⟨rfl,by simp⟩
 | [],_::_,h=>h.elim
 |_::_,[],h=>h.elim
 |l::ls,l'::ls',h=>by
  obtain⟨d,f⟩:=Eb h.2;refine⟨by simp [d],fun i x b=> ?_⟩
  cases i with
  |zero=>simp at b;subst b;exact⟨l',rfl,h.1⟩
  |succ i=>simpa using f i x (by simpa using b)
theorem gx.length {opf:(Operand->TV)->Oper->M TV} {all:Array Oper}: ∀ {ops:List Oper} {st st':St} {ls:List Log},gx opf all ops st ls st'->ls.length=ops.length
 | [],_,_,_,h=>by rw [h.1];rfl
 |o::ops,st,st',ls,h=>by
  obtain⟨s1,l,b,rfl, -,d⟩:=h;simp [gx.length d]
def jH (all:Array Oper) (ls ls':List Log) (i:Nat):Oper×Log×Log:=(all.getD i default,ls.getD i .none,ls'.getD i .none)
theorem Zc {all:Array Oper} {ls ls':List Log} (hl:ls.length=all.size) (q:na ls ls') (h:oq all ls'=true):Nq all (jH all ls ls') (fun i=>(jC all.toList []).getD i 0):=by
 obtain⟨ae,q⟩:=Eb q;have ho: ∀i,i<all.size->all[i]? =some (jH all ls ls' i).1:=fun i hi=>by simp [jH,Á,Ü hi]
 have r: ∀i,i<all.size->(jC all.toList [])[i]? =some ((jC all.toList []).getD i 0):=fun i hi=>by
  have:i<(jC all.toList []).length:=by rw [Nz];simpa using hi
  simp [Æ,Í this]
 have s: ∀i,i<all.size->ls'[i]? =some (jH all ls ls' i).2.2:=fun i hi=>by
  have:i<ls'.length:=by omega
  simp [jH,Æ,Í this]
 have d: ∀i,i<all.size->all.toList[i]? =some (jH all ls ls' i).1:=fun i hi=>by simpa using ho i hi
 have b:=fun i (hi:i<all.size)=>Ny all.toList ls' (jC all.toList []) 0 h i _ _ _ (d i hi) (s i hi) (r i hi)
 have g: ∀j,j<all.size-> ∀e∈(jH all ls ls' j).1.after.toList,Ò .any e=true->e.on<j:=fun j hj e he f=>by
  have:=(b j hj).1;rw [Ċ]at this;simp only [Dx,Î]at this;have:=this e he;rw [f]at this;have h3:Ď e.on j=true:=by simpa using this
  exact á h3
 refine⟨ho,fun i j t hj=> ?_,fun i hi=> ?_,g,fun j hj p hp=> ?_⟩
 .have:=(b i (by omega)).2 j _ _ _ t (d j hj) (s j hj) (r j hj)
  rwa [Ċ]at this
 .have u:ls[i]? =some (jH all ls ls' i).2.1:=by
   have:i<ls.length:=by omega
   simp [jH,Æ,Í this]
  obtain⟨l',k,z⟩:=q i _ u;rw [s i hi]at k;cases k;exact z
 .obtain⟨m,k,z⟩:=Nw all.toList [] j _ (d j hj)
  rw [r j hj]at k;cases k;have:=z (fun e he f=>by have:=g j hj e he f;simp;omega) p hp
  simpa using this
end Go.Ev
namespace Go.Ev
theorem NA {α:Type} (l:List α) (d:α):(ā l.length).map (fun i=>l.getD i d)=l:=by
 apply Ă
 intro i;simp only [ă]
 by_cases h:i<l.length
 .rw [ü h]
  simp [Æ,Í h]
 .rw [Ö (by simpa using h),Ö (by omega)]
  rfl
section
variable {P:Program} {w0 w:World} {F R:Nat→Prop} {st st':St} {θ:Asg} {a:Act} {opf:(Operand→TV)→Oper→M TV} {ops:Array Oper} {Q:Exit→Act→World→Prop} {ls ls':List Log}
def ux (P:Program) (opf:(Operand->TV)->Oper->M TV) (w0:World) (F R:Nat->Prop):Prop:=
 ∀ {st st':St} {θ:Asg} {w:World} {a:Act} {o:Oper} {v:TV} {l:Log},Inv w0 F R st θ w->Tm (hp w) R st θ a->(opf (bE st) o).run st=some (v,st',l)->rS P w0 F R st θ w o a v st'
theorem NB (d:P.follows .mixedOrders=true) (hop:ux P opf w0 F R) (hc: ∀(ρ f:Operand->TV) (o:Oper),(∀x∈o.op.operands.toList,ρ x=f x)->opf ρ o=opf f o) {id:Nat} {draw:Bool} {n:Nt}
  (m:gx opf ops ops.toList st ls st') (g:na ls ls') (hd:draw=true->oq ops ls'=true) (s:Inv w0 F R st θ w) (u:Tm (hp w) R st θ a) (z:Sz n a) (b: ∀o∈ops.toList,∀t,o.dst=some t->n.ok t)
  (hQ: ∀θ' k w',Inv w0 F R st' θ' w'->Step R st θ (hp w) st' θ' (hp w')->Tm (hp w') R st' θ' k->Sz n k->k.defers=a.defers->Q .normal k w'):(Code.region id ops draw).wp P Q a w:=by
 have hlen:ls.length=ops.size:=by simpa using m.length
 cases draw with
 |false=>
  refine wp_region (yl hop _ ?_ m s u z b hQ)
  apply Ă
  intro i;simp only [ă]
  by_cases h:i<ops.size
  .rw [ü h]
   simp [h]
  .rw [Ö (by simpa using h),Ö (by simpa using h)]
   rfl
 |true=>
  refine wp_region_draw fun t=> ?_
  have p:Inv w0 F R st θ {w with drawn:=w.drawn+1}:=(s.world (w':={w with drawn:=w.drawn+1}) (ì _) rfl rfl rfl (fun _ _=>rfl)).1
  simp only [Region.schedule,d,Bool.true_or,if_true];have q:=Zc hlen g (hd rfl);have e1:(ā ops.size).map (fun i=>(jH ops ls ls' i).1)=ops.toList:=by
   have:=NA ops.toList default;simpa [jH,Á,Æ]using this
  have e2:(ā ops.size).map (fun i=>(jH ops ls ls' i).2.1)=ls:=by
   have:=NA ls .none;rw [hlen]at this;exact this
  obtain⟨ai,h1,h2⟩:=Ns hc q ops.size t (listed:=æ ops.size false) (rem:=ā ops.size) (st:=st) (st':=st') List.pairwise_lt_range (fun i hi=>by simpa using hi) (by simp)
   (fun i hi=>by simp [Á,hi]) (fun j hj r=>absurd (by simpa using hj) r) (by simp) (by rw [e1,e2];exact m)
  refine yl hop _ (ops:=(Ì .any ops ops.size t (æ ops.size false) []).map fun i=>(jH ops ls ls' i).1) ?_ h1 p u z (fun o ho=> ?_) hQ
  .rw [ó]
   exact Õ fun i hi=>q.ops i (h2 i hi)
  .obtain⟨i,hi,rfl⟩:=È.1 ho
   have:=q.ops i (h2 i hi);exact b _ (Û.2 (Array.mem_of_getElem? this))
end
end Go.Ev
namespace Go.Ev
section
variable {R:Nat→Prop} {st st' s2:St} {θ θ':Asg} {H H':Heap}
structure Old (st st':St):Prop where
 bx: ∀b,(st.boxes b).isSome=true->st'.boxes b=st.boxes b
 ob: ∀k,(st.aj k).bp.isSome=true->st'.aj k=st.aj k
mutual
theorem az.forget (j:Old st st') (m:s2.boxes=st.boxes) (hk:s2.aj=st.aj): ∀(c:Cell) (v0 v:Value),az H R st θ c v0->az H' R st' θ' c v->az H' R s2 θ' c v
 |.undef,_,_,_,_=>by simp [az]
 |.b _,_,_,_,h=>by simpa only [az]using h
 |.i _ _,_,_,_,h=>by simpa only [az]using h
 |.s _,_,_,_,h=>by simpa only [az]using h
 |.sh _ _,_,_,_,h=>by simpa only [az]using h
 |.kN _ _,_,_,_,h=>by simpa only [az]using h
 |.nl,_,_,_,h=>by simpa only [az]using h
 |.z0,_,_,_,h=>by simpa only [az]using h
 |.ob k aG vw,v0,v,g,h=>by
  simp only [az]at g h |-;rw [hk];refine⟨g.1,fun e hd=> ?_⟩
  have:=j.ob k hd;rw [this]at h;exact h.2 e hd
 |.gs k aG wv pl c x,v0,v,g,h=>by
  simp only [az]at g h |-;rw [hk];refine⟨g.1,g.2.1,fun e=>⟨(g.2.2 e).1,fun r d hd=> ?_⟩⟩
  have:=j.ob k (by simp [hd])
  rw [this]at h;exact(h.2.2 e).2 r d hd
 |.eV,_,_,_,h=>by simpa only [az]using h
 |.pb b off,v0,v,g,h=>by
  simp only [az]at g h |-;rw [m];exact⟨g.1,h.2⟩
 |.pe k aG i off,v0,v,g,h=>by
  simp only [az]at g h |-;rw [hk];refine⟨h.1,g.2.1,fun e d hd=> ?_⟩
  have:=j.ob k (by simp [hd])
  rw [this]at h;exact h.2.2 e d hd
 |.pr _ _ _,_,_,_,h=>by simpa only [az]using h
 |.ft,_,_,_,h=>by simpa only [az]using h
 |.pg k aG wv ts x off,v0,v,g,h=>by
  simp only [az]at g h |-;rw [hk];refine⟨h.1,g.2.1,fun e=>⟨(g.2.2 e).1,fun r hd=> ?_⟩⟩
  have:=j.ob k hd;rw [this]at h;exact(h.2.2 e).2 r hd
 |.fn f a b,v0,v,g,h=>by
  simp only [az]at g h |-;obtain⟨va,vb,rfl,q,t⟩:=h;obtain⟨ae,af, -,k1,k2⟩:=g;exact⟨va,vb,rfl,aI.forget j m hk a _ _ k1 q,aI.forget j m hk b _ _ k2 t⟩
 |.er _,_,_,_,h=>by simpa only [az]using h
theorem aI.forget (j:Old st st') (m:s2.boxes=st.boxes) (hk:s2.aj=st.aj): ∀(cs:List Cell) (p vs:List Value),aI H R st θ cs p->aI H' R st' θ' cs vs->aI H' R s2 θ' cs vs
 | [],_,_,_,h=>by simpa only [aI]using h
 |c::cs,p,vs,g,h=>by
  simp only [aI]at g h |-;obtain⟨v,u,rfl,q,t⟩:=h;obtain⟨v0,z, -,k1,k2⟩:=g;exact⟨v,u,rfl,⟨az.forget j m hk c _ _ k1.1 q.1,q.2⟩,aI.forget j m hk cs _ _ k2 t⟩
end
mutual
theorem aV.forget (d:Old st st') (f:s2.boxes=st.boxes) (hk:s2.aj=st.aj): ∀(c:TV) (v0 v:Value),aV H R st θ c v0->aV H' R st' θ' c v->aV H' R s2 θ' c v
 |.one c,v0,v,b,h=>by
  simp only [aV]at b h |-;exact⟨az.forget d f hk c _ _ b.1 h.1,h.2⟩
 |.agg cs,v0,v,b,h=>by
  simp only [aV]at b h |-;obtain⟨arr,rfl,h⟩:=h;obtain⟨g, -,b⟩:=b;exact⟨arr,rfl,aI.forget d f hk cs _ _ b h⟩
 |.aP vs,v0,v,b,h=>by
  simp only [aV]at b h |-;obtain⟨arr,rfl,h⟩:=h;obtain⟨g, -,b⟩:=b;exact⟨arr,rfl,bW.forget d f hk vs _ _ b h⟩
theorem bW.forget (d:Old st st') (f:s2.boxes=st.boxes) (hk:s2.aj=st.aj): ∀(cs:List TV) (i vs:List Value),bW H R st θ cs i->bW H' R st' θ' cs vs->bW H' R s2 θ' cs vs
 | [],_,_,_,h=>by simpa only [bW]using h
 |c::cs,i,vs,b,h=>by
  simp only [bW]at b h |-;obtain⟨v,j,rfl,m,p⟩:=h;obtain⟨v0,k, -,k1,k2⟩:=b;exact⟨v,j,rfl,aV.forget d f hk c _ _ k1 m,bW.forget d f hk cs _ _ k2 p⟩
end
end
section
variable {w0 w w':World} {F R:Nat→Prop} {st st' s2:St} {θ θ':Asg}
theorem Inv.forget (hI:Inv w0 F R st θ w) (f:Inv w0 F R st' θ' w') (s:Step R st θ (hp w) st' θ' (hp w')) (t:Old st st') (u:s2.boxes=st.boxes) (hk:s2.aj=st.aj):
  Inv w0 F R s2 θ' w'/\Step R st θ (hp w) s2 θ' (hp w'):=by
 have m: ∀b,(s2.boxes b).isSome=true->(st'.boxes b).isSome=true:=fun b h=>by rw [u]at h;rw [t.bx b h];exact h
 have p: ∀k,(s2.aj k).bp.isSome=true->(st'.aj k).bp.isSome=true:=fun k h=>by rw [hk]at h;rw [t.ob k h];exact h
 constructor
 .refine⟨f.size,f.same,f.os,f.tape,f.out,f.rd,fun b cs r=> ?_,fun k d hd=> ?_,fun b b' i j=>f.bb b b' (m b i) (m b' j),fun b k i j=>f.bo b k (m b i) (p k j),fun k k' g i j=>f.oo k k' g (p k i) (p k' j), ?_⟩
  .rw [u]at r
   have e:=t.bx b (by simp [r])
   obtain⟨arr,ty,frz,i,j,h3⟩:=f.boxes b cs (e.trans r);obtain⟨z,ag,ad, -, -,k3⟩:=hI.boxes b cs r;exact⟨arr,ty,frz,i,j,aI.forget t u hk cs _ _ k3 h3⟩
  .rw [hk]at hd
   have e:=t.ob k (by simp [hd])
   exact f.aj k d (by rw [e];exact hd)
  .rintro g (⟨b,i,j⟩|⟨k,i,j⟩)
   .exact f.own g (.inl ⟨b,m b i,j⟩)
   .exact f.own g (.inr ⟨k,p k i,j⟩)
 .refine⟨s.rd,fun b h=>⟨by rw [u];exact h,(s.bx b h).2⟩,fun k=>.inl ⟨by rw [hk],fun h=> ?_⟩⟩
  have e:=t.ob k h;rcases s.ob k with⟨-,q⟩|q|⟨-,q, -⟩
  .exact q h
  .rw [e]at q;omega
  .rw [e]at q;omega
end
section
variable {opf:(Operand→TV)→Oper→M TV} {all:Array Oper}
theorem Ec: ∀ {ops:List Oper} {st st':St} {ls:List Log},gx opf all ops st ls st'->(∀n,(∀l∈ls,n∉l.wr)->same st st' n)/\ ∀t,(∀o∈ops,o.dst≠some t)->st'.tmps t=st.tmps t
 | [],st,st',ls,h=>by
  obtain⟨-,rfl⟩:=h;exact⟨fun _ _=>⟨fun _ _=>rfl,fun _ _=>rfl⟩,fun _ _=>rfl⟩
 |o::ops,st,st',ls,h=>by
  obtain⟨s1,l,r,rfl,s,u⟩:=h;obtain⟨m,v,s0,e1,z,rfl⟩:=DY s;obtain⟨k1,k2⟩:=M.gY _ _ _ _ _ z;obtain⟨j1,j2⟩:=Ec u;refine⟨fun n i=> ?_,fun t j=> ?_⟩
  .have p:=Ea o.dst v (k2 n (i l (by simp)))
   have a2:=j1 n (fun l' f=>i l' (by simp [f]))
   exact⟨fun b q=>(a2.1 b q).trans (p.1 b q),fun k hk=>(a2.2 k hk).trans (p.2 k hk)⟩
  .rw [j2 t (fun o' g=>j o' (by simp [g])),DZ (fun d hd e=>j o (by simp) (by rw [hd,e])),k1]
theorem Ed: ∀(ops:List Oper) (st:St),(wipe st ops).boxes=st.boxes/\(wipe st ops).aj=st.aj/\ ∀t,(wipe st ops).tmps t=.one .undef\/((∀o∈ops,o.dst≠some t)/\(wipe st ops).tmps t=st.tmps t)
 | [],st=>⟨rfl,rfl,fun t=>.inr ⟨by simp,rfl⟩⟩
 |o::ops,st=>by
  cases hd:o.dst with
  |none=>
   obtain⟨f,g,i⟩:=Ed ops st;refine⟨by simp only [wipe,hd];exact f,by simp only [wipe,hd];exact g,fun t=> ?_⟩
   simp only [wipe,hd];refine(i t).imp id fun⟨k1,k2⟩=>⟨fun j b=> ?_,k2⟩
   rcases Ç.1 b with rfl|b
   .rw [hd];simp
   .exact k1 j b
  |some d=>
   obtain⟨f,g,i⟩:=Ed ops {st with tmps:=aS st.tmps d (.one .undef)}
   refine⟨by simp only [wipe,hd];exact f,by simp only [wipe,hd];exact g,fun t=> ?_⟩
   simp only [wipe,hd];rcases i t with k|⟨k1,k2⟩
   .exact .inl k
   .by_cases e:t=d
    .subst e;left;rw [k2];simp [bC]
    .right
     refine⟨fun j b=> ?_,by rw [k2];exact aZ _ _ e⟩
     rcases Ç.1 b with rfl|b
     .rw [hd];simp;exact fun h=>e h.symm
     .exact k1 j b
theorem Zd {ops:List Oper} {st st':St} {ls ls':List Log} (p:gx opf all ops st ls st') (d:na ls ls') (j:pX st ls'=true):Old st st':=by
 obtain⟨f,d⟩:=Eb d;have hw: ∀n,(∃l∈ls,n∈l.wr)->cond (ç (n%2) 0) (st.boxes (n/2)).isNone (st.aj (n/2)).bp.isNone=true:=by
  rintro n ⟨l,f,g⟩
  obtain⟨i,hi,e⟩:=List.mem_iff_getElem.1 f;obtain⟨l',q,r⟩:=d i l (by rw [Í hi,e])
  simp only [pX,Î]at j;exact j l' (ù q) n (r.2 n g)
 have hk:=(Ec p).1;refine⟨fun b m=> ?_,fun k h=> ?_⟩
 .refine(hk (2*b) fun l f g=> ?_).1 b rfl
  have:=hw (2*b) ⟨l,f,g⟩;rw [show 2*b%2=0 from by omega,show 2*b/2=b from by omega]at this
  simp at this
  rw [this]at m;cases m
 .refine(hk (2*k+1) fun l f g=> ?_).2 k rfl
  have:=hw (2*k+1) ⟨l,f,g⟩;rw [show (2*k+1)%2=1 from by omega,show(2*k+1)/2=k from by omega]at this
  simp at this
  rw [this]at h;cases h
end
end Go.Ev
namespace Go.Ev
structure Good (w0:World) (F R:Nat->Prop) (E:Entry) (bl:Nat->Nat) (nt:Nt) (st:St) (θ:Asg) (w:World) (a:Act):Prop where
 inv:Inv w0 F R st θ w
 tm:Tm (hp w) R st θ a
 size:Sz nt a
 defers:a.defers=[]
 pins: ∀p∈E.bx,(st.boxes p.1).isSome=true/\θ.bx p.1=bl p.1
section
variable {P:Program} {w0 w:World} {F R:Nat→Prop} {E:Entry} {bl:Nat→Nat} {nt:Nt} {st st':St} {θ:Asg} {a:Act} {opf:(Operand→TV)→Oper→M TV} {ops:Array Oper} {Q:Exit→Act→World→Prop}
theorem Good.next (h:Good w0 F R E bl nt st θ w a) {θ':Asg} {w':World} {b:Act} (d:Inv w0 F R st' θ' w') (f:Step R st θ (hp w) st' θ' (hp w')) (g:Tm (hp w') R st' θ' b) (i:Sz nt b) (j:b.defers=a.defers):Good w0 F R E bl nt st' θ' w' b:=
 ⟨d,g,i,j.trans h.defers,fun p hp=>by
  obtain⟨k1,k2⟩:=h.pins p hp;obtain⟨k,m⟩:=f.bx p.1 k1;exact⟨k,m.trans k2⟩⟩
theorem Ze (b:P.follows .mixedOrders=true) (hop:ux P opf w0 F R) (m: ∀(ρ d:Operand->TV) (o:Oper),(∀x∈o.op.operands.toList,ρ x=d x)->opf ρ o=opf d o) {id:Nat} {draw:Bool} {R':Type} {k:St->Option R'} {r:R'}
  (h:mV opf ops ops.toList st [] (fun st' ls=>cond (!draw||oq ops ls.reverse) (k st') none)=some r) (i:Good w0 F R E bl nt st θ w a) (f: ∀o∈ops.toList,∀t,o.dst=some t->nt.ok t)
  (p: ∀st' θ' j w',k st'=some r->Good w0 F R E bl nt st' θ' w' j->Q .normal j w'):(Code.region id ops draw).wp P Q a w:=by
 obtain⟨st',ls,ls',q,g,hk⟩:=yj _ h;rw [Ë,Ú]at hk;cases hd:(!draw||oq ops ls')with
 |false=>rw [hd]at hk;cases hk
 |true=>
  rw [hd]at hk;simp only [Y]at hk;exact NB b hop m q g (fun e=>by rw [e]at hd;simpa using hd) i.inv i.tm i.size f fun θ' j w' s u z h4 h5=>p st' θ' j w' hk (i.next s u z h4 h5)
theorem Zf (i:P.follows .mixedOrders=true) (hop:ux P opf w0 F R) (z: ∀(ρ j:Operand->TV) (o:Oper),(∀x∈o.op.operands.toList,ρ x=j x)->opf ρ o=opf j o) {id t:Nat} {draw:Bool} {x:Bool}
  (h:mV opf ops ops.toList st [] (fun st' ls=>cond (pX st ls&&(!draw||oq ops ls.reverse)) (match st'.tmps t with|.one (.b x)=>some x|_=>none) none)=some x) (f:Good w0 F R E bl nt st θ w a) (m: ∀o∈ops.toList,∀t,o.dst=some t->nt.ok t)
  (hQ: ∀θ' p w',Good w0 F R E bl nt (ja (wipe st ops.toList) t x) θ' w' p->Q .normal p w'):(Code.region id ops draw).wp P Q a w:=by
 obtain⟨st',ls,ls',q,d,hk⟩:=yj _ h;rw [Ë,Ú]at hk;cases hd:(pX st ls'.reverse&&(!draw||oq ops ls'))with
 |false=>rw [hd]at hk;cases hk
 |true=>
  rw [hd]at hk;simp only [Y]at hk;simp only [À]at hd;have hx:st'.tmps t=.one (.b x):=by
   split at hk
   .rename_i y hy;rw [hy,Þ hk]
   .cases hk
  have r:pX st ls'=true:=by
   have:=hd.1;simp only [pX,List.all_reverse]at this;exact this
  have hold:=Zd q d r;obtain⟨q1,q2,q3⟩:=Ed ops.toList st;refine NB i hop z q d (fun e=>by have:=hd.2;rw [e]at this;simpa using this) f.inv f.tm f.size m fun θ' p w' h1 h2 u h4 h5=> ?_
  obtain⟨i1,i2⟩:=f.inv.forget (s2:=ja (wipe st ops.toList) t x) h1 h2 hold q1 q2;refine hQ θ' p w' (f.next i1 i2 (fun s=> ?_) h4 h5)
  by_cases e:s=t
  .subst e
   have g:=u s;rw [hx]at g;simp only [ja,bC];simp only [aV,az]at g |-;exact g
  .simp only [ja,aZ _ _ e]
   rcases q3 s with k|⟨k1,k2⟩
   .rw [k];exact lS _
   .rw [k2]
    have g:=u s;rw [(Ec q).2 s k1]at g;exact aV.forget (s2:=ja (wipe st ops.toList) t x) hold q1 q2 _ _ _ (f.tm s) g
end
end Go.Ev
namespace Go.Ev
section
variable {P:Program} {Q:Exit→Act→World→Prop} {a:Act} {w:World}
theorem exists_least {p:Nat->Prop} (h: ∃k,p k): ∃k,p k/\ ∀j,p j->k<=j:=by
 obtain⟨k,hk⟩:=h;induction k using Nat.strongRecOn with
 |_ k ih=>
  by_cases b: ∃j,j<k/\p j
  .obtain⟨j,d,f⟩:=b
   exact ih j d f
  .exact⟨k,hk,fun j hj=>ë fun g=>b ⟨j,by omega,hj⟩⟩
open Classical in
noncomputable def least (J:Nat->Act->World->Prop) (a:Act) (w:World):Nat:=if h: ∃k,J k a w then č (exists_least h)else 0
theorem NC {J:Nat->Act->World->Prop} (h: ∃k,J k a w):J (least J a w) a w/\ ∀j,J j a w->least J a w<=j:=by
 unfold least;rw [dif_pos h];exact ċ (exists_least h)
theorem Zg {c:Code} (J:Nat->Act->World->Prop) {b:Nat} (f:J b a w) (round: ∀k a w,J k a w->c.wp P (Exit.then (fun d w'=> ∃k',k'<k/\J k' d w') Q) a w):(Code.loop c).wp P Q a w:=by
 refine wp_loop (I:=fun a w=> ∃k,J k a w) (μ:=least J) ⟨b,f⟩ fun a w h=> ?_
 refine wp_mono (round (least J a w) a w (NC h).1) fun e d w' he=> ?_
 cases e with
 |normal=>
  obtain⟨k',hk,hj⟩:=he;exact⟨⟨k',hj⟩,Nat.lt_of_le_of_lt ((NC ⟨k',hj⟩).2 k' hj) hk⟩
 |_=>exact he
end
theorem Ee: ∀ {bA:List CT} {ds:List DV} {x:bO bA},eG bA ds=some x->lO bA x=ds
 | [],[],x,h=>rfl
 | [],_::_,x,h=>by simp [eG]at h
 | [c],[],x,h=>by simp [eG]at h
 | [c],[d],x,h=>by
  simp only [eG]at h;simp only [lO];rw [<-MY h]
 | [c],_::_::_,x,h=>by simp [eG]at h
 |c::f::cs,[],x,h=>by simp [eG]at h
 |c::f::cs,d::ds,x,h=>by
  simp only [eG,Ñ]at h;obtain⟨y,g,z,i,b⟩:=h;simp only [Å]at b;subst b;simp only [lO];rw [Ee i,<-MY g]
end Go.Ev
namespace Go.Ev
theorem Ef {m b:Nat}: ∀ {bx:List (Nat×List CK)},look m (ou bx)=some b->b=m
 | [],h=>by simp [ou,look]at h
 |(a,ks)::r,h=>by
  simp only [ou,look]at h;cases d:ç a m with
  |true=>
   rw [d]at h;simp only [Y,Å]at h;rw [<-h];exact Ä d
  |false=>rw [d]at h;exact Ef h
structure Rd (w0:World) (F R:Nat->Prop) (E:Entry) (bl:Nat->Nat) (nt:Nt) (g:cI) (ds:List DV) (a:Act) (w:World):Prop where
 size:Sz nt a
 defers:a.defers=[]
 bp: ∃nal kh dB dT AB AT uu,ds=dB++dT/\Inv w0 F R eC uu w/\bT (hp w) R (eQ kh) nal kh [] g.boxes dB AB/\dQ (hp w) R (eQ kh) nal (fun t=>a.tmps.getD t undef) AB g.tmps dT AT/\
  ((AB++AT).fps++g.boxes.map fun p=>kh p.1).Nodup/\(∀b∈(AB++AT).fps++g.boxes.map fun p=>kh p.1,F b\/w0.heap.size<=b)/\ ∀p∈E.bx,kh p.1=bl p.1
section
variable {w0 w:World} {F R:Nat→Prop} {E:Entry} {bl:Nat→Nat} {nt:Nt} {st:St} {θ:Asg} {a:Act} {R':Type}
theorem ND {H:Heap} (st:St) (θ:Asg) (f:Nat->TV):Step R st θ H {st with tmps:=f} θ H:=
 ⟨fun _ _=>rfl,fun _ h=>⟨h,rfl⟩,fun _=>.inl ⟨rfl,fun _=>⟨rfl,rfl,fun _ _=>rfl⟩⟩⟩
theorem Inv.tm (h:Inv w0 F R st θ w) (f:Nat->TV):Inv w0 F R {st with tmps:=f} θ w:=
 h.next (ND st θ f) (ì _) rfl rfl rfl (fun _ _ e=>absurd rfl e) (fun _ _ g=>.inl ⟨g,rfl⟩) (fun _ _ hd=>.inl ⟨hd,rfl,rfl,fun _ _=>rfl⟩) h.bb h.bo h.oo h.own
theorem Eg {g:cI} {ds:List DV} {K:St->Option R'} {r:R'} (h:Rd w0 F R E bl nt g ds a w) (m: ∀p∈E.bx,p.1∈g.boxes.map (·.1)) (k:rH g ds K=some r): ∃st θ,K st=some r/\Good w0 F R E bl nt st θ w a:=by
 obtain⟨nal,kh,dB,dT,AB,AT,uu,rfl,s,d,i,u,z,j⟩:=h.bp;unfold rH at k;obtain⟨f,st1,l0,l',b,hK, -, -⟩:=M.jW _ _ _ _ _ k;obtain⟨f',su,θ',l1,h1,h2,h3,h4⟩:=YP (bl:=kh) (B:=eQ kh) (fun _ _ h=>h) (fun t=>a.tmps.getD t undef) s d i u z b
 obtain⟨rfl,rfl⟩:=M.gI h1;have hs:=ND (H:=hp w) (R:=R) st1 θ' f;refine⟨_,θ',hK,h2.tm f,fun t=>aV.step hs _ _ (h3 t),h.size,h.defers,fun p hp=> ?_⟩
 obtain⟨q,hq,e⟩:=È.1 (m p hp);obtain⟨k1,k2⟩:=h4 q hq;rw [<-e];refine⟨k1,k2.trans ?_⟩
 rw [e];exact j p hp
theorem yn: ∀ {bx:List (Nat×List CK)} {p:Nat×List CK},p∈bx->look p.1 (ou bx)=some p.1
 | [],p,h=>by cases h
 |(a,ks)::r,p,h=>by
  simp only [ou,look];cases b:ç a p.1 with
  |true=>simp only [Y];rw [Ä b]
  |false=>
   rcases Ç.1 h with rfl|h
   .simp at b
   .exact yn h
theorem Eh {g:cI} {K:List DV->Option R'} {r:R'} (f:Good w0 F R E bl nt st θ w a) (s:(g.boxes.map (·.1)).Nodup) (hE: ∀p∈E.bx,p.1∈g.boxes.map (·.1)) (hr:qe g st K=some r): ∃ds,K ds=some r/\Rd w0 F R E bl nt g ds a w:=by
 unfold qe at hr;obtain⟨ds,st1,l0,l',k,hK, -, -⟩:=M.jW _ _ _ _ _ hr;unfold Mf at k;have c0:eY st θ ⟨[],[],ou g.boxes,false,[]⟩ []:=⟨fun m n v wv h=>by simp [lP]at h,fun m b h=>.inr rfl,fun m m' b h h'=>by rw [<-Ef h,<-Ef h']⟩
 obtain⟨s1,az,AB,dB,l1,h,ah,e1,u,c1,r1,ai⟩:=DR f.inv g.boxes (bK.refl f.inv) c0 k;obtain⟨s2,a7,AT,dT,l2,h,i,e2,x2,c2,r2⟩:=Nb f.inv (fun t=>a.tmps.getD t undef) f.tm g.tmps ah c1 h
 obtain⟨rfl,rfl⟩:=M.gI h;have aj:s2.cx=[]:=by rw [x2.qn u.jb,u.qn rfl]
 have z: ∀b,Rl R θ s2.cx b->R b:=fun b j=>by
  rw [aj]at j;exact j.resolve_right (by rintro⟨n,hn, -⟩;cases hn)
 have ad: ∀p∈g.boxes,look p.1 s2.bm=some p.1:=fun p hp=>x2.bm _ _ (u.bm _ _ (yn hp))
 have hB: ∀m b,Bl θ s2.bm m b->eQ (fw θ s2.bm) m b:=fun m b ⟨c,h1,h2⟩=>by simp [eQ,fw,h1,h2]
 have d: ∀p∈g.boxes,(st.boxes p.1).isSome=true/\fw θ s2.bm p.1=θ.bx p.1:=fun p hp=>by
  obtain⟨b,h1,h2⟩:=ai p hp;rw [u.bm _ _ (yn hp)]at h1;cases h1;exact⟨h2,by simp [fw,ad p hp]⟩
 have al: ∀p∈g.boxes,fw θ s2.bm p.1=fw θ s1.bm p.1:=fun p hp=>by
  simp [fw,ad p hp,u.bm _ _ (yn hp)]
 have ao:([]++Env.fps AB)++Env.fps AT=Env.fps (AB++AT):=by rw [Env.dj];rfl
 rw [ao]at i;refine⟨_,hK,f.size,f.defers,false,fw θ s2.bm,dB,dT,AB,AT,θ, ?_,f.inv.drop θ, ?_, ?_, ?_, ?_, ?_⟩
 .rw [ur,e2,e1];simp
 .exact((r1.mono x2.rl x2.bl).mono z hB).ext al
 .exact r2.mono z hB
 .refine Ã.2 ⟨i.nodup, ?_,fun b j c hc e=> ?_⟩
  .rw [Ó,à]at s |-
   refine Ý ?_ s
   intro p q hp hq aq heq;rw [(d p hp).2,(d q hq).2]at heq;exact aq (f.inv.bb _ _ (d p hp).1 (d q hq).1 heq)
  .subst e
   obtain⟨p,hp,rfl⟩:=È.1 hc;refine i.free _ j (.inl ⟨p.1,by rw [i.boxes];exact(d p hp).1,((d p hp).2).symm⟩)
 .intro b j
  rcases É.1 j with j|j
  .exact f.inv.own b (i.was b j)
  .obtain⟨p,hp,rfl⟩:=È.1 j
   exact f.inv.own _ (.inl ⟨p.1,(d p hp).1,((d p hp).2).symm⟩)
 .intro p hp
  obtain⟨q,hq,e⟩:=È.1 (hE p hp);rw [<-e,(d q hq).2,e];exact(f.pins p hp).2
end
end Go.Ev
namespace Go.Ev
def codeOk (nt:Nat) (d:List Nat):Code->Bool
 |.region _ ops _=>ops.toList.all fun o=>match o.dst with|some t=>Ď t nt&& !d.elem t|none=>true
 |.seq a b=>codeOk nt d a&&codeOk nt d b
 |.cond _ a b=>codeOk nt d a&&codeOk nt d b
 |.block _ c=>codeOk nt d c
 |.loop c=>codeOk nt d c
 |_=>true
def rT (bx:List (Nat×List CK)) (g:cI):Bool:=decide ((g.boxes.map (·.1)).Nodup)&&bx.all fun p=>(g.boxes.map (·.1)).elem p.1
def uy (bx:List (Nat×List CK)):List (Nat×cI×cI×List CT)->Bool
 | []=>true
 |(_,g,h,_)::r=>(rT bx g&&rT bx h)&&uy bx r
theorem NF {bx:List (Nat×List CK)} {g:cI} (h:rT bx g=true):(g.boxes.map (·.1)).Nodup/\ ∀p∈bx,p.1∈g.boxes.map (·.1):=by
 simp only [rT,À,Î]at h;exact⟨of_decide_eq_true h.1,fun p hp=>by simpa using h.2 p hp⟩
theorem NG {bx:List (Nat×List CK)} {id:Nat} {g:cI×cI×List CT}: ∀ {l:List (Nat×cI×cI×List CT)},uy bx l=true->ug id l=some g->rT bx g.1=true/\rT bx g.2.1=true
 | [],_,h=>by simp [ug]at h
 |(a,g1,f,c1)::r,b,h=>by
  simp only [uy,À]at b;simp only [ug]at h;cases d:ç a id with
  |true=>
   rw [d]at h;simp only [Y,Å]at h;subst h;exact b.1
  |false=>
   rw [d]at h;exact NG b.2 h
structure Zh {X R':Type} (G:St->Asg->World->Act->Prop) (Fin:X->Act->World->Prop) (Q:Exit->Act->World->Prop) (ks:Ks X R') (r:R'):Prop where
 nrm: ∀st θ w a,ks.nrm st=some r->G st θ w a->Q .normal a w
 exit: ∀i st θ w a,ks.exit i st=some r->G st θ w a->Q (.exit i) a w
 ret: ∀st θ w a,ks.ret st=some r->G st θ w a->Q .ret a w
 fin: ∀x w a,ks.fin x=some r->Fin x a w->Q .ret a w
section
variable {P:Program} {T:TypeId→Option TyI} {w0:World} {F R:Nat→Prop} {E:Entry} {bl:Nat→Nat} {call:FuncId→List TV→Nat→M TV} {n:Nat} {nt:Nt}
theorem Zi {X:Type} {f:(List DV->Option X)->List DV->Option X} {x:X} {body:Code} {Q:Exit->Act->World->Prop} {Rh:List DV->Act->World->Prop}
  (b: ∀self ds a w,f self ds=some x->Rh ds a w->body.wp P (Exit.then (fun i w'=> ∃d,self d=some x/\Rh d i w') Q) a w)
  {id k:Nat} {ds:List DV} {a:Act} {w:World} (h:iter id f k ds=some x) (g:Rh ds a w):(Code.loop body).wp P Q a w:=by
 refine Zg (fun k a w=> ∃ds,iter id f k ds=some x/\Rh ds a w) ⟨ds,h,g⟩ fun k a w j=> ?_
 obtain⟨ds,hit,g⟩:=j;cases k with
 |zero=>simp [iter]at hit
 |succ k=>
  simp only [iter]at hit;refine wp_mono (b _ ds a w hit g) fun e i w' he=> ?_
  cases e with
  |normal=>exact⟨k,Nat.lt_succ_self k,he⟩
  |_=>exact he
theorem Zj {ops:Array Oper} (h:codeOk nt.n (nt.keep.map (·.1)) (.region 0 ops false)=true): ∀o∈ops.toList,∀t,o.dst=some t->nt.ok t:=by
 simp only [codeOk,Î]at h;intro o b t d;have:=h o b;rw [d]at this;simp only [À,Ø,ð,decide_eq_false_iff_not]at this;refine⟨by simpa using this.1,fun p hp e=>this.2 ?_⟩
 rw [e];exact È.2 ⟨p,hp,rfl⟩
theorem qv (k:P.follows .mixedOrders=true) (hop:ux P (dp T call) w0 F R) (hl:uy E.bx E.loops=true) {Fin:bO E.bI->Act->World->Prop}
  (m: ∀ {R':Type} (ks:Ks (bO E.bI) R') (st:St) (θ:Asg) (w:World) (a:Act) (r:R'),qi T E ks st=some r->Good w0 F R E bl nt st θ w a-> ∃x,ks.fin x=some r/\Fin x a w):
  ∀(c:Code) {R':Type} {st:St} {ks:Ks (bO E.bI) R'} {r:R'} {θ:Asg} {w:World} {a:Act} {Q:Exit->Act->World->Prop},codeOk nt.n (nt.keep.map (·.1)) c=true->eD T call E n c st ks=some r->Good w0 F R E bl nt st θ w a->Zh (Good w0 F R E bl nt) Fin Q ks r->c.wp P Q a w
 |.skip,R',st,ks,r,θ,w,a,Q,hk,h,b,j=>by
  simp only [eD]at h;exact wp_skip (j.nrm _ _ _ _ h b)
 |.region id ops draw,R',st,ks,r,θ,w,a,Q,hk,h,b,j=>by
  simp only [eD]at h;have u:=Zj (nt:=nt) (ops:=ops) hk;split at h
  .rw [Ñ]at h
   obtain⟨x,h1,h2⟩:=h;exact Zf k hop Nu h1 b u fun θ' a' w' af=>j.nrm _ _ _ _ h2 af
  .exact Ze k hop Nu h b u fun st' θ' a' w' h2 af=>j.nrm _ _ _ _ h2 af
 |.seq c d,R',st,ks,r,θ,w,a,Q,hk,h,b,j=>by
  simp only [eD]at h;simp only [codeOk,À]at hk;refine wp_seq (qv k hop hl m c hk.1 h b ⟨fun st θ w a h b=> ?_,fun i st θ w a h b=>j.exit i st θ w a h b,fun st θ w a h b=>j.ret st θ w a h b,fun x w a h hF=>j.fin x w a h hF⟩)
  exact qv k hop hl m d hk.2 h b j
 |.cond c d e,R',st,ks,r,θ,w,a,Q,hk,h,b,j=>by
  simp only [codeOk,À]at hk;cases c with
  |tmp t=>
   simp only [eD]at h;split at h
   .rename_i x z
    have hr:=b.tm t;rw [z]at hr;simp only [aV,az]at hr;have aj:a.eval (.tmp t)=.bool x:=hr.1;cases x with
    |true=>
     simp only [Y]at h;rw [DW z]at h;exact wp_cond_true aj (qv k hop hl m d hk.1 h b j)
    |false=>
     simp only [ez]at h;rw [DW z]at h;exact wp_cond_false aj (qv k hop hl m e hk.2 h b j)
   .cases h
  |const _=>simp [eD]at h
  |global _=>simp [eD]at h
  |func _=>simp [eD]at h
 |.block id c,R',st,ks,r,θ,w,a,Q,hk,h,b,j=>by
  by_cases ak: ∃body,c=.loop body
  .obtain⟨body,rfl⟩:=ak
   simp only [eD]at h;split at h
   .rename_i g hh hc ar
    obtain⟨p,q⟩:=NG hl ar;have p:=NF p;have q:=NF q;obtain⟨ds,h,hR⟩:=Eh b p.1 p.2 h;rw [Ñ]at h;obtain⟨x,hit,z⟩:=h;refine wp_block (Zi (Rh:=Rd w0 F R E bl nt g) (fun self ds a w hs hR=> ?_) hit hR)
    obtain⟨st1,θ1,h1,au⟩:=Eg hR p.2 hs;have s: ∀(f:bO E.bI) (a:Act) (w:World),x=.inr f->Fin f a w->Q .ret a w:=fun f a w e hf=>by
     subst e;exact j.fin _ _ _ z hf
    refine qv k hop hl m body (by simpa only [codeOk]using hk) h1 au ⟨fun st θ w a h b=> ?_,fun i st θ w a h b=> ?_,fun st θ w a h b=> ?_,fun f w a h hf=> ?_⟩
    .exact Eh b p.1 p.2 h
    .simp only at h
     cases hb:ç i id with
     |false=>rw [hb]at h;cases h
     |true=>
      rw [hb]at h;simp only [Y]at h;obtain⟨ds,h,hR⟩:=Eh b q.1 q.2 h;rw [Ñ]at h;obtain⟨y,hy,h⟩:=h;cases h;simp only [aw]at z;rw [Ee hy]at z;obtain⟨st2,a1,h2,av⟩:=Eg hR q.2 z;simp only [Exit.then,Exit.inBlock,Ä hb,if_true]
      exact j.nrm _ _ _ _ h2 av
    .obtain⟨f,hf,hF⟩:=m _ _ _ _ _ _ h b
     simp only [Å]at hf;exact s f a w hf.symm hF
    .simp only [Å]at h
     exact s f a w h.symm hf
   .cases h
  .have h':eD T call E n c st {ks with exit:=fun i st=>cond (ç i id) (ks.nrm st) (ks.exit i st)}=some r:=by
    cases c<;>first|(exact absurd ⟨_,rfl⟩ ak)|(simpa only [eD]using h)
   simp only [codeOk]at hk;refine wp_block (qv k hop hl m c hk h' b ⟨fun st θ w a h b=>j.nrm st θ w a h b,fun i st θ w a h b=> ?_,fun st θ w a h b=>j.ret st θ w a h b,fun x w a h hF=>j.fin x w a h hF⟩)
   simp only [Exit.inBlock];simp only at h;cases hb:ç i id with
   |true=>
    rw [hb]at h;rw [if_pos (Ä hb)];exact j.nrm _ _ _ _ h b
   |false=>
    rw [hb]at h;rw [if_neg (Nat.ne_of_beq_eq_false hb)];exact j.exit _ _ _ _ _ h b
 |.exit id,R',st,ks,r,θ,w,a,Q,hk,h,b,j=>by
  simp only [eD]at h;exact wp_exit (j.exit _ _ _ _ _ h b)
 |.ret,R',st,ks,r,θ,w,a,Q,hk,h,b,j=>by
  simp only [eD]at h;exact wp_ret (j.ret _ _ _ _ h b)
 |.loop _,R',st,ks,r,θ,w,a,Q,hk,h,b,j=>by simp [eD]at h
 |.rangeFunc _ _ _ _,R',st,ks,r,θ,w,a,Q,hk,h,b,j=>by simp [eD]at h
 |.scope _,R',st,ks,r,θ,w,a,Q,hk,h,b,j=>by simp [eD]at h
 |.label _,R',st,ks,r,θ,w,a,Q,hk,h,b,j=>by simp [eD]at h
 |.goto _,R',st,ks,r,θ,w,a,Q,hk,h,b,j=>by simp [eD]at h
 |.refuse _,R',st,ks,r,θ,w,a,Q,hk,h,b,j=>by simp [eD]at h
termination_by c=>SizeOf.sizeOf c
end
end Go.Ev
namespace Go.Ev
section
variable {P:Program} {T:TypeId→Option TyI} {w0 w:World} {F R:Nat→Prop} {si st:St} {θ:Asg} {a:Act} {β:Type} {y:β}
def rU (tmps:Array Value):ResultVar->Sem Value
 |.tmp t=>pure (tmps.getD t undef)
 |.cell a t=>do loadVar t (<-asAddr (tmps.getD a undef))
theorem Ei (d:Ok P T) (j:Inv w0 F R st θ w) (g:Tm (hp w) R st θ a): ∀(rs:List ResultVar) {k:List TV->M (List DV)} {z:List DV} {st':St} {l:Log},(qf T rs st k).run st=some (z,st',l)->
  ∃vs us f,(k vs).run st=some (z,st',f)/\bW (hp w) R st θ vs us/\(rs.mapM (rU a.tmps)).run P w=.ok us w
 | [],k,z,st',l,h=>by
  simp only [qf]at h;exact⟨[],[],l,h,by simp [bW],by simp⟩
 |.tmp t::rs,k,z,st',l,h=>by
  simp only [qf]at h;obtain⟨vs,us,f,m,p,q⟩:=Ei d j g rs h;exact⟨_,a.tmps.getD t undef::us,f,m,by simp only [bW];exact⟨_,_,rfl,g t,p⟩,by simp [û,rU,q]⟩
 |.cell c ty::rs,k,z,st',l,h=>by
  simp only [qf]at h;cases hi:T ty with
  |none=>simp [hi,M.run]at h
  |some i=>
   simp only [hi]at h;split at h
   .rename_i b off hx
    obtain⟨cs,f,hb,h⟩:=M.qk h;obtain⟨s,h⟩:=M.aM h;have s:=á s;obtain⟨vs,us,f,m,p,q⟩:=Ei d j g rs h;have r:=g c;rw [hx]at r;simp only [aV,az]at r;obtain⟨arr,af,frz,k1,k2,k3⟩:=j.boxes b cs hb;have hlen:=k3.length;obtain⟨u,q1,q2⟩:=Mw (P:=P) (d.eO ty i hi) k1 (off:=off) (by simp at hlen;omega)
    refine⟨_,u::us,f,m, ?_, ?_⟩
    .simp only [bW]
     exact⟨_,_,rfl,DC ((k3.drop off).take i.size) q2,p⟩
    .simp [û,rU,r.1.2,asAddr,q1,q]
   .simp [M.run]at h
def oI:List Value->Value
 | [u]=>u
 |us=>.tuple us.toArray
theorem NH {fn:Func} {us:List Value} (h:(fn.results.toList.mapM (rU a.tmps)).run P w=.ok us w):(results fn a.tmps).run P w=.ok (oI us) w:=by
 have e:results fn a.tmps=(fn.results.mapM (rU a.tmps) >>=fun vs=>pure (if h:vs.size=1 then vs[0]else .tuple vs)):=by
  unfold results;congr 1
 rw [e];simp only [Array.mapM_eq_mapM_toList,Sem.run_bind,Sem.run_map,h,Result.andThen_ok];match us with
 | []=>simp [oI]
 | [u]=>simp [oI]
 |u::v::us=>simp [oI]
theorem Zk {H:Heap}: ∀ {vs:List TV} {us:List Value},bW H R st θ vs us->aV H R st θ (xN vs) (oI us)
 | [],us,h=>by
  simp only [bW]at h;subst h;simp only [xN,aV,bW,oI];exact⟨#[],rfl,rfl⟩
 | [v],us,h=>by
  simp only [bW]at h;obtain⟨u,g,rfl,d,rfl⟩:=h;exact d
 |v::k::vs,us,h=>by
  have f:=h;simp only [bW]at f;obtain⟨u,i,rfl,d,j,b,rfl,m,p⟩:=f;simp only [xN,aV,oI];exact⟨(u::j::b).toArray,rfl,h⟩
theorem NI: ∀ {bx:List (Nat×List CK)} {bP:List (List CK)} {p:Nat×List CK},p∈dL bx bP-> ∃q∈bx,q.1=p.1
 | [],_,p,h=>by simp [dL]at h
 |_::_,[],p,h=>by simp [dL]at h
 |(m,ks)::bx,f::bP,p,h=>by
  simp only [dL,Ç]at h;rcases h with rfl|h
  .exact⟨(m,ks),by simp,rfl⟩
  .obtain⟨q,b,d⟩:=NI h
   exact⟨q,by simp [b],d⟩
theorem NJ {z:List DV} (g:Inv w0 F R si θ w): ∀(bx:List (Nat×List CK)) (bP:List (List CK)) {sc st':St} {l:Log} {fps:List Nat} {s:CS} {L:Env} {K:CS->M (List DV)},bK w0 F R θ w si sc fps->eY si θ s L->
  (qg bx bP s K).run sc=some (z,st',l)->gw w0 F R θ w si fps s L K z st' (fun s' ds A=>bT (hp w) (Rl R θ s'.cx) (Bl θ s'.bm) false θ.bx L (dL bx bP) ds A)
 | [],[],sc,st',l,fps,s,L,K,b,d,h=>by
  simp only [qg]at h;exact jF b d h (by simp only [dL,bT];exact⟨trivial,trivial⟩)
 | [],_::_,sc,st',l,fps,s,L,K,b,d,h=>by simp [qg,M.run]at h
 |_::_,[],sc,st',l,fps,s,L,K,b,d,h=>by simp [qg,M.run]at h
 |(m,k0)::rest,ks::bP,sc,st',l,fps,s,L,K,b,d,h=>by
  simp only [qg]at h;obtain⟨cs,q,f,h⟩:=M.qk h;rw [b.boxes]at f;obtain⟨arr,ty,frz,k1,k2,k3⟩:=g.boxes m cs f;obtain⟨s1,r,A1,d1,q,h,i,t,u,c1,r1⟩:=qp g ks b d k3 h;obtain⟨s2,j,A2,d2,l2,h,k,e2,p,c2,r2⟩:=NJ g rest bP i c1 h;refine⟨s2,j,A1++A2,d1++d2,l2,h,by rw [Env.dj,<-Â];exact k,by rw [e2,t];simp,u.trans p,by rw [<-Â];exact c2, ?_⟩
  simp only [dL,bT];exact⟨arr,ty,frz,d1,d2,A1,A2,rfl,rfl,k1,k2,r1.mono p.rl p.bl,r2⟩
theorem Ej {m b:Nat}: ∀ {bx:List (Nat×List CK)},look m (qh bx)=some b->b=m
 | [],h=>by simp [qh,look]at h
 |(a,_)::bx,h=>by
  simp only [qh,Ï,look]at h;cases e:ç a m with
  |true=>
   rw [e]at h;simp only [Y,Å]at h;rw [<-h,Ä e]
  |false=>rw [e]at h;exact Ej h
theorem NK {m:Nat}: ∀ {bx:List (Nat×List CK)},m∈bx.map (·.1)->look m (qh bx)=some m
 | [],h=>by cases h
 |(a,_)::bx,h=>by
  simp only [qh,Ï,look];cases e:ç a m with
  |true=>rw [Ä e];rfl
  |false=>
   simp only [Ï,Ç]at h;rcases h with rfl|h
   .simp at e
   .exact NK h
def Ek (P:Program) (E:Entry) (w0:World) (F R:Nat->Prop) (bl:Nat->Nat) (nt:Nt) (x:bO E.bI) (a:Act) (w:World):Prop:=
 a.defers=[]/\Sz nt a/\match E.back with
  |none=> ∃u,(results E.fn a.tmps).run P w=.ok u w/\iz E w0 w F R bl x u
  |some t=>(results E.fn a.tmps).run P w=.ok (.tuple #[]) w/\iz E w0 w F R bl x (a.tmps.getD t undef)
theorem El {E:Entry} {bl:Nat->Nat} {nt:Nt} (ak:Ok P T) (hE:ki E=true) {R':Type} (ks:Ks (bO E.bI) R') (st:St) (θ:Asg) (w:World) (a:Act) (r:R') (h:qi T E ks st=some r) (d:Good w0 F R E bl nt st θ w a):
  ∃x,ks.fin x=some r/\Ek P E w0 F R bl nt x a w:=by
 unfold qi at h;obtain⟨ds,st1,l0,l',s,hK, -, -⟩:=M.jW _ _ _ _ _ h;rw [Ñ]at hK;obtain⟨x,hx,hK⟩:=hK;unfold Mg at s;obtain⟨vs,us,l1,h1,ae,f⟩:=Ei (P:=P) ak d.inv d.tm _ s;have c0:eY st θ ⟨[],[],qh E.bx,false,[]⟩ []:=⟨fun m n v wv h=>by simp [lP]at h,fun m b h=>.inr rfl,fun m m' b h h'=>(Ej h).symm.trans (Ej h')⟩
 obtain⟨s1,a7,A1,d1,l2,h2,ao,e1,x1,c1,r1⟩:=DP d.inv E.outs (bK.refl d.inv) c0 (Zk ae) h1;obtain⟨s2,bf,A2,d2,l3,h3,i,e2,x2,c2,r2⟩:=NJ d.inv E.bx E.bP ao c1 h2;obtain⟨rfl,rfl⟩:=M.gI h3;have ar:s2.cx=[]:=by rw [x2.qn x1.jb,x1.qn rfl]
 have af: ∀b,Rl R θ s2.cx b->R b:=fun b j=>by
  rw [ar]at j;exact j.resolve_right (by rintro⟨n,hn, -⟩;cases hn)
 simp only [ki,À]at hE;obtain⟨bn,bo,au,av,k,bp,z⟩:=hE;have k:=of_decide_eq_true k;have aw:([]++Env.fps A1)++Env.fps A2=Env.fps (A1++A2):=by rw [Env.dj];rfl
 rw [aw]at i;have k1:=(r1.mono x2.rl x2.bl).mono af (fun _ _ h=>h)
 have k2:=r2.mono af (fun _ _ h=>h)
 have u:iz E w0 w F R bl x (oI us):=by
  refine⟨d.inv.size,d.inv.same,d.inv.os,d.inv.tape,d.inv.out,d1,A1,d2,A2, ?_,bX.up (pb:=false) (fun e=>by cases e) au k1, ?_, ?_, ?_⟩
  .rw [Ee hx,ur,e2,e1];simp
  .refine bT.ext (bl:=θ.bx) (fun p hp=> ?_) (bT.mZ (N:=E.bx.map (·.1)) (B':=eQ bl) (fun m hm g hg=> ?_) av k2)
   .obtain⟨q,hq,e⟩:=NI hp
    rw [<-e];exact((d.pins q hq).2).symm
   .obtain⟨b,h1,h2⟩:=hg
    rw [x2.bm _ _ (x1.bm _ _ (NK hm))]at h1;obtain⟨q,hq,rfl⟩:=È.1 hm;cases h1;exact(d.pins q hq).2.symm.trans h2
  .refine Ã.2 ⟨i.nodup, ?_,fun b j c hc e=> ?_⟩
   .rw [Ó,à]at k |-
    refine Ý ?_ k
    intro p q hp hq ax heq;rw [<-(d.pins p hp).2,<-(d.pins q hq).2]at heq;exact ax (d.inv.bb _ _ (d.pins p hp).1 (d.pins q hq).1 heq)
   .subst e
    obtain⟨p,hp,rfl⟩:=È.1 hc;exact i.free _ j (.inl ⟨p.1,by rw [i.boxes];exact(d.pins p hp).1,(d.pins p hp).2⟩)
  .intro b j
   exact d.inv.own b (i.was b j)
 refine⟨x,hK,d.defers,d.size, ?_⟩
 cases j:E.back with
 |none=>
  have e:uh E=[]:=by unfold uh;rw [j]
  rw [e,Ë]at f;exact⟨_,NH f,u⟩
 |some t=>
  have e:uh E=[.tmp t]:=by unfold uh;rw [j]
  rw [j]at z;simp only [þ,ý,À,Array.isEmpty_iff]at z;have ag:E.fn.results.toList=[]:=by rw [z.2]
  rw [e,ag,ä]at f;simp only [û,List.mapM_nil,rU,Sem.run_bind,Sem.run_pure,Result.andThen_ok,Result.ok.injEq,and_true]at f;subst f;exact⟨NH (us:=[]) (by rw [ag];simp),u⟩
theorem Inv.init (f: ∀b,R b->b<w.heap.size/\ ¬F b) (θ:Asg):Inv w F R eC θ w:=
 ⟨ì _,fun _ _ _=>rfl,rfl,rfl,rfl,f,fun b cs h=>by simp [eC]at h,fun k d h=>by simp [eC]at h,fun b b' h=>by simp [eC]at h,fun b k h=>by simp [eC]at h,fun k k' g h=>by simp [eC]at h,fun g h=>by
  rcases h with⟨b,h, -⟩|⟨k,h, -⟩<;>simp [eC]at h⟩
def rV (E:Entry):List Nat:=match E.back with|some t=>[t]|none=>[]
def uz (E:Entry):Bool:=(match E.fn.body with|some c=>codeOk E.fn.ntmps (rV E) c|none=>true)&&(uy E.bx E.loops&&Nat.ble E.ins.length E.fn.ntmps)
theorem Zl {E:Entry} {call:FuncId->List TV->Nat->M TV} {n:Nat} (q:Ok P T) (s:P.follows .mixedOrders=true) {gl:bF} (hop: ∀w0 F R,oH gl w0 F->ux P (dp T call) w0 F R) (hE:ki E=true) (u:uz E=true) (hP:P.funcs[E.f]? =some E.fn)
  {ds:List DV} {r:bO E.bI} (h:DA T call E n ds=some r):cW P gl E ds r:=by
 intro w F R bl args dB dA AB AA af ao g;unfold DA at h;split at h
 .rename_i c j
  simp only [uz,j,À]at u;obtain⟨f1,f2,f3⟩:=u;have f3:=á f3;have z:=hE;simp only [ki,À]at z;have aq:=of_decide_eq_true z.2.2.2.2.1;refine calls_of_wp hP j ?_
  have k: ∀t,(args++æ (E.fn.ntmps-args.size) undef).getD t undef=args.getD t undef:=fun t=>by
   simp only [Á,Array.getElem?_append]
   split
   .rfl
   .rename_i ar
    rw [Array.getElem?_eq_none (xs:=args) (by omega)]
    simp only [Array.getElem?_replicate]
    split<;>rfl
  let nt:Nt:=⟨E.fn.ntmps,(rV E).map fun t=>(t,args.getD t undef)⟩
  have ag:nt.keep.map (·.1)=rV E:=by
   show((rV E).map fun t=>(t,args.getD t undef)).map (·.1)=rV E
   rw [ó];exact List.map_id _
  have ah:Rd w F R E bl nt ⟨gu 0 E.ins,E.bx⟩ ds {tmps:=args++æ (E.fn.ntmps-args.size) undef,defers:=[]} w:=by
   refine⟨⟨by simp [nt];omega,fun p hp=> ?_⟩,rfl,true,bl,dB,dA,AB,AA,⟨bl,fun _=>undef,fun _=>[]⟩,af,Inv.init g.rd _,g.kb, ?_,g.nd,fun b hb=>.inl (g.own b hb),fun _ _=>rfl⟩
   .obtain⟨t, -,rfl⟩:=È.1 hp
    exact k t
   .simp only [k]
    exact g.kt
  obtain⟨st,θ,h1,m⟩:=Eg ah (fun p hp=>È.2 ⟨p,hp,rfl⟩) h
  have d: ∀(x:bO E.bI) (a:Act) (w':World),x=r->Ek P E w F R bl nt x a w'->a.defers=[]/\ ∃v,(results E.fn a.tmps).run P w'=.ok v w'/\(match E.back with
    |none=>iz E w w' F R bl r v
    |some t=>v=.tuple #[]/\iz E w w' F R bl r (args.getD t undef)):=fun x a w' e hf=>by
   subst e;obtain⟨f1,f2,f3⟩:=hf;refine⟨f1, ?_⟩
   cases hb:E.back with
   |none=>rw [hb]at f3;exact f3
   |some t=>
    rw [hb]at f3;have hk:a.tmps.getD t undef=args.getD t undef:=f2.2 (t,args.getD t undef) (by simp [nt,rV,hb])
    simp only [hk]at f3;exact⟨_,f3.1,rfl,f3.2⟩
  refine qv (E:=E) (Fin:=Ek P E w F R bl nt) s (hop w F R g.gl) f2 (fun ks st θ w a r h m=>El q hE ks st θ w a r h m) c (by rw [ag];exact f1) h1 m ⟨fun st θ w a h m=> ?_,fun i st θ w a h m=> ?_,fun st θ w a h m=> ?_,fun x w a h hf=> ?_⟩
  .obtain⟨x,hx,hF⟩:=El q hE _ _ _ _ _ _ h m
   exact d x a w (Þ hx) hF
  .simp [Mh]at h
  .obtain⟨x,hx,hF⟩:=El q hE _ _ _ _ _ _ h m
   exact d x a w (Þ hx) hF
  .exact d x a w (Þ h) hf
 .cases h
structure Em (P:Program) (gl:bF) (T:TypeId->Option TyI) (tab:Nat->Entry):Prop where
 ok:Ok P T
 mix:P.follows .mixedOrders=true
 entry: ∀e,ki (tab e)=true
 fn: ∀e,uz (tab e)=true
 f: ∀e,P.funcs[(tab e).f]? =some (tab e).fn
 name: ∀e,((tab e).fn.name== "runtime.NumGoroutine")=false
 body: ∀e,(tab e).fn.body.isNone=false
 cg: ∀e p,(tab e).cg=some p-> ∀ds r,p ds=some r->cW P gl (tab e) ds r
theorem NL {tab:Nat->Entry} {gZ:FuncId->List Nat} {gl:bF} (h:Em P gl T tab): ∀(n e:Nat) (ds:List DV) (r:bO (tab e).bI),D T tab gZ n e ds=some r->cW P gl (tab e) ds r
 |0,e,ds,r,b=>by simp [D]at b
 |n+1,e,ds,r,b=>by
  simp only [D]at b;split at b
  .rename_i p hp
   exact h.cg e p hp ds r b
  .refine Zl h.ok h.mix (fun w0 F R g=> ?_) (h.entry e) (h.fn e) (h.f e) b
   intro st st' θ w a o v l i j d;exact YV h.ok g (NL h n) h.entry (fun e=>⟨(tab e).fn,h.f e,h.name e,h.body e⟩) i j d
end
end Go.Ev
